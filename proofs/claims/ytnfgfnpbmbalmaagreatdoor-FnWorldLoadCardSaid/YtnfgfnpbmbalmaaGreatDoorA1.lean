/- Part 1. No condition. -/
import Derived.Tactics2
import Derived.Conc.Own
import Derived.Conc.Events
import Derived.Conc.Listed
import Derived.Laws.CopyRow
import Derived.Laws.AppendOwn
import Derived.Laws.Rows
import Derived.Laws.Strings
import Derived.Laws.Cells
import Derived.Lib.Strings
import Derived.Laws.Slices
import Derived.Orders
import Derived.Laws.StructEq
set_option linter.all false
set_option maxHeartbeats 8000000
open Go renaming Value → ak
open Option renaming some → aa
open Go renaming Program → aq
open Go renaming TypeId → ar
open Bool renaming true → ab
open Go renaming Goroutine → au
open Go renaming Frame → aR
open Go renaming Oper → aw
open Go renaming FuncId → aW
open Go.Region renaming wanted → bj
open Go renaming execOp → ay
open Go renaming Operand → an
open Option renaming none → af
open Bool renaming false → ae
open Go renaming undef → aj
open Go.World renaming cell? → a9
open List renaming getD_eq_getElem?_getD → ai
open Go.Sem renaming events_bind → aO
open Go.Result renaming evThen_ok → aU
open Go renaming World → az
open Go renaming stepG → aK
open List renaming range → bh
open Nat renaming beq → aG
open Nat renaming ble → bo
open Go.Region renaming ready → bc
open Go.Op renaming bytesLess → bl
namespace Go
section
set_option linter.defProp false
set_option linter.deprecated false
def av:=@_root_.trivial
def br:=@_root_.List.getElem?_eq_getElem
def ba:=@_root_.decide_eq_true_eq
def aE:=@_root_.and_true
def aF:=@_root_.true_and
def bM:=@_root_.decide_eq_false_iff_not
def bA:=@_root_.Int.toNat_natCast
def bX:=@_root_.Nat.eq_of_beq_eq_true
def bU:=@_root_.List.mem_of_getElem?
def cr:=@_root_.List.getElem?_eq_some_iff
def bg:=@_root_.Nat.le_refl
def bR:=@_root_.List.length_append
def bL:=@_root_.Bool.and_eq_true
def bt:=@_root_.Nat.zero_add
def b9:=@_root_.Go.Result.andThen_ok
def dG:=@_root_.Array.getD_eq_getD_getElem?
def b7:=@_root_.List.take_length
def db:=@_root_.Nat.le_of_ble_eq_true
def cG:=@_root_.Nat.lt_of_lt_of_le
def bY:=@_root_.Go.Sem.run_bind
def cn:=@_root_.decide_eq_true
def aY:=@_root_.if_neg
def dt:=@_root_.beq_eq_false_iff_ne
def bd:=@_root_.if_pos
def dH:=@_root_.List.getElem_of_mem
def di:=@_root_.Option.some.injEq
def er:=@_root_.List.length_singleton
def et:=@_root_.Nat.mul_le_mul_right
def fR:=@_root_.Array.getElem?_eq_getElem
def gk:=@_root_.List.getElem?_append_right
def cJ:=@_root_.Nat.lt_or_ge
def hZ:=@_root_.List.eq_nil_of_length_eq_zero
def fI:=@_root_.List.getElem?_set_self
def cY:=@_root_.Go.Sem.run_pure
def ia:=@_root_.Array.getElem?_eq_some_iff
def eB:=@_root_.beq_self_eq_true
def dy:=@_root_.Bool.not_true
def dN:=@_root_.Bool.true_and
def eC:=@_root_.decide_eq_false
def cd:=@_root_.if_false
def fu:=@_root_.not_true_eq_false
def fa:=@_root_.List.length_cons
def jD:=@_root_.List.getElem?_append_left
def fJ:=@_root_.Option.getD_some
def iJ:=@_root_.List.getElem?_toArray
def j4:=@_root_.List.pairwise_iff_getElem
def gQ:=@_root_.List.getElem?_take
def iK:=@_root_.List.mem_of_mem_take
def iL:=@_root_.List.getElem?_set_ne
def cu:=@_root_.if_true
def fb:=@_root_.List.mem_cons
def eL:=@_root_.Nat.le_trans
def jg:=@_root_.Array.length_toList
def gC:=@_root_.List.mem_append
def kX:=@_root_.List.getElem?_cons_zero
def j5:=@_root_.List.take_append_drop
def j6:=@_root_.List.length_filter_le
def iM:=@_root_.List.ext_getElem?
def jh:=@_root_.Bool.not_eq_true'
def ib:=@_root_.List.length_nil
def jE:=@_root_.Bool.false_eq_true
def du:=@_root_.congrArg
def mM:=@_root_.Array.getElem?_replicate
def ic:=@_root_.Bool.not_false
def mN:=@_root_.List.getElem?_cons_succ
def qu:=@_root_.List.findIdx?_eq_some_iff_getElem
def ji:=@_root_.Nat.not_lt_zero
def jk:=@_root_.List.foldl_cons
def j7:=@_root_.List.take_add_one
def lO:=@_root_.List.mem_iff_getElem
def j8:=@_root_.List.append_assoc
def kY:=@_root_.List.mem_singleton
def kZ:=@_root_.bne_self_eq_false
def gD:=@_root_.Nat.zero_le
def fS:=@_root_.beq_iff_eq
def j9:=@_root_.Option.map_some
def gR:=@_root_.Nat.add_mul
def iN:=@_root_.Nat.beq_refl
def iO:=@_root_.Nat.add_zero
def vm:=@_root_.Array.getElem?_setIfInBounds_self_of_lt
def sQ:=@_root_.Array.getElem?_setIfInBounds_ne
def ig:=@_root_.decide_true
def k6:=@_root_.List.length_map
def k7:=@_root_.List.append_nil
def qv:=@_root_.Array.mapM_eq_mapM_toList
def oO:=@_root_.Array.toArray_toList
def cW:=@_root_.ne_eq
def k8:=@_root_.Prod.mk.injEq
def nF:=@_root_.List.getElem?_map
def mO:=@_root_.List.mem_filter
def mP:=@_root_.Bool.or_eq_true
def nG:=@_root_.Option.bind_some
def oP:=@_root_.Nat.eq_zero_or_pos
def nH:=@_root_.List.getElem_mem
def vn:=@_root_.List.find?_eq_some_iff_getElem
def k9:=@_root_.Nat.succ_mul
def sR:=@_root_.Nat.lt_succ_iff_lt_or_eq
def jF:=@_root_.bne_iff_ne
def jG:=@_root_.Nat.mod_lt
def sS:=@_root_.Option.map_eq_some_iff
def me:=@_root_.List.length_drop
def mf:=@_root_.Bool.not_eq_true
def lA:=@_root_.List.mapM_cons
def nI:=@_root_.List.getElem?_drop
def qX:=@_root_.List.findIdx?_eq_none_iff
def mg:=@_root_.Bool.eq_iff_iff
def nJ:=@_root_.not_false_eq_true
def kA:=@_root_.decide_false
def pE:=@_root_.Nat.div_lt_of_lt_mul
def nK:=@_root_.List.foldl_append
def qY:=@_root_.Nat.le_mul_of_pos_right
def pF:=@_root_.Nat.add_sub_cancel
def lB:=@_root_.List.mem_map
def nL:=@_root_.UInt8.toNat_inj
def nN:=@_root_.List.length_set
def qZ:=@_root_.Nat.ble_eq_true_of_le
def q8:=@_root_.List.getElem?_eq_none
def ra:=@_root_.Bool.and_eq_false_iff
def gi:=@_root_.true_or
def kB:=@_root_.Nat.not_lt
def mh:=@_root_.Nat.sub_zero
def pG:=@_root_.Nat.div_add_mod'
def pH:=@_root_.List.mem_flatMap
def pI:=@_root_.List.ext_getElem
def pJ:=@_root_.List.drop_length
def uM:=@_root_.List.drop_eq_getElem_cons
def rb:=@_root_.List.flatMap_append
def rf:=@_root_.Int.toNat_of_nonneg
def rh:=@_root_.List.find?_eq_none
def ri:=@_root_.Int.emod_lt_of_pos
def rj:=@_root_.Bool.not_eq_false'
def uN:=@_root_.Nat.add_sub_cancel_left
def nO:=@_root_.Nat.mul_comm
def uO:=@_root_.List.take_of_length_le
def pK:=@_root_.Bool.false_and
def uP:=@_root_.Array.mem_of_getElem?
def rl:=@_root_.List.not_mem_nil
def uQ:=@_root_.List.mem_cons_of_mem
def rm:=@_root_.List.map_append
def rn:=@_root_.Int.emod_nonneg
def uR:=@_root_.Nat.mul_le_mul_left
def uS:=@_root_.List.filter_eq_self
def rq:=@_root_.List.mem_range
def zj:=@_root_.List.mem_of_find?_eq_some
def uT:=@_root_.List.getElem?_set
def zk:=@_root_.List.set_eq_of_length_le
def rr:=@_root_.List.map_cons
def pL:=@_root_.Go.Sem.run_ite
def ru:=@_root_.Nat.sub_self
def zl:=@_root_.List.range_succ_eq_map
def zm:=@_root_.Array.getElem?_eq_none
def uU:=@_root_.Option.some.inj
def zn:=@_root_.List.contains_iff_mem
def zo:=@_root_.Array.getElem?_toList
def zp:=@_root_.Array.getElem?_modify
def nP:=@_root_.and_self
def zq:=@_root_.Nat.pow_le_pow_right
def mi:=@_root_.Ne.symm
def zr:=@_root_.Nat.add_sub_cancel'
def uV:=@_root_.Nat.add_assoc
end
end Go
namespace Go.AM
inductive C where
  | int (k:IntKind) (n:Int)
  | bool (b:Bool)
  | str (s:List UInt8)
  | sl (tight:Bool) (k n:Nat) (es:Nat->List C)
  | rp (cs:List C)
  | km
  | ifs (t:ar) (c:C)
  | Jx (t:ar) (cs:List C)
  | nW
  | fn (f:Fn) (first cap:List C)
  | zy
  | val (x:ak)
inductive BP where
  | sl (g k o n:Nat)
  | el (g k i f:Nat)
def BP.g:BP->Nat
  | .sl g _ _ _=>g
  | .el g _ _ _=>g
def BP.K:BP->ak->ak->Prop
  | .sl _ k o n,lv,v=>∃ a a0 cap c0,v=.slice a n cap/\n<=cap/\o+cap=c0/\c0<=9223372036854775807/\lv=.slice a0 0 c0/\(0<cap->∃ b,a0=aa ⟨b,0,af⟩/\a=aa ⟨b,o*k,af⟩)
  | .el _ k i f,lv,v=>∃ b c0,lv=.slice (aa ⟨b,0,af⟩) 0 c0/\v=.pointer (aa ⟨b,i*k+f,af⟩)
inductive A where
  | c (x:C)
  | ptr (l off:Nat)
  | vec (l k n:Nat) (es:Nat->List C)
  | ref (l:Nat)
  | bp (l:Nat) (w:BP)
  | any
abbrev A.v (x:ak):A:=.c (.val x)
inductive E1 where
  | one (a:A)
  | agg (cs:List A)
inductive D where
  | e (x:E1)
  | eK (xs:List E1)
  | any
abbrev Fr:=List (Nat×D)
def look:Fr->Nat->D
  | [],_=>.any
  | (i,d)::r,t=>cond (aG i t) d (look r t)
inductive aV where
  | cells (E:ar) (cs:List A)
  | vec (E:ar) (k n:Nat) (es:Nat->List C)
  | dD (H:ak->(Nat->Option Obj)->Prop)
  | dead
  | loop (N:Nat) (φ:Fr) (r:Loop)
  | qV
  | buf (E:ar) (k n:Nat) (es:Nat->List C)
@[simp] def aV.gr:aV->Bool
  | .vec _ _ _ _=>ab
  | .buf _ _ _ _=>ab
  | _=>ae
structure Loc where
  v:ak
  bs:List Nat
abbrev Mem:=Nat->Nat->Option ak
structure St where
  β:List Loc
  M:Mem
  w:az
  own:Nat->Prop
def bx:IntKind->Int->Prop
  | .i8,n=>-128<=n/\n<=127
  | .i16,n=>-32768<=n/\n<=32767
  | .i32,n=>-2147483648<=n/\n<=2147483647
  | .i64,n=>-9223372036854775808<=n/\n<=9223372036854775807
  | .u8,n=>0<=n/\n<=255
  | .u16,n=>0<=n/\n<=65535
  | .u32,n=>0<=n/\n<=4294967295
  | .u64,n=>0<=n/\n<=18446744073709551615
def cZ:ak->Bool
  | .agg _|.tuple _=>ae
  | _=>ab
def BP.K.cell {w:BP} {lv v:ak} (h:w.K lv v):cZ v=ab:=by
  cases w with
  | sl=>obtain⟨_,_,_,_,rfl,_⟩:=h;rfl
  | el=>obtain⟨_,_,_,rfl⟩:=h;rfl
inductive Rd (M:Mem):ak->C->Prop
  | int {k:IntKind} {n:Int} (h:bx k n):Rd M (.int k n) (.int k n)
  | bool {b:Bool}:Rd M (.bool b) (.bool b)
  | str {s:ByteArray} {l:List UInt8} (h:s.data.toList=l) (hl:l.length<=9223372036854775807):Rd M (.string s) (.str l)
  | sl {a:Option Addr} {n cap:Nat} {tight:Bool} {k:Nat} {es:Nat->List C} (b off:Nat) (f:Nat->Nat->ak)
      (DN:n<=cap) (hb:cap<=9223372036854775807) (ht:tight=ab->cap=n) (hk:∀ i,i<n->(es i).length=k)
      (ha:0<n->a=aa ⟨b,off,af⟩)
      (hm:∀ i,i<n->∀ j c,(es i)[j]?=aa c->M b (off+i*k+j)=aa (f i j))
      (hr:∀ i,i<n->∀ j c,(es i)[j]?=aa c->Rd M (f i j) c):Rd M (.slice a n cap) (.sl tight k n es)
  | rp {cs:List C} (b off:Nat) (f:Nat->ak)
      (hm:∀ j c,cs[j]?=aa c->M b (off+j)=aa (f j))
      (hr:∀ j c,cs[j]?=aa c->Rd M (f j) c):Rd M (.pointer (aa ⟨b,off,af⟩)) (.rp cs)
  | km:Rd M (.pointer af) .km
  | ifs {t:ar} {v:ak} {c:C} (h:Rd M v c) (hc:cZ v=ab):Rd M (.iface t v) (.ifs t c)
  | Jx {t:ar} {vs:List ak} {cs:List C} (hl:vs.length=cs.length)
      (f:Nat->ak) (hf:∀ j,j<vs.length->vs[j]?=aa (f j)) (hr:∀ j c,cs[j]?=aa c->Rd M (f j) c):Rd M (.iface t (.agg vs.toArray)) (.Jx t cs)
  | nW:Rd M .nilIface .nW
  | fn {g:Fn} {first cap:List C} (fs cs:List ak) (hl:fs.length=first.length) (Bi:cs.length=cap.length) (f1 f2:Nat->ak)
      (h1:∀ j,j<fs.length->fs[j]?=aa (f1 j)) (h2:∀ j,j<cs.length->cs[j]?=aa (f2 j))
      (r1:∀ j c,first[j]?=aa c->Rd M (f1 j) c) (r2:∀ j c,cap[j]?=aa c->Rd M (f2 j) c):Rd M (.func g fs.toArray cs.toArray) (.fn g first cap)
  | zy:Rd M .nilFunc .zy
  | val {x:ak} (h:cZ x=ab):Rd M x (.val x)
theorem Rd.fZ {M:Mem} {v x:ak} (h:Rd M v (.val x)):v=x:=by cases h;rfl
def Rd.cell {M:Mem} {v:ak} {c:C} (h:Rd M v c):cZ v=ab:=by cases h <;> first|rfl|assumption
def Rd.mono {M M':Mem} (d:∀ b o v,M b o=aa v->M' b o=aa v) {v:ak} {c:C} (h:Rd M v c):Rd M' v c:=by
  induction h with
  | int h=>exact .int h
  | bool=>exact .bool
  | str h hl=>exact .str h hl
  | sl b off f a hb ht hk ha hm hr ih =>
    exact .sl b off f a hb ht hk ha (λi hi j c hj=>d _ _ _ (hm i hi j c hj)) (λi hi j c hj=>ih i hi j c hj)
  | rp b off f hm hr ih=>exact .rp b off f (λj c hj=>d _ _ _ (hm j c hj)) (λj c hj=>ih j c hj)
  | km=>exact .km
  | ifs h e ih=>exact .ifs ih e
  | Jx hl f g hr ih=>exact .Jx hl f g (λj c hj=>ih j c hj)
  | nW=>exact .nW
  | fn fs cs hl Bi f1 f2 h1 h2 r1 r2 ih1 ih2=>exact .fn fs cs hl Bi f1 f2 h1 h2 (λj c hj=>ih1 j c hj) (λj c hj=>ih2 j c hj)
  | zy=>exact .zy
  | val h=>exact .val h
def gx (σ:List aV) (s:St) (v:ak):A->Prop
  | .c x=>Rd s.M v x
  | .ptr l off=>(∀ B,σ[l]?=aa B->B.gr=ae)/\∃ L b,s.β[l]?=aa L/\L.v=.pointer (aa ⟨b,0,af⟩)/\v=.pointer (aa ⟨b,off,af⟩)
  | .vec l k n es=>Rd s.M v (.sl ae k n es)/\l<σ.length/\∀ E k' n' es',σ[l]?=aa (aV.vec E k' n' es')->n<=n'/\(n'=n->∃ L,s.β[l]?=aa L/\v=L.v)
  | .ref l=>(∀ B,σ[l]?=aa B->B.gr=ae)/\∃ L,s.β[l]?=aa L/\v=L.v/\cZ v=ab
  | .bp l w=>∃ a,w.K a v/\l<σ.length/\∀ E k n es,σ[l]?=aa (aV.buf E k n es)->w.g<=n/\(w.g=n->∃ L,s.β[l]?=aa L/\L.v=a)
  | .any=>cZ v=ab
def dW (σ:List aV) (s:St):List ak->List A->Prop
  | [],[]=>True
  | v::vs,a::al=>gx σ s v a/\dW σ s vs al
  | _,_=>False
def mY (σ:List aV) (s:St) (v:ak):E1->Prop
  | .one a=>gx σ s v a
  | .agg cs=>∃ vs:List ak,v=.agg vs.toArray/\dW σ s vs cs
def gJ (σ:List aV) (s:St):List ak->List E1->Prop
  | [],[]=>True
  | v::vs,a::al=>mY σ s v a/\gJ σ s vs al
  | _,_=>False
def dc (σ:List aV) (s:St) (v:ak):D->Prop
  | .e x=>mY σ s v x
  | .eK xs=>∃ vs:List ak,v=.tuple vs.toArray/\gJ σ s vs xs
  | .any=>True
def cz (σ:List aV) (s:St):List ak->List D->Prop
  | [],[]=>True
  | v::vs,a::al=>dc σ s v a/\cz σ s vs al
  | _,_=>False
structure Flat (M:Mem) (k n:Nat) (es:Nat->List C) (vs:List ak):Prop where
  len:vs.length=n*k
  width:∀ i,i<n->(es i).length=k
  rd:∀ i,i<n->∀ (j:Nat) (c:C),(es i)[j]?=aa c->∃ v,vs[i*k+j]?=aa v/\Rd M v c
def Flat.mono {M M':Mem} (a:∀ b o v,M b o=aa v->M' b o=aa v) {k n:Nat} {es:Nat->List C} {vs:List ak} (h:Flat M k n es vs):Flat M' k n es vs :=
  ⟨h.len,h.width,λi hi j c hj=>let ⟨v,h1,h2⟩:=h.rd i hi j c hj;⟨v,h1,h2.mono a⟩⟩
def eP (σ:List aV) (s:St):aV->Loc->Prop
  | .cells E cs,L=>∃ b vs,L=⟨.pointer (aa ⟨b,0,af⟩),[b]⟩/\s.w.heap[b]?=aa (.cells (List.toArray vs) E (0,0))/\dW σ s vs cs/\∀ o,s.M b o=af
  | .vec E k n es,L=>Rd s.M L.v (.sl ae k n es) /\
      (((L.bs=[]/\n=0)/\Rd s.M L.v (.sl ab k n es)) ∨
       ∃ b cap vs,L=⟨.slice (aa ⟨b,0,af⟩) n cap,[b]⟩/\s.w.heap[b]?=aa (.cells (List.toArray vs) E (0,0))/\vs.length=cap*k/\∀ o,n*k<=o->s.M b o=af)
  | .dD H,L=>∃ c,H L.v c/\(∀ (b:Nat) (o:Obj),c b=aa o->s.w.heap[b]?=aa o)/\(∀ b,b∈L.bs↔(c b).isSome=ab)/\∀ b∈L.bs,∀ o,s.M b o=af
  | .dead,_=>True
  | .loop N φ r,L=>∃ l tmps fn df,L=⟨.func (.yield l) #[] #[],[l]⟩/\s.w.heap[l]?=aa (.loop { r with tmps:=tmps,fn:=fn,defers:=df })/\tmps.size=N/\(∀ t,dc σ s (tmps.getD t aj) (look φ t))/\∀ o,s.M l o=af
  | .qV,L=>∃ r:Nat,L=⟨.int .i64 r,[r]⟩/\s.w.heap[r]?=aa (.deferred (aa []))/\∀ o,s.M r o=af
  | .buf E k n es,L=>(n=0/\L=⟨.slice af 0 0,[]⟩)∨∃ b a vs zs,L=⟨.slice (aa ⟨b,0,af⟩) 0 a,[b]⟩/\s.w.heap[b]?=aa (.cells (List.toArray (vs++zs)) E (0,0))/\(vs++zs).length=a*k/\n<=a/\a<=9223372036854775807/\Flat s.M k n es vs/\∀ o,s.M b o=af
structure aJ (σ:List aV) (s:St):Prop where
  mem:∀ b o v,s.M b o=aa v->s.w.cell? ⟨b,o,af⟩=aa v
  len:s.β.length=σ.length
  box:∀ (l:Nat) (B:aV) (L:Loc),σ[l]?=aa B->s.β[l]?=aa L->eP σ s B L
  gg:∀ (l l':Nat) (L L':Loc),s.β[l]?=aa L->s.β[l']?=aa L'->∀ b∈L.bs,b∈L'.bs->l=l'
  lt:∀ L∈s.β,∀ b∈L.bs,b<s.w.heap.size
  own:∀ b,s.own b->b<s.w.heap.size/\∀ L∈s.β,b∉L.bs
def ij:aV->Loc->aV->Loc->Prop
  | .vec _ _ n _,L,.vec _ _ a _,L'=>(a=n->L'.v=L.v)/\n<=a
  | .vec _ _ _ _,_,.dead,_=>True
  | .vec _ _ _ _,_,_,_=>False
  | .buf _ _ n _,L,.buf _ _ a _,L'=>(a=n->L'.v=L.v)/\n<=a
  | .buf _ _ _ _,_,.dead,_=>True
  | .buf _ _ _ _,_,_,_=>False
  | _,_,.vec _ _ _ _,_=>False
  | _,_,.buf _ _ _ _,_=>False
  | .dead,L,.dead,L'=>L'.v=L.v
  | .dead,_,_,_=>False
  | .qV,L,.qV,L'=>L'.v=L.v
  | .qV,_,_,_=>False
  | _,_,.qV,_=>False
  | _,L,_,L'=>L'.v=L.v
structure Ext (σ:List aV) (s:St) (σ':List aV) (s':St):Prop where
  mem:∀ b o v,s.M b o=aa v->s'.M b o=aa v
  box:∀ (l:Nat) (B:aV) (L:Loc),σ[l]?=aa B->s.β[l]?=aa L->∃ B' L',σ'[l]?=aa B'/\s'.β[l]?=aa L'/\ij B L B' L'
structure Step (σ:List aV) (s:St) (σ':List aV) (s':St):Prop where
  size:s.w.heap.size<=s'.w.heap.size
  eN:∀ b,b<s.w.heap.size->(∀ L∈s.β,b∉L.bs)->s'.w.heap[b]?=s.w.heap[b]?
  mem:∀ b o v,s.M b o=aa v->s'.M b o=aa v
  jz:∀ b,b<s.w.heap.size->(∀ L∈s.β,b∉L.bs)->∀ o,s'.M b o=s.M b o
  xB:∀ L'∈s'.β,∀ b∈L'.bs,s.w.heap.size<=b∨∃ L∈s.β,b∈L.bs
  box:∀ (l:Nat) (B:aV) (L:Loc),σ[l]?=aa B->s.β[l]?=aa L->∃ B' L',σ'[l]?=aa B'/\s'.β[l]?=aa L'/\ij B L B' L'
  os:s'.w.os=s.w.os
  tape:s'.w.tape=s.w.tape
  output:s'.w.output=s.w.output
  own:s'.own=s.own
structure cD (σ:List aV) (s:St) (σ':List aV) (s':St):Prop where
  size:s.w.heap.size<=s'.w.heap.size
  eN:∀ b,s.own b->s'.w.heap[b]?=s.w.heap[b]?
  mem:∀ b o v,s.M b o=aa v->s'.M b o=aa v
  jz:∀ b,b<s.w.heap.size->(∀ L∈s.β,b∉L.bs)->∀ o,s'.M b o=s.M b o
  xB:∀ L'∈s'.β,∀ b∈L'.bs,s.w.heap.size<=b∨∃ L∈s.β,b∈L.bs
  box:∀ (l:Nat) (B:aV) (L:Loc),σ[l]?=aa B->s.β[l]?=aa L->∃ B' L',σ'[l]?=aa B'/\s'.β[l]?=aa L'/\ij B L B' L'
  os:s'.w.os=s.w.os
  tape:s'.w.tape=s.w.tape
  output:s'.w.output=s.w.output
  own:s'.own=s.own
structure cj (s s':St):Prop where
  β:s'.β=s.β
  M:s'.M=s.M
  own:s'.own=s.own
  size:s.w.heap.size<=s'.w.heap.size
  eN:∀ b,(s.own b∨∃ L∈s.β,b∈L.bs)->s'.w.heap[b]?=s.w.heap[b]?
  mem:∀ b o v,s.M b o=aa v->s'.w.cell? ⟨b,o,af⟩=aa v
  os:s'.w.os=s.w.os
  tape:s'.w.tape=s.w.tape
  output:s'.w.output=s.w.output
def oE (s:St) (e:Event):Prop :=
  match e.loc with
  | .cell a=>e.sync=ae/\a.spot=af/\(False∨((∃ L∈s.β,a.block∈L.bs)/\(e.write=ab->s.M a.block a.off=af))∨(e.write=ae/\∃ v,s.M a.block a.off=aa v))
  | .obj r=>e.sync=ae/\(False∨∃ L∈s.β,r∈L.bs)
  | .mark m=>m=.noRoom∨∃ f,m=.extern f
  | _=>False
def eZ (s:St) (es:Array Event):Prop:=∀ e∈es,oE s e
def eZ.nil {s:St}:eZ s #[]:=by intro e h;grind
def ij.refl (B:aV) (L:Loc):ij B L B L:=by cases B <;> simp[ij]
def ij.trans {B B' W1:aV} {L L' ZS:Loc} (h:ij B L B' L') (a:ij B' L' W1 ZS):ij B L W1 ZS:=by
  cases B <;> cases B' <;> cases W1 <;> simp_all [ij]
  all_goals
    grind
def Step.refl (σ:List aV) (s:St):Step σ s σ s :=
  ⟨bg _,λ_ _ _=>rfl,λ_ _ _ h=>h,λ_ _ _ _=>rfl,λL h b hb=>.inr ⟨L,h,hb⟩,λ_ B L h a=>⟨B,L,h,a,.refl _ _⟩,rfl,rfl,rfl,rfl⟩
def Step.trans {σ σ1 σ2:List aV} {s d s2:St} (h:Step σ s σ1 d) (k:Step σ1 d σ2 s2):Step σ s σ2 s2:=by
  have out:∀ b,b<s.w.heap.size->(∀ L∈s.β,b∉L.bs)->∀ L∈d.β,b∉L.bs:=by
    intro b hb hn L a c;rcases h.xB L a b c with h1|⟨u,g,t⟩
    · omega
    grind
  refine⟨eL h.size k.size,?_,λb o v m=>k.mem _ _ _ (h.mem _ _ _ m),?_,?_,?_,k.os.trans h.os,k.tape.trans h.tape,k.output.trans h.output,k.own.trans h.own⟩
  · intro b hb hn
    rw[k.eN b (cG hb h.size) (out b hb hn),h.eN b hb hn]
  · intro b hb hn o
    rw[k.jz b (cG hb h.size) (out b hb hn),h.jz b hb hn]
  · intro L a b hb
    rcases k.xB L a b hb with h1|⟨L1,e,r⟩
    · exact .inl (eL h.size h1)
    grind
  · intro l B L f a
    obtain⟨B1,L1,h1,h2,n⟩:=h.box l B L f a;obtain⟨p,q,k1,i,j⟩:=k.box l B1 L1 h1 h2;exact⟨p,q,k1,i,n.trans j⟩
def cD.refl (σ:List aV) (s:St):cD σ s σ s :=
  ⟨bg _,λ_ _=>rfl,λ_ _ _ h=>h,λ_ _ _ _=>rfl,λL h b hb=>.inr ⟨L,h,hb⟩,λ_ B L h a=>⟨B,L,h,a,.refl _ _⟩,rfl,rfl,rfl,rfl⟩
def cD.trans {σ σ1 σ2:List aV} {s d s2:St} (h:cD σ s σ1 d) (k:cD σ1 d σ2 s2):cD σ s σ2 s2:=by
  have out:∀ b,b<s.w.heap.size->(∀ L∈s.β,b∉L.bs)->∀ L∈d.β,b∉L.bs:=by
    intro b hb hn L a c;rcases h.xB L a b c with h1|⟨u,g,t⟩
    · omega
    grind
  refine⟨eL h.size k.size,?_,λb o v m=>k.mem _ _ _ (h.mem _ _ _ m),?_,?_,?_,k.os.trans h.os,k.tape.trans h.tape,k.output.trans h.output,k.own.trans h.own⟩
  · intro b hb
    rw[k.eN b (by rw[h.own];exact hb),h.eN b hb]
  · intro b hb hn o
    rw[k.jz b (cG hb h.size) (out b hb hn),h.jz b hb hn]
  · intro L a b hb
    rcases k.xB L a b hb with h1|⟨L1,e,r⟩
    · exact .inl (eL h.size h1)
    grind
  · intro l B L f a
    obtain⟨B1,L1,h1,h2,n⟩:=h.box l B L f a;obtain⟨p,q,k1,i,j⟩:=k.box l B1 L1 h1 h2;exact⟨p,q,k1,i,n.trans j⟩
def Step.oG {σ σ':List aV} {s s':St} (hh:aJ σ s) (h:Step σ s σ' s'):cD σ s σ' s' :=
  ⟨h.size,λb hb=>h.eN b (hh.own b hb).1 (hh.own b hb).2,h.mem,h.jz,h.xB,h.box,h.os,h.tape,h.output,h.own⟩
def cD.ext {σ σ':List aV} {s s':St} (h:cD σ s σ' s'):Ext σ s σ' s':=⟨h.mem,h.box⟩
def cj.refl {σ:List aV} {s:St} (hh:aJ σ s):cj s s:=⟨rfl,rfl,rfl,bg _,λ_ _=>rfl,hh.mem,rfl,rfl,rfl⟩
def cj.stepW {σ:List aV} {s s':St} (h:cj s s'):cD σ s σ s' :=
  ⟨h.size,λb hb=>h.eN b (.inl hb),λb o v d=>by rw[h.M];exact d,λ_ _ _ _=>by rw[h.M],λL a b hb=>.inr ⟨L,by rw[<-h.β];exact a,hb⟩,
    λl B L c a=>⟨B,L,c,by rw[h.β];exact a,.refl _ _⟩,h.os,h.tape,h.output,h.own⟩
def Step.ext {σ σ':List aV} {s s':St} (h:Step σ s σ' s'):Ext σ s σ' s':=⟨h.mem,h.box⟩
section mono
variable {σ σ':List aV} {s s':St}
def Ext.Np (h:Ext σ s σ' s') {l:Nat} {L:Loc} (c:s.β[l]?=aa L) (hl:s.β.length=σ.length) (hn:∀ B,σ[l]?=aa B->B.gr=ae) :
    (∀ B,σ'[l]?=aa B->B.gr=ae)/\∃ L',s'.β[l]?=aa L'/\L'.v=L.v:=by
  have a:l<σ.length:=by grind
  obtain⟨B',L',k1,d,e⟩:=h.box l (σ[l]) L (br a) c;have b:=hn _ (br a);generalize σ[l]=B at *;rw[k1];cases B <;> cases B' <;> simp_all [ij,aV.gr]
def gx.mono (h:Ext σ s σ' s') (hl:s.β.length=σ.length) {v:ak} {a:A} (r:gx σ s v a):gx σ' s' v a:=by
  cases a with
  | c x=>exact Rd.mono h.mem r
  | any=>exact r
  | ptr l off =>
    obtain⟨hn,L,b,h1,h2,m⟩:=r;obtain⟨f,L',k1,i⟩:=h.Np h1 hl hn;exact⟨f,L',b,k1,by grind,m⟩
  | vec l k n es =>
    obtain⟨j,e,t⟩:=r;obtain⟨B',L',k1,i,g⟩:=h.box l (σ[l]) (s.β[l]'(by omega)) (br e) (br (by omega))
    have d:l<σ'.length:=(cr.1 k1).1;refine⟨Rd.mono h.mem j,d,λE k' f es' he=>?_⟩
    rw[he] at k1;cases k1;have o:=br e;generalize σ[l]=B at *;cases B with
    | vec E0 k0 n0 VY =>
      obtain⟨q,p⟩:=g
      grind
    | _=>simp[ij] at g
  | ref l =>
    obtain⟨hn,L,h1,h2,m⟩:=r;obtain⟨f,L',k1,i⟩:=h.Np h1 hl hn;exact⟨f,L',k1,by grind,m⟩
  | bp l w =>
    obtain⟨lv,j,e,t⟩:=r;obtain⟨B',L',k1,i,g⟩:=h.box l (σ[l]) (s.β[l]'(by omega)) (br e) (br (by omega))
    have d:l<σ'.length:=(cr.1 k1).1;refine⟨lv,j,d,λE k' f es' he=>?_⟩
    rw[he] at k1;cases k1;have o:=br e;generalize σ[l]=B at *;cases B with
    | buf E0 k0 n0 VY =>
      obtain⟨q,p⟩:=g
      grind
    | _=>simp[ij] at g
def dW.mono (h:Ext σ s σ' s') (hl:s.β.length=σ.length) {vs:List ak} {cs:List A} (r:dW σ s vs cs):dW σ' s' vs cs:=by
  induction vs generalizing cs with
  | nil=>cases cs <;> simp_all [dW]
  | cons v vs ih =>
    cases cs with
    | nil=>simp[dW] at r
    | cons a cs=>exact⟨r.1.mono h hl,ih r.2⟩
def mY.mono (h:Ext σ s σ' s') (hl:s.β.length=σ.length) {v:ak} {x:E1} (r:mY σ s v x):mY σ' s' v x:=by
  cases x with
  | one a=>exact gx.mono h hl r
  | agg cs=>obtain⟨vs,h1,h2⟩:=r;exact⟨vs,h1,h2.mono h hl⟩
def gJ.mono (h:Ext σ s σ' s') (hl:s.β.length=σ.length) {vs:List ak} {xs:List E1} (r:gJ σ s vs xs):gJ σ' s' vs xs:=by
  induction vs generalizing xs with
  | nil=>cases xs <;> simp_all [gJ]
  | cons v vs ih =>
    cases xs with
    | nil=>simp[gJ] at r
    | cons a cs=>exact⟨r.1.mono h hl,ih r.2⟩
def dc.mono (h:Ext σ s σ' s') (hl:s.β.length=σ.length) {v:ak} {d:D} (r:dc σ s v d):dc σ' s' v d:=by
  cases d with
  | e x=>exact mY.mono h hl r
  | eK xs=>obtain⟨vs,h1,h2⟩:=r;exact⟨vs,h1,h2.mono h hl⟩
  | any=>trivial
def cz.mono (h:Ext σ s σ' s') (hl:s.β.length=σ.length) {vs:List ak} {xs:List D} (r:cz σ s vs xs):cz σ' s' vs xs:=by
  induction vs generalizing xs with
  | nil=>cases xs <;> simp_all [cz]
  | cons v vs ih =>
    cases xs with
    | nil=>simp[cz] at r
    | cons a cs=>exact⟨r.1.mono h hl,ih r.2⟩
end mono
def oI (σ:List aV) (s:St):List Deferred->List Nat->Prop
  | [],[]=>True
  | d::ds,l::ls=>(σ[l]?=aa .qV/\∃ (L:Loc) (r:Nat),s.β[l]?=aa L/\L.v=.int .i64 r/\d={ target:=.collected r,args:=#[] })/\l∉ls/\oI σ s ds ls
  | _,_=>False
def oI.mono {σ σ':List aV} {s s':St} (h:Ext σ s σ' s'):∀ {ds:List Deferred} {ls:List Nat},oI σ s ds ls->oI σ' s' ds ls
  | [],[],_=>trivial
  | [],_::_,r=>r.elim
  | _::_,[],r=>r.elim
  | d::ds,l::ls,⟨⟨h1,L,r,h2,g,b⟩,e,c⟩=>by
    obtain⟨B',L',k1,a,f⟩:=h.box l _ L h1 h2;cases B' <;> simp[ij] at f
    exact⟨⟨k1,L',r,a,by grind,b⟩,e,oI.mono h c⟩
def mv:List aV->Bool
  | []=>ab
  | .qV::_=>ae
  | _::r=>mv r
def na:∀ {l:List aV},mv l=ab->∀ B∈l,B≠.qV
  | [],_,B,a=>by grind
  | b::r,h,B,a=>by
    have c:b≠.qV/\mv r=ab:=by cases b <;> simp_all [mv]
    rcases fb.1 a with rfl|a
    · exact c.1
    · exact na c.2 B a
def lU {s:St} {r:Nat} {wr:Bool} {L:Loc} (b:L∈s.β) (a:r∈L.bs):oE s ⟨.obj r,wr,ae⟩:=⟨rfl,.inr ⟨L,b,a⟩⟩
def eZ.one {s:St} {e:Event} (h:oE s e):eZ s #[e]:=by intro x a;grind
def eZ.two {s:St} {e a:Event} (h:oE s e) (c:oE s a):eZ s #[e,a]:=by
  intro x b;grind
section
open Go.Conc (G listed)
def qx(s s':St)(es:Array Event):Prop:=(∃ σ σ',aJ σ s/\aJ σ' s'/\Step σ s σ' s')/\eZ s es
structure Cx (P:aq) where
 main:Bool
 rely:St->St->Prop
 xE:au->St->(au->St->Prop)->Prop
 ik:∀ {s s'},rely s s'->cj s s'
 Bn:Prop
class Cx.jr {P:aq} (X:Cx P):Prop where
 ok:X.Bn
structure eR (s s':St):Prop where
 w:s'.w=s.w
 mem:∀ b o v,s.M b o=aa v->s'.M b o=aa v
 jz:∀ b,(∀ L∈s.β,b∉L.bs)->∀ o,s'.M b o=s.M b o
 cell:∀ b o v,s'.M b o=aa v->s.w.cell? ⟨b,o,af⟩=aa v
 blk:∀ b,(s'.own b∨∃ L∈s'.β,b∈L.bs)->s.own b∨∃ L∈s.β,b∈L.bs
structure mR (s s':St):Prop where
 w:s'.w=s.w
 β:s'.β=s.β
 own:s'.own=s.own
 less:∀ b o v,s'.M b o=aa v->s.M b o=aa v
 mem:∀ b o v,s.M b o=aa v->s'.M b o=aa v∨s.own b
inductive ft {P:aq} (X:Cx P) (S:au->St->Prop):au->St->Prop
 |stop {g:au} {s:St}:S g s->ft X S g s
 |step {g:au} {s:St} (ng:St->au) (ns:St->St) (ne:St->Array Event):g.status=.running ->
   (∀ s1,X.rely s s1->aK P X.main g s1.w=.go (ng s1) (ns s1).w (ne s1))->(∀ s1,X.rely s s1->qx s1 (ns s1) (ne s1))->(∀ s1,X.rely s s1->ft X S (ng s1) (ns s1))->ft X S g s
 |ghost {g:au} {s s':St}:eR s s'->ft X S g s'->ft X S g s
 |forget {g:au} {s s':St}:X.Bn->mR s s'->ft X S g s'->ft X S g s
 |xE {g:au} {s:St} {T:au->St->Prop}:X.xE g s T->(∀ g' s',T g' s'->ft X S g' s')->ft X S g s
section
variable {P:aq}{X:Cx P}{S:au->St->Prop}
def ft.next{g:au}{s:St}(f:g.status=.running)(h:∀ c,X.rely s c->∃ g' s' es,aK P X.main g c.w=.go g' s'.w es/\qx c s' es/\ft X S g' s'):ft X S g s:=by
 classical
 have hh:∀ c,∃ r:au×St×Array Event,X.rely s c->aK P X.main g c.w=.go r.1 r.2.1.w r.2.2/\qx c r.2.1 r.2.2/\ft X S r.1 r.2.1:=by
  intro c
  by_cases e:X.rely s c
  .obtain⟨g',s',es,h1⟩:=h c e;exact⟨(g',s',es),λ_=>h1⟩
  .exact⟨(g,c,#[]),λd=>absurd d e⟩
 refine .step (λc=>(Classical.choose (hh c)).1) (λc=>(Classical.choose (hh c)).2.1) (λc=>(Classical.choose (hh c)).2.2) f ?_ ?_ ?_
 .grind
 .grind
 grind
theorem eR.of{σ σ':List aV}{s s':St}(hh:aJ σ s)(c:aJ σ' s')(e:s'.w=s.w)(st:cD σ s σ' s'):eR s s':=by
 have g:∀ b o v,s'.M b o=aa v->s.w.cell? ⟨b,o,af⟩=aa v:=λb o v h=>by rw[<-e];exact c.mem b o v h
 have d:∀ b o v,s.w.cell? ⟨b,o,af⟩=aa v->b<s.w.heap.size:=by
  intro b o v h;rcases cJ b s.w.heap.size with h1|h1
  .exact h1
  .simp[a9,zm h1] at h
 refine⟨e,st.mem,λb hb o=>?_,g,λb hb=>?_⟩
 .rcases cJ b s.w.heap.size with h1|h1
  .exact st.jz b h1 hb o
  .cases h2:s'.M b o with
   |some v=>grind
   |none=>cases i:s.M b o with
    |none=>rfl
    |some v=>have:=d _ _ _ (hh.mem _ _ _ i);omega
 .rcases hb with hb|⟨L,f,hb⟩
  .exact .inl (by rw[<-st.own];exact hb)
  .rcases st.xB L f b hb with h1|h1
   .have:=c.lt L f b hb;grind
   grind
def aJ.rely{σ:List aV}{s s':St}(hh:aJ σ s)(h:cj s s'):aJ σ s':=by
 have ex:Ext σ s σ s':=h.stepW.ext;have C:∀ v a,gx σ s v a->gx σ s' v a:=λv a r=>r.mono ex hh.len
 refine⟨λb o v m=>h.mem b o v (by rw[<-h.M];exact m),by rw[h.β];exact hh.len,?_,by rw[h.β];exact hh.gg,?_,?_⟩
 .intro l B L i e;rw[h.β] at e;have hb:=hh.box l B L i e;have A:∀ b∈L.bs,s'.w.heap[b]?=s.w.heap[b]?:=λb hb=>h.eN b (.inr ⟨L,bU e,hb⟩)
  cases B with
  |cells E cs =>
   obtain⟨b,vs,h1,h2,c,d⟩:=hb;subst h1;exact⟨b,vs,rfl,by grind,c.mono ex hh.len,λo=>by rw[h.M,d]⟩
  |vec E k n es =>
   obtain⟨h1,h2⟩:=hb;refine⟨by rw[h.M];exact h1,?_⟩
   rcases h2 with⟨h2,c⟩|⟨b,cap,vs,h2,c,d,f⟩
   .exact .inl ⟨h2,by rw[h.M];exact c⟩
   .subst h2;exact .inr ⟨b,cap,vs,rfl,by grind,d,λo q=>by rw[h.M,f o q]⟩
  |dD H =>
   obtain⟨ch,h1,h2,c,d⟩:=hb;refine⟨ch,h1,λb o j=>?_,c,λb g o=>by rw[h.M,d b g]⟩
   grind
  |dead=>trivial
  |loop N φ r =>
   obtain⟨l,tmps,fn,z,h1,h2,c,d,f⟩:=hb;subst h1;exact⟨l,tmps,fn,z,rfl,by grind,c,λt=>(d t).mono ex hh.len,λo=>by rw[h.M,f]⟩
  |qV =>
   obtain⟨r,h1,h2,c⟩:=hb;subst h1;exact⟨r,rfl,by grind,λo=>by rw[h.M,c]⟩
  |buf E k n es =>
   rcases hb with hb|⟨b,u,vs,p,h1,h2,c,d,f,y,x⟩
   .exact .inl hb
   .subst h1;exact .inr ⟨b,u,vs,p,rfl,by grind,c,d,f,by rw[h.M];exact y,λo=>by rw[h.M,x]⟩
 .intro L e b hb;rw[h.β] at e;exact cG (hh.lt L e b hb) h.size
 .intro b hb;rw[h.own] at hb;rw[h.β];exact⟨cG (hh.own b hb).1 h.size,(hh.own b hb).2⟩
def qx.quiet{σ:List aV}{s:St}(hh:aJ σ s):qx s s #[]:=⟨⟨σ,σ,hh,hh,.refl _ _⟩,.nil⟩
def _root_.Go.Frame.aT(b:aR)(a:Act)(todo:List Item):aR:={ b with tmps:=a.tmps,todo:=todo,defers:=a.defers++b.defers,mode:=.run }
variable {b:aR}{a:Act}{k:List Item}{cs:List aR}{w:az}{main:Bool}
def Fw(b:aR)(a:Act)(c:List Item):(b.aT a c).eval=a.eval:=by funext x;cases x <;> rfl
def Fx:aK P main (G (b.aT a (.code .skip::k)) cs) w=.go (G (b.aT a k) cs) w:=by simp[G,aK,stepG.exec,Frame.aT]
def qy{id:Nat}:aK P main (G (b.aT a (.inBlock id::k)) cs) w=.go (G (b.aT a k) cs) w:=by simp[G,aK,stepG.exec,Frame.aT]
theorem nS{x y:Code}:aK P main (G (b.aT a (.code (.seq x y)::k)) cs) w=.go (G (b.aT a (.code x::.code y::k)) cs) w:=by simp[G,aK,stepG.exec,Frame.aT]
def uZ{c:an}{x y:Code}{t:Bool}(h:a.eval c=.bool t) :
  aK P main (G (b.aT a (.code (.cond c x y)::k)) cs) w=.go (G (b.aT a (.code (if t then x else y)::k)) cs) w:=by
 have d:(b.aT a (.code (.cond c x y)::k)).eval c=.bool t:=by rw[Fw];exact h
 simp only[Frame.aT] at d;simp[G,aK,stepG.exec,Frame.aT,d]
def rA{id:Nat}{c:Code}:aK P main (G (b.aT a (.code (.block id c)::k)) cs) w=.go (G (b.aT a (.code c::.inBlock id::k)) cs) w:=by simp[G,aK,stepG.exec,Frame.aT]
def Fy{c:Code}:aK P main (G (b.aT a (.code (.loop c)::k)) cs) w=.go (G (b.aT a (.code c::.inLoop c::k)) cs) w:=by simp[G,aK,stepG.exec,Frame.aT]
def yg{c:Code}:aK P main (G (b.aT a (.inLoop c::k)) cs) w=.go (G (b.aT a (.code c::.inLoop c::k)) cs) w:=by simp[G,aK,stepG.exec,Frame.aT]
def zv{id:Nat}{k':List Item}(h:exitTo id k=aa k'):aK P main (G (b.aT a (.code (.exit id)::k)) cs) w=.go (G (b.aT a k') cs) w:=by simp[G,aK,stepG.exec,Frame.aT,h]
def pQ{id:Nat}{ops:Array aw}:aK P main (G (b.aT a (.code (.region id ops ae)::k)) cs) w=.go (G (b.aT a (.inRegion ops (bh ops.size)::k)) cs) w:=by simp[G,aK,stepG.exec,Frame.aT]
def lR{id:Nat}{ops:Array aw}:aK P main (G (b.aT a (.code (.region id ops ab)::k)) cs) w =
  .go (G (b.aT a (.inRegion ops (Region.schedule (P.follows .mixedOrders) ops (w.tape w.drawn (.order b.fn id)))::k)) cs) { w with drawn:=w.drawn+1 }:=by
 simp[G,aK,stepG.exec,Frame.aT,choose,Sem.run,Question.forced,Question.cut]
def iW{ops:Array aw}:aK P main (G (b.aT a (.inRegion ops []::k)) cs) w=.go (G (b.aT a k) cs) w:=by simp[G,aK,stepG.exec,Frame.aT]
def DG(h:b.roundOf=af):aK P main (G (b.aT a (.code .ret::k)) cs) w=.go (G { b.aT a (.code .ret::k) with mode:=.returning } cs) w:=by simp[G,aK,stepG.exec,Frame.aT,h]
def DH(h:b.roundOf=af):aK P main (G (b.aT a []) cs) w=.go (G { b.aT a [] with mode:=.returning } cs) w:=by simp[G,aK,stepG.exec,Frame.aT,h]
def kg(ops:Array aw)(i:Nat)(rest:List Nat)(v:ak) :
  (b.aT a (.inRegion ops (i::rest)::k)).finish v=b.aT (a.put ((ops[i]?).bind (·.dst)) v) (.inRegion ops rest::k):=by
 cases h:(ops[i]?).bind (·.dst) <;> simp[Frame.finish,Frame.aT,Act.put,h]
def Nn{ops:Array aw}{i:Nat}{rest:List Nat}{o:aw}(d:ops[i]?=aa o)(e:bj o (yielded ops a.tmps)=ae) :
  aK P main (G (b.aT a (.inRegion ops (i::rest)::k)) cs) w=.go (G (b.aT (a.put o.dst aj) (.inRegion ops rest::k)) cs) w:=by
 have c:=kg (b:=b) (a:=a) (k:=k) ops i rest aj;rw[d] at c;simp only[nG] at c;rw[<-c];simp[G,aK,stepG.exec,Frame.aT,d,e]
theorem rB{ρ:an->ak}{o:aw}{c:Call}(h:o.op=.defer c){f:Next}{w':az}(e:(ay ρ o).run P w=.ok f w'):∃ d,f=.defer d:=by
 simp only[ay,h,bY] at e;cases g:(resolve ρ c o.type).run P w with
 |ok d w2=>rw[g] at e;simp at e;grind
 |halt x w2=>rw[g] at e;simp at e
def u4{ops:Array aw}{i:Nat}{rest:List Nat}{o:aw}(f:ops[i]?=aa o)(e:bj o (yielded ops a.tmps)=ab)(g:∀ c,o.op≠.defer c) :
  aK P main (G (b.aT a (.inRegion ops (i::rest)::k)) cs) w=stepG.apply P ab (b.aT a (.inRegion ops (i::rest)::k)) cs af (ay a.eval o) w:=by
 have d:=Fw b a (.inRegion ops (i::rest)::k);simp only[Frame.aT] at d;simp[G,aK,stepG.exec,stepG.oper,Frame.oper?,Frame.aT,f,e,d]
 grind
theorem Je{ops:Array aw}{i:Nat}{rest:List Nat}{o:aw}{v:ak}{w':az}(f:ops[i]?=aa o)(g:bj o (yielded ops a.tmps)=ab)
  (l:b.kind≠.early) (h:(ay a.eval o).run P w=.ok (.value v) w') :
  aK P main (G (b.aT a (.inRegion ops (i::rest)::k)) cs) w=.go (G (b.aT (a.put o.dst v) (.inRegion ops rest::k)) cs) w' (listed P b.fn a o w):=by
 have d:=kg (b:=b) (a:=a) (k:=k) ops i rest v;rw[f] at d;simp only[nG] at d;have e:(b.kind==CallKind.early)=ae:=by grind
 rw[u4 f g (λc j=>by grind [rB]),<-d]
 simp[stepG.apply,h,G,Frame.aT,e,GStep.after,listed]
theorem Fz{ops:Array aw}{i:Nat}{rest:List Nat}{o:aw}{w':az}(f:ops[i]?=aa o)(g:bj o (yielded ops a.tmps)=ab)
  (l:b.kind≠.early) (h:(ay a.eval o).run P w=.ok .skip w') :
  aK P main (G (b.aT a (.inRegion ops (i::rest)::k)) cs) w=.go (G (b.aT (a.put o.dst aj) (.inRegion ops rest::k)) cs) w' (listed P b.fn a o w):=by
 have d:=kg (b:=b) (a:=a) (k:=k) ops i rest aj;rw[f] at d;simp only[nG] at d;have e:(b.kind==CallKind.early)=ae:=by grind
 rw[u4 f g (λc j=>by grind [rB]),<-d]
 simp[stepG.apply,h,G,Frame.aT,e,GStep.after,listed]
def oQ{ops:Array aw}{i:Nat}{rest:List Nat}{o:aw}{f:aW}{args:Array ak}{w':az}(g:ops[i]?=aa o)(e:bj o (yielded ops a.tmps)=ab)
  (l:b.kind≠.early) (h:(ay a.eval o).run P w=.ok (.enter f args) w') :
  aK P main (G (b.aT a (.inRegion ops (i::rest)::k)) cs) w=.go (G (Frame.enter P f args .normal) (b.aT a (.inRegion ops (i::rest)::k)::cs)) w' (listed P b.fn a o w):=by
 have d:(b.kind==CallKind.early)=ae:=by grind
 rw[u4 g e (λc j=>by grind [rB])]
 simp[stepG.apply,h,G,Frame.aT,d,GStep.after,listed]
structure uw (P:aq)(f:aW)(fr:aR)(v:ak)(s:St):Prop where
 isF:fr.fn=f
 mode:fr.mode=.returning
 defers:fr.defers=[]
 kind:fr.kind=.normal
 fn:∃ fn,P.funcs[fr.fn]?=aa fn/\∀ w,(∀ b o u,s.M b o=aa u->w.cell? ⟨b,o,af⟩=aa u)->(results fn fr.tmps).run P w=.ok v w/\∀ e∈(results fn fr.tmps).events P w #[],∃ b o u,e=⟨.cell ⟨b,o,af⟩,ae,ae⟩/\s.M b o=aa u
def uw.mono{f:aW}{fr:aR}{v:ak}{s s':St}(h:uw P f fr v s)(i:∀ b o u,s.M b o=aa u->s'.M b o=aa u):uw P f fr v s':=by
 obtain⟨h1,h2,d,c,fn,e,j⟩:=h;refine⟨h1,h2,d,c,fn,e,λw g=>?_⟩
 grind
def eZ.seen{s:St}{es:Array Event}{fn:aW}(h:eZ s es):eZ s (seen P fn es):=λe c=>h e (Go.Conc.mem_seen c)
def Jf{f:aW}{g c:aR}{v:ak}{s:St}(h:uw P f g v s)(w:az)(i:∀ b o u,s.M b o=aa u->w.cell? ⟨b,o,af⟩=aa u):∃ es,aK P main (G g (c::cs)) w=.go (G (c.finish v) cs) w es/\∀ e∈es,∃ b o u,e=⟨.cell ⟨b,o,af⟩,ae,ae⟩/\s.M b o=aa u:=by
 obtain⟨fn,j,d⟩:=h.fn;obtain⟨m,l⟩:=d w i;refine⟨seen P g.fn ((results fn g.tmps).events P w #[]),?_,λe n=>l e (Go.Conc.mem_seen n)⟩
 simp[G,aK,unwind,doReturn,h.mode,h.defers,h.kind,j,m,GStep.after]
end
end
section
open Go.Conc (G)
structure cx (N:Nat)(σ:List aV)(s:St)(φ:Fr)(a:Act):Prop where
 size:a.tmps.size=N
 defers:∃ ls,oI σ s a.defers ls
 slot:∀ t,dc σ s (a.tmps.getD t aj) (look φ t)
def cx.mono{N:Nat}{σ σ':List aV}{s s':St}{φ:Fr}{a:Act}(h:cD σ s σ' s')(hl:s.β.length=σ.length)(f:cx N σ s φ a):cx N σ' s' φ a :=
 ⟨f.size,f.defers.imp λ_ h1=>h1.mono h.ext,λt=>(f.slot t).mono h.ext hl⟩
def cx.rely{N:Nat}{σ:List aV}{s s':St}{φ:Fr}{a:Act}(h:cj s s')(hh:aJ σ s)(f:cx N σ s φ a):cx N σ s' φ a:=f.mono h.stepW hh.len
def cx.put{N:Nat}{σ:List aV}{s:St}{φ:Fr}{a:Act}(f:cx N σ s φ a){d:Nat}(c:d<N){v:ak}{x:D}(r:dc σ s v x):cx N σ s ((d,x)::φ) (a.put (aa d) v):=by
 refine⟨by simp[Act.put,f.size],f.defers,λt=>?_⟩
 simp only[Act.put,look]
 by_cases e:d=t
 .subst e;rw[show aG d d=ab from iN d]
  have g:d<a.tmps.size:=by rw[f.size];exact c
  simp only[dG,vm g,fJ,cond];exact r
 .have:aG d t=ae:=by
   grind [Nat.eq_of_beq_eq_true]
  rw[this];have h:=f.slot t;simp only[dG] at h ⊢
  grind
def o8(φ c:Fr):Prop:=∀ σ s v t,dc σ s v (look φ t)->dc σ s v (look c t)
def cx.le{N:Nat}{σ:List aV}{s:St}{φ c:Fr}{a:Act}(h:o8 φ c)(f:cx N σ s φ a):cx N σ s c a :=
 ⟨f.size,f.defers,λt=>h _ _ _ _ (f.slot t)⟩
abbrev Post:=Exit->Fr->List aV->Prop
def ends{P:aq}(X:Cx P)(S:au->St->Prop)(b:aR)(k:List Item)(cs:List aR):Exit->Act->St->Prop
 |.normal,a,s=>ft X S (G (b.aT a k) cs) s
 |.exit id,a,s=>∀ pre,(∀ k',exitTo id (pre++k')=exitTo id k')->ft X S (G (b.aT a (.code (.exit id)::(pre++k))) cs) s
 |.ret,a,s=>∀ pre,ft X S (G (b.aT a (.code .ret::pre)) cs) s
 |.panic ch,a,s=>∀ c,ft X S (G { b.aT a c with mode:=.panicking ch } cs) s
 |_,_,_=>False
section
variable {P:aq}{X:Cx P}{S:au->St->Prop}{b:aR}{k:List Item}{cs:List aR}{a:Act}{s:St}
def ends.cons{x:Item}(c:∀ id k',exitTo id (x::k')=exitTo id k'){e:Exit}(d:e≠.normal)(h:ends X S b k cs e a s):ends X S b (x::k) cs e a s:=by
 cases e with
 |normal=>grind
 |exit id =>
  intro pre hp;have:=h (pre++[x]) (λk'=>by grind)
  grind
 |ret=>exact h
 |panic ch=>exact h
 |goto l=>exact h
 |outgrown=>exact h
def ft.ctl{σ:List aV}{g g':au}(hh:aJ σ s)(e:g.status=.running)(d:∀ w,aK P X.main g w=.go g' w #[])(h:∀ c,cj s c->ft X S g' c):ft X S g s :=
 .next e λc h1=>⟨g',c,#[],d c.w,.quiet (hh.rely (X.ik h1)),h c (X.ik h1)⟩
def pM{σ:List aV}{f:aW}{j c:aR}{cs:List aR}{v:ak}{s:St}(n:aJ σ s)(h:uw P f j v s)(k:∀ d,cj s d->ft X S (G (c.finish v) cs) d):ft X S (G j (c::cs)) s:=by
 refine .next rfl λd q=>?_
 have i:=X.ik q;have g:=n.rely i;obtain⟨es,l,m⟩:=Jf (main:=X.main) (c:=c) (cs:=cs) h d.w i.mem;refine⟨_,d,es,l,⟨⟨σ,σ,g,g,.refl _ _⟩,λe r=>?_⟩,k d i⟩
 obtain⟨b,o,u,rfl,p⟩:=m e r;exact⟨rfl,rfl,.inr (.inr ⟨rfl,u,by rw[i.M];exact p⟩)⟩
def wi{c:Code}(I:Nat->Act->St->Prop)(i:∀ n a s,I n a s->∃ σ,aJ σ s/\∀ d,cj s d->I n a d)
  (round:∀ n a s,I n a s->(∀ a' s' m,m<n->I m a' s'->ft X S (G (b.aT a' (.inLoop c::k)) cs) s')->ft X S (G (b.aT a (.code c::.inLoop c::k)) cs) s) {n:Nat} (o:I n a s) :
  ft X S (G (b.aT a (.code (.loop c)::k)) cs) s:=by
 have key:∀ n a s,I n a s->ft X S (G (b.aT a (.inLoop c::k)) cs) s:=by
  intro n
  induction n using Nat.strongRecOn with
  |_ n l =>
   intro a s hi;obtain⟨σ,f,h⟩:=i n a s hi;exact .ctl f rfl (λw=>yg) λd g=>round n a d (h d g) λa' s' m j e=>l m j a' s' e
 obtain⟨σ,f,h⟩:=i n a s o;exact .ctl f rfl (λw=>Fy) λd g=>round n a d (h d g) λa' s' m _ e=>key m a' s' e
end
def AW{P:aq}(X:Cx P)(N:Nat)(c:Code)(Q:Post)(φ:Fr)(σ:List aV):Prop :=
 ∀ s a,cx N σ s φ a->aJ σ s->∀ (b:aR) (k:List Item) (cs:List aR) (S:au->St->Prop),b.kind≠.early ->
  (∀ e d σ' s' a',Q e d σ'->cx N σ' s' d a'->aJ σ' s'->cD σ s σ' s'->ends X S b k cs e a' s')->ft X S (G (b.aT a (.code c::k)) cs) s
def Names(all:List aw):List Nat->List aw->Prop
 |[],[]=>True
 |i::idx,o::rest=>all.toArray[i]?=aa o/\Names all idx rest
 |_,_=>False
def jB{P:aq}(X:Cx P)(N:Nat)(all rest:List aw)(Q:Fr->List aV->Prop)(φ:Fr)(σ:List aV):Prop :=
 ∀ s a,cx N σ s φ a->aJ σ s->∀ (b:aR) (k:List Item) (cs:List aR) (S:au->St->Prop) (idx:List Nat),b.kind≠.early->Names all idx rest ->
  (∀ c σ' s' a',Q c σ'->cx N σ' s' c a'->aJ σ' s'->cD σ s σ' s'->ft X S (G (b.aT a' k) cs) s')->ft X S (G (b.aT a (.inRegion all.toArray idx::k)) cs) s
section rules
variable {P:aq}{X:Cx P}{N:Nat}{Q:Post}{φ:Fr}{σ:List aV}
def AW.mono{c:Code}{f:Post}(h:AW X N c Q φ σ)(g:∀ e φ σ,Q e φ σ->f e φ σ):AW X N c f φ σ :=
 λs a i hh b k cs S hb hQ=>h s a i hh b k cs S hb λe d σ' s' a' q j l st=>hQ e d σ' s' a' (g _ _ _ q) j l st
def AW.le{c:Code}{d:Fr}(h:AW X N c Q d σ)(hl:o8 φ d):AW X N c Q φ σ :=
 λs a e hh b k cs S hb hQ=>h s a (e.le hl) hh b k cs S hb hQ
def AW.skip(h:Q .normal φ σ):AW X N .skip Q φ σ:=λs a e hh b k cs S _ c =>
 .ctl hh rfl (λ_=>Fx) λd h1=>c .normal φ σ d a h (e.rely h1 hh) (hh.rely h1) h1.stepW
def AW.ret(h:Q .ret φ σ):AW X N .ret Q φ σ:=λs a d hh b k cs S _ c=>c .ret φ σ s a h d hh (.refl _ _) k
theorem AW.exit{id:Nat}(h:Q (.exit id) φ σ):AW X N (.exit id) Q φ σ:=λs a d hh b k cs S _ c=>by
 have:=c (.exit id) φ σ s a h d hh (.refl _ _) [] (λ_=>rfl)
 grind
def F0(next:Fr->List aV->Prop)(Q:Post):Post
 |.normal,φ,σ=>next φ σ
 |e,φ,σ=>Q e φ σ
def AW.seq{x y:Code}(h:AW X N x (F0 (AW X N y Q) Q) φ σ):AW X N (.seq x y) Q φ σ:=by
 intro s a i hh b k cs S hb hQ;refine .ctl hh rfl (λ_=>nS) λl h1=>?_
 refine h l a (i.rely h1 hh) (hh.rely h1) b (.code y::k) cs S hb ?_;intro e j σ' s' a' q f g st;have c:=h1.stepW.trans st;cases e with
 |normal=>exact q s' a' f g b k cs S hb λe d σ2 s2 a2 q2 f2 h2 oB=>hQ e d σ2 s2 a2 q2 f2 h2 (c.trans oB)
 |_=>exact ends.cons (λ_ _=>rfl) (by simp) (hQ _ _ _ _ _ q f g c)
theorem AW.cond{c:an}{x y:Code}{t:Bool}{u:Nat}(m:c=.tmp u)(hl:look φ u=.e (.one (.c (.bool t))))
  (n:t=ab->AW X N x Q φ σ) (l:t=ae->AW X N y Q φ σ):AW X N (.cond c x y) Q φ σ:=by
 intro s a f hh b k cs S hb hQ;have h:=f.slot u;rw[hl] at h;have i:a.eval c=.bool t:=by
  subst m;generalize i:a.tmps.getD u aj=v at h;simp only[dc,mY,gx] at h;cases h;exact i
 refine .ctl hh rfl (λ_=>uZ i) λj h1=>?_
 have g:∀ e d σ' s' a',Q e d σ'->cx N σ' s' d a'->aJ σ' s'->cD σ j σ' s'->ends X S b k cs e a' s':=λe d σ' s' a' q o p st=>hQ e d σ' s' a' q o p (h1.stepW.trans st)
 cases t
 .exact l rfl j a (f.rely h1 hh) (hh.rely h1) b k cs S hb g
 .exact n rfl j a (f.rely h1 hh) (hh.rely h1) b k cs S hb g
def zZ(id:Nat)(Q:Post):Post
 |.exit I6,φ,σ=>if I6=id then Q .normal φ σ else Q (.exit I6) φ σ
 |e,φ,σ=>Q e φ σ
def AW.block{id:Nat}{c:Code}(h:AW X N c (zZ id Q) φ σ):AW X N (.block id c) Q φ σ:=by
 intro s a m hh b k cs S hb hQ;refine .ctl hh rfl (λ_=>rA) λn h1=>?_
 refine h n a (m.rely h1 hh) (hh.rely h1) b (.inBlock id::k) cs S hb ?_;intro e i σ' s' a' q g f st;have d:=h1.stepW.trans st;cases e with
 |normal =>
  exact .ctl f rfl (λ_=>qy) λs2 h2=>hQ .normal i σ' s2 a' q (g.rely h2 f) (f.rely h2) (d.trans h2.stepW)
 |exit I6 =>
  simp only[zZ] at q;split at q
  .rename_i e
   subst e;intro pre hp;refine .ctl f rfl (λ_=>zv (k':=k) (by rw[hp];simp[exitTo])) λs2 h2=>?_
   exact hQ .normal i σ' s2 a' q (g.rely h2 f) (f.rely h2) (d.trans h2.stepW)
  .rename_i j
   intro pre hp;have:=hQ (.exit I6) i σ' s' a' q g f d (pre++[.inBlock id]) (λk'=>by
    rw[j8,hp];have:(id==I6)=ae:=by grind
    simp[exitTo,this])
   grind
 |ret=>exact hQ _ _ _ _ _ q g f d
 |panic ch=>exact hQ _ _ _ _ _ q g f d
 |goto l=>exact hQ _ _ _ _ _ q g f d
 |outgrown=>exact hQ _ _ _ _ _ q g f d
def AW.loop{S:Type}{c:Code}(I:S->Prop)(fr:S->Fr)(st:S->List aV)(h:S->Nat)(x:S)(A:I x)(i:o8 φ (fr x))(m:st x=σ)
  (round:∀ x,I x->AW X N c (F0 (λo σ'=>∃ y,I y/\h y<h x/\o8 o (fr y)/\σ'=st y) Q) (fr x) (st x)):AW X N (.loop c) Q φ σ:=by
 intro s a u hh b k cs S hb hQ;subst m;refine wi (λn a' s'=>∃ y,I y/\cx N (st y) s' (fr y) a'/\aJ (st y) s'/\cD (st x) s (st y) s'/\h y=n) ?_ ?_ ⟨x,A,u.le i,hh,.refl _ _,rfl⟩
 .rintro n a' s' ⟨y,p,l,g,d,e⟩;exact⟨st y,g,λB h1=>⟨y,p,l.rely h1 g,g.rely h1,d.trans h1.stepW,e⟩⟩
 rintro n a' s' ⟨y,p,l,g,d,rfl⟩ w;refine round y p s' a' l g b (.inLoop c::k) cs S hb ?_;intro e t σ2 s2 a2 q r h2 oB;cases e with
 |normal =>
  obtain⟨z,v,j,f,rfl⟩:=q;exact w a2 s2 (h z) j ⟨z,v,r.le f,h2,d.trans oB,rfl⟩
 |_=>exact ends.cons (λ_ _=>rfl) (by simp) (hQ _ _ _ _ _ q r h2 (d.trans oB))
end rules
end
def dW.length{σ:List aV}{s:St}{vs:List ak}{cs:List A}(r:dW σ s vs cs):vs.length=cs.length:=by
 induction vs generalizing cs with
 |nil=>cases cs <;> simp_all [dW]
 |cons v vs ih =>
  cases cs with
  |nil=>simp[dW] at r
  |cons a cs=>simp[ih r.2]
def gx.cell{σ:List aV}{s:St}{v:ak}{a:A}(r:gx σ s v a):cZ v=ab:=by
 cases a with
 |c x=>exact Rd.cell r
 |ptr l off=>obtain⟨_,_,_,_,_,rfl⟩:=r;rfl
 |vec l k n es=>exact Rd.cell r.1
 |ref l=>obtain⟨_,_,_,_,h⟩:=r;exact h
 |bp l w=>obtain⟨_,h,_⟩:=r;exact h.cell
 |any=>exact r
theorem dW.get{σ:List aV}{s:St}{vs:List ak}{cs:List A}(r:dW σ s vs cs){j:Nat}{a:A}(h:cs[j]?=aa a):∃ v,vs[j]?=aa v/\gx σ s v a:=by
 induction vs generalizing cs j with
 |nil=>cases cs <;> simp_all [dW]
 |cons v vs ih =>
  cases cs with
  |nil=>grind
  |cons b cs =>
   cases j with
   |zero=>simp at h;subst h;exact⟨v,rfl,r.1⟩
   |succ j=>simp at h;obtain⟨u,c,d⟩:=ih r.2 h;grind
def dW.cell{σ:List aV}{s:St}{vs:List ak}{cs:List A}(r:dW σ s vs cs):∀ v∈vs,v.oneCell'=ab:=by
 induction vs generalizing cs with
 |nil=>simp
 |cons v vs ih =>
  cases cs with
  |nil=>simp[dW] at r
  |cons a cs =>
   intro u b;rcases fb.1 b with rfl|b
   .have:=gx.cell r.1;cases u <;> simp_all [cZ,Value.oneCell']
   .exact ih r.2 u b
def dW.append{σ:List aV}{s:St}{vs vE:List ak}{cs mc:List A}(r:dW σ s vs cs)(r':dW σ s vE mc):dW σ s (vs++vE) (cs++mc):=by
 induction vs generalizing cs with
 |nil=>cases cs <;> simp_all [dW]
 |cons v vs ih =>
  cases cs with
  |nil=>simp[dW] at r
  |cons a cs=>exact⟨r.1,ih r.2⟩
def dW.take{σ:List aV}{s:St}{vs:List ak}{cs:List A}(r:dW σ s vs cs)(k:Nat):dW σ s (vs.take k) (cs.take k):=by
 induction vs generalizing cs k with
 |nil=>cases cs <;> simp_all [dW]
 |cons v vs ih =>
  cases cs with
  |nil=>simp[dW] at r
  |cons a cs=>cases k with
   |zero=>simp[dW]
   |succ k=>exact⟨r.1,ih r.2 k⟩
def dW.drop{σ:List aV}{s:St}{vs:List ak}{cs:List A}(r:dW σ s vs cs)(k:Nat):dW σ s (vs.drop k) (cs.drop k):=by
 induction vs generalizing cs k with
 |nil=>cases cs <;> simp_all [dW]
 |cons v vs ih =>
  cases cs with
  |nil=>simp[dW] at r
  |cons a cs=>cases k with
   |zero=>exact r
   |succ k=>simpa using ih r.2 k
def aJ.block{σ:List aV}{s:St}(h:aJ σ s){b o:Nat}{v:ak}(a:s.M b o=aa v):b<s.w.heap.size:=by
 have:=h.mem b o v a;rcases cJ b s.w.heap.size with h|h
 .exact h
 .simp[a9,zm h] at this
def aJ.same{σ:List aV}{s:St}(h:aJ σ s){w':az}(e:w'.heap=s.w.heap):aJ σ { s with w:=w' }:=by
 have p:∀ a,w'.cell? a=s.w.cell? a:=λa=>by simp[a9,e]
 have u:∀ v a,gx σ s v a->gx σ { s with w:=w' } v a:=λv a r=>by cases a <;> exact r
 have f:∀ vs al,dW σ s vs al->dW σ { s with w:=w' } vs al:=by
  intro vs
  induction vs with
  |nil=>intro al r;cases al <;> simp_all [dW]
  |cons v vs ih=>intro al r;cases al with
   |nil=>simp[dW] at r
   |cons a al=>exact⟨u _ _ r.1,ih _ r.2⟩
 refine⟨λb o v j=>by rw[p];exact h.mem b o v j,h.len,?_,h.gg,λL f b hb=>by show b<w'.heap.size;rw[e];exact h.lt L f b hb,λb hb=>⟨by show b<w'.heap.size;rw[e];exact(h.own b hb).1,(h.own b hb).2⟩⟩
 intro l B L i g;have:=h.box l B L i g;cases B with
 |cells E cs =>
  obtain⟨b,vs,h1,h2,c,d⟩:=this;exact⟨b,vs,h1,by grind,f _ _ c,d⟩
 |vec E k n es =>
  obtain⟨h1,h2⟩:=this;refine⟨h1,?_⟩
  grind
 |dD H =>
  obtain⟨ch,h1,h2,c,d⟩:=this;exact⟨ch,h1,λb o hb=>by grind,c,d⟩
 |dead=>trivial
 |loop N φ r =>
  obtain⟨l,tmps,fn,x,h1,h2,c,d,z⟩:=this;exact⟨l,tmps,fn,x,h1,by grind,c,λt=>dc.mono (s:=s) (σ':=σ) (s':={ s with w:=w' }) ⟨λ_ _ _ h=>h,λ_ B L h y=>⟨B,L,h,y,.refl _ _⟩⟩ h.len (d t),z⟩
 |qV =>
  obtain⟨r,h1,h2,c⟩:=this;exact⟨r,h1,by grind,c⟩
 |buf E k n es =>
  rcases this with h1|⟨b,q,vs,m,h1,h2,c⟩
  .exact .inl h1
  .exact .inr ⟨b,q,vs,m,h1,by grind,c⟩
def Step.same{σ:List aV}{s:St}{w':az}(f:w'.heap=s.w.heap)(a:w'.os=s.w.os)(c:w'.tape=s.w.tape)(e:w'.output=s.w.output):Step σ s σ { s with w:=w' } :=
 ⟨by grind,λb _ _=>by grind,λ_ _ _ h=>h,λ_ _ _ _=>rfl,λL h b hb=>.inr ⟨L,h,hb⟩,λ_ B L h d=>⟨B,L,h,d,.refl _ _⟩,a,c,e,rfl⟩
def eP.carry{σ σ':List aV}{s s':St}{B:aV}{L:Loc}(d:Ext σ s σ' s')(hl:s.β.length=σ.length)(hb:∀ b∈L.bs,s'.w.heap[b]?=s.w.heap[b]?/\∀ o,s'.M b o=s.M b o)(h:eP σ s B L):eP σ' s' B L:=by
 cases B with
 |cells E cs =>
  obtain⟨b,vs,h1,h2,a,c⟩:=h;subst h1;obtain⟨k1,e⟩:=hb b (by simp)
  exact⟨b,vs,rfl,by grind,a.mono d hl,λo=>by grind⟩
 |vec E k n es =>
  obtain⟨h1,h2⟩:=h;refine⟨h1.mono d.mem,?_⟩;rcases h2 with⟨h2,a⟩|⟨b,cap,vs,h2,a,c,f⟩
  .exact .inl ⟨h2,a.mono d.mem⟩
  grind
 |dD H =>
  obtain⟨ch,h1,h2,a,c⟩:=h;refine⟨ch,h1,λb o g=>?_,a,λb q o=>by grind⟩
  grind
 |dead=>trivial
 |loop N φ r =>
  obtain⟨l,tmps,fn,p,h1,h2,a,c,f⟩:=h;subst h1;obtain⟨k1,e⟩:=hb l (by simp)
  exact⟨l,tmps,fn,p,rfl,by grind,a,λt=>(c t).mono d hl,λo=>by grind⟩
 |qV =>
  obtain⟨r,h1,h2,a⟩:=h;subst h1;obtain⟨k1,e⟩:=hb r (by simp)
  exact⟨r,rfl,by grind,λo=>by grind⟩
 |buf E k n es =>
  rcases h with h1|⟨b,j,vs,i,h1,h2,a,c,f,m,u⟩
  .exact .inl h1
  .subst h1;obtain⟨k1,e⟩:=hb b (by simp)
   exact .inr ⟨b,j,vs,i,rfl,by grind,a,c,f,m.mono d.mem,λo=>by grind⟩
def St.fM(s:St)(E:ar)(vs:List ak):St :=
 { β:=s.β++[⟨.pointer (aa ⟨s.w.heap.size,0,af⟩),[s.w.heap.size]⟩],M:=s.M,w:=s.w.alloc (.cells vs.toArray E),own:=s.own }
theorem cK(w:az)(o:Obj){b:Nat}(h:b<w.heap.size):(w.alloc o).heap[b]?=w.heap[b]?:=by
 show (w.heap.push o)[b]?=w.heap[b]?
 grind
theorem dx(w:az)(o:Obj):(w.alloc o).heap[w.heap.size]?=aa o:=by
 show (w.heap.push o)[w.heap.size]?=aa o;simp
def Step.fM{σ:List aV}(s:St)(E:ar)(vs:List ak)(B:aV):Step σ s (σ++[B]) (s.fM E vs):=by
 refine⟨by simp[St.fM],?_,λ_ _ _ h=>h,λ_ _ _ _=>rfl,?_,?_,rfl,rfl,rfl,rfl⟩
 .intro b hb _;exact cK _ _ hb
 .intro L c b hb;simp only[St.fM,gC,kY] at c
  grind
 .intro l B' L a c;have hl:l<s.β.length:=(cr.1 c).1;have d:l<σ.length:=(cr.1 a).1;exact⟨B',L,by grind,by simp only[St.fM];grind,.refl _ _⟩
def aJ.fM{σ:List aV}{s:St}(h:aJ σ s){E:ar}{vs:List ak}{cs:List A}(r:dW σ s vs cs):aJ (σ++[.cells E cs]) (s.fM E vs):=by
 have st:=Step.fM (σ:=σ) s E vs (.cells E cs);have i:(s.fM E vs).w.heap.size=s.w.heap.size+1:=by simp[St.fM]
 refine⟨?_,by simp[St.fM,h.len],?_,?_,?_,?_⟩
 .intro b o v d;have hb:=h.block d;have:=h.mem b o v d;rw[<-this];simp only[a9,St.fM]
  grind [cK]
 .intro l B L g a;rcases Nat.lt_trichotomy l σ.length with e|rfl|j
  .rw[jD e] at g;simp only[St.fM] at a;rw[jD (by rw[h.len];exact e)] at a
   refine(h.box l B L g a).carry st.ext h.len λb hb=>⟨?_,λ_=>rfl⟩
   have:=h.lt L (bU a) b hb;exact cK _ _ this
  .simp at g;subst g;simp only[St.fM] at a;rw[gk (by rw[h.len];grind)] at a
   simp[h.len] at a;subst a;refine⟨s.w.heap.size,vs,rfl,dx _ _,r.mono st.ext h.len,λo=>?_⟩
   cases d:s.M s.w.heap.size o with
   |none=>exact d
   |some v=>have:=h.block d;omega
  grind
 .intro l l' L L' a f b hb oS;simp only[St.fM] at a f;have c:∀ l L,(s.β++[⟨.pointer (aa ⟨s.w.heap.size,0,af⟩),[s.w.heap.size]⟩])[l]?=aa L->(s.β[l]?=aa L)∨(l=s.β.length/\L.bs=[s.w.heap.size]):=by
   grind
  rcases c l L a with h1|⟨rfl,h1⟩ <;> rcases c l' L' f with h2|⟨rfl,h2⟩
  .exact h.gg l l' L L' h1 h2 b hb oS
  .have:=h.lt L (bU h1) b hb;grind
  .have:=h.lt L' (bU h2) b oS;grind
  .rfl
 .intro L a b hb;rw[i];simp only[St.fM,gC,kY] at a;rcases a with a|rfl
  .have:=h.lt L a b hb;omega
  grind
 .intro b hb;obtain⟨k,m⟩:=h.own b hb;refine⟨by grind,λL a=>?_⟩
  simp only[St.fM,gC,kY] at a
  grind
def aJ.grow{σ:List aV}{s:St}(h:aJ σ s){M':Mem}{w':az}(a:s.w.heap.size<=w'.heap.size)(f:∀ b,b<s.w.heap.size->w'.heap[b]?=s.w.heap[b]?)
  (e:∀ b,b<s.w.heap.size->∀ o,M' b o=s.M b o) (n:∀ b,s.w.heap.size<=b->∀ o v,M' b o=aa v->w'.cell? ⟨b,o,af⟩=aa v)
  (i:w'.os=s.w.os) (j:w'.tape=s.w.tape) (m:w'.output=s.w.output):aJ σ ⟨s.β,M',w',s.own⟩/\Step σ s σ ⟨s.β,M',w',s.own⟩:=by
 have st:Step σ s σ ⟨s.β,M',w',s.own⟩ :=
  ⟨a,λb hb _=>f b hb,λb o v d=>by rw[<-d];exact e b (h.block d) o,λb hb _ o=>e b hb o,λL h b hb=>.inr ⟨L,h,hb⟩,λ_ B L h k=>⟨B,L,h,k,.refl _ _⟩,i,j,m,rfl⟩
 refine⟨⟨?_,h.len,?_,h.gg,λL c b hb=>cG (h.lt L c b hb) a,λb hb=>⟨cG (h.own b hb).1 a,(h.own b hb).2⟩⟩,st⟩
 .intro b o v d;rcases cJ b s.w.heap.size with hb|hb
  .have hm':s.M b o=aa v:=by grind
   rw[<-h.mem b o v hm'];simp only[a9]
   grind
  grind
 .intro l B L g c;exact(h.box l B L g c).carry st.ext h.len λb hb=>⟨f b (h.lt L (bU c) b hb),λo=>e b (h.lt L (bU c) b hb) o⟩
def aJ.write{σ:List aV}{s:St}(h:aJ σ s){l b:Nat}{L:Loc}{E:ar}{cs mc:List A}{a:List ak}(g:σ[l]?=aa (.cells E cs))(c:s.β[l]?=aa L)(d:L.bs=[b])
  (r:dW σ s a mc):aJ (σ.set l (.cells E mc)) { s with w:=s.w.setRow b a.toArray }/\Step σ s (σ.set l (.cells E mc)) { s with w:=s.w.setRow b a.toArray }:=by
 have f:l<σ.length:=(cr.1 g).1;obtain⟨j,vs,h1,h2,p,n⟩:=h.box l _ L g c;subst h1;simp at d;subst d;have st:Step σ s (σ.set l (.cells E mc)) { s with w:=s.w.setRow j a.toArray }:=by
  refine⟨by simp,?_,λ_ _ _ h=>h,λ_ _ _ _=>rfl,λL h b hb=>.inr ⟨L,h,hb⟩,?_,rfl,rfl,rfl,rfl⟩
  .intro b hb hn;exact setRow_other _ _ _ _ (λe=>hn _ (bU c) (by simp[e]))
  .intro l' B L' nD gw
   by_cases e:l=l'
   .subst e;rw[g] at nD;cases nD;exact⟨_,L',by rw[fI f],gw,by simp[ij]⟩
   .exact⟨B,L',by grind,gw,.refl _ _⟩
 refine⟨⟨?_,by simp[h.len],?_,h.gg,λL c b hb=>by simpa using h.lt L c b hb,λb hb=>by simpa using h.own b hb⟩,st⟩
 .intro b o v m;have k:b≠j:=λe=>by grind
  rw[<-h.mem b o v m];simp only[a9]
  grind [setRow_other]
 .intro l' B L' nD gw
  by_cases e:l=l'
  .subst e;rw[fI f] at nD;cases nD;rw[c] at gw;cases gw;exact⟨j,a,rfl,setRow_heap _ _ _ _ _ _ h2,r.mono st.ext h.len,n⟩
  .rw[iL e] at nD;refine(h.box l' B L' nD gw).carry st.ext h.len λb hb=>⟨setRow_other _ _ _ _ λi=>?_,λ_=>rfl⟩
   subst i;exact e (h.gg l l' _ L' c gw b (by simp) hb)
section
open Go.Conc (G)
def Rq(σ:List aV)(s:St):Next->D->Prop
 |.value v,x=>dc σ s v x
 |.skip,x=>x=.any
 |_,_=>False
def bH(P:aq)(o:aw)(b:an->D)(σ:List aV)(x:D)(σ':List aV):Prop :=
 ∀ s ρ,aJ σ s->(∀ y,dc σ s (ρ y) (b y))->∃ a s',(ay ρ o).run P s.w=.ok a s'.w/\Rq σ' s' a x/\aJ σ' s'/\Step σ s σ' s'/\eZ s ((ay ρ o).events P s.w #[])
def bH.nT{P:aq}{o:aw}{a:an->D}{σ:List aV}{x:D}
  (h:∀ s ρ,aJ σ s->(∀ y,dc σ s (ρ y) (a y))->∃ v,(ay ρ o).run P s.w=.ok (.value v) s.w/\dc σ s v x/\eZ s ((ay ρ o).events P s.w #[])):bH P o a σ x σ :=
 λs ρ hh hr=>let ⟨v,h1,h2,b⟩:=h s ρ hh hr;⟨.value v,s,h1,h2,hh,.refl _ _,b⟩
def bH.quiet{P:aq}{o:aw}{a:an->D}{σ:List aV}{x:D}
  (h:∀ s ρ,aJ σ s->(∀ y,dc σ s (ρ y) (a y))->∃ v,(ay ρ o).run P s.w=.ok (.value v) s.w/\dc σ s v x/\(ay ρ o).events P s.w #[]=#[]):bH P o a σ x σ :=
 λs ρ hh hr=>let ⟨v,h1,h2,b⟩:=h s ρ hh hr;⟨.value v,s,h1,h2,hh,.refl _ _,by rw[b];exact .nil⟩
def N5:IntKind->Int->Bool
 |.i64,.ofNat m=>bo m 9223372036854775807
 |.i64,.negSucc m=>bo m 9223372036854775807
 |.u8,.ofNat m=>bo m 255
 |.i32,.ofNat m=>bo m 2147483647
 |.i32,.negSucc m=>bo m 2147483647
 |.u64,.ofNat m=>bo m 18446744073709551615
 |.u32,.ofNat m=>bo m 4294967295
 |_,_=>ae
def Rs{k:IntKind}{n:Int}(h:N5 k n=ab):bx k n:=by
 cases k <;> cases n <;> simp only[N5,bx] at h ⊢ <;> first|(cases h;done)|(have:=db h;grind)
def qi:ak->Option C
 |.int k n=>cond (N5 k n) (aa (.int k n)) af
 |.bool b=>aa (.bool b)
 |.string s=>cond (bo s.size 9223372036854775807) (aa (.str s.data.toList)) af
 |.slice af 0 0=>aa (.sl ab 0 0 (λ_=>[]))
 |.pointer af=>aa .km
 |.nilIface=>aa .nW
 |.nilFunc=>aa .zy
 |.map m=>aa (.val (.map m))
 |_=>af
theorem Rd.jJ{M:Mem}{t:Bool}{k:Nat}{a:Option Addr}{es:Nat->List C}:Rd M (.slice a 0 0) (.sl t k 0 es) :=
 Rd.sl 0 0 (λ_ _=>aj) (bg _) (by omega) (λ_=>rfl) (by omega) (by omega) (by omega) (by omega)
def Rd.qi{M:Mem}{v:ak}{c:C}(h:qi v=aa c):Rd M v c:=by
 unfold AM.qi at h;split at h <;> first
  |(rename_i k n;cases hb:N5 k n <;> rw[hb] at h <;> cases h;exact .int (Rs hb))
  |(rename_i s;cases hb:bo s.size 9223372036854775807 <;> rw[hb] at h <;> cases h;exact .str rfl (by rw[jg];exact db hb))
  |(cases h;done)
  |(cases h;exact .bool)
  |(cases h;exact Rd.jJ)
  |(cases h;exact .km)
  |(cases h;exact .nW)
  |(cases h;exact .zy)
  |(cases h;exact .val rfl)
def dOf:Option C->D
 |some c=>.e (.one (.c c))
 |none=>.any
def b5(φ:Fr):an->D
 |.tmp t=>look φ t
 |.const v=>dOf (qi v)
 |.func f=>.e (.one (.c (.fn (.func f) [] [])))
 |.global _=>.any
theorem dX{N:Nat}{σ:List aV}{s:St}{φ:Fr}{a:Act}(f:cx N σ s φ a)(y:an):dc σ s (a.eval y) (b5 φ y):=by
 cases y with
 |tmp t=>exact f.slot t
 |const v =>
  simp only[b5,Act.eval];cases h:qi v with
  |none=>trivial
  |some c=>exact Rd.qi h
 |func g =>
  exact Rd.fn [] [] rfl rfl (λ_=>aj) (λ_=>aj) (by simp) (by simp) (by simp) (by simp)
 |global g=>trivial
def lC:Option Nat->D->Fr->Fr
 |some t,x,φ=>(t,x)::φ
 |none,_,φ=>φ
def zT{P:aq}{X:Cx P}{S:au->St->Prop}{b:aR}{k:List Item}{cs:List aR}{a:Act}{s:St}{ops:Array aw}{i:Nat}{rest:List Nat}{o:aw}(p:b.kind≠.early)(m:ops[i]?=aa o)(l:bj o (yielded ops a.tmps)=ab)
  (h:∀ c,cj s c->∃ d s' v,(ay a.eval o).run P c.w=.ok d s'.w/\(d=.value v∨(d=.skip/\v=aj))/\qx c s' ((ay a.eval o).events P c.w #[])/\ft X S (G (b.aT (a.put o.dst v) (.inRegion ops rest::k)) cs) s') :
  ft X S (G (b.aT a (.inRegion ops (i::rest)::k)) cs) s:=by
 refine .next rfl λc g=>?_
 obtain⟨d,s',v,n,f,e,j⟩:=h c (X.ik g);refine⟨_,s',Go.Conc.listed P b.fn a o c.w,?_,⟨e.1,e.2.seen⟩,j⟩
 grind [Je,Fz]
theorem bH.move{P:aq}{o:aw}{a:an->D}{σ:List aV}{x:an}(h:o.op=.move x):bH P o a σ (a x) σ :=
 .quiet λs ρ _ b=>⟨ρ x,by simp[ay,h,pure],b x,by simp[ay,h]⟩
theorem bH.assign{P:aq}{o:aw}{a:an->D}{σ:List aV}{x:an}(h:o.op=.assign x):bH P o a σ (a x) σ :=
 .quiet λs ρ _ b=>⟨ρ x,by simp[ay,h,pure],b x,by simp[ay,h]⟩
def fy{σ:List aV}{s:St}{v:ak}{c:C}(h:dc σ s v (.e (.one (.c c)))):Rd s.M v c:=h
def bH.pick{P:aq}{o:aw}{f:an->D}{σ:List aV}{c a b:an}(h:o.op=.pick c a b){t:Bool}(i:f c=.e (.one (.c (.bool t)))) :
  bH P o f σ (match t with|true=>f a|false=>f b) σ:=by
 refine .quiet λs ρ _ g=>?_
 have h1:=g c;rw[i] at h1;have h2:=fy h1;generalize d:ρ c=v at h2;cases h2;cases t
 .exact⟨ρ b,by simp[ay,h,d,asBool],g b,by simp[ay,h,d,asBool]⟩
 .exact⟨ρ a,by simp[ay,h,d,asBool],g a,by simp[ay,h,d,asBool]⟩
def Ki(op:BinOp)(k:IntKind) (x y:Int):Option (C×List Prop) :=
 match op with
 |.add=>aa (.int k (x+y),[bx k (x+y)])
 |.sub=>aa (.int k (x-y),[bx k (x-y)])
 |.mul=>aa (.int k (x*y),[bx k (x*y)])
 |.quo=>aa (.int k (x / y),[0<=x,0<y])
 |.rem=>aa (.int k (x % y),[0<=x,0<y])
 |.eql=>aa (.bool (x==y),[])
 |.neq=>aa (.bool (x != y),[])
 |.lss=>aa (.bool (decide (x<y)),[])
 |.leq=>aa (.bool (decide (x<=y)),[])
 |.gtr=>aa (.bool (decide (y<x)),[])
 |.geq=>aa (.bool (decide (y<=x)),[])
 |_=>af
def Kj(op:BinOp)(x y:List UInt8):Option (C×List Prop) :=
 match op with
 |.add=>aa (.str (x++y),[x.length+y.length<=9223372036854775807])
 |.eql=>aa (.bool (x==y),[])
 |.neq=>aa (.bool (!(x==y)),[])
 |.lss=>aa (.bool (bl x y),[])
 |.leq=>aa (.bool (bl x y||x==y),[])
 |.gtr=>aa (.bool (!(bl x y||x==y)),[])
 |.geq=>aa (.bool (!(bl x y)),[])
 |_=>af
def ag:List Prop->Prop
 |[]=>True
 |[p]=>p
 |p::q::r=>p/\ag (q::r)
def ag.cons{p:Prop}{r:List Prop}:ag (p::r)↔p/\ag r:=by cases r <;> simp[ag]
theorem mq{k:IntKind}{n:Int}(h:bx k n):k.wrap n=n:=by
 cases k <;> simp only[bx,IntKind.wrap,IntKind.bits,IntKind.signed] at h ⊢ <;> simp <;> (try split) <;> omega
def Kk{P:aq}{w:az}{op:BinOp}{k:IntKind}{x y:Int}{c:C}{obs:List Prop}(h:Ki op k x y=aa (c,obs))(a:ag obs)(g:bx k x)(l:bx k y)(t:ar)(M:Mem) :
  ∃ v,(binOp op t (.int k x) (.int k y)).run P w=.ok v w/\Rd M v c:=by
 cases op <;> simp only[Ki,di,k8,reduceCtorEq] at h
 case add=>obtain⟨rfl,rfl⟩:=h;exact⟨_,by simp only[binOp,cW,fu,cd,Op.intArith,mq a];rfl,.int a⟩
 case sub=>obtain⟨rfl,rfl⟩:=h;exact⟨_,by simp only[binOp,cW,fu,cd,Op.intArith,mq a];rfl,.int a⟩
 case mul=>obtain⟨rfl,rfl⟩:=h;exact⟨_,by simp only[binOp,cW,fu,cd,Op.intArith,mq a];rfl,.int a⟩
 case quo =>
  obtain⟨rfl,rfl⟩:=h;obtain⟨d,b⟩:=a
  replace b:0<y:=b
  have e:x.tdiv y=x / y:=Int.tdiv_eq_ediv_of_nonneg d;have f:bx k (x / y):=by
   have i:0<=x / y:=Int.ediv_nonneg d (by omega)
   have j:x / y<=x:=Int.ediv_le_self _ d;cases k <;> simp only[bx] at g ⊢ <;> omega
  exact⟨_,by simp only[binOp,cW,fu,cd,Op.intDiv,show y≠0 by omega,e,mq f];rfl,.int f⟩
 case rem =>
  obtain⟨rfl,rfl⟩:=h;obtain⟨d,b⟩:=a
  replace b:0<y:=b
  have e:x.tmod y=x % y:=Int.tmod_eq_emod_of_nonneg d;have f:bx k (x % y):=by
   have i:0<=x % y:=rn _ (by omega)
   have j:x % y<y:=ri _ b;cases k <;> simp only[bx] at l ⊢ <;> omega
  exact⟨_,by simp only[binOp,cW,fu,cd,Op.intDiv,show y≠0 by omega,e];rfl,.int f⟩
 all_goals (obtain⟨rfl,rfl⟩:=h;exact⟨_,by simp only[binOp,cW,fu,cd,Op.intCmp,gt_iff_lt,ge_iff_le];rfl,.bool⟩)
def Kl{P:aq}{w:az}{op:BinOp}{x y:ByteArray}{a b:List UInt8}{c:C}{obs:List Prop}(h:Kj op a b=aa (c,obs))(d:ag obs)(f:x.data.toList=a)(j:y.data.toList=b)(t:ar)(M:Mem) :
  ∃ v,(binOp op t (.string x) (.string y)).run P w=.ok v w/\Rd M v c:=by
 subst f j;cases op <;> simp only[Kj,di,k8,reduceCtorEq] at h
 case add =>
  obtain⟨rfl,rfl⟩:=h;have g:¬((x.size+y.size:Nat):Int)>IntKind.i64.max:=by
   have l:x.data.toList.length=x.size:=jg;have k:y.data.toList.length=y.size:=jg;have e:IntKind.i64.max=9223372036854775807:=rfl;have i:x.data.toList.length+y.data.toList.length<=9223372036854775807:=d
   grind
  refine⟨_,by simp only[binOp,Op.stringOp,g,cd];rfl,.str (by simp) (by simpa[ag] using d)⟩
 all_goals (obtain⟨rfl,rfl⟩:=h;exact⟨_,by simp only[binOp,Op.stringOp,ByteArray.toList_eq];rfl,.bool⟩)
def N6{P:aq}{w:az}{op:BinOp}{k:IntKind}{x y:Int}{c:C}{obs:List Prop}(h:Ki op k x y=aa (c,obs))(b:ag obs)(t:ar) :
  (binOp op t (.int k x) (.int k y)).events P w #[]=#[]:=by
 cases op <;> simp only[Ki,di,k8,reduceCtorEq] at h
 case quo =>
  obtain⟨rfl,rfl⟩:=h;obtain⟨d,a⟩:=b
  replace a:0<y:=a
  simp only[binOp,cW,fu,cd,Op.intDiv,show y≠0 by omega];rfl
 case rem =>
  obtain⟨rfl,rfl⟩:=h;obtain⟨d,a⟩:=b
  replace a:0<y:=a
  simp only[binOp,cW,fu,cd,Op.intDiv,show y≠0 by omega];rfl
 all_goals (simp only[binOp,cW,fu,cd,Op.intCmp,Op.intArith];rfl)
def N7{P:aq}{w:az}{op:BinOp}{x y:ByteArray}{a b:List UInt8}{c:C}{obs:List Prop}(h:Kj op a b=aa (c,obs))(g:ag obs)(d:x.data.toList=a)(j:y.data.toList=b)(t:ar) :
  (binOp op t (.string x) (.string y)).events P w #[]=#[]:=by
 subst d j;cases op <;> simp only[Kj,di,k8,reduceCtorEq] at h
 case add =>
  obtain⟨rfl,rfl⟩:=h;have f:¬((x.size+y.size:Nat):Int)>IntKind.i64.max:=by
   have l:x.data.toList.length=x.size:=jg;have k:y.data.toList.length=y.size:=jg;have e:IntKind.i64.max=9223372036854775807:=rfl;have i:x.data.toList.length+y.data.toList.length<=9223372036854775807:=g
   grind
  simp only[binOp,Op.stringOp,f,cd];rfl
 all_goals (simp only[binOp,Op.stringOp];rfl)
def He:IntKind->IntKind->Bool
 |.i8,.i8|.i16,.i16|.i32,.i32|.i64,.i64|.u8,.u8|.u16,.u16|.u32,.u32|.u64,.u64=>ab
 |_,_=>ae
def z9{k k':IntKind}(h:He k k'=ab):k=k':=by cases k <;> cases k' <;> first|rfl|(cases h;done)
def NG(op:BinOp):C->C->Option (C×List Prop)
 |.int k x,.int k' y=>cond (He k k') (Ki op k x y) af
 |.str a,.str b=>Kj op a b
 |_,_=>af
def gA{P:aq}(op:BinOp)(t:ar)(x y:an)(k k':IntKind) (n a:Int)(u:az):(eqGuard op t x y (.int k n) (.int k' a)).run P u=.ok () u:=by cases op <;> rfl
def tV{P:aq}(op:BinOp)(t:ar)(x y:an)(a b:ByteArray)(u:az):(eqGuard op t x y (.string a) (.string b)).run P u=.ok () u:=by cases op <;> rfl
def jK{P:aq}(op:BinOp)(t:ar)(x y:an)(k k':IntKind) (n a:Int)(u:az)(es:Array Event):(eqGuard op t x y (.int k n) (.int k' a)).events P u es=es:=by cases op <;> rfl
def wu{P:aq}(op:BinOp)(t:ar)(x y:an)(a b:ByteArray)(u:az)(es:Array Event):(eqGuard op t x y (.string a) (.string b)).events P u es=es:=by cases op <;> rfl
theorem bH.binOp{P:aq}{o:aw}{j:an->D}{σ:List aV}{op:BinOp}{t ty:ar}{x y:an}(h:o.op=.binOp op t x y ty){a b c:C}{obs:List Prop}
  (z:j x=.e (.one (.c a))) (hb:j y=.e (.one (.c b))) (g:NG op a b=aa (c,obs)) (i:ag obs):bH P o j σ (.e (.one (.c c))) σ:=by
 refine .quiet λs ρ _ u=>?_
 have h1:=u x;have h2:=u y;rw[z] at h1;rw[hb] at h2
 replace h1:=fy h1
 replace h2:=fy h2
 generalize f:ρ x=vx at h1;generalize d:ρ y=vy at h2;cases h1 <;> cases h2 <;> simp only[NG,reduceCtorEq] at g
 case int.int k n hn k' n' WZ =>
  cases r:He k k' <;> simp only[r,cond,reduceCtorEq] at g
  cases z9 r;obtain⟨v,m,p⟩:=Kk (P:=P) (w:=s.w) g i hn WZ t s.M;exact⟨v,by simp only[ay,h,bY,f,d,gA,b9,m,cY],p,by simp[ay,h,f,d,gA,jK,N6 g i]⟩
 case str.str =>
  rename_i A l q hl y' l' hy Bi
  obtain⟨v,m,p⟩:=Kl (P:=P) (w:=s.w) g i q hy t s.M;exact⟨v,by simp only[ay,h,bY,f,d,tV,b9,m,cY],p,by simp[ay,h,f,d,tV,wu,N7 g i q hy]⟩
def We(op:UnOp):C->Option C
 |.bool b=>match op with|.not=>aa (.bool (!b))|_=>af
 |_=>af
theorem bH.unOp{P:aq}{o:aw}{f:an->D}{σ:List aV}{op:UnOp}{t:ar}{x:an}(h:o.op=.unOp op t x){a c:C}
  (i:f x=.e (.one (.c a))) (d:We op a=aa c):bH P o f σ (.e (.one (.c c))) σ:=by
 refine .quiet λs ρ _ g=>?_
 have h1:=g x;rw[i] at h1
 replace h1:=fy h1
 generalize b:ρ x=vx at h1;cases h1 <;> simp only[We,reduceCtorEq] at d
 cases op <;> simp only[reduceCtorEq,di] at d
 subst d;exact⟨_,by simp only[ay,h,b,Op.unary,bY,cY,b9],Rd.bool,by simp[ay,h,b,Op.unary]⟩
theorem gJ.get{σ:List aV}{s:St}{vs:List ak}{xs:List E1}(r:gJ σ s vs xs){j:Nat}{x:E1}(h:xs[j]?=aa x):∃ v,vs[j]?=aa v/\mY σ s v x:=by
 induction vs generalizing xs j with
 |nil=>cases xs <;> simp_all [gJ]
 |cons v vs ih =>
  cases xs with
  |nil=>grind
  |cons b cs =>
   cases j with
   |zero=>simp at h;subst h;exact⟨v,rfl,r.1⟩
   |succ j=>simp at h;obtain⟨u,a,c⟩:=ih r.2 h;grind
theorem bH.extract{P:aq}{o:aw}{c:an->D}{σ:List aV}{x:an}{j:Nat}(h:o.op=.extract x j){xs:List E1}{e:E1}
  (k:c x=.eK xs) (d:xs[j]?=aa e):bH P o c σ (.e e) σ:=by
 refine .quiet λs ρ _ g=>?_
 have h1:=g x;rw[k] at h1;obtain⟨vs,f,i⟩:=h1;obtain⟨v,a,b⟩:=i.get d;refine⟨v,?_,b,?_⟩ <;> simp[ay,h,f,Instr.extract,a]
end
def zu (b o:Nat):Event:=⟨.cell ⟨b,o,af⟩,ae,ae⟩
def GW (b o:Nat):Event:=⟨.cell ⟨b,o,af⟩,ab,ae⟩
theorem dj (b o n:Nat):(⟨b,o,af⟩:Addr).add n=⟨b,o+n,af⟩:=by
  unfold Addr.add;split <;> simp_all
section
variable {P:aq}
def zx {w:az} {b o:Nat} {v:ak} (h:w.cell? ⟨b,o,af⟩=aa v) (es:Array Event):(load ⟨b,o,af⟩).events P w es=es.push (zu b o):=by
  rw[events_load,h];rfl
def nh {w:az} {b o:Nat}:∀ (n i:Nat) (acc:Array ak) (es:Array Event),(∀ j,j<n->∃ v,w.cell? ⟨b,o+(i+j),af⟩=aa v) ->
    ∀ e∈(loadCellsFrom ⟨b,o,af⟩ i n acc).events P w es,e∈es∨∃ j,j<i+n/\e=zu b (o+j)
  | 0,i,acc,es,_=>λe h=>.inl (by simpa[loadCellsFrom] using h)
  | n+1,i,acc,es,d=>λe h=>by
    obtain⟨v,a⟩:=d 0 (by omega)
    simp only[iO] at a;simp only[loadCellsFrom,aO,dj,run_load,a,aU,zx a] at h;rcases nh n (i+1) (acc.push v) _ (λj c=>by grind) e h with f|⟨j,c,rfl⟩
    · grind
    grind
def rz {w:az} {b o n:Nat} {es:Array Event} (h:∀ j,j<n->∃ v,w.cell? ⟨b,o+j,af⟩=aa v):∀ e∈(loadCells ⟨b,o,af⟩ n).events P w es,e∈es∨∃ j,j<n/\e=zu b (o+j):=by
  intro e a;have:=nh (P:=P) n 0 #[] es (by grind) e a
  grind
def eE {b o:Nat} {t:ar}:∀ (vs:List ak) (i:Nat) (a:Array ak) (w:az) (es:Array Event),w.heap[b]?=aa (.cells a t (0,0))->o+i+vs.length<=a.size->(∀ v∈vs,v.oneCell'=ab) ->
    ∀ e∈(storeCells ⟨b,o,af⟩ vs i).events P w es,e∈es∨∃ j,i<=j/\j<i+vs.length/\e=GW b (o+j)
  | [],_,_,_,_,_,_,_=>λe h=>.inl (by simpa[storeCells] using h)
  | v::rest,i,a,w,es,k,m,l=>λe h=>by
    have hi:o+i<a.size:=by grind
    have c:w.cell? ⟨b,o+i,af⟩=aa a[o+i]:=by simp[a9,k,hi]
    have d:w.frozen? ⟨b,o+i,af⟩=ae:=by simp[World.frozen?,k]
    have g:(store (⟨b,o+i,af⟩:Addr) v).run P w=.ok () (w.setRow b (a.setIfInBounds (o+i) v)):=by
      grind [run_store,setCell_eq_setRow]
    have f:(store (⟨b,o+i,af⟩:Addr) v).events P w es=es.push (GW b (o+i)):=by
      rw[events_store P w es _ v _ (l v (by simp)),c]
      simp only[d,jE,cd];rfl
    simp only[storeCells,aO,dj,g,f,aU] at h;rcases eE rest (i+1) (a.setIfInBounds (o+i) v) _ _ (setRow_heap _ _ _ _ _ _ k) (by grind) (λu q=>l u (by grind)) e h with p|⟨j,r,n,rfl⟩
    · grind
    grind
def cO {α:Type} (P:aq) (m:Sem α):Prop:=∀ w es,m.events P w es=es
def cO.bind {α β:Type} {m:Sem α} {f:α->Sem β} (h:cO P m) (k:∀ a,cO P (f a)):cO P (m >>= f):=by
  intro w es;rw[aO,h w es];cases m.run P w with
  | ok a w'=>exact k a w' es
  | halt x w'=>rfl
def cO.pure {α:Type} {a:α}:cO P (Pure.pure a:Sem α):=λ_ _=>rfl
def cO.stuck {α:Type} {a:String}:cO P (Go.stuck a:Sem α):=λ_ _=>rfl
def cO.unsupported {α:Type} {u:Unsupported}:cO P (Go.unsupported u:Sem α):=λ_ _=>rfl
def cO.sizeOf {t:ar}:cO P (sizeOf t):=λ_ _=>events_sizeOf ..
def cO.underlying {t:ar}:cO P (underlying t):=λ_ _=>events_underlying ..
def cO.zeroValue {t:ar}:cO P (zeroValue t):=λ_ _=>events_zeroValue ..
def cO.newObj {o:Obj}:cO P (newObj o):=λ_ _=>rfl
def cO.newRow {t:ar} {c:Array ak}:cO P (newRow t c):=.bind .newObj λ_=>.pure
def cO.PR {α β:Type} {f:α->Sem β} (h:∀ a,cO P (f a)):∀ l:List α,cO P (l.mapM f)
  | []=>by rw[List.mapM_nil];exact .pure
  | a::l=>by rw[lA];exact .bind (h a) λ_=>.bind (cO.PR h l) λ_=>.pure
def cO.map {α β:Type} {f:α->β} {m:Sem α} (h:cO P m):cO P (Functor.map f m):=λw es=>by rw[Sem.events_map];exact h w es
def cO.Ub {α β:Type} {f:α->Sem β} (h:∀ a,cO P (f a)) (l:Array α):cO P (l.mapM f):=by
  rw[qv];exact .map (.PR h _)
def cO.JH {α β:Type} {F:α->β->Sem (ForInStep β)} (h:∀ a b,cO P (F a b)):∀ (l:List α) (b:β),cO P (forIn l b F)
  | [],b=>by rw[List.forIn_nil];exact .pure
  | a::l,b=>by
    rw[List.forIn_cons];refine .bind (h a b) λr=>?_
    cases r with
    | done b=>exact .pure
    | yield b=>exact cO.JH h l b
theorem cO.build {t:ar} {parts:Array (Nat×ak)}:cO P (Instr.build t parts):=by
  unfold Instr.build;refine .bind .zeroValue λz=>.bind .underlying λd=>?_
  cases d <;> first
    | exact .stuck
    | (refine .bind (.Ub (λ_=>.bind .sizeOf λ_=>.pure) _) λpl=>?_
       split
       · exact .pure
       · exact .stuck)
    | (refine .bind .sizeOf λn=>?_
       split
       · exact .pure
       · exact .stuck)
theorem cO.buildSlice {t:ar} {n:Nat} {parts:Array (Nat×ak)}:cO P (Instr.buildSlice t n parts):=by
  unfold Instr.buildSlice;refine .bind .underlying λd=>?_
  cases d <;> first
    | exact .stuck
    | (refine .bind .sizeOf λm=>?_
       dsimp only
       have hj:∀ (elem:ar) (zero:Array ak),cO P (match Instr.fill (λi=>aa (i*m,m)) (Array.map (λx=>zero[x % zero.size]!) (Array.range (n*m))) parts.toList with
          | some cells=>do
            let a<-Go.newRow elem cells
            Pure.pure (Value.slice (aa a) n n)
          | _=>Go.stuck "buildSlice: a part of the wrong size"):=by
         intro elem zero;split
         · exact .bind .newRow λ_=>.pure
         · exact .stuck
       by_cases b:n*m=0
       · simp only[b,cu]
         rw[b] at hj;split
         · grind
         · exact .bind .pure λz=>hj _ z
       · simp only[b,cd]
         split
         · exact .bind .unsupported λ_=>.bind .zeroValue λz=>.bind .pure λz=>hj _ z
         · exact .bind .zeroValue λz=>.bind .pure λz=>hj _ z)
def rD {s:St} {b o:Nat} {L:Loc} (c:L∈s.β) (a:b∈L.bs):oE s (zu b o):=⟨rfl,rfl,.inr (.inl ⟨⟨L,c,a⟩,λh=>by cases h⟩)⟩
def Bm {s:St} {b o:Nat} {v:ak} (h:s.M b o=aa v):oE s (zu b o):=⟨rfl,rfl,.inr (.inr ⟨rfl,v,h⟩)⟩
theorem mn {s:St} {b o:Nat} {L:Loc} (d:L∈s.β) (c:b∈L.bs) (a:s.M b o=af):oE s (GW b o):=⟨rfl,rfl,.inr (.inl ⟨⟨L,d,c⟩,λ_=>a⟩)⟩
end
structure TI where
 size:Nat
 bytes:Nat
 agg:Bool
 desc:TypeDesc
 zero:List C
 eq:List TypeDesc:=[]
def qJ:TypeDesc->ak->ak->Option Bool
 |.int _,.int k a,.int k' b=>if k=k' then aa (a==b) else af
 |.string,.string a,.string b=>aa (a.toList==b.toList)
 |.bool,.bool a,.bool b=>aa (a==b)
 |_,_,_=>af
def jQ:List TypeDesc->List ak->List ak->Option Bool
 |[],[],[]=>aa ab
 |d::ds,v::vs,w::ws=>match qJ d v w with
  |some a=>match jQ ds vs ws with
   |some b=>aa (a&&b)
   |none=>af
  |none=>af
 |_,_,_=>af
def Km:TypeDesc->Bool
 |.struct _|.array _ _=>ab
 |_=>ae
structure bJ (P:aq)(t:ar)(i:TI):Prop where
 Te:P.underlying t=aa i.desc
 agg:Km i.desc=i.agg
 info:∃ inf z,P.info? t=aa inf/\inf.size=i.size/\inf.bytes=i.bytes/\inf.zero=aa z/\z.cells.toList.map qi=i.zero.map aa/\(∃ cs,z=if i.agg then .agg cs else z)/\i.zero.length=i.size
 eqs:i.eq≠[]->P.eqGuardType P.depth t=ae/\∀ (w:az) (vs ws:List ak) (b:Bool),jQ i.eq vs ws=aa b->(Op.equal t (.agg vs.toArray) (.agg ws.toArray)).run P w=.ok b w/\∀ es,(Op.equal t (.agg vs.toArray) (.agg ws.toArray)).events P w es=es
def bF:List (Nat×TI)->Nat->Option TI
 |[],_=>af
 |(i,d)::r,t=>cond (aG i t) (aa d) (bF r t)
def dg(P:aq)(T:List (Nat×TI)):Prop:=∀ t i,bF T t=aa i->bJ P t i
section
variable {P:aq}{w:az}{t:ar}{i:TI}
def bJ.run_underlying(h:bJ P t i):(underlying t).run P w=.ok i.desc w:=by
 simp[underlying,h.Te]
def bJ.ki(h:bJ P t i):(isAgg t).run P w=.ok i.agg w:=by
 have:=h.agg;unfold Go.isAgg;rw[bY,h.run_underlying];cases a:i.desc <;> rw[a] at this <;> simp[Km] at this <;> simp[this]
def bJ.run_sizeOf(h:bJ P t i):(sizeOf t).run P w=.ok i.size w:=by
 obtain⟨a,z,h1,h2,_⟩:=h.info;simp[sizeOf,typeInfo,h1,h2]
def kK{σ:List aV}{s:St}:∀ {vs:List ak}{cs:List C},vs.map qi=cs.map aa->dW σ s vs (cs.map A.c)
 |[],[],_=>trivial
 |[],_::_,h=>by grind
 |_::_,[],h=>by grind
 |v::vs,c::cs,h=>by
  simp only[rr,List.cons.injEq] at h;exact⟨Rd.qi h.1,kK h.2⟩
def bJ.B4(h:bJ P t i)(σ:List aV)(s:St):∃ z,(zeroValue t).run P w=.ok z w/\dW σ s z.cells.toList (i.zero.map A.c):=by
 obtain⟨d,z,h1,h2,e,a,b,_⟩:=h.info;exact⟨z,by simp[zeroValue,typeInfo,h1,a],kK b⟩
end
def mT:D->Option (List A)
 |.e (.one a)=>aa [a]
 |.e (.agg cs)=>aa cs
 |_=>af
theorem m6{σ:List aV}{s:St}{v:ak}{d:D}{cs:List A}(h:mT d=aa cs)(r:dc σ s v d):dW σ s v.cells.toList cs:=by
 cases d with
 |e x =>
  cases x with
  |one a =>
   cases h;have:=gx.cell r;cases v <;> first|exact⟨r,av⟩|cases this
  |agg c =>
   cases h;obtain⟨vs,rfl,b⟩:=r;simpa[Value.cells] using b
 |eK xs=>cases h
 |any=>cases h
def bH.newVar{P:aq}{o:aw}{a:an->D}{σ:List aV}{E:ar}{cs:List A}
  (h:∀ s ρ,aJ σ s->(∀ y,dc σ s (ρ y) (a y))->∃ v:ak,(ay ρ o).run P s.w=((do pure (.value (.pointer (aa (<-newVar E v))))):Sem Next).run P s.w/\dW σ s v.cells.toList cs/\(ay ρ o).events P s.w #[]=#[]) :
  bH P o a σ (.e (.one (.ptr σ.length 0))) (σ++[.cells E cs]):=by
 intro s ρ hh hr;obtain⟨v,h1,h2,b⟩:=h s ρ hh hr;refine⟨.value (.pointer (aa ⟨s.w.heap.size,0,af⟩)),s.fM E v.cells.toList,?_,?_,hh.fM h2,.fM s E _ _,by rw[b];exact .nil⟩
 .rw[h1];simp[Go.newVar,newRow,St.fM]
 .refine⟨by simp,⟨.pointer (aa ⟨s.w.heap.size,0,af⟩),[s.w.heap.size]⟩,s.w.heap.size,?_,rfl,rfl⟩
  simp[St.fM,<-hh.len]
theorem bH.alloc{P:aq}{T:List (Nat×TI)}(d:dg P T){o:aw}{f:an->D}{σ:List aV}{E:ar}(h:o.op=.alloc E){i:TI}(hi:bF T E=aa i) :
  bH P o f σ (.e (.one (.ptr σ.length 0))) (σ++[.cells E (i.zero.map A.c)]):=by
 refine .newVar λs ρ _ _=>?_
 obtain⟨z,a,b⟩:=(d E i hi).B4 (w:=s.w) σ s;exact⟨z,by simp[ay,h,Instr.alloc,a],b,by simp[ay,h,Instr.alloc,a,Go.newVar,newRow]⟩
theorem bH.box{P:aq}{o:aw}{a:an->D}{σ:List aV}{E:ar}{x:an}(h:o.op=.box E x){cs:List A}(b:mT (a x)=aa cs) :
  bH P o a σ (.e (.one (.ptr σ.length 0))) (σ++[.cells E cs]) :=
 .newVar λs ρ _ c=>⟨ρ x,by simp[ay,h,Instr.box],m6 b (c x),by simp[ay,h,Instr.box,Go.newVar,newRow]⟩
def ov{α:Type}:Nat->List α->Option (List α)
 |0,_=>aa []
 |n+1,x::xs=>match ov n xs with|some r=>aa (x::r)|none=>af
 |_+1,[]=>af
def m9{α:Type}:∀ {n:Nat}{l r:List α},ov n l=aa r->r=l.take n/\r.length=n
 |0,l,r,h=>by cases h;simp
 |n+1,[],r,h=>by simp[ov] at h
 |n+1,x::xs,r,h=>by
  simp only[ov] at h;cases a:ov n xs with
  |none=>grind
  |some q =>
   simp[a] at h;subst h;obtain⟨c,b⟩:=m9 a
   grind
def fw{α:Type}:Nat->List α->Option α
 |_,[]=>af
 |0,x::_=>aa x
 |n+1,_::xs=>fw n xs
theorem dz{α:Type}:∀ {n:Nat}{l:List α}{x:α},fw n l=aa x->l[n]?=aa x
 |_,[],_,h=>by simp[fw] at h
 |0,x::_,_,h=>by simpa[fw] using h
 |n+1,_::xs,_,h=>by simpa using dz (n:=n) (l:=xs) h
def hJ{α:Type}:Nat->List α->List α
 |0,l=>l
 |_+1,[]=>[]
 |n+1,_::xs=>hJ n xs
def nk{α:Type}:∀ (n:Nat)(l:List α),hJ n l=l.drop n
 |0,_=>by simp[hJ]
 |_+1,[]=>by simp[hJ]
 |n+1,_::xs=>by simp[hJ,nk n xs]
def m8(i:TI)(cs:List A):Option E1 :=
 match i.agg with
 |true=>match ov i.size cs with|some r=>aa (.agg r)|none=>af
 |false=>match fw 0 cs with|some a=>aa (.one a)|none=>af
def pe{P:aq}{σ:List aV}{s:St}{t:ar}{i:TI}(l:bJ P t i){b off:Nat}{vs:List ak}{cs:List A}{e:E1}
  (q:∀ (j:Nat) (v:ak),vs[j]?=aa v->s.w.cell? ⟨b,off+j,af⟩=aa v) (k:dW σ s vs cs) (d:m8 i cs=aa e) :
  ∃ v,(loadVar t ⟨b,off,af⟩).run P s.w=.ok v s.w/\mY σ s v e:=by
 simp only[loadVar,bY,l.ki,b9];cases p:i.agg <;> simp only[m8,p] at d
 .cases f:fw 0 cs with
  |none=>grind
  |some a =>
   simp[f] at d;subst d;obtain⟨v,x,h⟩:=k.get (dz f);refine⟨v,?_,h⟩
   grind [run_load]
 .cases f:ov i.size cs with
  |none=>grind
  |some r =>
   simp[f] at d;subst d;obtain⟨o,n⟩:=m9 f;have c:=k.take i.size;rw[<-o] at c;have m:(vs.take i.size).length=i.size:=by rw[c.length,n]
   have g:=run_loadCells_list (P:=P) s.w ⟨b,off,af⟩ (vs.take i.size) (λj v u=>by
    grind [dj])
   rw[m] at g;refine⟨.agg (vs.take i.size).toArray,?_,vs.take i.size,rfl,c⟩;simp[l.run_sizeOf,g]
def kl{P:aq}{w:az}{t:ar}{i:TI}(g:bJ P t i){b off n:Nat}(d:∀ j,j<n->∃ v,w.cell? ⟨b,off+j,af⟩=aa v)(c:(if i.agg then i.size else 1)<=n) :
  ∀ e∈(loadVar t ⟨b,off,af⟩).events P w #[],∃ j,j<n/\e=zu b (off+j):=by
 intro e a;simp only[loadVar,aO,g.ki,aU,events_isAgg] at a;cases k:i.agg
 .rw[k] at c a;obtain⟨v,f⟩:=d 0 (by grind)
  simp only[iO] at f;simp only[jE,cd,zx f] at a;rcases Array.mem_push.1 a with h|rfl
  .grind
  .exact⟨0,by grind,rfl⟩
 .rw[k] at c a;simp only[cu] at c;simp only[cu,aO,g.run_sizeOf,aU,events_sizeOf] at a;have key:∀ e∈(loadCells ⟨b,off,af⟩ i.size).events P w #[],∃ j,j<n/\e=zu b (off+j):=by
   intro e a;rcases rz (P:=P) (λj l=>d j (by omega)) e a with h|⟨j,l,rfl⟩
   .grind
   grind
  apply key
  generalize (loadCells ⟨b,off,af⟩ i.size).run P w=r at a;cases r with
  |ok v w'=>simpa using a
  |halt x w'=>simpa using a
theorem rL{i:TI}{cs:List A}{e:E1}(h:m8 i cs=aa e):(if i.agg then i.size else 1)<=cs.length:=by
 unfold m8 at h;cases b:i.agg <;> rw[b] at h
 .cases cs with
  |nil=>simp[fw] at h
  |cons c cs=>simp
 .simp only at h;cases a:ov i.size cs with
  |none=>grind
  |some r =>
   obtain⟨f,d⟩:=m9 a
   grind
theorem bH.FP{P:aq}{T:List (Nat×TI)}(y:dg P T){o:aw}{r:an->D}{σ:List aV}{t:ar}{x:an}(h:o.op=.load t x){l off:Nat}{E:ar}{cs:List A}{i:TI}{e:E1}
  (G:r x=.e (.one (.ptr l off))) (F:σ[l]?=aa (.cells E cs)) (hi:bF T t=aa i) (C:m8 i (hJ off cs)=aa e):bH P o r σ (.e e) σ:=by
 refine .nT λs ρ hh hr=>?_
 have h1:=hr x;rw[G] at h1;obtain⟨_,L,b,q,d,u⟩:=h1;obtain⟨m,vs,rfl,p,f,_⟩:=hh.box l _ L F q;simp at d;subst d;rw[nk] at C;obtain⟨v,g,k⟩:=pe (s:=s) (σ:=σ) (P:=P) (y t i hi) (b:=m) (off:=off) (vs:=vs.drop off) (cs:=cs.drop off) (e:=e) (λj v hj=>by
  simp only[a9,p]
  grind) (f.drop off) C
 refine⟨v,by simp[ay,h,u,Instr.loadAt,Instr.sureAddr,g],k,λz c=>?_⟩
 have a:z∈(loadVar t ⟨m,off,af⟩).events P s.w #[]:=by
  have e:ay ρ o=(do pure (.value (<-loadVar t ⟨m,off,af⟩))):=by simp[ay,h,u,Instr.loadAt,Instr.sureAddr]
  rw[e] at c;simpa[g] using c
 have B:(vs.drop off).length=(cs.drop off).length:=(f.drop off).length;obtain⟨j,hj,rfl⟩:=kl (y t i hi) (n:=(vs.drop off).length) (λj hj=>by
  refine⟨(vs.drop off)[j],?_⟩;simp only[a9,p];simp at hj ⊢ <;> omega) (by grind [rL]) z a
 exact rD (bU q) (by simp)
theorem bH.JP{P:aq}{T:List (Nat×TI)}(z:dg P T){o:aw}{u:an->D}{σ:List aV}{t:ar}{x:an}(h:o.op=.load t x){cs:List C}{i:TI}{e:E1}
  (F:u x=.e (.one (.c (.rp cs)))) (hi:bF T t=aa i) (E:m8 i (cs.map A.c)=aa e):bH P o u σ (.e e) σ:=by
 refine .nT λs ρ hh hr=>?_
 have h1:=hr x;rw[F] at h1;have h2:=fy h1;generalize m:ρ x=vx at h2;cases h2
 rename_i b off f q G
 have r:∀ (n:Nat) (ds:List C),(∀ j c,ds[j]?=aa c->Rd s.M (f (n+j)) c)->dW σ s ((bh ds.length).map λj=>f (n+j)) (ds.map A.c):=by
  intro n ds
  induction ds generalizing n with
  |nil=>intro _;trivial
  |cons d ds ih =>
   intro y;rw[fa,zl];refine⟨y 0 d rfl,?_⟩;have:=ih (n+1) (λj c hj=>by have:=y (j+1) c (by grind);grind)
   grind [Function.comp_def]
 obtain⟨v,l,p⟩:=pe (s:=s) (σ:=σ) (P:=P) (z t i hi) (b:=b) (off:=off) (vs:=(bh cs.length).map λj=>f (0+j)) (cs:=cs.map A.c) (e:=e) (λj v hj=>by
  simp only[nF,bt] at hj
  by_cases g:j<cs.length
  .simp[g] at hj;subst hj;exact hh.mem _ _ _ (q j cs[j] (br g))
  grind) (r 0 cs (by grind)) E
 refine⟨v,by simp[ay,h,m,Instr.loadAt,Instr.sureAddr,l],p,λB k=>?_⟩
 have a:B∈(loadVar t ⟨b,off,af⟩).events P s.w #[]:=by
  have e:ay ρ o=(do pure (.value (<-loadVar t ⟨b,off,af⟩))):=by simp[ay,h,m,Instr.loadAt,Instr.sureAddr]
  rw[e] at k;simpa[l] using k
 obtain⟨j,hj,rfl⟩:=kl (z t i hi) (n:=cs.length) (λj hj=>⟨f j,hh.mem _ _ _ (q j cs[j] (br hj))⟩) (by have:=rL E;grind) B a
 exact Bm (q j cs[j] (br hj))
def eX{α:Type}:Nat->List α->List α->Option (List α)
 |0,[],l=>aa l
 |0,n::ns,_::cs=>match eX 0 ns cs with|some r=>aa (n::r)|none=>af
 |k+1,ns,c::cs=>match eX k ns cs with|some r=>aa (c::r)|none=>af
 |_,_,[]=>af
def pZ{α:Type}:∀ {off:Nat}{new l r:List α},eX off new l=aa r->off+new.length<=l.length/\r=l.take off++new++l.drop (off+new.length)
 |0,[],l,r,h=>by cases l <;> cases h <;> simp
 |0,n::ns,c::cs,r,h=>by
  simp only[eX] at h;cases a:eX 0 ns cs with
  |none=>grind
  |some q =>
   simp[a] at h;subst h;obtain⟨d,b⟩:=pZ a
   grind
 |0,n::ns,[],r,h=>by simp[eX] at h
 |k+1,ns,c::cs,r,h=>by
  simp only[eX] at h;cases a:eX k ns cs with
  |none=>grind
  |some q =>
   simp[a] at h;subst h;obtain⟨d,b⟩:=pZ a
   grind
 |k+1,ns,[],r,h=>by simp[eX] at h
def dW.eX{σ:List aV}{s:St}{off:Nat}{vs new:List ak}{cs Rt r:List A}(h:AM.eX off Rt cs=aa r)(h1:dW σ s vs cs)(h2:dW σ s new Rt) :
  off+new.length<=vs.length/\dW σ s (vs.take off++new++vs.drop (off+new.length)) r:=by
 obtain⟨k1,rfl⟩:=pZ h;rw[h2.length,h1.length];refine⟨k1,((h1.take off).append h2).append (by have:=h1.drop (off+Rt.length);exact this)⟩
theorem bH.store{P:aq}{T:List (Nat×TI)}(G:dg P T){o:aw}{p:an->D}{σ:List aV}{t:ar}{x y:an}(h:o.op=.store t x y){l off:Nat}{E:ar}{cs new mc:List A}{i:TI}
  (J:p x=.e (.one (.ptr l off))) (B:σ[l]?=aa (.cells E cs)) (hi:bF T t=aa i) (M:mT (p y)=aa new) (hn:new.length=i.size) (K:eX off new cs=aa mc) :
  bH P o p σ .any (σ.set l (.cells E mc)):=by
 intro s ρ hh hr;have h1:=hr x;rw[J] at h1;obtain⟨_,L,b,u,k,C⟩:=h1;obtain⟨n,vs,rfl,z,q,g⟩:=hh.box l _ L B u;simp at k;subst k;have a:=m6 M (hr y);obtain⟨k1,H⟩:=dW.eX K q a;obtain⟨w1,w2⟩:=hh.write B u rfl H;refine⟨.skip,_,?_,rfl,w1,w2,?_⟩
 rotate_left
 .intro F c;have d:(ρ y).cells.size=i.size:=by rw[<-hn,<-a.length,jg]
  have e:ay ρ o=(do storeVar t ⟨n,off,af⟩ (ρ y);pure .skip):=by simp[ay,h,C,Instr.storeAt,Instr.sureAddr]
  rw[e] at c;have f:F∈(storeCells ⟨n,off,af⟩ (ρ y).cells.toList).events P s.w #[]:=by
   simp only[storeVar,aO,(G t i hi).run_sizeOf,d,aU,events_sizeOf,cW,fu,cd,bY,b9,Sem.events_pure] at c;generalize (storeCells ⟨n,off,af⟩ (ρ y).cells.toList).run P s.w=r at c;cases r with
   |ok v w'=>simpa using c
   |halt x w'=>simpa using c
  rcases eE (ρ y).cells.toList 0 vs.toArray s.w #[] z (by grind) a.cell F f with I|⟨j,_,_,rfl⟩
  .grind
  .exact mn (bU u) (by simp) (g _)
 have m:=run_storeCells_at P n off E (ρ y).cells.toList 0 vs.toArray s.w z (by grind) (a.cell)
 have d:(ρ y).cells.size=i.size:=by rw[<-hn,<-a.length,jg]
 simp only[iO] at m;simp[ay,h,C,Instr.storeAt,Instr.sureAddr,storeVar,(G t i hi).run_sizeOf,d,m]
def jM(T:List (Nat×TI))(t:ar)(f:Nat):Option (Nat×TI) :=
 match bF T t with
 |some i=>match i.desc with
  |.struct fs=>match fw f fs.toList with
   |some fl=>match bF T fl.type with
    |some j=>cond (aG j.size 0) af (aa (fl.offset,j))
    |none=>af
   |none=>af
  |_=>af
 |none=>af
def th{P:aq}{T:List (Nat×TI)}(b:dg P T){t:ar}{f off:Nat}{j:TI}(h:jM T t f=aa (off,j)) :
  ∃ i fs fl,bF T t=aa i/\i.desc=.struct fs/\fs[f]?=aa fl/\fl.offset=off/\bF T fl.type=aa j/\j.size≠0/\bJ P t i/\bJ P fl.type j:=by
 unfold jM at h;split at h
 .rename_i i hi
  split at h
  .rename_i fs WR
   split at h
   .rename_i fl hfl
    split at h
    .rename_i d c
     cases a:aG d.size 0 <;> simp[a] at h
     obtain⟨rfl,rfl⟩:=h;refine⟨i,fs,fl,hi,WR,by simpa using dz hfl,rfl,c,?_,b _ _ hi,b _ _ c⟩
     intro e;rw[e] at a;cases a
    grind
   grind
  grind
 grind
def mF{P:aq}{T:List (Nat×TI)}(e:dg P T){t:ar}{f off:Nat}{j:TI}(h:jM T t f=aa (off,j))(b o:Nat)(w:az) :
  (Instr.fieldAt t (.pointer (aa ⟨b,o,af⟩)) f).run P w=.ok (.pointer (aa ⟨b,o+off,af⟩)) w:=by
 obtain⟨i,fs,l,m,d,k,c,n,g,a,g2⟩:=th e h;simp[Instr.fieldAt,a.run_underlying,d,k,Instr.sureAddr,fieldPlace,g2.run_sizeOf,g,dj,c]
def n9{P:aq}{T:List (Nat×TI)}(d:dg P T){t:ar}{f off:Nat}{j:TI}(h:jM T t f=aa (off,j))(b o:Nat)(w:az)(es:Array Event) :
  (Instr.fieldAt t (.pointer (aa ⟨b,o,af⟩)) f).events P w es=es:=by
 obtain⟨i,fs,k,m,c,g,l,n,e,a,g2⟩:=th d h;simp[Instr.fieldAt,a.run_underlying,c,g,Instr.sureAddr,fieldPlace,g2.run_sizeOf,e]
def bH.rV{P:aq}{T:List (Nat×TI)}(i:dg P T){o:aw}{d:an->D}{σ:List aV}{t:ar}{x:an}{f:Nat}(h:o.op=.fieldAddr t x f){l off k:Nat}{j:TI}
  (m:d x=.e (.one (.ptr l off))) (c:jM T t f=aa (k,j)):bH P o d σ (.e (.one (.ptr l (off+k)))) σ:=by
 refine .quiet λs ρ hh hr=>?_
 have h1:=hr x;rw[m] at h1;obtain⟨hn,L,b,n,a,g⟩:=h1;exact⟨.pointer (aa ⟨b,off+k,af⟩),by simp[ay,h,g,mF i c],⟨hn,L,b,n,a,rfl⟩,by simp[ay,h,g,n9 i c]⟩
theorem bH.tQ{P:aq}{T:List (Nat×TI)}(i:dg P T){o:aw}{g:an->D}{σ:List aV}{t:ar}{x:an}{f:Nat}(h:o.op=.fieldAddr t x f){cs:List C}{k:Nat}{j:TI}
  (l:g x=.e (.one (.c (.rp cs)))) (d:jM T t f=aa (k,j)):bH P o g σ (.e (.one (.c (.rp (hJ k cs))))) σ:=by
 refine .quiet λs ρ hh hr=>?_
 have h1:=hr x;rw[l] at h1;have h2:=fy h1;generalize a:ρ x=vx at h2;cases h2
 rename_i b o n p m
 refine⟨.pointer (aa ⟨b,o+k,af⟩),by simp[ay,h,a,mF i d],?_,by simp[ay,h,a,n9 i d]⟩
 rw[nk];refine Rd.rp b (o+k) (λj=>n (k+j)) (λj c hj=>?_) (λj c hj=>?_)
 .grind
 grind
def Kn{σ:List aV}{s:St}{P:aq}{t:ar}{i:TI}(g:bJ P t i){vs:List ak}{cs:List A}(r:dW σ s vs cs){off:Nat}{e:E1}(b:m8 i (hJ off cs)=aa e)(w:az) :
  ∃ v,(part t vs.toArray off).run P w=.ok v w/\mY σ s v e/\∀ es,(part t vs.toArray off).events P w es=es:=by
 simp only[part,bY,g.ki,b9,aO,aU,events_isAgg];rw[nk] at b;cases k:i.agg <;> simp only[m8,k] at b
 .cases c:fw 0 (cs.drop off) with
  |none=>grind
  |some a =>
   simp[c] at b;subst b;obtain⟨v,h,f⟩:=(r.drop off).get (dz c);simp at h;refine⟨v,?_,f,λes=>?_⟩ <;> simp[h]
 .cases c:ov i.size (cs.drop off) with
  |none=>grind
  |some q =>
   simp[c] at b;subst b;obtain⟨j,l⟩:=m9 c;have d:=(r.drop off).take i.size;rw[<-j] at d;refine⟨.agg (vs.toArray.extract off (off+i.size)),by simp[g.run_sizeOf],⟨(vs.drop off).take i.size,?_,d⟩,λes=>by simp⟩
   simp
theorem bH.field{P:aq}{T:List (Nat×TI)}(u:dg P T){o:aw}{n:an->D}{σ:List aV}{t:ar}{x:an}{f:Nat}(h:o.op=.field t x f){cs:List A}{k:Nat}{j:TI}{e:E1}
  (q:n x=.e (.agg cs)) (r:jM T t f=aa (k,j)) (y:m8 j (hJ k cs)=aa e):bH P o n σ (.e e) σ:=by
 refine .quiet λs ρ hh hr=>?_
 have h1:=hr x;rw[q] at h1;obtain⟨vs,m,b⟩:=h1;obtain⟨i,fs,fl,h1,h2,p,g,B,z,l,g2⟩:=th u r;obtain⟨v,c,a,d⟩:=Kn g2 b y s.w;exact⟨v,by simp[ay,h,m,Instr.field,l.run_underlying,h2,p,asAgg,g,c],a,by simp[ay,h,m,Instr.field,l.run_underlying,h2,p,asAgg,g,d]⟩
theorem bH.tR{P:aq}{o:aw}{c:an->D}{σ:List aV}{x:an}(h:o.op=.nilCheck x){l off:Nat}(f:c x=.e (.one (.ptr l off))):bH P o c σ (.e (.one (.ptr l off))) σ:=by
 refine .quiet λs ρ hh hr=>?_
 have h1:=hr x;rw[f] at h1;have a:=h1;obtain⟨hn,L,b,i,g,d⟩:=h1;exact⟨ρ x,by simp[ay,h,d],a,by simp[ay,h,d]⟩
theorem bH.vU{P:aq}{o:aw}{b:an->D}{σ:List aV}{x:an}(h:o.op=.nilCheck x){cs:List C}(d:b x=.e (.one (.c (.rp cs)))):bH P o b σ (.e (.one (.c (.rp cs)))) σ:=by
 refine .quiet λs ρ hh hr=>?_
 have h1:=hr x;rw[d] at h1;have h2:=fy h1;generalize a:ρ x=vx at h2;cases h2;exact⟨_,by simp[ay,h,a];rfl,by grind,by simp[ay,h,a]⟩
def Hj(new:List ak):∀ (j off:Nat)(cs:Array ak),off+j+new.length<=cs.size ->
  ((new.zipIdx j).foldl (λcs (x:ak×Nat)=>cs.setIfInBounds (off+x.2) x.1) cs).toList=cs.toList.take (off+j)++new++cs.toList.drop (off+j+new.length):=by
 induction new with
 |nil=>intro j off cs _;simp
 |cons v vs ih =>
  intro j off cs h;simp only[List.zipIdx_cons,jk];rw[ih (j+1) off _ (by grind)]
  have:=list_seg_step cs.toList (off+j) v vs (by grind)
  simpa[Array.toList_setIfInBounds,uV] using this
def vr(place:Nat->Option (Nat×Nat)):List (Nat×List A)->List A->Option (List A)
 |[],cs=>aa cs
 |(i,new)::rest,cs=>match place i with
  |some (off,size)=>match aG new.length size with
   |true=>match eX off new cs with
    |some r=>vr place rest r
    |none=>af
   |false=>af
  |none=>af
def rE{σ:List aV}{s:St}{place place':Nat->Option (Nat×Nat)}(o:∀ i p,place i=aa p->place' i=aa p):∀ {parts:List (Nat×List A)}{vparts:List (Nat×ak)}{cs r:List A}{vs:Array ak},
  vr place parts cs=aa r->vparts.map (·.1)=parts.map (·.1)->(∀ (k:Nat) (p:Nat×List A) (q:Nat×ak),parts[k]?=aa p->vparts[k]?=aa q->dW σ s q.2.cells.toList p.2)->dW σ s vs.toList cs ->
  ∃ d,Instr.fill place' vs vparts=aa d/\dW σ s d.toList r
 |[],[],cs,r,vs,h,_,_,b=>by cases h;exact⟨vs,rfl,b⟩
 |[],_::_,cs,r,vs,h,a,_,b=>by grind
 |_::_,[],cs,r,vs,h,a,_,b=>by grind
 |(i,new)::rest,(f,v)::Uz,cs,r,vs,h,a,j,b=>by
  simp only[rr,List.cons.injEq] at a;obtain⟨rfl,a⟩:=a;simp only[vr] at h;cases c:place f with
  |none=>grind
  |some p =>
   obtain⟨off,size⟩:=p;simp only[c] at h;cases t:aG new.length size with
   |false=>grind
   |true =>
    simp only[t] at h;cases n:eX off new cs with
    |none=>grind
    |some q =>
     simp only[n] at h;have g:=j 0 (f,new) (f,v) rfl rfl;simp only at g;have y:=g.length;have m:new.length=size:=bX t;obtain⟨k1,z⟩:=dW.eX n b g;have B:=Hj v.cells.toList 0 off vs (by grind)
     have e:v.cells.size=size:=by grind
     have u:off+size<=vs.size:=by grind
     obtain⟨d,w,l⟩:=rE (σ:=σ) (s:=s) o (parts:=rest) (vparts:=Uz) (cs:=q) (r:=r)
      (vs:=v.cells.zipIdx.foldl (λcs (x:ak×Nat)=>cs.setIfInBounds (off+x.2) x.1) vs) h a (λk p q w l=>j (k+1) p q (by grind) (by grind)) (by
       grind [Array.toList_zipIdx])
     refine⟨d,?_,l⟩;simp only[Instr.fill,o _ _ c,e,cW,fu,kA,Bool.false_or,ba]
     grind
def p0(T:List (Nat×TI)):List Field->Option (List (Nat×Nat))
 |[]=>aa []
 |f::fs=>match bF T f.type with
  |some j=>match p0 T fs with
   |some r=>aa ((f.offset,j.size)::r)
   |none=>af
  |none=>af
def wv{P:aq}{T:List (Nat×TI)}(c:dg P T):∀ {fs:List Field}{r:List (Nat×Nat)},p0 T fs=aa r->fs.mapM (λf=>(P.info? f.type).map λi=>(f.offset,i.size))=aa r
 |[],r,h=>by cases h;simp
 |f::fs,r,h=>by
  simp only[p0] at h;cases a:bF T f.type with
  |none=>grind
  |some j =>
   cases b:p0 T fs with
   |none=>grind
   |some q =>
    simp[a,b] at h;subst h;obtain⟨g,z,e,d,_⟩:=(c _ _ a).info;simp[lA,e,d,wv c b]
def nV(a:an->D):List (Nat×an)->Option (List (Nat×List A))
 |[]=>aa []
 |(i,x)::r=>match mT (a x) with
  |some cs=>match nV a r with
   |some q=>aa ((i,cs)::q)
   |none=>af
  |none=>af
def pS{σ:List aV}{s:St}{ρ:an->ak}{a:an->D}(d:∀ y,dc σ s (ρ y) (a y)):∀ {l:List (Nat×an)}{q:List (Nat×List A)},nV a l=aa q ->
  (l.map λ(i,x)=>(i,ρ x)).map (·.1)=q.map (·.1)/\∀ (k:Nat) (p:Nat×List A) (u:Nat×ak),q[k]?=aa p->(l.map λ(i,x)=>(i,ρ x))[k]?=aa u->dW σ s u.2.cells.toList p.2
 |[],q,h=>by cases h;simp
 |(i,x)::r,q,h=>by
  simp only[nV] at h;cases c:mT (a x) with
  |none=>grind
  |some cs =>
   cases b:nV a r with
   |none=>grind
   |some q' =>
    simp[c,b] at h;subst h;obtain⟨f,e⟩:=pS d b
    grind [m6]
def zN(T:List (Nat×TI))(a:an->D)(t:ar)(parts:List (Nat×an)):Option (List A) :=
 match bF T t with
 |some i=>match i.desc with
  |.struct fs=>match p0 T fs.toList with
   |some pl=>match nV a parts with
    |some ps=>vr (λk=>fw k pl) ps (i.zero.map A.c)
    |none=>af
   |none=>af
  |_=>af
 |none=>af
theorem bH.build{P:aq}{T:List (Nat×TI)}(j:dg P T){o:aw}{g:an->D}{σ:List aV}{t:ar}{parts:Array (Nat×an)}(h:o.op=.build t parts){cs:List A}
  (b:zN T g t parts.toList=aa cs):bH P o g σ (.e (.agg cs)) σ:=by
 refine .quiet λs ρ hh hr=>?_
 unfold zN at b;cases hi:bF T t with
 |none=>grind
 |some i =>
  simp only[hi] at b;cases l:i.desc with
  |struct fs =>
   simp only[l] at b;cases d:p0 T fs.toList with
   |none=>grind
   |some pl =>
    simp only[d] at b;cases c:nV g parts.toList with
    |none=>grind
    |some ps =>
     simp only[c] at b;obtain⟨y,z,m,F,C,r,n,G,B⟩:=(j t i hi).info;obtain⟨u,p2⟩:=pS (σ:=σ) (s:=s) hr c;obtain⟨f,v,q⟩:=rE (σ:=σ) (s:=s) (place':=λk=>pl.toArray[k]?) (λk p E=>by grind [dz]) b u p2 (kK n)
     have hb:P.built t (parts.map λ(i,x)=>(i,ρ x)).toList=aa f:=by
      unfold Program.built;have a:=(j t i hi).Te;rw[l] at a;simp only[m,a,r,wv j d];simpa using v
     refine⟨.agg f,?_,⟨f.toList,by simp,q⟩,?_⟩
     .simp only[ay,h,bY,run_build s.w t _ f hb,b9,cY]
     .simp only[ay,h,aO,run_build s.w t _ f hb,aU,Sem.events_pure];exact cO.build s.w #[]
  |_=>grind
theorem Rz{k n i j:Nat}(hi:i<n)(b:j<k):i*k+j<n*k:=by
 have a:(i+1)*k<=n*k:=et k (by omega)
 rw[gR] at a;omega
theorem N8{k i j:Nat}(a:j<k):(i*k+j) / k=i:=by
 grind [Nat.mul_comm,Nat.mul_add_div,Nat.div_eq_of_lt]
theorem N9{k i j:Nat}(a:j<k):(i*k+j) % k=j:=by
 rw[nO,Nat.mul_add_mod,Nat.mod_eq_of_lt a]
def Flat.nil{M:Mem}{k:Nat}{es:Nat->List C}:Flat M k 0 es []:=⟨by simp,by omega,by omega⟩
def cR(n:Nat)(f g:Nat->List C):Nat->List C:=λi=>if i<n then f i else g (i-n)
def Flat.append{M:Mem}{k n m:Nat}{es es':Nat->List C}{vs vE:List ak}(h:Flat M k n es vs)(b:Flat M k m es' vE):Flat M k (n+m) (cR n es es') (vs++vE):=by
 refine⟨by simp[h.len,b.len,gR],λi hi=>?_,λi hi j c hj=>?_⟩
 .simp only[cR];split
  .rename_i a;exact h.width i a
  .exact b.width _ (by omega)
 .simp only[cR] at hj;split at hj
  .rename_i a
   obtain⟨v,h1,h2⟩:=h.rd i a j c hj
   grind
  .rename_i d
   obtain⟨v,h1,h2⟩:=b.rd _ (by omega) j c hj
   refine⟨v,?_,h2⟩;have e1:i*k+j=vs.length+((i-n)*k+j):=by
    rw[h.len,<-uV,<-gR,zr (by omega)]
   grind
def Flat.cell{M:Mem}{k n:Nat}{es:Nat->List C}{vs:List ak}(h:Flat M k n es vs):∀ v∈vs,v.oneCell'=ab:=by
 intro v b;obtain⟨p,a,rfl⟩:=dH b;rw[h.len] at a;have c:0<k:=by
  grind
 have hi:p / k<n:=pE (by rw[nO];exact a)
 have hj:p % k<k:=jG _ c;have d:=h.width _ hi;obtain⟨v,h1,h2⟩:=h.rd (p / k) hi (p % k) ((es (p / k))[p % k]'(by omega)) (br (by omega))
 have e:p / k*k+p % k=p:=pG p k;rw[e] at h1;rw[br (by rw[h.len];exact a)] at h1
 simp at h1;rw[h1];have:=Rd.cell h2;cases v <;> simp_all [cZ,Value.oneCell']
def Rd.flat{M:Mem}{v:ak}{t:Bool}{k n:Nat}{es:Nat->List C}(h:Rd M v (.sl t k n es)) :
  ∃ a cap vs,v=.slice a n cap/\n<=cap/\cap<=9223372036854775807/\(t=ab->cap=n)/\Flat M k n es vs/\∀ p u,vs[p]?=aa u->∃ b off,a=aa ⟨b,off,af⟩/\M b (off+p)=aa u:=by
 cases h with
 |@sl a _ cap _ _ _ b off f d hb ht hk ha hm hr =>
  refine⟨a,cap,(bh (n*k)).map λp=>f (p / k) (p % k),rfl,d,hb,ht,⟨by simp,hk,?_⟩,?_⟩
  .grind [Rz,N8,N9]
  .intro p u e;simp only[nF] at e
   by_cases c:p<n*k
   .simp[c] at e;subst e;have g:0<k:=by
     grind
    have hi:p / k<n:=pE (by rw[nO];exact c)
    have hj:p % k<k:=jG _ g;have i:=hk _ hi;have:=hm (p / k) hi (p % k) ((es (p / k))[p % k]'(by omega)) (br (by omega))
    refine⟨b,off,ha (Nat.lt_of_le_of_lt (gD _) hi),?_⟩
    grind [Nat.add_assoc,Nat.div_add_mod']
   .simp[c] at e
def Rd.qw{M:Mem}{k n:Nat}{es:Nat->List C}{vs:List ak}(h:Flat M k n es vs){a:Option Addr}{b off cap:Nat}{t:Bool}(e:0<n->a=aa ⟨b,off,af⟩)(d:n<=cap)(hb:cap<=9223372036854775807)(f:t=ab->cap=n)
  (g:∀ p u,vs[p]?=aa u->M b (off+p)=aa u):Rd M (.slice a n cap) (.sl t k n es):=by
 refine .sl b off (λi j=>(vs[i*k+j]?).getD aj) d hb f h.width e (λi hi j c hj=>?_) (λi hi j c hj=>?_)
 .obtain⟨v,h1,h2⟩:=h.rd i hi j c hj
  grind
 .obtain⟨v,h1,h2⟩:=h.rd i hi j c hj;rw[h1];exact h2
def dO{P:aq}{σ:List aV}{s:St}(i:aJ σ s){v:ak}{t:Bool}{k n:Nat}{es:Nat->List C}(h:Rd s.M v (.sl t k n es)) :
  ∃ vs,Flat s.M k n es vs/\(Builtin.firstCells k n v).run P s.w=.ok vs.toArray s.w/\Builtin.lenOf v=pure n:=by
 obtain⟨a,cap,vs,rfl,e,q,p,d,f⟩:=h.flat;refine⟨vs,d,?_,rfl⟩;have g:vs.length=n*k:=d.len;cases a with
 |none =>
  have:vs=[]:=by
   cases vs with
   |nil=>rfl
   |cons u o=>obtain⟨b,off,c,_⟩:=f 0 u rfl;cases c
  subst this;rfl
 |some ad =>
  simp only[Builtin.firstCells];rw[<-g];refine run_loadCells_list s.w ad vs λj u l=>?_
  obtain⟨b,off,c,m⟩:=f j u l;cases c;rw[dj];exact i.mem _ _ _ m
def bH.JN{P:aq}{T:List (Nat×TI)}(n:dg P T){o:aw}{f:an->D}{σ:List aV}{t:ar}{x y:an}(h:o.op=.index t x y){l:List UInt8}{j:Int}{k:IntKind}{i:TI}{m:Nat}(hi:bF T t=aa i)(g:i.desc=.string)
  (q:f x=.e (.one (.c (.str l)))) (r:f y=.e (.one (.c (.int k j)))) (hj:j=m) (v:m<l.length):bH P o f σ (.e (.one (.c (.int .u8 (l[m]).toNat)))) σ:=by
 refine .quiet λs ρ hh hr=>?_
 have h1:=hr x;have h2:=hr y;rw[q] at h1;rw[r] at h2
 replace h1:=fy h1
 replace h2:=fy h2
 generalize d:ρ x=vx at h1;generalize a:ρ y=vy at h2;cases h1 with
 |@str sb _ u hl =>
 cases h2;subst u;have p:sb[m]?=aa (sb.data.toList[m]):=by
  have hm':m<sb.size:=by have e:sb.data.toList.length=sb.size:=jg;omega
  rw[getElem?_pos sb m hm']
  congr 1
 refine⟨.int .u8 (sb.data.toList[m]).toNat,?_,Rd.int ?_,?_⟩
 rotate_left 2
 .have b:=(n t i hi).run_underlying (w:=s.w);rw[g] at b;simp[ay,h,d,a,Instr.index,asIntOf,b,hj,p]
 .have b:=(n t i hi).run_underlying (w:=s.w);rw[g] at b;simp[ay,h,d,a,Instr.index,asIntOf,b,hj,p]
 .have:=(sb.data.toList[m]).toNat_lt;simp only[bx];omega
def bH.indexAddr{P:aq}{T:List (Nat×TI)}(B:dg P T){o:aw}{r:an->D}{σ:List aV}{t:ar}{x y:an}(h:o.op=.indexAddr t x y){i g:TI}{E:ar}(hi:bF T t=aa i)(H:i.desc=.slice E)(I:bF T E=aa g)
  {tt:Bool} {n:Nat} {es:Nat->List C} {j:Int} {k:IntKind} {m:Nat} (G:∀ s v,dc σ s v (r x)->Rd s.M v (.sl tt g.size n es)) (J:r y=.e (.one (.c (.int k j)))) (hj:j=m) (d:m<n) :
  bH P o r σ (.e (.one (.c (.rp (es m))))) σ:=by
 refine .quiet λs ρ hh hr=>?_
 have h1:=G s _ (hr x);have h2:=hr y;rw[J] at h2
 replace h2:=fy h2
 generalize z:ρ x=vx at h1;generalize u:ρ y=vy at h2;cases h2;cases h1 with
 |@sl a _ cap _ _ _ b off f A hb ht hk ha hm' PK =>
 have l:0<n:=by omega
 have F:=(B t i hi).run_underlying (w:=s.w);rw[H] at F;refine⟨.pointer (aa ⟨b,off+m*g.size,af⟩),?_,Rd.rp b (off+m*g.size) (f m) (λq c p=>hm' m d q c p) (λq c p=>PK m d q c p),?_⟩ <;>
 simp[ay,h,z,u,Instr.indexAt,asIntOf,F,hj,ha l,(B E g I).run_sizeOf,dj,d]
def bH.Ud{P:aq}{T:List (Nat×TI)}(r:dg P T){o:aw}{g:an->D}{σ:List aV}{x:an}{b:Array ar}{t:ar}(h:o.op=.call { callee:=.builtin .len,args:=#[x],argTypes:=b })(p:b[0]?=aa t){i:TI}{E:ar}(hi:bF T t=aa i)(q:i.desc=.slice E)
  {tt:Bool} {k n:Nat} {es:Nat->List C} (l:∀ s v,dc σ s v (g x)->Rd s.M v (.sl tt k n es)):bH P o g σ (.e (.one (.c (.int .i64 n)))) σ:=by
 refine .quiet λs ρ hh hr=>?_
 obtain⟨a,cap,vs,m,f,hb,_⟩:=(l s _ (hr x)).flat;have j:=(r t i hi).run_underlying (w:=s.w);rw[q] at j;have d:b[0]?=aa t:=p;refine⟨.int .i64 n,?_,Rd.int (by simp only[bx];omega),?_⟩ <;>
 simp[ay,h,resolve,invoke,builtin,Builtin.len_,m,j,goInt,d]
theorem bH.Q1{P:aq}{T:List (Nat×TI)}(p:dg P T){o:aw}{g:an->D}{σ:List aV}{x:an}{a:Array ar}{t:ar}(h:o.op=.call { callee:=.builtin .len,args:=#[x],argTypes:=a })(m:a[0]?=aa t){i:TI}(hi:bF T t=aa i)(n:i.desc=.string)
  {l:List UInt8} (k:g x=.e (.one (.c (.str l)))):bH P o g σ (.e (.one (.c (.int .i64 l.length)))) σ:=by
 refine .quiet λs ρ hh hr=>?_
 have h1:=hr x;rw[k] at h1
 replace h1:=fy h1
 generalize d:ρ x=vx at h1;cases h1 with
 |@str sb _ q hl =>
 have j:=(p t i hi).run_underlying (w:=s.w);rw[n] at j;have f:a[0]?=aa t:=m;have b:sb.size=l.length:=by rw[<-q];exact jg.symm
 refine⟨.int .i64 l.length,?_,Rd.int (by simp only[bx];omega),?_⟩ <;>
 simp[ay,h,resolve,invoke,builtin,Builtin.len_,d,j,goInt,f,b]
def St.newRow(s:St)(E:ar)(vs:List ak):St :=
 { β:=s.β,M:=λb o=>if b=s.w.heap.size then vs[o]? else s.M b o,w:=s.w.alloc (.cells vs.toArray E),own:=s.own }
def aJ.newRow{σ:List aV}{s:St}(h:aJ σ s)(E:ar)(vs:List ak):aJ σ (s.newRow E vs)/\Step σ s σ (s.newRow E vs):=by
 refine h.grow (by simp) (λb hb=>cK _ _ hb) (λb hb o=>by grind) (λb hb o v a=>?_) rfl rfl rfl
 by_cases e:b=s.w.heap.size
 .subst e;simp at a;show a9 (s.w.alloc (.cells vs.toArray E)) ⟨s.w.heap.size,o,af⟩=aa v;unfold a9
  grind [dx]
 .simp only[e,cd] at a;have:=h.block a;omega
def Hk(s:St)(E:ar)(vs:List ak):∀ p u,vs[p]?=aa u->(s.newRow E vs).M s.w.heap.size (0+p)=aa u:=by
 intro p u h;simpa[St.newRow] using h
def gn:List A->Option (List C)
 |[]=>aa []
 |.c c::r=>match gn r with|some q=>aa (c::q)|none=>af
 |.vec _ k n es::r=>match gn r with|some q=>aa (.sl ae k n es::q)|none=>af
 |_::_=>af
def kn{σ:List aV}{s:St}:∀ {cs:List A}{r:List C}{vs:List ak},gn cs=aa r->dW σ s vs cs->dW σ s vs (r.map A.c)
 |[],r,vs,h,a=>by cases h;exact a
 |_::_,_,[],_,a=>a.elim
 |.c c::al,r,v::vs,h,a=>by
  simp only[gn] at h;cases b:gn al with
  |none=>grind
  |some q=>simp[b] at h;subst h;exact⟨a.1,kn b a.2⟩
 |.vec l k n es::al,r,v::vs,h,a=>by
  simp only[gn] at h;cases b:gn al with
  |none=>grind
  |some q=>simp[b] at h;subst h;exact⟨a.1.1,kn b a.2⟩
 |.ptr l o::al,r,v::vs,h,a=>by simp[gn] at h
 |.ref l::al,r,v::vs,h,a=>by simp[gn] at h
 |.bp l w::al,r,v::vs,h,a=>by simp[gn] at h
 |.any::al,r,v::vs,h,a=>by simp[gn] at h
def qz{α:Type}(k:Nat):Nat->List α->Option (List (List α))
 |0,[]=>aa []
 |0,_::_=>af
 |n+1,l=>match ov k l with
  |some c=>match qz k n (hJ k l) with
   |some r=>aa (c::r)
   |none=>af
  |none=>af
def dW.closed{σ:List aV}{s:St}:∀ {vs:List ak}{cs:List C},dW σ s vs (cs.map A.c)->∀ (j:Nat)(c:C),cs[j]?=aa c->∃ v,vs[j]?=aa v/\Rd s.M v c:=by
 intro vs cs h j c hj;obtain⟨v,h1,h2⟩:=h.get (j:=j) (a:=.c c) (by grind)
 exact⟨v,h1,h2⟩
def sU{M:Mem}{k:Nat}:∀ {n:Nat}{cs:List C}{es:List (List C)}{vs:List ak},qz k n cs=aa es->vs.length=cs.length->(∀ (j:Nat)(c:C),cs[j]?=aa c->∃ v,vs[j]?=aa v/\Rd M v c)->es.length=n/\Flat M k n (λi=>es.getD i []) vs
 |0,[],es,vs,h,a,d=>by cases h;simp at a;subst a;exact⟨rfl,.nil⟩
 |0,_::_,es,vs,h,a,d=>by cases h
 |n+1,cs,es,vs,h,a,d=>by
  simp only[qz] at h;cases f:ov k cs with
  |none=>grind
  |some c =>
   simp only[f] at h;cases b:qz k n (hJ k cs) with
   |none=>grind
   |some q =>
    simp[b] at h;subst h;obtain⟨m,g⟩:=m9 f;rw[nk] at b;obtain⟨s,p⟩:=sU (vs:=vs.drop k) b (by grind) (λj c l=>by
     obtain⟨v,m,g⟩:=d (k+j) c (by grind)
     exact⟨v,by grind,g⟩)
    refine⟨by grind,?_⟩
    have r:k<=cs.length:=by grind
    have o:Flat M k 1 (λ_=>c) (vs.take k):=by
     refine⟨by grind,by grind,λi hi j x l=>?_⟩
     grind
    have:=o.append p;rw[Nat.add_comm 1 n] at this;have e:cR 1 (λ_=>c) (λi=>q.getD i [])=λi=>(c::q).getD i []:=by
     funext i
     cases i <;> simp[cR]
    rw[e] at this;simpa using this
def DK(T:List (Nat×TI))(a:an->D)(t:ar)(n:Nat)(parts:List (Nat×an)):Option (Nat×List (List C)) :=
 match bF T t with
 |some i=>match i.desc with
  |.slice E=>match bF T E with
   |some ie=>match aG ie.size 0 with
    |true=>af
    |false=>match bo (n*ie.size) 16777216 with
     |true=>match nV a parts with
      |some ps=>match vr (λk=>aa (k*ie.size,ie.size)) ps (List.replicate (n*ie.size) A.any) with
       |some cs=>match gn cs with
        |some r=>match qz ie.size n r with
         |some es=>aa (ie.size,es)
         |none=>af
        |none=>af
       |none=>af
      |none=>af
     |false=>af
   |none=>af
  |_=>af
 |none=>af
theorem bH.buildSlice{P:aq}{T:List (Nat×TI)}(L:dg P T){o:aw}{Q:an->D}{σ:List aV}{t:ar}{n:Nat}{parts:Array (Nat×an)}(h:o.op=.buildSlice t n parts){k:Nat}{es:List (List C)}
  (a:DK T Q t n parts.toList=aa (k,es)):bH P o Q σ (.e (.one (.c (.sl ab k n λi=>es.getD i [])))) σ:=by
 intro s ρ hh hr;unfold DK at a;cases hi:bF T t with
 |none=>grind
 |some i =>
  simp only[hi] at a;cases V:i.desc with
  |slice E =>
   simp only[V] at a;cases K:bF T E with
   |none=>grind
   |some ie =>
    simp only[K] at a;cases U:aG ie.size 0 with
    |true=>grind
    |false =>
     simp only[U] at a;cases j:bo (n*ie.size) 16777216 with
     |false=>grind
     |true =>
      simp only[j] at a;cases g:nV Q parts.toList with
      |none=>grind
      |some ps =>
       simp only[g] at a;cases B:vr (λk=>aa (k*ie.size,ie.size)) ps (List.replicate (n*ie.size) A.any) with
       |none=>grind
       |some cs =>
        simp only[B] at a;cases y:gn cs with
        |none=>grind
        |some r =>
         simp only[y] at a;cases H:qz ie.size n r with
         |none=>grind
         |some es' =>
          simp only[H,di,k8] at a;obtain⟨rfl,rfl⟩:=a;have Z:ie.size≠0:=λe=>by rw[e] at U;cases U
          have X:=db j;obtain⟨inf,z,Y,z2,z3,z4,W,z6,z7⟩:=(L E ie K).info;have hzs:z.cells.size=ie.size:=by
           have:=du List.length W
           grind
          have ZJ:∀ v∈z.cells.toList,cZ v=ab:=by
           intro v J;have d:qi v∈z.cells.toList.map qi:=lB.2 ⟨v,J,rfl⟩;rw[W] at d;obtain⟨c,_,hc⟩:=lB.1 d;exact(Rd.qi (M:=s.M) hc.symm).cell
          have l:∀ m,(∀ v∈(bh m).map (λq=>z.cells[q % z.cells.size]!),cZ v=ab):=by
           grind [Nat.mod_lt]
          have G:∀ vs:List ak,(∀ v∈vs,cZ v=ab)->dW σ s vs (List.replicate vs.length A.any):=by
           intro vs
           induction vs with
           |nil=>intro _;trivial
           |cons v vs ih=>intro J;exact⟨J v (by simp),ih λu N=>J u (by grind)⟩
          obtain⟨p1,p2⟩:=pS (σ:=σ) (s:=s) hr g;have R:dW σ s ((Array.range (n*ie.size)).map (λq=>z.cells[q % z.cells.size]!)).toList (List.replicate (n*ie.size) A.any):=by
           have:=G _ (l (n*ie.size));simpa using this
          obtain⟨F,u1,u2⟩:=rE (σ:=σ) (s:=s) (place':=λk=>aa (k*ie.size,ie.size)) (λk p hk=>hk) B p1 p2 R
          have u3:=kn y u2;obtain⟨c1,c2⟩:=sU (M:=s.M) (vs:=F.toList) H (by simpa using u3.length) u3.closed
          obtain⟨g1,g2⟩:=hh.newRow E F.toList;refine⟨.value (.slice (aa ⟨s.w.heap.size,0,af⟩) n n),s.newRow E F.toList,?_,?_,g1,g2,?_⟩
          rotate_left 2
          .have e:(ay ρ o).events P s.w #[]=#[]:=by
            simp only[ay,h];exact cO.bind cO.buildSlice (λ_=>cO.pure) _ _
           rw[e];exact .nil
          .have N:=(L t i hi).run_underlying (w:=s.w);rw[V] at N;have O:(zeroValue E).run P s.w=.ok z s.w:=by simp[zeroValue,typeInfo,Y,z4]
           have f:Instr.fill (λk=>aa (k*ie.size,ie.size)) ((Array.range (n*ie.size)).map (λq=>z.cells[q % z.cells.size]!)) (parts.map λ(i,x)=>(i,ρ x)).toList=aa F:=by simpa using u1
           by_cases h0:n*ie.size=0
           .have S:n=0:=by grind [Nat.mul_eq_zero]
            subst S;have I:Array.range 0=#[]:=rfl;simp[I] at f;simp[ay,h,Instr.buildSlice,N,(L E ie K).run_sizeOf,I,f,Go.newRow,St.newRow]
           .rw[show ay ρ o=(do pure (.value (<-Instr.buildSlice t n (parts.map λ(i,x)=>(i,ρ x))))) by simp[ay,h]]
            simp only[Instr.buildSlice,bY,N,b9,(L E ie K).run_sizeOf,h0,cd,O,show ¬n*ie.size>2 ^ 24 by omega,pL,f,cY]
            simp[Go.newRow,St.newRow]
          .refine Rd.qw (c2.mono g2.mem) (b:=s.w.heap.size) (off:=0) (λ_=>rfl) (bg _) ?_ (λ_=>rfl) (Hk s E F.toList)
           have:n<=n*ie.size:=qY n (by omega)
           omega
  |_=>grind
def Ext.trans{σ σ1 σ2:List aV}{s a s2:St}(h:Ext σ s σ1 a)(k:Ext σ1 a σ2 s2):Ext σ s σ2 s2:=by
 refine⟨λb o v j=>k.mem _ _ _ (h.mem _ _ _ j),λl B L c f=>?_⟩
 obtain⟨B1,L1,h1,h2,m⟩:=h.box l B L c f;obtain⟨r,n,k1,e,p⟩:=k.box l B1 L1 h1 h2;exact⟨r,n,k1,e,m.trans p⟩
def fT{α:Type}{l:List α}{x y:α}{i:Nat}(h:(l++[x])[i]?=aa y):l[i]?=aa y∨(i=l.length/\y=x):=by
 grind
def aJ.gT{σ:List aV}{s a:St}(h1:aJ σ a)(st:Step σ s σ a)(n:a.β=s.β)(hh:aJ σ s){B:aV}{L:Loc}(p:eP (σ++[B]) { a with β:=a.β++[L] } B L)
  (f:∀ b∈L.bs,s.w.heap.size<=b/\b<a.w.heap.size):aJ (σ++[B]) { a with β:=a.β++[L] }/\Step σ s (σ++[B]) { a with β:=a.β++[L] }:=by
 have ex:Ext σ a (σ++[B]) { a with β:=a.β++[L] }:=by
  refine⟨λ_ _ _ h=>h,λl B' L' nD gw=>?_⟩
  have hl:l<a.β.length:=(cr.1 gw).1;have o:l<σ.length:=(cr.1 nD).1;exact⟨B',L',by grind,by grind,.refl _ _⟩
 have e2:=st.ext.trans ex;refine⟨⟨h1.mem,by simp[h1.len],?_,?_,?_,?_⟩,⟨st.size,st.eN,st.mem,st.jz,?_,e2.box,st.os,st.tape,st.output,st.own⟩⟩
 .intro l B' L' nD gw;rcases fT nD with j|⟨rfl,rfl⟩
  .have hl:l<a.β.length:=by rw[h1.len];grind
   rw[jD hl] at gw;exact(h1.box l B' L' j gw).carry ex h1.len λ_ _=>⟨rfl,λ_=>rfl⟩
  .rcases fT gw with c|⟨_,rfl⟩
   .have:=(cr.1 c).1;rw[h1.len] at this;omega
   grind
 .intro l l' L1 L2 c k b hb oS;rcases fT c with k1|⟨rfl,rfl⟩ <;> rcases fT k with m|⟨rfl,rfl⟩
  .exact h1.gg l l' L1 L2 k1 m b hb oS
  .have a1:=f b oS;have a2:=hh.lt L1 (by grind) b hb
   omega
  .have a1:=f b hb;have a2:=hh.lt L2 (by grind) b oS
   omega
  .rfl
 .intro L' gw b hb;simp only[gC,kY] at gw;rcases gw with gw|rfl
  .exact h1.lt L' gw b hb
  grind
 .intro b hb;refine⟨(h1.own b hb).1,λL' gw QF=>?_⟩
  simp only[gC,kY] at gw;rcases gw with gw|rfl
  .exact(h1.own b hb).2 L' gw QF
  .have e:=st.own;simp only at hb;rw[e] at hb;have:=(hh.own b hb).1
   grind
 grind
def aJ.iP{σ:List aV}{s:St}{M':Mem}{w':az}(hh:aJ σ s){l:Nat}{B B':aV}{L L':Loc}(n:σ[l]?=aa B)(k:s.β[l]?=aa L)(J:ij B L B' L')
  (r:s.w.heap.size<=w'.heap.size) (R:∀ b,b<s.w.heap.size->b∉L.bs->w'.heap[b]?=s.w.heap[b]?) (Q:∀ b,b<s.w.heap.size->b∉L.bs->∀ o,M' b o=s.M b o)
  (j:∀ b o v,s.M b o=aa v->M' b o=aa v) (I:∀ b o v,M' b o=aa v->w'.cell? ⟨b,o,af⟩=aa v)
  (G:∀ b∈L'.bs,(b∈L.bs∨s.w.heap.size<=b)/\b<w'.heap.size)
  (D:w'.os=s.w.os) (F:w'.tape=s.w.tape) (H:w'.output=s.w.output)
  (N:eP (σ.set l B') ⟨s.β.set l L',M',w',s.own⟩ B' L'):aJ (σ.set l B') ⟨s.β.set l L',M',w',s.own⟩/\Step σ s (σ.set l B') ⟨s.β.set l L',M',w',s.own⟩:=by
 have C:l<σ.length:=(cr.1 n).1;have z:l<s.β.length:=(cr.1 k).1;have a:∀ i X,(s.β.set l L')[i]?=aa X->(i=l/\X=L')∨(i≠l/\s.β[i]?=aa X):=by
  grind
 have ex:Ext σ s (σ.set l B') ⟨s.β.set l L',M',w',s.own⟩:=by
  refine⟨j,λi X Y c m=>?_⟩
  by_cases e:l=i
  .grind
  .exact⟨X,Y,by grind,by grind,.refl _ _⟩
 have out:∀ i X,i≠l->s.β[i]?=aa X->∀ b∈X.bs,b<s.w.heap.size/\b∉L.bs:=by
  intro i X hi c b hb;exact⟨hh.lt X (bU c) b hb,λp=>hi (hh.gg i l X L c k b hb p)⟩
 refine⟨⟨I,by simp[hh.len],?_,?_,?_,?_⟩,⟨r,?_,j,?_,?_,ex.box,D,F,H,rfl⟩⟩
 .intro i X Y c m;rcases a i Y m with⟨rfl,rfl⟩|⟨hi,m⟩
  .grind
  .rw[iL (λe=>hi e.symm)] at c
   refine(hh.box i X Y c m).carry ex hh.len λb hb=>?_
   grind
 .intro i A X y c f b hb oS;rcases a i X c with⟨rfl,rfl⟩|⟨hi,x⟩ <;> rcases a A y f with⟨rfl,rfl⟩|⟨u,h⟩
  .rfl
  .grind
  .grind
  .exact hh.gg i A X y x h b hb oS
 .intro X c b hb;obtain⟨i,hi,rfl⟩:=dH c;rcases a i _ (br hi) with⟨rfl,e⟩|⟨u,f⟩
  .grind
  grind
 .intro b hb;obtain⟨K,O⟩:=hh.own b hb
  grind
 .grind
 .grind
 grind
def ry{a old bytes:Nat}(h:old<a)(b:a*bytes<=140737488355328):¬Builtin.nextslicecap a old*bytes>2 ^ 48:=by
 have:=growslice_fits h b;omega
section
variable {P:aq}{T:List (Nat×TI)}(q:dg P T){σ:List aV}{s:St}{t g ty E:ar}{i i2 d:TI}
def jc(hi:bJ P t i)(v:i.desc=.slice E)(f:bJ P g i2)(h:i2.desc=.slice E)(y:bJ P E d)(r:aJ σ s)
  {a:Option Addr} {n cap:Nat} (b:n<=cap) {x:ak} {tx:Bool} {es':Nat->List C} (k:Rd s.M x (.sl tx d.size 0 es')) :
  (Builtin.append_ #[t,g] ty #[.slice a n cap,x]).run P s.w=.ok (.slice a n cap) s.w:=by
 obtain⟨c,p,u,o⟩:=dO (P:=P) r k;have m:=hi.run_underlying (w:=s.w);have e:=f.run_underlying (w:=s.w);rw[v] at m;rw[h] at e;obtain⟨a',l,vs,rfl,_⟩:=k.flat;have j:c=[]:=hZ (by simpa using p.len)
 subst j;cases a <;> simp[Builtin.append_,m,e,y.run_sizeOf,Builtin.lenOf,b,u,storeCells]
def im(hi:bJ P t i)(U:i.desc=.slice E)(F:bJ P g i2)(G:i2.desc=.slice E)(N:bJ P E d)(R:aJ σ s)
  {a:Option Addr} {n cap m:Nat} {td tx:Bool} {es es':Nat->List C} {x:ak} (hv:Rd s.M (.slice a n cap) (.sl td d.size n es)) (Y:Rd s.M x (.sl tx d.size m es')) (V:cap<n+m) (L:(n+m)*d.bytes<=140737488355328) (D:d.bytes≠0) :
  ∃ vs zs Nm,Flat s.M d.size (n+m) (cR n es es') vs/\n+m<=Nm/\Nm<=9223372036854775807/\(vs++zs).length=Nm*d.size /\
   (Builtin.append_ #[t,g] ty #[.slice a n cap,x]).run P s.w=.ok (.slice (aa ⟨s.w.heap.size,0,af⟩) (n+m) Nm) (s.w.drew.alloc (.cells (vs++zs).toArray E)):=by
 have j:aJ σ { s with w:=s.w.drew }:=R.same rfl;obtain⟨c,O,J,p⟩:=dO (P:=P) j (v:=x) Y;obtain⟨b,l,h,S⟩:=dO (P:=P) j (v:=.slice a n cap) hv;have Q:=hi.run_underlying (w:=s.w);have k:=F.run_underlying (w:=s.w);rw[U] at Q;rw[G] at k;obtain⟨y,z,K,z2,z3,z4,W,z6,z7⟩:=N.info;have hle:n+m<=140737488355328:=eL (qY _ (Nat.pos_of_ne_zero D)) L;have H:z.cells.size=d.size:=by
  have:=du List.length W
  grind
 refine⟨b++c,(Builtin.zeroCells z.cells (grownCap s.w (n+m) cap E-(n+m))).toList,grownCap s.w (n+m) cap E,l.append O,grownCap_ge _ _ _ _,?_,?_,?_⟩
 .have:=grownCap_le_maxLen s.w (n+m) cap E (by unfold maxLen;omega)
  unfold maxLen at this;omega
 .have QG:=grownCap_ge s.w (n+m) cap E;simp only[bR,l.len,O.len,jg,size_zeroCells,H,<-gR]
  grind
 .have X:=ry V L;have r:¬Builtin.nextslicecap (n+m) cap*y.bytes>2 ^ 48:=by grind
  have o:¬n+m<=cap:=by omega
  have A:¬((n+m:Nat):Int)>IntKind.i64.max:=by
   have e:IntKind.i64.max=9223372036854775807:=rfl
   grind
  have B:∀ u,(typeInfo E).run P u=.ok y u:=λu=>by simp[typeInfo,K]
  have I:∀ u,(zeroValue E).run P u=.ok z u:=λu=>by simp[zeroValue,typeInfo,K,z4]
  have f:(Builtin.lenOf x).run P s.w=.ok m s.w:=by rw[p];rfl
  replace J:(Builtin.firstCells d.size m x).run P s.w.drew=.ok c.toArray s.w.drew:=J
  replace h:(Builtin.firstCells d.size n (.slice a n cap)).run P s.w.drew=.ok b.toArray s.w.drew:=h
  unfold Builtin.append_;simp only[iJ,kX,mN,bY,Q,k,b9,N.run_sizeOf,cY,jE,cd,f,o,
   A,false_and,B,r,run_choose,Question.forced,run_askRoom,pL,World.drew_eq,h,J,ic,cu,I]
  simp[Go.newRow,grownCap];have e:∀ Z:Array ak,(b++c).toArray++Z=(b++(c++Z.toList)).toArray:=λZ=>by grind
  rw[e];rfl
def kh(hi:bJ P t i)(B:i.desc=.slice E)(l:bJ P g i2)(o:i2.desc=.slice E)(F:bJ P E d)(A:aJ σ s)
  {b n cap m:Nat} {y:ar} {c:List ak} (z:s.w.heap[b]?=aa (.cells c.toArray y (0,0))) (f:c.length=cap*d.size) {tx:Bool} {es':Nat->List C} {x:ak} (D:Rd s.M x (.sl tx d.size m es')) (u:n+m<=cap) :
  ∃ a,Flat s.M d.size m es' a/\(Builtin.append_ #[t,g] ty #[.slice (aa ⟨b,0,af⟩) n cap,x]).run P s.w=.ok (.slice (aa ⟨b,0,af⟩) (n+m) cap) (s.w.setRow b (c.take (n*d.size)++a++c.drop (n*d.size+a.length)).toArray):=by
 obtain⟨a,p,G,j⟩:=dO (P:=P) A D;have v:=hi.run_underlying (w:=s.w);have h:=l.run_underlying (w:=s.w);rw[B] at v;rw[o] at h;have r:n*d.size+a.length<=c.length:=by
  rw[p.len,f,<-gR];exact et _ u
 have k:=run_storeCells_at P b (n*d.size) y a 0 c.toArray s.w z (by grind) p.cell
 simp only[iO] at k;have e:(Builtin.lenOf x).run P s.w=.ok m s.w:=by rw[j];rfl
 refine⟨a,p,?_⟩;unfold Builtin.append_;simp only[iJ,kX,mN,bY,v,h,b9,F.run_sizeOf,cY,jE,cd,e,u,cu,ic,G,dj,bt,k]
end
def DF{α:Type}{P:aq}{x:Sem α}{w:az}{es:Array Event}{e:Event}(h:e∈x.events P w es):e∈es∨e∈x.events P w #[]:=by
 grind [Sem.events_acc]
def ZH(s:St)(e:Event):Prop:=∃ b o u,e=zu b o/\s.M b o=aa u
def gN{P:aq}{σ:List aV}{s:St}(z:aJ σ s){v:ak}{t:Bool}{k n:Nat}{es:Nat->List C}(h:Rd s.M v (.sl t k n es)){w:az}(y:w.heap=s.w.heap) :
  ∀ e∈(Builtin.firstCells k n v).events P w #[],ZH s e:=by
 obtain⟨a,cap,vs,rfl,r,J,H,x,A⟩:=h.flat;have G:vs.length=n*k:=x.len;intro e l;cases a with
 |none=>simp[Builtin.firstCells] at l
 |some ad =>
  simp only[Builtin.firstCells] at l;have c:∀ j,j<n*k->∃ b off u,ad=⟨b,off,af⟩/\s.M b (off+j)=aa u:=by
   intro j m;obtain⟨b,off,I,o⟩:=A j (vs[j]'(by omega)) (br (by omega))
   grind
  by_cases D:n*k=0
  .rw[D] at l;simp[loadCells,loadCellsFrom] at l
  .obtain⟨b,off,_,rfl,_⟩:=c 0 (by omega)
   have B:∀ j,j<n*k->∃ v,w.cell? ⟨b,off+j,af⟩=aa v:=by
    intro j m;obtain⟨F,f,u,p,o⟩:=c j m;cases p;have:=z.mem _ _ _ o;exact⟨u,by simp only[a9,y] at this ⊢;exact this⟩
   rcases rz (P:=P) B e l with h|⟨j,m,rfl⟩
   .grind
   .obtain⟨F,f,u,p,o⟩:=c j m;cases p;exact⟨_,_,u,rfl,o⟩
theorem sT{s:St}{e:Event}(h:ZH s e):oE s e:=by
 obtain⟨b,o,u,rfl,a⟩:=h;exact Bm a
section
variable {P:aq}{σ:List aV}{s:St}{t g ty E:ar}{i i2 d:TI}
def jI(hi:bJ P t i)(z:i.desc=.slice E)(h:bJ P g i2)(l:i2.desc=.slice E)(A:bJ P E d)(o:aJ σ s)
  {a:Option Addr} {n cap:Nat} (b:n<=cap) {x:ak} {tx:Bool} {es':Nat->List C} (j:Rd s.M x (.sl tx d.size 0 es')) :
  eZ s ((Builtin.append_ #[t,g] ty #[.slice a n cap,x]).events P s.w #[]):=by
 obtain⟨c,v,y,u⟩:=dO (P:=P) o j;have k:=gN (P:=P) o j (w:=s.w) rfl;have r:=hi.run_underlying (w:=s.w);have f:=h.run_underlying (w:=s.w);rw[z] at r;rw[l] at f;obtain⟨a',p,vs,rfl,_⟩:=j.flat;have m:c=[]:=hZ (by simpa using v.len)
 subst m;intro e B;refine sT (k e ?_);cases a <;> simpa[Builtin.append_,r,f,A.run_sizeOf,Builtin.lenOf,b,y,storeCells] using B
def iV(hi:bJ P t i)(hd:i.desc=.slice E)(K:bJ P g i2)(N:i2.desc=.slice E)(X:bJ P E d)(G:aJ σ s)
  {a:Option Addr} {n cap m:Nat} {td tx:Bool} {es es':Nat->List C} {x:ak} (V:Rd s.M (.slice a n cap) (.sl td d.size n es)) (U:Rd s.M x (.sl tx d.size m es')) (hg:cap<n+m) (W:(n+m)*d.bytes<=140737488355328) (J:d.bytes≠0) :
  eZ s ((Builtin.append_ #[t,g] ty #[.slice a n cap,x]).events P s.w #[]):=by
 have y:aJ σ { s with w:=s.w.drew }:=G.same rfl;obtain⟨B,hF,Q,b⟩:=dO (P:=P) y (v:=x) U;obtain⟨p,hFo,k,Z⟩:=dO (P:=P) y (v:=.slice a n cap) V;have Jd:=gN (P:=P) G U (w:=s.w.drew) rfl;have R:=gN (P:=P) G V (w:=s.w.drew) rfl;have Y:=hi.run_underlying (w:=s.w);have A:=K.run_underlying (w:=s.w);rw[hd] at Y;rw[N] at A;obtain⟨l,z,S,z2,z3,z4,z5,z6,z7⟩:=X.info;have hle:n+m<=140737488355328:=eL (qY _ (Nat.pos_of_ne_zero J)) W;have hnx:=ry hg W;have F:¬Builtin.nextslicecap (n+m) cap*l.bytes>2 ^ 48:=by grind
 have D:¬n+m<=cap:=by omega
 have H:¬((n+m:Nat):Int)>IntKind.i64.max:=by
  have e:IntKind.i64.max=9223372036854775807:=rfl
  grind
 have I:∀ u,(typeInfo E).run P u=.ok l u:=λu=>by simp[typeInfo,S]
 have O:∀ u,(zeroValue E).run P u=.ok z u:=λu=>by simp[zeroValue,typeInfo,S,z4]
 have f:(Builtin.lenOf x).run P s.w=.ok m s.w:=by rw[b];rfl
 have c:(Builtin.lenOf x).events P s.w #[]=#[]:=by rw[b];rfl
 replace Q:(Builtin.firstCells d.size m x).run P s.w.drew=.ok B.toArray s.w.drew:=Q
 replace k:(Builtin.firstCells d.size n (.slice a n cap)).run P s.w.drew=.ok p.toArray s.w.drew:=k
 intro e o;unfold Builtin.append_ at o;simp only[iJ,kX,mN,aO,bY,Y,A,b9,aU,X.run_sizeOf,cY,jE,cd,f,c,D,
  H,false_and,I,F,run_choose,Question.forced,run_askRoom,pL,Sem.events_ite,World.drew_eq,k,Q,ic,cu,O,events_underlying,events_sizeOf,events_typeInfo,events_choose,events_zeroValue,Sem.events_pure] at o
 have L:∀ (x:Nat) (w:az) (e:Event),e∈(askRoom x).events P w #[]->e=⟨.mark .noRoom,ae,ab⟩:=by
  intro x w e h;unfold askRoom at h
  simp_all
 rw[cO.newRow (P:=P)] at o;generalize (Go.newRow E _).run P s.w.drew=r at o;have j:e∈(Builtin.firstCells d.size m x).events P s.w.drew ((Builtin.firstCells d.size n (.slice a n cap)).events P s.w.drew ((askRoom ((Question.appendCap (n+m) cap E).cut (s.w.tape s.w.drawn (Question.appendCap (n+m) cap E))*l.bytes)).events P s.w.drew #[])):=by
  cases r with
  |ok v w'=>simpa using o
  |halt v w'=>simpa using o
 rcases DF j with j|j
 .rcases DF j with j|j
  .rw[L _ _ _ j];exact .inl rfl
  grind [sT]
 grind [sT]
def lQ(hi:bJ P t i)(N:i.desc=.slice E)(y:bJ P g i2)(z:i2.desc=.slice E)(R:bJ P E d)(G:aJ σ s)
  {b n cap m:Nat} {K:ar} {c:List ak} (D:s.w.heap[b]?=aa (.cells c.toArray K (0,0))) (p:c.length=cap*d.size) {tx:Bool} {es':Nat->List C} {x:ak} (I:Rd s.M x (.sl tx d.size m es')) (H:n+m<=cap)
  {L:Loc} (V:L∈s.β) (O:b∈L.bs) (v:∀ o,n*d.size<=o->s.M b o=af) :
  eZ s ((Builtin.append_ #[t,g] ty #[.slice (aa ⟨b,0,af⟩) n cap,x]).events P s.w #[]):=by
 obtain⟨a,B,S,f⟩:=dO (P:=P) G I;have Q:=gN (P:=P) G I (w:=s.w) rfl;have J:=hi.run_underlying (w:=s.w);have r:=y.run_underlying (w:=s.w);rw[N] at J;rw[z] at r;have F:n*d.size+a.length<=c.length:=by
  rw[B.len,p,<-gR];exact et _ H
 have u:=run_storeCells_at P b (n*d.size) K a 0 c.toArray s.w D (by grind) B.cell
 simp only[iO] at u;have l:(Builtin.lenOf x).run P s.w=.ok m s.w:=by rw[f];rfl
 have k:(Builtin.lenOf x).events P s.w #[]=#[]:=by rw[f];rfl
 intro e A;unfold Builtin.append_ at A;simp only[iJ,kX,mN,aO,bY,J,r,aU,R.run_sizeOf,cY,jE,cd,l,k,H,cu,ic,S,dj,bt,u,
  pL,Sem.events_ite,events_underlying,events_sizeOf,Sem.events_pure] at A
 rcases eE a 0 c.toArray s.w _ D (by grind) B.cell e A with h|⟨j,W,U,rfl⟩
 .grind [sT]
 grind [mn]
end
structure mj (P:aq)(o:aw)(x y:an)(E:ar)(d:TI):Prop where
 op:∃ t g i i2,o.op=.call { callee:=.builtin .append,args:=#[x,y],argTypes:=#[t,g] }/\bJ P t i/\i.desc=.slice E/\bJ P g i2/\i2.desc=.slice E
 elem:bJ P E d
 bytes:d.bytes≠0
 size:d.size≠0
def St.grown(s:St)(E:ar)(vs zs:List ak)(β:List Loc):St :=
 { β:=β,M:=λb o=>if b=s.w.heap.size then vs[o]? else s.M b o,w:=s.w.drew.alloc (.cells (vs++zs).toArray E),own:=s.own }
def ye{σ:List aV}{s:St}(h:aJ σ s)(E:ar)(vs zs:List ak):∀ b o v,(if b=s.w.heap.size then vs[o]? else s.M b o)=aa v->(s.w.drew.alloc (.cells (vs++zs).toArray E)).cell? ⟨b,o,af⟩=aa v:=by
 intro b o v a
 by_cases e:b=s.w.heap.size
 .subst e;simp only[cu] at a;unfold a9;have:(s.w.drew.alloc (.cells (vs++zs).toArray E)).heap[s.w.heap.size]?=aa (.cells (vs++zs).toArray E):=dx s.w.drew _
  grind
 .simp only[e,cd] at a;have c:=h.block a;rw[<-h.mem b o v a];unfold a9;have:(s.w.drew.alloc (.cells (vs++zs).toArray E)).heap[b]?=s.w.heap[b]?:=cK s.w.drew _ c
  grind
def yf{σ:List aV}{s:St}(h:aJ σ s)(vs:List ak):∀ b o v,s.M b o=aa v->(if b=s.w.heap.size then vs[o]? else s.M b o)=aa v:=by
 intro b o v a;have:=h.block a
 grind
theorem ey{P:aq}{s:St}{m:Sem ak}(h:eZ s (m.events P s.w #[])):eZ s ((do pure (.value (<-m)):Sem Next).events P s.w #[]):=by
 simp_all
theorem c6{o:aw}{x y:an}{t g:ar}(h:o.op=.call { callee:=.builtin .append,args:=#[x,y],argTypes:=#[t,g] })(ρ:an->ak) :
  ay ρ o=(do pure (.value (<-Builtin.append_ #[t,g] o.type #[ρ x,ρ y]))):=by
 simp[ay,h,resolve,invoke,builtin]
def Rd.loose{M:Mem}{v:ak}{t:Bool}{k n:Nat}{es:Nat->List C}(h:Rd M v (.sl t k n es)):Rd M v (.sl ae k n es):=by
 cases h with
 |sl b off f a hb ht hk ha hm hr=>exact .sl b off f a hb (by simp) hk ha hm hr
def Rd.DC{M:Mem}{v:ak}{t:Bool}{k n:Nat}{es es':Nat->List C}(e:∀ i,i<n->es i=es' i)(h:Rd M v (.sl t k n es)):Rd M v (.sl t k n es'):=by
 cases h with
 |sl b off f a hb ht hk ha hm hr=>exact .sl b off f a hb ht (λi hi=>by grind) ha (λi hi j c hj=>hm i hi j c (by grind)) (λi hi j c hj=>hr i hi j c (by grind))
def Rd.uW{M:Mem}{v:ak}{k k' n:Nat}{es:Nat->List C}(b:k=k'∨n=0)(h:Rd M v (.sl ab k n es)):Rd M v (.sl ab k' n es):=by
 rcases b with rfl|rfl
 .exact h
 .obtain⟨a,cap,vs,f,e,c,j,_⟩:=h.flat
  grind [Rd.jJ]
def pP{σ:List aV}{s:St}{l:Nat}{E:ar}{k n:Nat}{es:Nat->List C}{L:Loc}(a:σ[l]?=aa (.vec E k n es))(c:s.β[l]?=aa L)(h:eP σ s (.vec E k n es) L):gx σ s L.v (.vec l k n es):=by
 refine⟨h.1,(cr.1 a).1,λb k' n' es' he=>?_⟩
 grind
def bH.oU{P:aq}{o:aw}{O:an->D}{σ:List aV}{x y:an}{E:ar}{d:TI}(h:mj P o x y E d){n m k:Nat}{tx:Bool}{es es':Nat->List C}
  (hx:O x=.e (.one (.c (.sl ab k n es)))) (hk:k=d.size∨n=0) (hy:∀ s v,dc σ s v (O y)->Rd s.M v (.sl tx d.size m es')) (hb:(n+m)*d.bytes<=140737488355328) (hz:n=0∨0<m) :
  bH P o O σ (.e (.one (.vec σ.length d.size (n+m) (cR n es es')))) (σ++[.vec E d.size (n+m) (cR n es es')]):=by
 intro s ρ hh hr;obtain⟨t,g,i,i2,N,hi,K,z,A⟩:=h.op;have h1:=hr x;rw[hx] at h1;have j:=Rd.uW hk (fy h1);have h2:=hy s _ (hr y);obtain⟨a,cap,vs,hv,B,GS,X,hF,V⟩:=j.flat;have U:cap=n:=X rfl;subst U;rw[c6 N];rw[hv] at j ⊢
 by_cases Y:m=0
 .subst Y;have r:=jc (P:=P) (ty:=o.type) hi K z A h.elem hh (a:=a) B h2;simp only[iO];have j:=Rd.DC (es':=cR cap es es') (λi hi=>by grind) j
  have I:eP (σ++[.vec E d.size cap (cR cap es es')]) { s with β:=s.β++[⟨.slice a cap cap,[]⟩] } (.vec E d.size cap (cR cap es es')) ⟨.slice a cap cap,[]⟩:=⟨j.loose,.inl ⟨⟨rfl,by omega⟩,j⟩⟩
  obtain⟨Q,g2⟩:=hh.gT (.refl _ _) rfl hh I (by simp)
  refine⟨.value (.slice a cap cap),_,?_,?_,Q,g2,ey (jI hi K z A h.elem hh B h2)⟩
  .simp[r]
  .exact pP (by simp) (by simp[<-hh.len]) I
 .have W:cap<cap+m:=by omega
  obtain⟨l,F,f,H,R,L,J,r⟩:=im (P:=P) (ty:=o.type) hi K z A h.elem hh j h2 W hb h.bytes;have G:aJ σ (s.grown E l F s.β)/\Step σ s σ (s.grown E l F s.β) :=
   hh.grow (by simp) (λb hb=>cK s.w.drew _ hb) (λb hb o=>by grind)
    (λb hb o v V=>ye hh E l F b o v V) rfl rfl rfl
  have S:Rd (s.grown E l F s.β).M (.slice (aa ⟨s.w.heap.size,0,af⟩) (cap+m) f) (.sl ae d.size (cap+m) (cR cap es es')) :=
   Rd.qw (H.mono G.2.mem) (b:=s.w.heap.size) (off:=0) (λ_=>rfl) R L (by simp) (λp u Z=>by simpa[St.grown] using Z)
  have I:eP (σ++[.vec E d.size (cap+m) (cR cap es es')]) { (s.grown E l F s.β) with β:=(s.grown E l F s.β).β++[⟨.slice (aa ⟨s.w.heap.size,0,af⟩) (cap+m) f,[s.w.heap.size]⟩] } (.vec E d.size (cap+m) (cR cap es es')) ⟨.slice (aa ⟨s.w.heap.size,0,af⟩) (cap+m) f,[s.w.heap.size]⟩:=by
   refine⟨S,.inr ⟨s.w.heap.size,f,l++F,rfl,dx s.w.drew _,J,λo N=>?_⟩⟩
   have hl:l.length<=o:=by rw[H.len];exact N
   simp[St.grown,q8 hl]
  obtain⟨Q,g2⟩:=G.1.gT G.2 rfl hh I (λb hb=>by
   simp at hb;subst hb;refine⟨bg _,?_⟩;simp[St.grown])
  refine⟨.value (.slice (aa ⟨s.w.heap.size,0,af⟩) (cap+m) f),_,?_,?_,Q,g2,ey (iV hi K z A h.elem hh j h2 W hb h.bytes)⟩
  .simp[r];rfl
  .exact pP (by simp) (by simp[St.grown,<-hh.len]) I
def bH.GU{P:aq}{o:aw}{η:an->D}{σ:List aV}{x y:an}{E:ar}{d:TI}(h:mj P o x y E d){l n m:Nat}{tx:Bool}{es es':Nat->List C}
  (hx:η x=.e (.one (.vec l d.size n es))) (hl:σ[l]?=aa (.vec E d.size n es)) (hy:∀ s v,dc σ s v (η y)->Rd s.M v (.sl tx d.size m es')) (hb:(n+m)*d.bytes<=140737488355328) :
  bH P o η σ (.e (.one (.vec l d.size (n+m) (cR n es es')))) (σ.set l (.vec E d.size (n+m) (cR n es es'))):=by
 intro s ρ hh hr;obtain⟨t,g,i,i2,Z,hi,hd,J,K⟩:=h.op;have QH:l<σ.length:=(cr.1 hl).1;have h1:=hr x;rw[hx] at h1;obtain⟨R,_,h1v⟩:=h1;obtain⟨L,V,hv⟩:=(h1v _ _ _ _ hl).2 rfl;have h2:=hy s _ (hr y);have QI:l<s.β.length:=(cr.1 V).1;have Q:=hh.box l _ L hl V;obtain⟨a,cap,vs,PG,U,GS,ht,hF,hm⟩:=R.flat;rw[c6 Z,PG];rw[PG] at R;have S:L.v=.slice a n cap:=by grind
 by_cases h0:m=0
 .subst h0;have z:=jc (P:=P) (ty:=o.type) hi hd J K h.elem hh (a:=a) U h2;simp only[iO];have ha:∀ i,i<n->es i=cR n es es' i:=λi hi=>by simp[cR,hi]
  have V3:eP (σ.set l (.vec E d.size n (cR n es es'))) ⟨s.β.set l L,s.M,s.w,s.own⟩ (.vec E d.size n (cR n es es')) L:=by
   refine⟨Q.1.DC ha,?_⟩;rcases Q.2 with⟨h3,h4⟩|h3
   .exact .inl ⟨h3,h4.DC ha⟩
   grind
  have f:=hh.iP (M':=s.M) (w':=s.w) (B':=.vec E d.size n (cR n es es')) (L':=L) hl V ⟨λ_=>rfl,bg _⟩ (bg _) (λ_ _ _=>rfl) (λ_ _ _ _=>rfl) (λ_ _ _ h=>h) hh.mem
   (λb hb=>⟨.inl hb,hh.lt L (bU V) b hb⟩) rfl rfl rfl V3
  refine⟨.value (.slice a n cap),_,?_,?_,f.1,f.2,ey (jI hi hd J K h.elem hh U h2)⟩
  .simp[z]
  .rw[<-S];exact pP (E:=E) (by grind) (by grind) V3
 .have O:¬(n+m=n):=by omega
  by_cases k:n+m<=cap
  .rcases Q.2 with⟨TE,F⟩|⟨b,Jb,A,rfl,hw,N,W⟩
   .rw[S] at F;obtain⟨_,_,_,e,_,_,ht2,_⟩:=F.flat
    grind
   .simp only at S;cases S;obtain⟨c,M5,z⟩:=kh (P:=P) (ty:=o.type) hi hd J K h.elem hh hw N h2 k;have Tz:c.length=m*d.size:=M5.len;have WN:b<s.w.heap.size:=(ia.1 hw).1
    let M':Mem:=λG o=>if G=b/\n*d.size<=o/\o<(n+m)*d.size then c[o-n*d.size]? else s.M G o
    have Dq:A.length=cap*d.size:=N;have hnm:(n+m)*d.size=n*d.size+m*d.size:=gR _ _ _;have ZI:(n+m)*d.size<=cap*d.size:=et _ k;have TG:∀ G o v,s.M G o=aa v->M' G o=aa v:=by
     grind
    have QE:∀ p u,c[p]?=aa u->M' b (n*d.size+p)=aa u:=by
     grind
    have X:Rd M' (.slice (aa ⟨b,0,af⟩) (n+m) cap) (.sl ae d.size (n+m) (cR n es es')):=by
     refine Rd.qw (vs:=vs++c) ((hF.append M5).mono TG) (b:=b) (off:=0) (λ_=>rfl) k GS (by simp) (λp u hp=>?_)
     have PF:vs.length=n*d.size:=hF.len
     grind
    have f:=hh.iP (M':=M') (w':=s.w.setRow b (A.take (n*d.size)++c++A.drop (n*d.size+c.length)).toArray) (B':=.vec E d.size (n+m) (cR n es es')) (L':=⟨.slice (aa ⟨b,0,af⟩) (n+m) cap,[b]⟩) hl V
     ⟨λe=>absurd e O,by omega⟩ (by simp) (λG _ I=>setRow_other _ _ _ _ (by grind)) (λG _ I o=>by
      grind) TG ?_ (λG I=>by
      simp at I;subst I;exact⟨.inl (by simp),by simpa using WN⟩) rfl rfl rfl ?_
    .refine⟨.value (.slice (aa ⟨b,0,af⟩) (n+m) cap),_,?_,?_,f.1,f.2,ey (lQ hi hd J K h.elem hh hw N h2 k (bU V) (by simp) W)⟩
     .simp[z]
     .exact pP (L:=⟨.slice (aa ⟨b,0,af⟩) (n+m) cap,[b]⟩) (E:=E) (by grind) (by grind) (f.1.box l _ _ (by grind) (by grind))
    .intro G o v H
     by_cases I:G=b
     .subst I;have Y:∀ j,(s.w.setRow G (A.take (n*d.size)++c++A.drop (n*d.size+c.length)).toArray).cell? ⟨G,j,af⟩=(A.take (n*d.size)++c++A.drop (n*d.size+c.length))[j]?:=by
       grind [cell_setRow_same]
      rw[Y];simp only[M'] at H;have hkl:(A.take (n*d.size)).length=n*d.size:=by rw[List.length_take];omega
      split at H
      .grind
      .rename_i hc
       have h3:=hh.mem G o v H;have Z:o<n*d.size:=by
        grind
       rw[j8,jD (by omega),gQ,bd Z]
       simp only[a9,hw] at h3
       grind
     .simp only[M'] at H;rw[aY (by omega)] at H
      rw[<-hh.mem G o v H];simp only[a9]
      grind [setRow_other]
    .refine⟨X,.inr ⟨b,cap,_,rfl,setRow_heap _ _ _ _ _ _ hw,?_,λo Z=>?_⟩⟩
     .grind
     grind
  .have hg:cap<n+m:=by omega
   obtain⟨B,zs,r,TB,V4,V5,hlen,z⟩:=im (P:=P) (ty:=o.type) hi hd J K h.elem hh R h2 hg hb h.bytes;have hbl:∀ b∈L.bs,b<s.w.heap.size:=hh.lt L (bU V);have X:Rd (λb o=>if b=s.w.heap.size then B[o]? else s.M b o) (.slice (aa ⟨s.w.heap.size,0,af⟩) (n+m) r) (.sl ae d.size (n+m) (cR n es es')) :=
    Rd.qw (TB.mono (yf hh B)) (b:=s.w.heap.size) (off:=0) (λ_=>rfl) V4 V5 (by simp) (λp u hp=>by grind)
   have f:=hh.iP (M':=λb o=>if b=s.w.heap.size then B[o]? else s.M b o) (w':=s.w.drew.alloc (.cells (B++zs).toArray E)) (B':=.vec E d.size (n+m) (cR n es es')) (L':=⟨.slice (aa ⟨s.w.heap.size,0,af⟩) (n+m) r,[s.w.heap.size]⟩) hl V
    ⟨λe=>absurd e O,by omega⟩ (by simp) (λb hb _=>cK s.w.drew _ hb) (λb hb _ o=>by grind) (yf hh B) (ye hh E B zs) (λb hb=>by
     simp at hb;subst hb;exact⟨.inr (bg _),by simp⟩) rfl rfl rfl ⟨X,.inr ⟨s.w.heap.size,r,B++zs,rfl,dx s.w.drew _,hlen,λo Z=>by
      have hl:B.length<=o:=by rw[TB.len];exact Z
      grind⟩⟩
   refine⟨.value (.slice (aa ⟨s.w.heap.size,0,af⟩) (n+m) r),_,?_,?_,f.1,f.2,ey (iV hi hd J K h.elem hh R h2 hg hb h.bytes)⟩
   .simp[z]
   .exact pP (L:=⟨.slice (aa ⟨s.w.heap.size,0,af⟩) (n+m) r,[s.w.heap.size]⟩) (E:=E) (by grind) (by grind) (f.1.box l _ _ (by grind) (by grind))
section
open Go.Conc (G)
def kL{α:Type}:List Nat->List α->Option (List α)
 |[],_=>aa []
 |k::ks,l=>match fw k l with
  |some x=>match kL ks l with
   |some r=>aa (x::r)
   |none=>af
  |none=>af
def e9{α:Type}:∀ (n:Nat)(l:List α),fw n l=l[n]?
 |_,[]=>by simp[fw]
 |0,x::_=>by simp[fw]
 |n+1,_::xs=>by simpa[fw] using e9 n xs
def iC{α:Type}:∀ {ks:List Nat}{l r:List α},kL ks l=aa r->r.length=ks.length/\∀ (j k:Nat),ks[j]?=aa k->∃ x,r[j]?=aa x/\l[k]?=aa x
 |[],l,r,h=>by cases h;simp
 |k::ks,l,r,h=>by
  simp only[kL] at h;cases b:fw k l with
  |none=>grind
  |some x =>
   cases a:kL ks l with
   |none=>grind
   |some q =>
    simp[b,a] at h;subst h;obtain⟨d,c⟩:=iC a
    grind [dz]
def zA{α e:Type}:∀ {ks:List Nat}{l r:List α}{l':List e},kL ks l=aa r->l'.length=l.length->∃ r',kL ks l'=aa r'
 |[],l,r,l',_,_=>⟨[],rfl⟩
 |k::ks,l,r,l',h,b=>by
  simp only[kL] at h;cases c:fw k l with
  |none=>grind
  |some x =>
   cases f:kL ks l with
   |none=>grind
   |some q =>
    obtain⟨r',a⟩:=zA (l':=l') f b;have d:k<l'.length:=by rw[b];exact(cr.1 (dz c)).1
    exact⟨l'[k]::r',by simp[kL,e9,d,a]⟩
def oH(ks:List Nat):A->A
 |.ptr l o=>match fw l ks with|some k=>.ptr k o|none=>.any
 |.vec l k n es=>match fw l ks with|some m=>.vec m k n es|none=>.c (.sl ae k n es)
 |.ref l=>match fw l ks with|some k=>.ref k|none=>.any
 |.bp l w=>match fw l ks with|some k=>.bp k w|none=>.any
 |.c x=>.c x
 |.any=>.any
def Bv(ks:List Nat):List A->List A
 |[]=>[]
 |a::r=>oH ks a::Bv ks r
def zB(ks:List Nat):E1->E1
 |.one a=>.one (oH ks a)
 |.agg cs=>.agg (Bv ks cs)
def yh(ks:List Nat):List E1->List E1
 |[]=>[]
 |a::r=>zB ks a::yh ks r
def jA(ks:List Nat):D->D
 |.e x=>.e (zB ks x)
 |.eK xs=>.eK (yh ks xs)
 |.any=>.any
def iX(ks:List Nat):List D->List D
 |[]=>[]
 |a::r=>jA ks a::iX ks r
def DS:A->Bool
 |.c _|.any=>ab
 |_=>ae
def zC:List A->Bool
 |[]=>ab
 |a::r=>match DS a with|true=>zC r|false=>ae
def vB:aV->Bool
 |.cells _ cs=>zC cs
 |.loop ..=>ae
 |_=>ab
def cX:List aV->Bool
 |[]=>ab
 |a::r=>match vB a with|true=>cX r|false=>ae
def kM:∀ {l:List aV},cX l=ab->∀ B∈l,vB B=ab
 |[],_,B,a=>by grind
 |b::r,h,B,a=>by
  simp only[cX] at h;cases c:vB b with
  |false=>grind
  |true =>
   simp only[c] at h;rcases fb.1 a with rfl|a
   .exact c
   .exact kM h B a
def dW.plain{σ σ':List aV}{s s':St}(e:s'.M=s.M):∀ {vs:List ak}{cs:List A},zC cs=ab->dW σ s vs cs->dW σ' s' vs cs
 |[],[],_,_=>trivial
 |[],_::_,_,h=>h.elim
 |_::_,[],_,h=>h.elim
 |v::vs,a::al,b,h=>by
  simp only[zC] at b;cases d:DS a with
  |false=>grind
  |true =>
   simp only[d] at b;refine⟨?_,dW.plain e b h.2⟩;cases a with
   |c x=>have:=h.1;simp only[gx] at this ⊢;grind
   |any=>exact h.1
   |_=>simp[DS] at d
def eP.plain{σ σ':List aV}{s s':St}(a:s'.M=s.M)(c:s'.w=s.w){B:aV}{L:Loc}(d:vB B=ab)(h:eP σ s B L):eP σ' s' B L:=by
 cases B with
 |cells E cs =>
  obtain⟨b,vs,h1,h2,e,f⟩:=h;exact⟨b,vs,h1,by grind,e.plain a d,λo=>by rw[a];grind⟩
 |vec E k n es=>simp only[eP,a,c] at h ⊢;exact h
 |dD H=>simp only[eP,a,c] at h ⊢;exact h
 |dead=>trivial
 |loop N φ r=>simp[vB] at d
 |qV=>simp only[eP,a,c] at h ⊢;exact h
 |buf E k n es=>simp only[eP,a,c] at h ⊢;exact h
def fK:Nat->List Nat->Bool
 |_,[]=>ae
 |k,x::r=>match aG k x with|true=>ab|false=>fK k r
def eg:List Nat->Bool
 |[]=>ab
 |k::r=>match fK k r with|true=>ae|false=>eg r
theorem rH:∀ {k:Nat}{l:List Nat},k∈l->fK k l=ab
 |k,[],h=>by grind
 |k,x::r,h=>by
  simp only[fK];cases a:aG k x with
  |true=>rfl
  |false =>
   rcases fb.1 h with rfl|h
   .grind [Nat.beq_refl]
   .exact rH h
def vC:∀ {l:List Nat},eg l=ab->∀ (i j k:Nat),l[i]?=aa k->l[j]?=aa k->i=j
 |[],_,i,j,k,hi,_=>by grind
 |x::r,h,i,j,k,hi,a=>by
  simp only[eg] at h;cases b:fK x r with
  |true=>grind
  |false =>
   simp only[b] at h;have no:∀ q,r[q]?=aa x->False:=λq c=>by
    have:=rH (bU c)
    grind
   cases i with
   |zero =>
    grind
   |succ i =>
    cases j with
    |zero =>
     grind
    |succ j =>
     simp at hi a;rw[vC h i j k hi a]
def GY(n:Nat):A->Bool
 |.ptr l _|.vec l _ _ _|.ref l|.bp l _=>bo (l+1) n
 |_=>ab
def DT(n:Nat):List A->Bool
 |[]=>ab
 |a::r=>match GY n a with|true=>DT n r|false=>ae
def Js(n:Nat):E1->Bool
 |.one a=>GY n a
 |.agg cs=>DT n cs
def xF(n:Nat):List E1->Bool
 |[]=>ab
 |a::r=>match Js n a with|true=>xF n r|false=>ae
def u6(n:Nat):D->Bool
 |.e x=>Js n x
 |.eK xs=>xF n xs
 |.any=>ab
def oF(n:Nat):List D->Bool
 |[]=>ab
 |a::r=>match u6 n a with|true=>oF n r|false=>ae
section sub
variable {ks:List Nat}{σ σ':List aV}{s:St}{β':List Loc}
def gx.sub(r:kL ks σ=aa σ')(q:kL ks s.β=aa β'){v:ak}{a:A}(d:gx σ s v (oH ks a))(e:GY ks.length a=ab):gx σ' { s with β:=β' } v a:=by
 obtain⟨u,i⟩:=iC r;obtain⟨z,g2⟩:=iC q;cases a with
 |c x=>exact d
 |any=>exact d
 |ptr l o =>
  have hl:l<ks.length:=db e;simp only[oH,e9,br hl] at d;obtain⟨h1,L,b,h2,h,m⟩:=d;obtain⟨x,j,p⟩:=i l _ (br hl);obtain⟨y,f,g⟩:=g2 l _ (br hl);rw[g] at h2;cases h2;exact⟨λB t=>h1 B (by grind),L,b,f,h,m⟩
 |vec l k n es =>
  have hl:l<ks.length:=db e;simp only[oH,e9,br hl] at d;obtain⟨h1,h2,h⟩:=d;obtain⟨x,j,p⟩:=i l _ (br hl);obtain⟨y,f,g⟩:=g2 l _ (br hl);refine⟨h1,by grind,λE k' n' es' t=>?_⟩
  grind
 |ref l =>
  have hl:l<ks.length:=db e;simp only[oH,e9,br hl] at d;obtain⟨h1,L,h2,h,m⟩:=d;obtain⟨x,j,p⟩:=i l _ (br hl);obtain⟨y,f,g⟩:=g2 l _ (br hl);rw[g] at h2;cases h2;exact⟨λB t=>h1 B (by grind),L,f,h,m⟩
 |bp l w =>
  have hl:l<ks.length:=db e;simp only[oH,e9,br hl] at d;obtain⟨lv,h1,h2,h⟩:=d;obtain⟨x,j,p⟩:=i l _ (br hl);obtain⟨y,f,g⟩:=g2 l _ (br hl);refine⟨lv,h1,(cr.1 j).1,λE k n es t=>?_⟩
  grind
def gx.m7{σ2:List aV}{s2:St}(u:s2.M=s.M)(e:∀ (j:Nat)(B:aV),σ[j]?=aa B->∃ k,ks[j]?=aa k/\σ2[k]?=aa B)(g:∀ (j:Nat)(L:Loc),s.β[j]?=aa L->∃ k,ks[j]?=aa k/\s2.β[k]?=aa L)(t:s.β.length=σ.length)
  {v:ak} {a:A} (f:gx σ s v a):gx σ2 s2 v (oH ks a):=by
 cases a with
 |c x=>simp only[oH,gx,u];exact f
 |any=>exact f
 |ptr l o =>
  obtain⟨h1,L,b,h2,h,r⟩:=f;obtain⟨k,k1,q⟩:=g l L h2;have hl:l<σ.length:=by grind
  obtain⟨k',d,i⟩:=e l _ (br hl);rw[k1] at d;cases d;simp only[oH,e9,k1];refine⟨λB m=>?_,L,b,q,h,r⟩
  grind
 |vec l k n es =>
  obtain⟨h1,h2,h⟩:=f;obtain⟨k1,p,p2⟩:=e l _ (br h2);simp only[oH,e9,p];refine⟨by grind,(cr.1 p2).1,λE k' n' es' m=>?_⟩
  grind
 |ref l =>
  obtain⟨h1,L,h2,h,r⟩:=f;obtain⟨k,k1,q⟩:=g l L h2;have hl:l<σ.length:=by grind
  obtain⟨k',d,i⟩:=e l _ (br hl);rw[k1] at d;cases d;simp only[oH,e9,k1];refine⟨λB m=>?_,L,q,h,r⟩
  grind
 |bp l w =>
  obtain⟨lv,h1,h2,h⟩:=f;obtain⟨k1,p,p2⟩:=e l _ (br h2);simp only[oH,e9,p];refine⟨lv,h1,(cr.1 p2).1,λE k' n' es' m=>?_⟩
  grind
def dW.sub(c:kL ks σ=aa σ')(b:kL ks s.β=aa β'):∀ {vs:List ak}{cs:List A},dW σ s vs (Bv ks cs)->DT ks.length cs=ab->dW σ' { s with β:=β' } vs cs
 |[],[],_,_=>trivial
 |[],_::_,h,_=>h.elim
 |_::_,[],h,_=>h.elim
 |v::vs,a::al,h,d=>by
  simp only[DT] at d;cases e:GY ks.length a with
  |false=>grind
  |true=>simp only[e] at d;exact⟨h.1.sub c b e,dW.sub c b h.2 d⟩
def mY.sub(c:kL ks σ=aa σ')(b:kL ks s.β=aa β'){v:ak}{x:E1}(h:mY σ s v (zB ks x))(d:Js ks.length x=ab):mY σ' { s with β:=β' } v x:=by
 cases x with
 |one a=>exact gx.sub c b h d
 |agg cs=>obtain⟨vs,h1,h2⟩:=h;exact⟨vs,h1,h2.sub c b d⟩
def gJ.sub(c:kL ks σ=aa σ')(b:kL ks s.β=aa β'):∀ {vs:List ak}{xs:List E1},gJ σ s vs (yh ks xs)->xF ks.length xs=ab->gJ σ' { s with β:=β' } vs xs
 |[],[],_,_=>trivial
 |[],_::_,h,_=>h.elim
 |_::_,[],h,_=>h.elim
 |v::vs,a::al,h,d=>by
  simp only[xF] at d;cases e:Js ks.length a with
  |false=>grind
  |true=>simp only[e] at d;exact⟨h.1.sub c b e,gJ.sub c b h.2 d⟩
def dc.sub(b:kL ks σ=aa σ')(a:kL ks s.β=aa β'){v:ak}{d:D}(h:dc σ s v (jA ks d))(c:u6 ks.length d=ab):dc σ' { s with β:=β' } v d:=by
 cases d with
 |e x=>exact mY.sub b a h c
 |eK xs=>obtain⟨vs,h1,h2⟩:=h;exact⟨vs,h1,h2.sub b a c⟩
 |any=>trivial
def cz.sub(c:kL ks σ=aa σ')(b:kL ks s.β=aa β'):∀ {vs:List ak}{ds:List D},cz σ s vs (iX ks ds)->oF ks.length ds=ab->cz σ' { s with β:=β' } vs ds
 |[],[],_,_=>trivial
 |[],_::_,h,_=>h.elim
 |_::_,[],h,_=>h.elim
 |v::vs,a::al,h,d=>by
  simp only[oF] at d;cases e:u6 ks.length a with
  |false=>grind
  |true=>simp only[e] at d;exact⟨h.1.sub c b e,cz.sub c b h.2 d⟩
variable {σ2:List aV}{s2:St}
def dW.m7(d:s2.M=s.M)(b:∀ (j:Nat)(B:aV),σ[j]?=aa B->∃ k,ks[j]?=aa k/\σ2[k]?=aa B)(c:∀ (j:Nat)(L:Loc),s.β[j]?=aa L->∃ k,ks[j]?=aa k/\s2.β[k]?=aa L)(a:s.β.length=σ.length) :
  ∀ {vs:List ak} {cs:List A},dW σ s vs cs->dW σ2 s2 vs (Bv ks cs)
 |[],[],_=>trivial
 |[],_::_,h=>h.elim
 |_::_,[],h=>h.elim
 |_::_,_::_,h=>⟨h.1.m7 d b c a,dW.m7 d b c a h.2⟩
def mY.m7(e:s2.M=s.M)(c:∀ (j:Nat)(B:aV),σ[j]?=aa B->∃ k,ks[j]?=aa k/\σ2[k]?=aa B)(d:∀ (j:Nat)(L:Loc),s.β[j]?=aa L->∃ k,ks[j]?=aa k/\s2.β[k]?=aa L)(b:s.β.length=σ.length)
  {v:ak} {x:E1} (h:mY σ s v x):mY σ2 s2 v (zB ks x):=by
 cases x with
 |one a=>exact gx.m7 e c d b h
 |agg cs=>obtain⟨vs,h1,h2⟩:=h;exact⟨vs,h1,h2.m7 e c d b⟩
def gJ.m7(d:s2.M=s.M)(b:∀ (j:Nat)(B:aV),σ[j]?=aa B->∃ k,ks[j]?=aa k/\σ2[k]?=aa B)(c:∀ (j:Nat)(L:Loc),s.β[j]?=aa L->∃ k,ks[j]?=aa k/\s2.β[k]?=aa L)(a:s.β.length=σ.length) :
  ∀ {vs:List ak} {xs:List E1},gJ σ s vs xs->gJ σ2 s2 vs (yh ks xs)
 |[],[],_=>trivial
 |[],_::_,h=>h.elim
 |_::_,[],h=>h.elim
 |_::_,_::_,h=>⟨h.1.m7 d b c a,gJ.m7 d b c a h.2⟩
def dc.m7(f:s2.M=s.M)(b:∀ (j:Nat)(B:aV),σ[j]?=aa B->∃ k,ks[j]?=aa k/\σ2[k]?=aa B)(c:∀ (j:Nat)(L:Loc),s.β[j]?=aa L->∃ k,ks[j]?=aa k/\s2.β[k]?=aa L)(a:s.β.length=σ.length)
  {v:ak} {d:D} (h:dc σ s v d):dc σ2 s2 v (jA ks d):=by
 cases d with
 |e x=>exact mY.m7 f b c a h
 |eK xs=>obtain⟨vs,h1,h2⟩:=h;exact⟨vs,h1,h2.m7 f b c a⟩
 |any=>trivial
end sub
def ef.rI{α:Type}:Nat->α->List α->List α
 |_,_,[]=>[]
 |0,x,_::r=>x::r
 |k+1,x,y::r=>y::ef.rI k x r
def ef{α:Type}:List Nat->List α->List α->List α
 |[],new,old=>old++new
 |k::ks,x::new,old=>ef ks new (ef.rI k x old)
 |_::_,[],old=>old
theorem kC{α:Type}:∀ (k:Nat)(x:α)(l:List α),ef.rI k x l=l.set k x
 |_,_,[]=>by simp[ef.rI]
 |0,x,_::r=>by simp[ef.rI]
 |k+1,x,y::r=>by simp[ef.rI,kC k x r]
def vD{α:Type}:∀ {ks:List Nat}{new old:List α},eg ks=ab->(∀ k∈ks,k<old.length)->ks.length<=new.length ->
  (ef ks new old).length=old.length+(new.length-ks.length)/\(∀ (j k:Nat),ks[j]?=aa k->(ef ks new old)[k]?=new[j]?) /\
  (∀ j,(ef ks new old)[old.length+j]?=new[ks.length+j]?)/\(∀ l,l<old.length->l∉ks->(ef ks new old)[l]?=old[l]?)
 |[],new,old,_,_,_=>by
  refine⟨by simp[ef],by simp,λj=>?_,λl d _=>?_⟩
  .simp only[ef,ib,bt]
   grind
  .simp[ef,jD d]
 |k::ks,[],old,_,_,h=>by grind
 |k::ks,x::new,old,a,b,f=>by
  have g:=a;simp only[eg] at a;cases e:fK k ks with
  |true=>grind
  |false =>
   simp only[e] at a;have m:k<old.length:=b k (by simp)
   have c:k∉ks:=λh=>by grind [rH]
   obtain⟨o,n,p,i⟩:=vD (ks:=ks) (new:=new) (old:=old.set k x) a (λk' ZR=>by grind) (by grind)
   simp only[ef,kC]
   grind
def Ev{P:aq}(X:Cx P)(f:aW)(args:List D)(σ:List aV)(res:D)(σ':List aV):Prop :=
 (∃ fn,P.funcs[f]?=aa fn/\(fn.name== "runtime.NumGoroutine")=ae/\fn.body.isNone=ae) /\
 ∀ s (vs:List ak),cz σ s vs args->aJ σ s->∀ (S:au->St->Prop) (cs:List aR),
  (∀ a v s',uw P f a v s'->dc σ' s' v res->aJ σ' s'->cD σ s σ' s'->ft X S (G a cs) s')->ft X S (G (Frame.enter P f vs.toArray .normal) cs) s
def cM{P:aq}{ι:Type}(X:Cx P)(f:aW)(args:List D)(σ:List aV)(res:ι->D)(σ':ι->List aV):Prop :=
 (∃ fn,P.funcs[f]?=aa fn/\(fn.name== "runtime.NumGoroutine")=ae/\fn.body.isNone=ae) /\
 ∀ s (vs:List ak),cz σ s vs args->aJ σ s->∀ (S:au->St->Prop) (cs:List aR),
  (∀ i a v s',uw P f a v s'->dc (σ' i) s' v (res i)->aJ (σ' i) s'->cD σ s (σ' i) s'->ft X S (G a cs) s')->ft X S (G (Frame.enter P f vs.toArray .normal) cs) s
def Ev.Bj{P:aq}{X:Cx P}{f:aW}{args:List D}{σ:List aV}{res:D}{σ':List aV}(h:Ev X f args σ res σ'):cM (ι:=Unit) X f args σ (λ_=>res) (λ_=>σ') :=
 ⟨h.1,λs vs hr hh S cs hS=>h.2 s vs hr hh S cs (hS ())⟩
def cM.uz{P:aq}{X:Cx P}{f:aW}{args:List D}{σ:List aV}{res:D}{σ':List aV}(h:cM (ι:=Unit) X f args σ (λ_=>res) (λ_=>σ')):Ev X f args σ res σ' :=
 ⟨h.1,λs vs hr hh S cs hS=>h.2 s vs hr hh S cs (λ_=>hS)⟩
def zD(s:St)(a:List Loc):Nat->Prop:=λb=>s.own b∨((∃ L∈s.β,b∈L.bs)/\∀ L∈a,b∉L.bs)
def mU(n:Nat):Nat->List Nat
 |0=>[]
 |m+1=>n::mU (n+1) m
def Bw:∀ (m n j:Nat),(mU n m)[j]?=if j<m then aa (n+j) else af
 |0,n,j=>by simp[mU]
 |m+1,n,0=>by simp[mU]
 |m+1,n,j+1=>by
  simp only[mU,mN,Bw m (n+1) j,Nat.add_lt_add_iff_right]
  grind
def frame{ks:List Nat}{σ O σ1:List aV}{s a:St}{m:List Loc}(q:aJ σ s)(V:kL ks σ=aa O)(hβ:kL ks s.β=aa m)(hn:eg ks=ab)
  (hp:cX σ1=ab) (z:aJ σ1 a) (st:cD O { s with β:=m,own:=zD s m } σ1 a) (T:ks.length<=σ1.length) {v:ak} {res:D} (hr:dc σ1 a v res) :
  ∃ s2:St,s2.w=a.w/\dc (ef ks σ1 σ) s2 v (jA (ks++mU σ.length (σ1.length-ks.length)) res)/\aJ (ef ks σ1 σ) s2/\cD σ s (ef ks σ1 σ) s2/\s2.M=a.M/\s2.own=s.own/\∀ L∈s2.β,L∈a.β∨(L∈s.β/\∀ b∈L.bs,∀ L'∈m,b∉L'.bs):=by
 have I:∀ k∈ks,k<σ.length:=by
  intro k N;obtain⟨j,p,rfl⟩:=dH N;obtain⟨x,_,h2⟩:=(iC V).2 j _ (br p)
  grind
 have F:∀ k∈ks,k<s.β.length:=by rw[q.len];exact I
 have K:ks.length<=a.β.length:=by rw[z.len];exact T
 obtain⟨a1,a2,a3,a4⟩:=vD (new:=σ1) (old:=σ) hn I T;obtain⟨b1,b2,b3,b4⟩:=vD (new:=a.β) (old:=s.β) hn F K;obtain⟨c1,c2⟩:=iC V;obtain⟨d1,d2⟩:=iC hβ
 let J:=ks++mU σ.length (σ1.length-ks.length)
 have U:∀ j,j<σ1.length->∃ k,J[j]?=aa k/\(ef ks σ1 σ)[k]?=σ1[j]?/\(ef ks a.β s.β)[k]?=a.β[j]?:=by
  intro j p;rcases cJ j ks.length with n|E
  .refine⟨ks[j],?_,a2 j _ (br n),b2 j _ (br n)⟩
   grind
  .refine⟨σ.length+(j-ks.length),?_,?_,?_⟩
   .simp only[J];rw[gk E,Bw,bd (by omega)]
   .rw[a3];grind
   .rw[<-q.len,b3];grind
 have f:∀ l L,(ef ks a.β s.β)[l]?=aa L->(∃ j,j<σ1.length/\a.β[j]?=aa L/\(∀ B,(ef ks σ1 σ)[l]?=aa B->σ1[j]?=aa B)/\(∀ k,ks[j]?=aa k->k=l)/\(j≥ks.length->l=σ.length+(j-ks.length))) ∨
   (l<σ.length/\l∉ks/\s.β[l]?=aa L/\(ef ks σ1 σ)[l]?=σ[l]?):=by
  intro l L c;have Z:l<(ef ks a.β s.β).length:=(cr.1 c).1;rcases cJ l σ.length with n|E
  .by_cases r:l∈ks
   .obtain⟨j,p,rfl⟩:=dH r;have N:=br p
    grind
   .exact .inr ⟨n,r,by rw[<-b4 l (by rw[q.len];exact n) r];exact c,a4 l n r⟩
  .rw[b1,z.len,q.len] at Z;refine .inl ⟨ks.length+(l-σ.length),by omega,?_,λB t=>?_,λk N=>?_,λ_=>by omega⟩
   .rw[<-b3,q.len,zr E];exact c
   .rw[<-a3,zr E];exact t
   grind
 have C:∀ L∈m,L∈s.β:=by
  intro L c;obtain⟨j,p,rfl⟩:=dH c;have A:j<ks.length:=by grind
  obtain⟨x,W,P⟩:=d2 j _ (br A)
  grind
 have other:∀ l L,l∉ks->s.β[l]?=aa L->∀ b∈L.bs,b<s.w.heap.size/\∀ L'∈m,b∉L'.bs:=by
  intro l L u c b d;refine⟨q.lt L (bU c) b d,λL' gw oS=>?_⟩
  obtain⟨j,p,rfl⟩:=dH gw;have A:j<ks.length:=by grind
  obtain⟨x,W,P⟩:=d2 j _ (br A);rw[br p] at W;cases W;have:=q.gg l ks[j] L _ c P b d oS
  grind
 have out:∀ b,b<s.w.heap.size->(∀ L∈s.β,b∉L.bs)->∀ L∈m,b∉L.bs:=λb _ h L c=>h L (C L c)
 have ex:Ext σ s (ef ks σ1 σ) ⟨ef ks a.β s.β,a.M,a.w,s.own⟩:=by
  refine⟨st.mem,λl B L t c=>?_⟩
  have n:l<σ.length:=(cr.1 t).1
  by_cases r:l∈ks
  .obtain⟨j,p,rfl⟩:=dH r;have N:=br p;obtain⟨x,W,P⟩:=c2 j _ N;obtain⟨y,y1,y2⟩:=d2 j _ N;rw[t] at P;cases P;rw[c] at y2;cases y2;obtain⟨B',L',p1,p2,p3⟩:=st.box j B L W y1
   grind
  .exact⟨B,L,by grind,by grind,.refl _ _⟩
 refine⟨⟨ef ks a.β s.β,a.M,a.w,s.own⟩,rfl,?_,⟨z.mem,?_,?_,?_,?_,?_⟩,⟨st.size,?_,st.mem,?_,?_,ex.box,st.os,st.tape,st.output,rfl⟩,rfl,rfl,?_⟩
 .refine dc.m7 (s:=a) (s2:=⟨ef ks a.β s.β,a.M,a.w,s.own⟩) (σ2:=ef ks σ1 σ) (ks:=J) rfl (λj B t=>?_) (λj L c=>?_) z.len hr
  .grind
  .obtain⟨k,k1,_,k3⟩:=U j (by rw[<-z.len];grind)
   grind
 .simp only;rw[a1,b1,z.len,q.len]
 .intro l B L t c;rcases f l L c with⟨j,p,g,Q,_⟩|⟨u,r,gw,nD⟩
  .exact eP.plain (σ:=σ1) (s:=a) (s':=⟨ef ks a.β s.β,a.M,a.w,s.own⟩) rfl rfl (kM hp B (bU (Q B t))) (z.box j B L (Q B t) g)
  .rw[nD] at t;refine(q.box l B L t gw).carry ex q.len λb d=>?_
   obtain⟨Y,X⟩:=other l L r gw b d;exact⟨st.eN b (.inr ⟨⟨L,bU gw,d⟩,X⟩),st.jz b Y X⟩
 .intro l l' L L' c gw b d oS;rcases f l L c with⟨j,p,g,_,hjk,hjn⟩|⟨u,r,i,_⟩ <;> rcases f l' L' gw with⟨j',A,G,_,abZ,ab0⟩|⟨Bi,hm',H,_⟩
  .have e:=z.gg j j' L L' g G b d oS
   grind
  .obtain⟨Y,X⟩:=other l' L' hm' H b oS;rcases st.xB L (bU g) b d with h|⟨L0,h0,S⟩
   .grind
   grind
  .obtain⟨Y,X⟩:=other l L r i b d;rcases st.xB L' (bU G) b oS with h|⟨L0,h0,S⟩
   .grind
   grind
  .exact q.gg l l' L L' i H b d oS
 .intro L c b d;obtain⟨l,u,rfl⟩:=dH c;rcases f l _ (br u) with⟨j,p,g,_⟩|⟨_,_,i,_⟩
  .exact z.lt _ (bU g) b d
  .have:=q.lt _ (bU i) b d;have:=st.size
   grind
 .intro b d;refine⟨?_,λL c R=>?_⟩
  .have:=(q.own b d).1;have:=st.size
   grind
  .obtain⟨l,u,rfl⟩:=dH c;rcases f l _ (br u) with⟨j,p,g,_⟩|⟨_,_,i,_⟩
   .have ho:a.own b:=by rw[st.own];exact .inl d
    exact(z.own b ho).2 _ (bU g) R
   .exact(q.own b d).2 _ (bU i) R
 .intro b d;exact st.eN b (.inl d)
 .intro b d WZ o;exact st.jz b d (out b d WZ) o
 .intro L c b d;obtain⟨l,u,rfl⟩:=dH c;rcases f l _ (br u) with⟨j,p,g,_⟩|⟨_,_,i,_⟩
  .rcases st.xB _ (bU g) b d with h|⟨L0,h0,S⟩
   .grind
   grind
  grind
 .intro L c;obtain⟨l,u,rfl⟩:=dH c;rcases f l _ (br u) with⟨j,p,g,_⟩|⟨_,r,i,_⟩
  .grind
  grind
def eQ:D->Option (aW×List C)
 |.e (.one (.c (.fn (.func f) [] cap)))=>aa (f,cap)
 |_=>af
theorem nR{σ:List aV}{s:St}{ρ:an->ak}{b:an->D}(a:∀ y,dc σ s (ρ y) (b y)):∀ l:List an,cz σ s (l.map ρ) (l.map b)
 |[]=>trivial
 |x::r=>⟨a x,nR a r⟩
def cz.append{σ:List aV}{s:St}:∀ {vs vE:List ak}{ds FE:List D},cz σ s vs ds->cz σ s vE FE->cz σ s (vs++vE) (ds++FE)
 |[],_,[],_,_,h=>h
 |[],_,_::_,_,h,_=>h.elim
 |_::_,_,[],_,h,_=>h.elim
 |_::_,_,_::_,_,h,a=>⟨h.1,cz.append h.2 a⟩
def QR:A->A
 |.vec _ k n es=>.c (.sl ae k n es)
 |.c (.sl _ k n es)=>.c (.sl ae k n es)
 |a=>a
def FH{σ:List aV}{s:St}{v:ak}{a:A}(h:gx σ s v a):gx σ s v (QR a):=by
 cases a with
 |vec l k n es=>exact h.1
 |c x=>cases x <;> first|exact h|exact Rd.loose h
 |_=>exact h
def QS:List A->List A
 |[]=>[]
 |a::r=>QR a::QS r
def FI{σ:List aV}{s:St}:∀ {vs:List ak}{cs:List A},dW σ s vs cs->dW σ s vs (QS cs)
 |[],[],_=>trivial
 |[],_::_,h=>h.elim
 |_::_,[],h=>h.elim
 |_::_,_::_,h=>⟨FH h.1,FI h.2⟩
def T3:D->D
 |.e (.one a)=>.e (.one (QR a))
 |.e (.agg cs)=>.e (.agg (QS cs))
 |d=>d
def Ny{σ:List aV}{s:St}{v:ak}{d:D}(h:dc σ s v d):dc σ s v (T3 d):=by
 cases d with
 |e x=>cases x with
  |one a=>exact FH h
  |agg cs=>obtain⟨vs,c,b⟩:=h;exact⟨vs,c,FI b⟩
 |eK xs=>exact h
 |any=>trivial
def ou:List D->List D
 |[]=>[]
 |a::r=>T3 a::ou r
theorem rJ{σ:List aV}{s:St}:∀ {vs:List ak}{ds:List D},cz σ s vs ds->cz σ s vs (ou ds)
 |[],[],_=>trivial
 |[],_::_,h=>h.elim
 |_::_,[],h=>h.elim
 |_::_,_::_,h=>⟨Ny h.1,rJ h.2⟩
def fY:List C->List D
 |[]=>[]
 |c::r=>.e (.one (.c c))::fY r
theorem lP{σ:List aV}{s:St}:∀ {vs:List ak}{cs:List C},(∀ (j:Nat)(c:C),cs[j]?=aa c->∃ v,vs[j]?=aa v/\Rd s.M v c)->vs.length=cs.length->cz σ s vs (fY cs)
 |[],[],_,_=>trivial
 |[],_::_,_,h=>by grind
 |_::_,[],_,h=>by grind
 |v::vs,c::cs,h,e=>by
  obtain⟨u,a,b⟩:=h 0 c rfl;simp at a;subst a;exact⟨b,lP (λj c d=>by simpa using h (j+1) c (by grind)) (by grind)⟩
def zE{α:Type}{ks:List Nat}{l r:List α}(h:kL ks l=aa r):∀ x∈r,x∈l:=by
 intro x a;obtain⟨e,b⟩:=iC h;obtain⟨j,c,rfl⟩:=dH a;obtain⟨y,f,d⟩:=b j _ (br (by omega))
 grind
def aJ.sub{ks:List Nat}{σ d:List aV}{s:St}{a:List Loc}(hh:aJ σ s)(p:kL ks σ=aa d)(f:kL ks s.β=aa a)(v:cX d=ab)(hn:eg ks=ab) :
  aJ d { s with β:=a,own:=zD s a }/\eR s { s with β:=a,own:=zD s a }:=by
 obtain⟨c1,c2⟩:=iC p;obtain⟨d1,d2⟩:=iC f;have i:∀ L∈a,L∈s.β:=zE f;refine⟨⟨hh.mem,by grind,?_,?_,?_,?_⟩,⟨rfl,λ_ _ _ h=>h,λ_ _ _=>rfl,hh.mem,?_⟩⟩
 .intro j B L r c;have hj:j<ks.length:=by grind
  obtain⟨x,t,u⟩:=c2 j _ (br hj);obtain⟨y,k,n⟩:=d2 j _ (br hj);rw[r] at t;cases t;simp only at c;rw[c] at k;cases k;exact eP.plain (σ:=σ) (s:=s) (s':={ s with β:=a,own:=zD s a }) rfl rfl (kM v B (bU r)) (hh.box _ B L u n)
 .intro j q L L' c g b hb oS;simp only at c g;have hj:j<ks.length:=by grind
  have l:q<ks.length:=by grind
  obtain⟨y,k,n⟩:=d2 j _ (br hj);obtain⟨w,e,m⟩:=d2 q _ (br l);rw[c] at k;cases k;rw[g] at e;cases e;have:=hh.gg _ _ L L' n m b hb oS;exact vC hn j q ks[j] (br hj) (by grind)
 .intro L c b hb;exact hh.lt _ (i L c) b hb
 .rintro b (hb|⟨⟨L,c,hb⟩,o⟩)
  .exact⟨(hh.own b hb).1,λL c=>(hh.own b hb).2 L (i L c)⟩
  .exact⟨hh.lt L c b hb,o⟩
 .rintro b ((hb|⟨⟨L,c,hb⟩,_⟩)|⟨L,c,hb⟩)
  .grind
  .grind
  grind
def eR.back{σ d σ1:List aV}{s c s2:St}{a:List Loc}(hh:aJ σ s)(h1:aJ σ1 c)(st:cD d { s with β:=a,own:=zD s a } σ1 c)(g:s2.w=c.w)(f:s2.M=c.M)(k:s2.own=s.own)
  (e:∀ L∈s2.β,L∈c.β∨(L∈s.β/\∀ b∈L.bs,∀ L'∈a,b∉L'.bs)):eR c s2:=by
 refine⟨g,λb o v h=>by grind,λb _ o=>by rw[f],λb o v h=>by rw[f] at h;exact h1.mem b o v h,?_⟩
 rintro b (hb|⟨L,i,hb⟩)
 .left;rw[st.own];exact .inl (by grind)
 .rcases e L i with h|⟨h,j⟩
  .grind
  .left;rw[st.own];exact .inr ⟨⟨L,h,hb⟩,j b hb⟩
def sW{P:aq}{ι:Type}{X:Cx P}{S:au->St->Prop}{b:aR}{k:List Item}{cs:List aR}{a:Act}{s:St}{ops:Array aw}{i:Nat}{rest:List Nat}{o:aw}{ks:List Nat}{σ e:List aV}{σ1:ι->List aV}{f:aW}{d:List D}{res:ι->D}{vs:List ak}
  (hb:b.kind≠.early) (ho:ops[i]?=aa o) (hw:bj o (yielded ops a.tmps)=ab) (hh:aJ σ s) (z:∀ w,(ay a.eval o).run P w=.ok (.enter f vs.toArray) w) (F:∀ w,(ay a.eval o).events P w #[]=#[])
  (O:cM X f d e res σ1) (x:cz σ s vs (iX ks d)) (T:oF ks.length d=ab) (q:kL ks σ=aa e) (hp:cX e=ab) (Z:∀ j,cX (σ1 j)=ab) (hn:eg ks=ab) (R:∀ j,ks.length<=(σ1 j).length)
  (h:∀ j v s',dc (ef ks (σ1 j) σ) s' v (jA (ks++mU σ.length ((σ1 j).length-ks.length)) (res j))->aJ (ef ks (σ1 j) σ) s'->cD σ s (ef ks (σ1 j) σ) s'->ft X S (G (b.aT (a.put o.dst v) (.inRegion ops rest::k)) cs) s') :
  ft X S (G (b.aT a (.inRegion ops (i::rest)::k)) cs) s:=by
 obtain⟨_,r⟩:=O;refine .next rfl λn K=>?_
 have V:=X.ik K;have g:=hh.rely V;obtain⟨m,u⟩:=zA (l':=n.β) q g.len;obtain⟨E,M⟩:=g.sub q u hp hn;have p:cz σ n vs (iX ks d):=x.mono V.stepW.ext hh.len;have C:cz e { n with β:=m,own:=zD n m } vs d:=(p.sub (s:=n) q u T).mono (σ:=e) (s:={ n with β:=m }) (σ':=e) (s':={ n with β:=m,own:=zD n m }) ⟨λ_ _ _ h=>h,λl B L hB hL=>⟨B,L,hB,hL,.refl _ _⟩⟩ E.len
 refine⟨_,n,_,oQ ho hw hb (z n.w),?_,.ghost M (r _ vs C E S _ λj fr v s2 hl mQ Dp oB=>?_)⟩
 .refine⟨⟨σ,σ,g,g,.refl _ _⟩,eZ.seen ?_⟩;rw[F];exact .nil
 refine pM (cs:=cs) (c:=b.aT a (.inRegion ops (i::rest)::k)) Dp hl λs3 t=>?_
 have H:=Dp.rely t;have y:=oB.trans t.stepW;obtain⟨s4,U,Q,N,J,I,W,A⟩:=frame g q u hn (Z j) H y (R j) (mQ.mono t.stepW.ext Dp.len);refine .ghost (eR.back g H y U I W A) ?_;have Y:=kg (b:=b) (a:=a) (k:=k) ops i rest v;rw[ho] at Y;simp only[nG] at Y;rw[Y];exact h j v s4 Q N (V.stepW.trans J)
def Jt{P:aq}{X:Cx P}{S:au->St->Prop}{b:aR}{k:List Item}{cs:List aR}{a:Act}{s:St}{ops:Array aw}{i:Nat}{rest:List Nat}{o:aw}{ks:List Nat}{σ d:List aV}{σ1:List aV}{f:aW}{c:List D}{res:D}{vs:List ak}
  (z:b.kind≠.early) (y:ops[i]?=aa o) (r:bj o (yielded ops a.tmps)=ab) (u:aJ σ s) (j:∀ w,(ay a.eval o).run P w=.ok (.enter f vs.toArray) w) (g:∀ w,(ay a.eval o).events P w #[]=#[])
  (l:Ev X f c d res σ1) (e:cz σ s vs (iX ks c)) (p:oF ks.length c=ab) (q:kL ks σ=aa d) (t:cX d=ab) (m:cX σ1=ab) (x:eg ks=ab) (n:ks.length<=σ1.length)
  (h:∀ v s',dc (ef ks σ1 σ) s' v (jA (ks++mU σ.length (σ1.length-ks.length)) res)->aJ (ef ks σ1 σ) s'->cD σ s (ef ks σ1 σ) s'->ft X S (G (b.aT (a.put o.dst v) (.inRegion ops rest::k)) cs) s') :
  ft X S (G (b.aT a (.inRegion ops (i::rest)::k)) cs) s :=
 sW z y r u j g l.Bj e p q t (λ_=>m) x (λ_=>n) (λ_=>h)
theorem gM{P:aq}{o:aw}{i:an}{xs:Array an}{e:Array ar}(j:o.op=.call { callee:=.value i,args:=xs,argTypes:=e }){f:aW}{fn:Func}(d:P.funcs[f]?=aa fn)(l:(fn.name== "runtime.NumGoroutine")=ae)(g:fn.body.isNone=ae)
  {a:Act} {cs:List ak} (k:a.eval i=.func (.func f) #[] cs.toArray) (w:az) :
  (ay a.eval o).run P w=.ok (.enter f (xs.toList.map a.eval++cs).toArray) w/\(ay a.eval o).events P w #[]=#[]:=by
 have h:(xs.map a.eval++cs.toArray)=(xs.toList.map a.eval++cs).toArray:=by grind
 have c:fn.name≠ "runtime.NumGoroutine":=by grind
 have b:fn.body≠af:=by grind
 constructor
 .simp[ay,j,resolve,k,Deferred.ofValue,invoke,callFunc,d,c,b,h]
 .simp[ay,j,resolve,k,Deferred.ofValue,invoke,callFunc,d,c,b]
def jB.PH{P:aq}{ι:Type}{X:Cx P}{N:Nat}{all rest:List aw}{Q:Fr->List aV->Prop}{φ:Fr}{σ:List aV}{o:aw}{A:an}{xs:Array an}{L:Array ar}
  (V:∀ σ s a,cx N σ s φ a->bj o (yielded all.toArray a.tmps)=ab) (R:o.op=.call { callee:=.value A,args:=xs,argTypes:=L })
  {f:aW} {cap:List C} (B:eQ (b5 φ A)=aa (f,cap)) (ks:List Nat) {e:List D} {n:List aV} {σ1:ι->List aV} {res:ι->D} (y:cM X f e n res σ1)
  (r:∀ s vs,cz σ s vs (xs.toList.map (b5 φ)++fY cap)->cz σ s vs (iX ks e)) (J:oF ks.length e=ab) (O:kL ks σ=aa n) (W:cX n=ab) (M:∀ j,cX (σ1 j)=ab) (hn:eg ks=ab) (I:∀ j,ks.length<=(σ1 j).length)
  (d:Option Nat) (U:o.dst=d) (Y:∀ t,d=aa t->t<N)
  (k:∀ j,jB X N all rest Q (lC d (jA (ks++mU σ.length ((σ1 j).length-ks.length)) (res j)) φ) (ef ks (σ1 j) σ)):jB X N all (o::rest) Q φ σ:=by
 subst U;intro s a g hh b kk cs S idx hb jH hQ;cases idx with
 |nil=>exact jH.elim
 |cons i idx =>
 obtain⟨hi,jH⟩:=jH;have z:=dX g A;unfold eQ at B;split at B
 case h_2=>cases B
 case h_1 f' Jb he =>
  cases B;rw[he] at z;have m:=fy z;generalize T:a.eval A=fv at m;cases m with
  |fn fs mc hl Bi f1 f2 h1 h2 r1 r2 =>
   have F:fs=[]:=hZ hl;subst F;have p:cz σ s mc (fY cap):=lP (λj c hj=>⟨f2 j,h2 j (by grind),r2 j c hj⟩) Bi
   have u:cz σ s (xs.toList.map a.eval++mc) (iX ks e):=by
    exact r _ _ ((nR (dX g) xs.toList).append p)
   obtain⟨fn,x,l,h⟩:=y.1;refine sW hb hi (V _ _ _ g) hh (λw=>(gM R x l h T w).1) (λw=>(gM R x l h T w).2) y u J O W M hn I λj v s' hr lb st=>?_
   refine k j s' _ ?_ lb b kk cs S idx hb jH λG K s3 a3 q Z h3 E=>hQ G K s3 a3 q Z h3 (st.trans E)
   cases H:o.dst with
   |none=>exact g.mono st hh.len
   |some t=>exact(g.mono st hh.len).put (Y t H) hr
def jB.PI{P:aq}{ι:Type}{X:Cx P}{N:Nat}{all rest:List aw}{Q:Fr->List aV->Prop}{φ:Fr}{σ:List aV}{o:aw}{q:an}{xs:Array an}{e:Array ar}
  (x:∀ σ s a,cx N σ s φ a->bj o (yielded all.toArray a.tmps)=ab) (v:o.op=.call { callee:=.value q,args:=xs,argTypes:=e })
  {f:aW} {cap:List C} (u:eQ (b5 φ q)=aa (f,cap)) (ks:List Nat) {b:List D} {c:List aV} {σ1:ι->List aV} {res:ι->D} (g:cM X f b c res σ1)
  (p:ou (xs.toList.map (b5 φ)++fY cap)=iX ks b) (m:oF ks.length b=ab) (n:kL ks σ=aa c) (y:cX c=ab) (i:∀ j,cX (σ1 j)=ab) (hn:eg ks=ab) (l:∀ j,ks.length<=(σ1 j).length)
  (d:Option Nat) (w:o.dst=d) (r:∀ t,d=aa t->t<N)
  (k:∀ j,jB X N all rest Q (lC d (jA (ks++mU σ.length ((σ1 j).length-ks.length)) (res j)) φ) (ef ks (σ1 j) σ)):jB X N all (o::rest) Q φ σ :=
 jB.PH x v u ks g (λs vs h=>by grind [rJ]) m n y i hn l d w r k
theorem jB.call{P:aq}{X:Cx P}{N:Nat}{all rest:List aw}{Q:Fr->List aV->Prop}{φ:Fr}{σ:List aV}{o:aw}{n:an}{xs:Array an}{g:Array ar}
  (v:∀ σ s a,cx N σ s φ a->bj o (yielded all.toArray a.tmps)=ab) (r:o.op=.call { callee:=.value n,args:=xs,argTypes:=g })
  {f:aW} {cap:List C} (q:eQ (b5 φ n)=aa (f,cap)) (ks:List Nat) {b:List D} {c σ1:List aV} {res:D} (h:Ev X f b c res σ1)
  (e:ou (xs.toList.map (b5 φ)++fY cap)=iX ks b) (l:oF ks.length b=ab) (m:kL ks σ=aa c) (w:cX c=ab) (i:cX σ1=ab) (hn:eg ks=ab) (j:ks.length<=σ1.length)
  (d:Option Nat) (u:o.dst=d) (p:∀ t,d=aa t->t<N)
  (k:jB X N all rest Q (lC d (jA (ks++mU σ.length (σ1.length-ks.length)) res) φ) (ef ks σ1 σ)):jB X N all (o::rest) Q φ σ :=
 jB.PI v r q ks h.Bj e l m w (λ_=>i) hn (λ_=>j) d u p (λ_=>k)
def Names.range(all:List aw):Names all (bh all.toArray.size) all:=by
 have key:∀ (l:List aw) (n:Nat),(∀ j o,l[j]?=aa o->all[n+j]?=aa o)->Names all (List.range' n l.length) l:=by
  intro l
  induction l with
  |nil=>intro n _;trivial
  |cons o r b =>
   intro n h;rw[fa,List.range'_succ];refine⟨by simpa using h 0 o rfl,b (n+1) λj a hj=>?_⟩
   have:=h (j+1) a (by grind)
   grind
 grind [List.range_eq_range']
theorem AW.region{P:aq}{X:Cx P}{N:Nat}{Q:Post}{φ:Fr}{σ:List aV}{id:Nat}{ops:Array aw}(h:jB X N ops.toList ops.toList (λφ σ=>Q .normal φ σ) φ σ):AW X N (.region id ops ae) Q φ σ:=by
 intro s a f hh b k cs S hb hQ;refine .ctl hh rfl (λ_=>pQ) λe h1=>?_
 have:=h e a (f.rely h1 hh) (hh.rely h1) b k cs S (bh ops.size) hb (by simpa using Names.range ops.toList) λc σ' s' a' q g d st=>hQ .normal c σ' s' a' q g d (h1.stepW.trans st)
 simpa using this
def jB.nil{P:aq}{X:Cx P}{N:Nat}{all:List aw}{Q:Fr->List aV->Prop}{φ:Fr}{σ:List aV}(h:Q φ σ):jB X N all [] Q φ σ:=by
 intro s a f hh b k cs S idx _ c d;cases idx with
 |cons i idx=>exact c.elim
 |nil=>exact .ctl hh rfl (λ_=>iW) λe h1=>d φ σ e a h (f.rely h1 hh) (hh.rely h1) h1.stepW
def jB.mono{P:aq}{X:Cx P}{N:Nat}{all rest:List aw}{Q d:Fr->List aV->Prop}{φ:Fr}{σ:List aV}(h:jB X N all rest Q φ σ)(e:∀ φ σ,Q φ σ->d φ σ):jB X N all rest d φ σ :=
 λs a f hh b k cs S idx hb hi hQ=>h s a f hh b k cs S idx hb hi λc σ' s' a' q g i st=>hQ c σ' s' a' (e _ _ q) g i st
def js:Nat->List D->Fr
 |_,[]=>[]
 |i,d::r=>(i,d)::js (i+1) r
def nZ:∀ (ds:List D)(i t:Nat),look (js i ds) t=if i<=t then (ds[t-i]?).getD .any else .any
 |[],i,t=>by simp[js,look]
 |d::r,i,t=>by
  simp only[js,look]
  by_cases e:i=t
  .grind [Nat.beq_refl]
  .have:aG i t=ae:=by
    grind [Nat.eq_of_beq_eq_true]
   rw[this];simp only[cond,nZ r (i+1) t]
   grind
theorem cz.get{σ:List aV}{s:St}:∀ {vs:List ak}{ds:List D},cz σ s vs ds->vs.length=ds.length/\∀ (j:Nat),dc σ s ((vs[j]?).getD aj) ((ds[j]?).getD .any)
 |[],[],_=>⟨rfl,λj=>by simp[dc]⟩
 |[],_::_,h=>h.elim
 |_::_,[],h=>h.elim
 |v::vs,d::ds,h=>by
  obtain⟨h1,h2⟩:=cz.get h.2;refine⟨by grind,λj=>?_⟩
  cases j with
  |zero=>simpa using h.1
  |succ j=>grind
def xG(φ:Fr):List ResultVar->Option (List D)
 |[]=>aa []
 |.tmp t::r=>match xG φ r with
  |some q=>aa (look φ t::q)
  |none=>af
 |.cell _ _::_=>af
def tN:List D->Option (List E1)
 |[]=>aa []
 |.e x::r=>match tN r with
  |some q=>aa (x::q)
  |none=>af
 |_::_=>af
def rK:List D->Option D
 |[d]=>aa d
 |ds=>match tN ds with
  |some es=>aa (.eK es)
  |none=>af
def fU(a:Act):ResultVar->Sem ak
 |ResultVar.tmp t=>pure (a.tmps.getD t aj)
 |ResultVar.cell ad t=>do loadVar t (<-asAddr (a.tmps.getD ad aj))
def FJ(P:aq){N:Nat}{σ:List aV}{s:St}{φ:Fr}{a:Act}(f:cx N σ s φ a):∀ {rs:List ResultVar}{ds:List D},xG φ rs=aa ds ->
  ∃ vs,(∀ w,(rs.mapM (fU a)).run P w=Result.ok vs w)/\cz σ s vs ds/\cO P (rs.mapM (fU a))
 |[],ds,h=>by cases h;exact⟨[],by simp,av,by rw[List.mapM_nil];exact .pure⟩
 |.tmp t::r,ds,h=>by
  simp only[xG] at h;cases b:xG φ r with
  |none=>grind
  |some q =>
   simp[b] at h;subst h;obtain⟨vs,e,d,c⟩:=FJ P f b;refine⟨a.tmps.getD t aj::vs,?_,⟨f.slot t,d⟩,?_⟩
   .intro w;simp only[lA,bY,fU,cY,b9,e]
   .rw[lA];exact .bind .pure λ_=>.bind c λ_=>.pure
 |.cell ad t::r,ds,h=>by simp[xG] at h
def Bx{σ:List aV}{s:St}:∀ {vs:List ak}{ds:List D}{es:List E1},tN ds=aa es->cz σ s vs ds->gJ σ s vs es
 |[],[],es,h,_=>by cases h;trivial
 |[],_::_,_,_,h=>h.elim
 |_::_,[],_,_,h=>h.elim
 |v::vs,.e x::r,es,h,b=>by
  simp only[tN] at h;cases a:tN r with
  |none=>grind
  |some q=>simp[a] at h;subst h;exact⟨b.1,Bx a b.2⟩
 |_::_,.eK _::_,es,h,_=>by simp[tN] at h
 |_::_,.any::_,es,h,_=>by simp[tN] at h
def By{σ:List aV}{s:St}{vs:List ak}{ds:List D}{d:D}(h:rK ds=aa d)(a:cz σ s vs ds):dc σ s (if h:vs.length=1 then vs[0] else .tuple vs.toArray) d:=by
 unfold rK at h;split at h
 .rename_i g
  cases h
  match vs,a with
  |[v],a=>simpa using a.1
 .rename_i c
  cases b:tN ds with
  |none=>grind
  |some es =>
   simp[b] at h;subst h;have f:vs.length≠1:=by
    intro e;rw[(cz.get a).1] at e
    match ds,e with
    |[x],_=>grind
   rw[dif_neg f];exact⟨vs,rfl,Bx b a⟩
def Bz(P:aq)(fn:Func)(φ:Fr)(d:D):Prop:=∀ {N:Nat}{σ:List aV}{s:St}{a:Act},cx N σ s φ a->∃ v,dc σ s v d/\∀ w,(∀ b o u,s.M b o=aa u->w.cell? ⟨b,o,af⟩=aa u)->(results fn a.tmps).run P w=.ok v w/\∀ e∈(results fn a.tmps).events P w #[],∃ b o u,e=⟨.cell ⟨b,o,af⟩,ae,ae⟩/\s.M b o=aa u
def tO{P:aq}{N:Nat}{σ:List aV}{s:St}{φ:Fr}{a:Act}(f:cx N σ s φ a){fn:Func}{ds:List D}{d:D}(h:xG φ fn.results.toList=aa ds)(c:rK ds=aa d) :
  ∃ v,(∀ w,(results fn a.tmps).run P w=.ok v w)/\dc σ s v d/\cO P (results fn a.tmps):=by
 obtain⟨vs,i,b,g⟩:=FJ P f h;refine⟨_,λw=>?_,By c b,?_⟩
 .have e:(fn.results.mapM (fU a)).run P w=Result.ok vs.toArray w:=by
   grind [Array.mapM_eq_mapM_toList,Sem.run_map,Go.Result.andThen_ok]
  unfold results;rw[bY];refine(du (λr=>Result.andThen r _) (Eq.trans ?_ e)).trans ?_
  .congr 2
  .simp
 .unfold results;have e:cO P (fn.results.mapM (fU a)):=by
   rw[qv];exact .map g
  exact .bind e λ_=>.pure
theorem Bz.of{P:aq}{fn:Func}{φ:Fr}{ds:List D}{d:D}(h:xG φ fn.results.toList=aa ds)(hj:rK ds=aa d):Bz P fn φ d:=by
 intro N σ s a f;obtain⟨v,h1,h2,c⟩:=tO (P:=P) f h hj;exact⟨v,h2,λw _=>⟨h1 w,λe b=>by rw[c w #[]] at b;grind⟩⟩
end
section
open Go.Conc (G)
def aJ.lE{σ:List aV}{s:St}(h:aJ σ s):aJ (σ.map λ_=>.dead) s:=by
 refine⟨h.mem,by simp[h.len],λl B L a c=>?_,h.gg,h.lt,h.own⟩
 simp only[nF] at a;cases b:σ[l]? with
 |none=>grind
 |some x=>rw[b] at a;cases a;trivial
structure PL (ls:List Nat)(s s':St):Prop where
 β:s'.β=s.β
 M:s'.M=s.M
 own:s'.own=s.own
 size:s.w.heap.size<=s'.w.heap.size
 eN:∀ b,(s.own b∨∃ (l:Nat) (L:Loc),s.β[l]?=aa L/\l∉ls/\b∈L.bs)->s'.w.heap[b]?=s.w.heap[b]?
 mem:∀ b o v,s.M b o=aa v->s'.w.cell? ⟨b,o,af⟩=aa v
 os:s'.w.os=s.w.os
 tape:s'.w.tape=s.w.tape
 output:s'.w.output=s.w.output
def cj.unR{s s':St}(h:cj s s')(ls:List Nat):PL ls s s' :=
 ⟨h.β,h.M,h.own,h.size,λb hb=>h.eN b (hb.imp id λ⟨l,L,h1,_,a⟩=>⟨L,bU h1,a⟩),h.mem,h.os,h.tape,h.output⟩
theorem PL.cat{l:Nat}{ls:List Nat}{s a s2:St}(h:PL [l] s a)(k:PL ls a s2):PL (l::ls) s s2:=by
 refine⟨k.β.trans h.β,k.M.trans h.M,k.own.trans h.own,eL h.size k.size,λb hb=>?_,λb o v c=>k.mem b o v (by rw[h.M];exact c),k.os.trans h.os,k.tape.trans h.tape,k.output.trans h.output⟩
 rw[k.eN b,h.eN b (hb.imp id λ⟨l',L,h1,h2,d⟩=>⟨l',L,h1,λe=>h2 (by grind),d⟩)]
 rw[h.own,h.β]
 grind
def Jy{P:aq}{w:az}{r:Nat}(a:w.heap[r]?=aa (.deferred (aa []))) :
  (Instr.takeDeferred r).run P w=.ok [] { w with heap:=w.heap.setIfInBounds r (.deferred af) }/\(Instr.takeDeferred r).events P w #[]=#[⟨.obj r,ae,ae⟩,⟨.obj r,ab,ae⟩]:=by
 have b:(getObj r).run P w=.ok (.deferred (aa [])) w:=by simp only[getObj,Sem.run,a]
 have d:(setObj r (.deferred af)).run P w=.ok () { w with heap:=w.heap.setIfInBounds r (.deferred af) }:=by simp only[setObj,Sem.run,a]
 have e:∀ es,(getObj r).events P w es=es.push ⟨.obj r,ae,ae⟩:=λes=>by simp only[getObj,Sem.events,Sem.runT,a];rfl
 have c:∀ es,(setObj r (.deferred af)).events P w es=es.push ⟨.obj r,ab,ae⟩:=λes=>by simp only[setObj,Sem.events,Sem.runT,a];rfl
 constructor
 .simp[Instr.takeDeferred,b,d]
 .simp[Instr.takeDeferred,b,e,c]
variable {P:aq}{X:Cx P}{S:au->St->Prop}{cs:List aR}{main:Bool}
def NA{a:aR}{r:Nat}{ds:List Deferred}{w:az}(b:a.mode=.returning)(d:a.defers={ target:=.collected r,args:=#[] }::ds)(f:w.heap[r]?=aa (.deferred (aa []))) :
  aK P main (G a cs) w=.go (G { a with defers:=ds } cs) { w with heap:=w.heap.setIfInBounds r (.deferred af) } (seen P a.fn #[⟨.obj r,ae,ae⟩,⟨.obj r,ab,ae⟩]):=by
 obtain⟨e,c⟩:=Jy (P:=P) f;simp[G,aK,unwind,b,d,e,c,GStep.after]
def vJ(s:St):List Deferred->List Nat->Prop
 |[],[]=>True
 |d::ds,l::ls=>(∃ r:Nat,s.β[l]?=aa ⟨.int .i64 r,[r]⟩/\s.w.heap[r]?=aa (.deferred (aa []))/\(∀ o,s.M r o=af)/\d={ target:=.collected r,args:=#[] })/\l∉ls/\vJ s ds ls
 |_,_=>False
def oI.taken{σ:List aV}{s:St}(hh:aJ σ s):∀ {ds:List Deferred}{ls:List Nat},oI σ s ds ls->vJ s ds ls
 |[],[],_=>trivial
 |[],_::_,r=>r.elim
 |_::_,[],r=>r.elim
 |d::ds,l::ls,⟨⟨h1,L,r,h2,f,b⟩,g,c⟩=>by
  obtain⟨r',k1,a,h⟩:=hh.box l _ L h1 h2;subst k1;simp at f;have e:r'=r:=by omega
  subst e;exact⟨⟨r',h2,a,h,b⟩,g,oI.taken hh c⟩
def vJ.mono{s s':St}{b:Nat}(h:PL [b] s s'):∀ {ds:List Deferred}{ls:List Nat},b∉ls->vJ s ds ls->vJ s' ds ls
 |[],[],_,_=>trivial
 |[],_::_,_,r=>r.elim
 |_::_,[],_,r=>r.elim
 |d::ds,l::ls,a,⟨⟨r,h1,h2,g,c⟩,f,e⟩=>by
  simp only[fb,not_or] at a;refine⟨⟨r,by rw[h.β];exact h1,by rw[h.eN r (.inr ⟨l,_,h1,by grind,by simp⟩)];exact h2,λo=>by rw[h.M];grind,c⟩,f,vJ.mono h a.2 e⟩
def qD:∀ (ls:List Nat)(c:aR)(s:St)(σ:List aV),aJ σ s->(∀ B∈σ,B=.dead)->c.mode=.returning->vJ s c.defers ls ->
  (∀ s',PL ls s s'->ft X S (G { c with defers:=[] } cs) s')->ft X S (G c cs) s
 |[],c,s,σ,t,n,A,m,k=>by
  have p:c.defers=[]:=by
   cases p:c.defers with
   |nil=>rfl
   |cons d ds=>rw[p] at m;exact m.elim
  have:=k s ((cj.refl t).unR _);have e:{ c with defers:=[] }=c:=by cases c;simp_all
  grind
 |l::ls,c,s,σ,t,n,A,m,k=>by
  cases p:c.defers with
  |nil=>rw[p] at m;exact m.elim
  |cons d ds =>
   rw[p] at m;obtain⟨⟨r,z,K,U,J⟩,Q,O⟩:=m;subst J;refine .next rfl λi F=>?_
   have g:=X.ik F;have a:=t.rely g;have C:i.β[l]?=aa ⟨.int .i64 r,[r]⟩:=by rw[g.β];exact z
   have H:i.w.heap[r]?=aa (.deferred (aa [])):=by rw[g.eN r (.inr ⟨_,bU z,by simp⟩)];exact K
   have T:∀ o,i.M r o=af:=λo=>by rw[g.M];grind
   let s2:St:={ i with w:={ i.w with heap:=i.w.heap.setIfInBounds r (.deferred af) } }
   have I:∀ b,b≠r->s2.w.heap[b]?=i.w.heap[b]?:=λb f=>by
    grind
   have j:∀ b o v,i.M b o=aa v->s2.w.cell? ⟨b,o,af⟩=aa v:=by
    intro b o v E;have q:b≠r:=by grind
    rw[<-a.mem b o v E];simp only[a9]
    grind
   have x:aJ σ s2:=by
    refine⟨j,a.len,λl' B L R y=>?_,a.gg,λL y b f=>?_,λb f=>⟨?_,(a.own b f).2⟩⟩
    .rw[n B (bU R)];trivial
    .have:=a.lt L y b f;grind
    .have:=(a.own b f).1;grind
   have u:∃ L∈i.β,r∈L.bs:=⟨_,bU C,by simp⟩
   have st:Step σ i σ s2:=by
    refine⟨by grind,λb _ f=>I b ?_,λ_ _ _ h=>h,λ_ _ _ _=>rfl,λL y b f=>.inr ⟨L,y,f⟩,λ_ B L h N=>⟨B,L,h,N,.refl _ _⟩,rfl,rfl,rfl,rfl⟩
    grind
   have un:PL [l] s s2:=by
    refine⟨g.β,g.M,g.own,eL g.size (by grind),λb f=>?_,λb o v E=>j b o v (by rw[g.M];exact E),g.os,g.tape,g.output⟩
    have q:b≠r:=by
     rintro rfl;rcases f with f|⟨l',L',D,p2,p3⟩
     .exact(t.own b f).2 _ (bU z) (by simp)
     .exact p2 (by simp;exact t.gg l' l L' _ D z b p3 (by simp))
    rw[I b q];exact g.eN b (f.imp id λ⟨l',L',D,_,p3⟩=>⟨L',bU D,p3⟩)
   refine⟨_,s2,_,NA A p H,⟨⟨σ,σ,a,x,st⟩,eZ.seen (.two ?_ ?_)⟩,?_⟩
   .exact⟨rfl,.inr u⟩
   .exact⟨rfl,.inr u⟩
   refine qD ls { c with defers:=ds } s2 σ x n A (O.mono un Q) λs' hu=>?_
   exact k s' (un.cat hu)
end
section
open Go.Conc (G)
def aP(n:Nat)(f g:Nat->List C):Prop:=∀ i,i<n->f i=g i
def Flat.DC{M:Mem}{k n:Nat}{es es':Nat->List C}{vs:List ak}(h:Flat M k n es vs)(a:aP n es es'):Flat M k n es' vs :=
 ⟨h.len,λi hi=>by rw[<-a i hi];exact h.width i hi,λi hi j c hj=>h.rd i hi j c (by rw[a i hi];exact hj)⟩
def XU:C->C->Option (List Prop)
 |.int k n,.int k' n'=>match He k k' with|true=>aa [n=n']|false=>af
 |.bool b,.bool b'=>aa [b=b']
 |.str s,.str s'=>aa [s=s']
 |.sl t k n es,.sl t' k' n' es'=>match aG k k' with
  |true=>match t,t' with
   |false,ab=>af
   |_,_=>aa [n=n',aP n es es']
  |false=>match t,t' with
   |true,_=>aa [n=0,n'=0]
   |_,_=>af
 |.val x,.val y=>aa [x=y]
 |x,y=>aa [x=y]
def Rp{M:Mem}{v:ak}{x y:C}{ps:List Prop}(h:XU x y=aa ps)(c:ag ps)(r:Rd M v x):Rd M v y:=by
 unfold XU at h;split at h
 .rename_i k n k' n'
  cases d:He k k' <;> simp[d] at h
  subst h;cases z9 d;cases (show n=n' from c)
  exact r
 .cases h;rename_i b f;cases (show b=f from c);exact r
 .cases h;rename_i b f;cases (show b=f from c);exact r
 .rename_i t k n es t' k' n' es'
  cases d:aG k k' with
  |true =>
   simp only[d] at h;have e:=bX d;subst e;cases t <;> cases t' <;> simp at h
   all_goals (subst h;obtain⟨rfl,g⟩:=(show n=n'/\aP n es es' from c);first|exact r.DC g|exact r.loose.DC g)
  |false =>
   simp only[d] at h;cases t <;> simp at h
   subst h;obtain⟨rfl,rfl⟩:=(show n=0/\n'=0 from c)
   obtain⟨a,cap,vs,rfl,_,_,i,_⟩:=r.flat
   grind [Rd.jJ]
 .cases h;rename_i x y;cases (show x=y from c);exact r
 .cases h;cases c;exact r
def Uv:A->A->Option (List Prop)
 |.c x,.c y=>XU x y
 |.vec _ k n es,.c (.sl ae k' n' es')=>match aG k k' with|true=>aa [n=n',aP n es es']|false=>af
 |.vec l k n es,.vec l' k' n' es'=>match aG l l' with
  |true=>match aG k k' with|true=>aa [n=n',aP n es es']|false=>af
  |false=>af
 |.ptr l o,.ptr l' o'=>match aG l l' with|true=>(match aG o o' with|true=>aa []|false=>af)|false=>af
 |.ref l,.ref l'=>match aG l l' with|true=>aa []|false=>af
 |.bp l w,.bp l' w'=>match aG l l' with|true=>aa [w=w']|false=>af
 |_,.any=>aa []
 |_,_=>af
def J8{σ:List aV}{s:St}{v:ak}{x y:A}{ps:List Prop}(h:Uv x y=aa ps)(c:ag ps)(r:gx σ s v x):gx σ s v y:=by
 unfold Uv at h;split at h
 .exact Rp h c r
 .rename_i k n es k' n' es'
  cases b:aG k k' <;> simp[b] at h
  subst h;have e:=bX b;subst e;obtain⟨rfl,f⟩:=(show n=n'/\aP n es es' from c)
  exact r.1.DC f
 .rename_i l k n es l' k' n' es'
  cases a:aG l l' <;> simp[a] at h
  cases b:aG k k' <;> simp[b] at h
  subst h;have e:=bX b;have d:=bX a;subst e d;obtain⟨rfl,f⟩:=(show n=n'/\aP n es es' from c)
  exact⟨r.1.DC f,r.2.1,r.2.2⟩
 .grind [Nat.eq_of_beq_eq_true]
 .grind [Nat.eq_of_beq_eq_true]
 .rename_i l w l' w'
  cases a:aG l l' <;> simp[a] at h
  have d:=bX a;subst d;subst h;cases (show w=w' from c)
  exact r
 .exact gx.cell r
 grind
def ko:List Prop->List Prop->List Prop
 |[],q=>q
 |p::r,q=>p::ko r q
theorem ag.cat{p q:List Prop}:ag (ko p q)↔ag p/\ag q:=by
 induction p with
 |nil=>simp[ko,ag]
 |cons x r a=>simp only[ko,ag.cons,a,and_assoc]
def P4:List A->List A->Option (List Prop)
 |[],[]=>aa []
 |a::al,b::bs=>match Uv a b with
  |some p=>match P4 al bs with
   |some q=>aa (ko p q)
   |none=>af
  |none=>af
 |_,_=>af
def Ea{σ:List aV}{s:St}:∀ {vs:List ak}{xs ys:List A}{ps:List Prop},P4 xs ys=aa ps->ag ps->dW σ s vs xs->dW σ s vs ys
 |[],[],[],_,_,_,_=>trivial
 |_::_,[],_,_,_,_,h=>h.elim
 |[],_::_,_,_,_,_,h=>h.elim
 |[],[],_::_,_,h,_,_=>by simp[P4] at h
 |_::_,_::_,[],_,h,_,_=>by simp[P4] at h
 |v::vs,a::al,b::bs,ps,h,c,f=>by
  simp only[P4] at h;cases e:Uv a b with
  |none=>grind
  |some p =>
   cases d:P4 al bs with
   |none=>grind
   |some q =>
    simp[e,d] at h;subst h;rw[ag.cat] at c;exact⟨J8 e c.1 f.1,Ea d c.2 f.2⟩
def Uw:E1->E1->Option (List Prop)
 |.one a,.one b=>Uv a b
 |.agg al,.agg bs=>P4 al bs
 |_,_=>af
def J9{σ:List aV}{s:St}{v:ak}{x y:E1}{ps:List Prop}(h:Uw x y=aa ps)(a:ag ps)(r:mY σ s v x):mY σ s v y:=by
 cases x <;> cases y <;> simp only[Uw,reduceCtorEq] at h
 .exact J8 h a r
 .obtain⟨vs,c,b⟩:=r;exact⟨vs,c,Ea h a b⟩
def Eb:List E1->List E1->Option (List Prop)
 |[],[]=>aa []
 |a::al,b::bs=>match Uw a b with
  |some p=>match Eb al bs with
   |some q=>aa (ko p q)
   |none=>af
  |none=>af
 |_,_=>af
def F1{σ:List aV}{s:St}:∀ {vs:List ak}{xs ys:List E1}{ps:List Prop},Eb xs ys=aa ps->ag ps->gJ σ s vs xs->gJ σ s vs ys
 |[],[],[],_,_,_,_=>trivial
 |_::_,[],_,_,_,_,h=>h.elim
 |[],_::_,_,_,_,_,h=>h.elim
 |[],[],_::_,_,h,_,_=>by simp[Eb] at h
 |_::_,_::_,[],_,h,_,_=>by simp[Eb] at h
 |v::vs,a::al,b::bs,ps,h,c,f=>by
  simp only[Eb] at h;cases e:Uw a b with
  |none=>grind
  |some p =>
   cases d:Eb al bs with
   |none=>grind
   |some q =>
    simp[e,d] at h;subst h;rw[ag.cat] at c;exact⟨J9 e c.1 f.1,F1 d c.2 f.2⟩
def Dr:D->D->Option (List Prop)
 |.e x,.e y=>Uw x y
 |.eK xs,.eK ys=>Eb xs ys
 |_,.any=>aa []
 |_,_=>af
theorem qA{σ:List aV}{s:St}{v:ak}{x y:D}{ps:List Prop}(h:Dr x y=aa ps)(a:ag ps)(r:dc σ s v x):dc σ s v y:=by
 cases x <;> cases y <;> simp only[Dr,reduceCtorEq] at h
 .exact J9 h a r
 .trivial
 .obtain⟨vs,c,b⟩:=r;exact⟨vs,c,F1 h a b⟩
 .trivial
 .trivial
def qF(φ:Fr):Fr->Option (List Prop)
 |[]=>aa []
 |(i,d)::r=>match Dr (look φ i) d with
  |some p=>match qF φ r with
   |some q=>aa (ko p q)
   |none=>af
  |none=>af
def dh{φ:Fr}:∀ {a:Fr}{ps:List Prop},qF φ a=aa ps->ag ps->o8 φ a
 |[],_,_,_=>λ_ _ _ _ _=>trivial
 |(i,d)::r,ps,h,c=>by
  simp only[qF] at h;cases e:Dr (look φ i) d with
  |none=>grind
  |some p =>
   cases b:qF φ r with
   |none=>grind
   |some q =>
    simp[e,b] at h;subst h;rw[ag.cat] at c;intro σ s v t f;simp only[look];cases g:aG i t with
    |true =>
     grind [Nat.eq_of_beq_eq_true,qA]
    |false=>exact dh b c.2 σ s v t f
def lg(σ:List aV):Bool:=match cX σ with|true=>mv σ|false=>ae
def yn{σ:List aV}(h:lg σ=ab):cX σ=ab/\mv σ=ab:=by
 unfold lg at h
 grind
def oI.BU{σ:List aV}{s:St}:∀ {ds:List Deferred}{ls:List Nat},oI σ s ds ls->∀ l∈ls,σ[l]?=aa .qV
 |[],[],_,l,hl=>by grind
 |[],_::_,r,_,_=>r.elim
 |_::_,[],r,_,_=>r.elim
 |d::ds,b::ls,⟨⟨h1,_⟩,_,a⟩,l,hl=>by
  rcases fb.1 hl with rfl|hl
  .exact h1
  .exact oI.BU a l hl
def b6(fn:Func)(a:Nat)(res:D)(σ':List aV):Post:=λe φ σ1 =>
 (e=.ret∨e=.normal)/\∃ ks ds d ps,xG φ fn.results.toList=aa ds/\rK ds=aa d/\Dr d (jA ks res)=aa ps/\ag ps/\u6 ks.length res=ab /\
  kL ks σ1=aa σ'/\lg σ'=ab/\eg ks=ab/\(∀ j,j<a->ks[j]?=aa j)
def BA(P:aq)(fn:Func)(a:Nat)(res:D)(σ':List aV):Post:=λe φ σ1 =>
 (e=.ret∨e=.normal)/\∃ ks d ps,Bz P fn φ d/\Dr d (jA ks res)=aa ps/\ag ps/\u6 ks.length res=ab /\
  kL ks σ1=aa σ'/\lg σ'=ab/\eg ks=ab/\(∀ j,j<a->ks[j]?=aa j)
def b6.toJ{P:aq}{fn:Func}{a:Nat}{res:D}{σ':List aV}{e:Exit}{φ:Fr}{σ1:List aV}(h:b6 fn a res σ' e φ σ1):BA P fn a res σ' e φ σ1:=by
 obtain⟨c,ks,ds,d,ps,h1,h2,b⟩:=h;exact⟨c,ks,d,ps,Bz.of h1 h2,b⟩
def cM.Ka{P:aq}{ι:Type}{X:Cx P}{f:aW}{fn:Func}{c:Code}{args:List D}{σ:List aV}{σ':ι->List aV}{res:ι->D}(hf:P.funcs[f]?=aa fn)(E:(fn.name== "runtime.NumGoroutine")=ae)(hb:fn.body=aa c)(hlen:args.length<=fn.ntmps)
  (h:∀ s a,cx fn.ntmps σ s (js 0 args) a->aJ σ s->∀ (b:aR) (k:List Item) (cs:List aR) (S:au->St->Prop),b.kind≠.early->b.roundOf=af ->
  (∀ e A σ1 s' a',(∃ j,BA P fn σ.length (res j) (σ' j) e A σ1)->cx fn.ntmps σ1 s' A a'->aJ σ1 s'->cD σ s σ1 s'->ends X S b k cs e a' s')->ft X S (G (b.aT a (.code c::k)) cs) s):cM X f args σ res σ':=by
 refine⟨⟨fn,hf,E,by grind⟩,λs vs hr hh S cs hS=>?_⟩
 obtain⟨hl,hg⟩:=cz.get hr
 let b:aR:={ fn:=f,tmps:=#[],todo:=[],defers:=[],mode:=.run,kind:=.normal,roundOf:=af }
 have z:Frame.enter P f vs.toArray .normal=b.aT { tmps:=vs.toArray++Array.replicate (fn.ntmps-vs.toArray.size) aj,defers:=[] } [.code c]:=by
  simp[Frame.enter,Frame.aT,hf,hb,b]
 rw[z];refine h s { tmps:=vs.toArray++Array.replicate (fn.ntmps-vs.toArray.size) aj,defers:=[] } ⟨by grind,⟨[],av⟩,λt=>?_⟩ hh b [] cs S (by simp[b]) rfl ?_
 .rw[nZ];simp only[gD,cu,mh];have:=hg t;rcases cJ t vs.length with tM|QG
  .have e:(vs.toArray++Array.replicate (fn.ntmps-vs.toArray.size) aj).getD t aj=(vs[t]?).getD aj:=by
    simp only[dG]
    grind
   grind
  .rw[q8 (by omega)]
   trivial
 .rintro e A σ1 s1 a1 ⟨Q,Y,ks,d,ps,h1,h3,h4,h5,T,V,h8,h9⟩ f' R st;obtain⟨h7,W⟩:=yn V;have fin:∀ (fr:aR) s2,cj s1 s2->fr.fn=f->fr.tmps=a1.tmps->fr.defers=a1.defers->fr.mode=.returning->fr.kind=.normal->ft X S (G fr cs) s2:=by
   intro fr s2 sM e1 e2 e3 e4 e5;have f2:=f'.rely sM R;have m:=R.rely sM;have g:=st.trans sM.stepW;obtain⟨v,r2,r1⟩:=h1 f2;obtain⟨i,r⟩:=zA (l':=s2.β) T m.len;have r4:=(qA h3 h4 r2).sub T r h5;obtain⟨c1,c2⟩:=iC T;obtain⟨d1,d2⟩:=iC r;have J:∀ L∈i,L∈s2.β:=zE r;have N:aJ (σ' Q) { s2 with β:=i }:=by
    obtain⟨I,_⟩:=m.sub T r h7 h8;refine⟨I.mem,I.len,λj B L H q=>?_,I.gg,I.lt,λb hb=>⟨(m.own b hb).1,λL q=>(m.own b hb).2 L (J L q)⟩⟩
    exact eP.plain (σ:=σ' Q) (s:={ s2 with β:=i,own:=zD s2 i }) (s':={ s2 with β:=i }) rfl rfl (kM h7 B (bU H)) (I.box j B L H q)
   have U:cD σ s (σ' Q) { s2 with β:=i }:=by
    refine⟨g.size,g.eN,g.mem,g.jz,λL q b hb=>g.xB _ (J L q) b hb,λl B L H q=>?_,g.os,g.tape,g.output,g.own⟩
    have hl:l<σ.length:=(cr.1 H).1;obtain⟨B',L',p1,p2,p3⟩:=g.box l B L H q
    grind
   obtain⟨ls,C⟩:=f2.defers;refine qD ls fr s2 _ m.lE (by simp) e4 (by rw[e3];exact C.taken m) λO n=>?_
   have p:cj { s2 with β:=i } { O with β:=i }:=by
    refine⟨rfl,n.M,n.own,n.size,λb hb=>n.eN b (hb.imp id ?_),n.mem,n.os,n.tape,n.output⟩
    rintro⟨L,q,hb⟩;obtain⟨j,hj,rfl⟩:=dH q;have F:j<ks.length:=by grind
    obtain⟨y,y1,y2⟩:=d2 j _ (br F);obtain⟨x,x1,Z⟩:=c2 j _ (br F);rw[br hj] at y1;cases y1;refine⟨_,_,y2,λhc=>?_,hb⟩
    rw[C.BU _ hc] at Z;cases Z;exact na W _ (bU x1) rfl
   have hG:eR O { O with β:=i }:=⟨rfl,λ_ _ _ h=>h,λ_ _ _=>rfl,λb o v hv=>n.mem b o v (by rw[<-n.M];exact hv),λb hb=>hb.imp id λ⟨L,q,hb⟩=>⟨L,by rw[n.β];grind,hb⟩⟩
   refine .ghost hG (hS Q _ v _ ⟨e1,e4,rfl,e5,fn,by grind,λw hw=>?_⟩ (r4.mono p.stepW.ext N.len) (N.rely p) (U.trans p.stepW))
   show (results fn fr.tmps).run P w=_/\∀ e∈(results fn fr.tmps).events P w #[],_;rw[e2];have K:∀ b o u,s2.M b o=aa u->w.cell? ⟨b,o,af⟩=aa u:=λb o u h=>hw b o u (by show O.M b o=aa u;rw[n.M];exact h)
   refine⟨(r1 w K).1,λe Y=>?_⟩
   obtain⟨b,o,u,q1,q2⟩:=(r1 w K).2 e Y;exact⟨b,o,u,q1,by show O.M b o=aa u;rw[n.M];exact q2⟩
  rcases Y with rfl|rfl
  .intro pre;exact .ctl R rfl (λ_=>DG rfl) λs2 sM=>fin _ s2 sM rfl rfl (k7 _) rfl rfl
  .exact .ctl R rfl (λ_=>DH rfl) λs2 sM=>fin _ s2 sM rfl rfl (k7 _) rfl rfl
def cM.P3{P:aq}{ι:Type}{X:Cx P}{f:aW}{fn:Func}{c:Code}{args:List D}{σ:List aV}{σ':ι->List aV}{res:ι->D}(l:P.funcs[f]?=aa fn)(i:(fn.name== "runtime.NumGoroutine")=ae)(hb:fn.body=aa c)(g:args.length<=fn.ntmps)
  (h:∀ s a,cx fn.ntmps σ s (js 0 args) a->aJ σ s->∀ (b:aR) (k:List Item) (cs:List aR) (S:au->St->Prop),b.kind≠.early->b.roundOf=af ->
  (∀ e d σ1 s' a',(∃ j,b6 fn σ.length (res j) (σ' j) e d σ1)->cx fn.ntmps σ1 s' d a'->aJ σ1 s'->cD σ s σ1 s'->ends X S b k cs e a' s')->ft X S (G (b.aT a (.code c::k)) cs) s):cM X f args σ res σ' :=
 cM.Ka l i hb g λs a f hh b k cs S h1 h2 hQ=>h s a f hh b k cs S h1 h2 λe d σ1 s' a' ⟨j,q⟩=>hQ e d σ1 s' a' ⟨j,q.toJ⟩
def cM.Ju{P:aq}{ι:Type}{X:Cx P}{f:aW}{fn:Func}{c:Code}{args:List D}{σ:List aV}{σ':ι->List aV}{res:ι->D}(i:P.funcs[f]?=aa fn)(d:(fn.name== "runtime.NumGoroutine")=ae)(hb:fn.body=aa c)(g:args.length<=fn.ntmps)
  (h:AW X fn.ntmps c (λe φ σ1=>∃ j,BA P fn σ.length (res j) (σ' j) e φ σ1) (js 0 args) σ):cM X f args σ res σ' :=
 cM.Ka i d hb g λs a f hh b k cs S l _ m=>h s a f hh b k cs S l m
def cM.intro{P:aq}{ι:Type}{X:Cx P}{f:aW}{fn:Func}{c:Code}{args:List D}{σ:List aV}{σ':ι->List aV}{res:ι->D}(i:P.funcs[f]?=aa fn)(d:(fn.name== "runtime.NumGoroutine")=ae)(hb:fn.body=aa c)(g:args.length<=fn.ntmps)
  (h:AW X fn.ntmps c (λe φ σ1=>∃ j,b6 fn σ.length (res j) (σ' j) e φ σ1) (js 0 args) σ):cM X f args σ res σ' :=
 cM.P3 i d hb g λs a f hh b k cs S l _ m=>h s a f hh b k cs S l m
def Ev.intro{P:aq}{X:Cx P}{f:aW}{fn:Func}{c:Code}{args:List D}{σ σ':List aV}{res:D}(d:P.funcs[f]?=aa fn)(b:(fn.name== "runtime.NumGoroutine")=ae)(hb:fn.body=aa c)(a:args.length<=fn.ntmps)
  (h:AW X fn.ntmps c (b6 fn σ.length res σ') (js 0 args) σ):Ev X f args σ res σ' :=
 (cM.intro d b hb a (AW.mono h λ_ _ _ q=>⟨(),q⟩)).uz
end
inductive It where
 |code (c:Code)
 |blk (id:Nat)
 |ops (all rest:List aw)
def AK{P:aq}(X:Cx P)(N:Nat)(Qf:Post):List It->Post
 |[],e,φ,σ=>Qf e φ σ
 |.code c::K,.normal,φ,σ=>AW X N c (AK X N Qf K) φ σ
 |.code _::K,e,φ,σ=>AK X N Qf K e φ σ
 |.blk id::K,.exit I6,φ,σ=>if I6=id then AK X N Qf K .normal φ σ else AK X N Qf K (.exit I6) φ σ
 |.blk _::K,e,φ,σ=>AK X N Qf K e φ σ
 |.ops all rest::K,.normal,φ,σ=>jB X N all rest (AK X N Qf K .normal) φ σ
 |.ops _ _::K,e,φ,σ=>AK X N Qf K e φ σ
section
variable {P:aq}{X:Cx P}{N:Nat}{Qf:Post}{K:List It}{φ:Fr}{σ:List aV}
def AK.of_code{c:Code}(h:AK X N Qf [.code c] .normal φ σ):AW X N c Qf φ σ:=h
def AK.skip(h:AK X N Qf K .normal φ σ):AK X N Qf (.code .skip::K) .normal φ σ:=AW.skip h
def AK.seq{x y:Code}(h:AK X N Qf (.code x::.code y::K) .normal φ σ):AK X N Qf (.code (.seq x y)::K) .normal φ σ:=by
 refine AW.seq (AW.mono h ?_);intro e a σ' q;cases e <;> exact q
def AK.block{id:Nat}{c:Code}(h:AK X N Qf (.code c::.blk id::K) .normal φ σ):AK X N Qf (.code (.block id c)::K) .normal φ σ:=by
 refine AW.block (AW.mono h ?_);intro e a σ' q;cases e <;> exact q
def AK.Rx{id:Nat}(h:AK X N Qf K .normal φ σ):AK X N Qf (.blk id::K) .normal φ σ:=h
theorem AK.region{id:Nat}{ops:Array aw}(h:AK X N Qf (.ops ops.toList ops.toList::K) .normal φ σ):AK X N Qf (.code (.region id ops ae)::K) .normal φ σ:=AW.region h
def AK.Ry{all:List aw}(h:AK X N Qf K .normal φ σ):AK X N Qf (.ops all []::K) .normal φ σ:=jB.nil h
def AK.r7:∀ {K:List It},Qf .ret φ σ->AK X N Qf K .ret φ σ
 |[],h=>h
 |.code _::K,h=>AK.r7 (K:=K) h
 |.blk _::K,h=>AK.r7 (K:=K) h
 |.ops _ _::K,h=>AK.r7 (K:=K) h
def AK.ret(h:Qf .ret φ σ):AK X N Qf (.code .ret::K) .normal φ σ:=AW.ret (AK.r7 h)
def kP(id:Nat):List It->Option (List It)
 |[]=>af
 |.blk i::K=>match aG id i with|true=>aa K|false=>kP id K
 |_::K=>kP id K
def AK.we{id:Nat}:∀ {K a:List It},kP id K=aa a->AK X N Qf a .normal φ σ->AK X N Qf K (.exit id) φ σ
 |[],_,h,_=>by cases h
 |.blk i::K,a,h,q=>by
  simp only[kP] at h;cases hb:aG id i with
  |true =>
   simp[hb] at h;subst h;have e:=bX hb;simp only[AK,e,cu];exact q
  |false =>
   simp[hb] at h;have b:id≠i:=λe=>by grind [Nat.beq_refl]
   simp only[AK,b,cd];exact AK.we h q
 |.code _::K,a,h,q=>AK.we (K:=K) h q
 |.ops _ _::K,a,h,q=>AK.we (K:=K) h q
theorem AK.exit{id:Nat}{a:List It}(b:kP id K=aa a)(h:AK X N Qf a .normal φ σ):AK X N Qf (.code (.exit id)::K) .normal φ σ:=AW.exit (AK.we b h)
theorem AK.cond{c:an}{x y:Code}{b:Bool}{t:Nat}(a:c=.tmp t)(hl:look φ t=.e (.one (.c (.bool b))))
  (d:b=ab->AK X N Qf (.code x::K) .normal φ σ) (f:b=ae->AK X N Qf (.code y::K) .normal φ σ):AK X N Qf (.code (.cond c x y)::K) .normal φ σ:=AW.cond a hl d f
def AK.loop{S:Type}{c:Code}(I:S->Prop)(fr:S->Fr)(st:S->List aV)(d:S->Nat)(x:S)(g:I x)(b:o8 φ (fr x))(f:st x=σ)
  (round:∀ x,I x->AK X N (λe a σ'=>match e with
   |.normal=>∃ y,I y/\d y<d x/\o8 a (fr y)/\σ'=st y
   |e=>AK X N Qf K e a σ') [.code c] .normal (fr x) (st x)):AK X N Qf (.code (.loop c)::K) .normal φ σ:=by
 refine AW.loop I fr st d x g b f λy h=>AW.mono (round y h) ?_
 intro e a σ' q;cases e <;> exact q
end
def de{α a:Type}:List α->(List α->Option a)->Option a
 |[],k=>k []
 |x::r,k=>de r λq=>k (x::q)
theorem cV{α a:Type}(l:List α)(k:List α->Option a):de l k=k l:=by
 induction l generalizing k with
 |nil=>rfl
 |cons x r b=>simp[de,b]
def zP(φ:Fr)(all:List aw)(j:Nat):Option (Option Bool) :=
 match fw j all with
 |some oj=>match oj.dst with
  |some d=>match look φ d with
   |.e (.one (.c (.bool ab)))=>aa (aa ab)
   |.e (.one (.c (.bool ae)))=>aa (aa ae)
   |.eK []=>aa af
   |_=>af
  |none=>af
 |none=>af
def pW{N:Nat}{φ:Fr}{all:List aw}{j:Nat}{r:Option Bool}(h:zP φ all j=aa r){σ:List aV}{s:St}{a:Act}(f:cx N σ s φ a):yielded all.toArray a.tmps j=r:=by
 unfold zP at h;rw[e9] at h;unfold yielded;cases k:all[j]? with
 |none=>grind
 |some oj =>
  simp only[k] at h;simp only[iJ,k,nG];cases n:oj.dst with
  |none=>grind
  |some d =>
   simp only[n] at h;simp only[nG];have c:=f.slot d;have key:∀ v,a.tmps.getD d aj=v->v≠aj->a.tmps[d]?=aa v:=by
    intro v g l;simp only[dG] at g
    grind
   split at h
   .rename_i e
    cases h;rw[e] at c;have b:=fy c;generalize g:a.tmps.getD d aj=v at b;cases b;rw[key _ g (by simp[aj])]
   .rename_i e
    cases h;rw[e] at c;have b:=fy c;generalize g:a.tmps.getD d aj=v at b;cases b;rw[key _ g (by simp[aj])]
   .rename_i e
    cases h;rw[e] at c;obtain⟨vs,o,m⟩:=c;have i:vs=[]:=by cases vs with
     |nil=>rfl
     |cons _ _=>exact m.elim
    subst i;simp only[dG] at o
    grind
   grind
def Wf(T:List (Nat×TI))(φ:Fr)(σ:List aV)(o:aw):Option (D×List aV×List Prop) :=
 match o.op with
 |.move x|.assign x=>aa (b5 φ x,σ,[])
 |.pick c a b=>match b5 φ c with
  |.e (.one (.c (.bool ab)))=>aa (b5 φ a,σ,[])
  |.e (.one (.c (.bool ae)))=>aa (b5 φ b,σ,[])
  |_=>af
 |.binOp op _ x y _=>match b5 φ x,b5 φ y with
  |.e (.one (.c a)),.e (.one (.c b))=>match NG op a b with
   |some (c,obs)=>aa (.e (.one (.c c)),σ,obs)
   |none=>af
  |_,_=>af
 |.unOp op _ x=>match b5 φ x with
  |.e (.one (.c a))=>match We op a with
   |some c=>aa (.e (.one (.c c)),σ,[])
   |none=>af
  |_=>af
 |.extract x j=>match b5 φ x with
  |.eK xs=>match fw j xs with
   |some e=>aa (.e e,σ,[])
   |none=>af
  |_=>af
 |.alloc E=>match bF T E with
  |some i=>de (σ++[.cells E (i.zero.map A.c)]) λσ'=>aa (.e (.one (.ptr σ.length 0)),σ',[])
  |none=>af
 |.box E x=>match mT (b5 φ x) with
  |some cs=>de (σ++[.cells E cs]) λσ'=>aa (.e (.one (.ptr σ.length 0)),σ',[])
  |none=>af
 |.load t x=>match bF T t with
  |some i=>match b5 φ x with
   |.e (.one (.ptr l off))=>match fw l σ with
    |some (.cells _ cs)=>match m8 i (hJ off cs) with
     |some e=>aa (.e e,σ,[])
     |none=>af
    |_=>af
   |.e (.one (.c (.rp cs)))=>match m8 i (cs.map A.c) with
    |some e=>aa (.e e,σ,[])
    |none=>af
   |_=>af
  |none=>af
 |.store t x y=>match bF T t with
  |some i=>match b5 φ x with
   |.e (.one (.ptr l off))=>match fw l σ with
    |some (.cells E cs)=>match mT (b5 φ y) with
     |some new=>match aG new.length i.size with
      |true=>match eX off new cs with
       |some mc=>de (ef.rI l (.cells E mc) σ) λσ'=>aa (.any,σ',[])
       |none=>af
      |false=>af
     |none=>af
    |_=>af
   |_=>af
  |none=>af
 |.fieldAddr t x f=>match jM T t f with
  |some (k,_)=>match b5 φ x with
   |.e (.one (.ptr l off))=>aa (.e (.one (.ptr l (off+k))),σ,[])
   |.e (.one (.c (.rp cs)))=>aa (.e (.one (.c (.rp (hJ k cs)))),σ,[])
   |_=>af
  |none=>af
 |.field t x f=>match jM T t f with
  |some (k,j)=>match b5 φ x with
   |.e (.agg cs)=>match m8 j (hJ k cs) with
    |some e=>aa (.e e,σ,[])
    |none=>af
   |_=>af
  |none=>af
 |.nilCheck x=>match b5 φ x with
  |.e (.one (.ptr l off))=>aa (.e (.one (.ptr l off)),σ,[])
  |.e (.one (.c (.rp cs)))=>aa (.e (.one (.c (.rp cs))),σ,[])
  |_=>af
 |.build t parts=>match zN T (b5 φ) t parts.toList with
  |some cs=>aa (.e (.agg cs),σ,[])
  |none=>af
 |.buildSlice t n parts=>match DK T (b5 φ) t n parts.toList with
  |some (k,es)=>aa (.e (.one (.c (.sl ab k n λi=>es.getD i []))),σ,[])
  |none=>af
 |_=>af
theorem D5{P:aq}{T:List (Nat×TI)}(m:dg P T){φ:Fr}{σ σ':List aV}{o:aw}{x:D}{obs:List Prop}(h:Wf T φ σ o=aa (x,σ',obs))(n:ag obs):bH P o (b5 φ) σ x σ':=by
 unfold Wf at h;split at h
 .grind [bH.move]
 .grind [bH.assign]
 .rename_i c a b d
  split at h
  .rename_i e;cases h;exact bH.pick d e
  .rename_i e;cases h;exact bH.pick d e
  grind
 .grind [bH.binOp]
 .grind [bH.unOp]
 .grind [bH.extract,dz]
 .grind [cV,bH.alloc]
 .grind [cV,bH.box]
 .rename_i t y d
  split at h
  .grind [bH.FP,dz,bH.JP]
  grind
 .rename_i t y z d
  split at h
  .rename_i i hi
   split at h
   .rename_i l off hx
    split at h
    .grind [cV,kC,bH.store,dz,Nat.eq_of_beq_eq_true]
    grind
   grind
  grind
 .rename_i t y f d
  split at h
  .rename_i k j g
   split at h
   .rename_i l off hx;cases h;exact bH.rV m d hx g
   .grind [bH.tQ]
   grind
  grind
 .grind [bH.field]
 .grind [bH.tR,bH.vU]
 .grind [bH.build]
 .grind [bH.buildSlice]
 grind
def gy(N:Nat):Option Nat->Bool
 |some d=>bo (d+1) N
 |none=>ab
def il{N:Nat}{d:Option Nat}(h:gy N d=ab):∀ t,d=aa t->t<N:=by
 intro t a;subst a;exact db h
theorem dv{all:List aw}{o:aw}(h:o.guard=af){a:Act}:bj o (yielded all.toArray a.tmps)=ab:=by simp[bj,h]
section
variable {P:aq}{T:List (Nat×TI)}{o:aw}{g:an->D}{σ:List aV}
def uD(g:an->D):Option an->Option (Option Int)
 |none=>aa af
 |some x=>match g x with
  |.e (.one (.c (.int _ j)))=>aa (aa j)
  |_=>af
def je{s:St}{ρ:an->ak}(c:∀ y,dc σ s (ρ y) (g y)){x:Option an}{b:Option Int}(h:uD g x=aa b):(x.map ρ=af/\b=af)∨∃ k j,x.map ρ=aa (.int k j)/\b=aa j:=by
 cases x with
 |none=>cases h;grind
 |some y =>
  right
  simp only[uD] at h;split at h
  .rename_i k j a
   cases h;have:=c y;rw[a] at this;have:=fy this;generalize d:ρ y=v at this;cases this
   grind
  grind
def cv(d:Nat):Option Int->Nat
 |none=>d
 |some j=>j.toNat
def iQ(n:Nat):Option Int->Option Int->List Prop
 |none,af=>[]
 |some l,af=>[0<=l,l<=n]
 |none,aa h=>[0<=h,h<=n]
 |some l,aa h=>[0<=l,l<=h,h<=n]
def nU{isS:Bool}{n cap:Nat}(p:n<=cap){lo hi:Option ak}{l h:Option Int}(i:(lo=af/\l=af)∨∃ k j,lo=aa (.int k j)/\l=aa j)(m:(hi=af/\h=af)∨∃ k j,hi=aa (.int k j)/\h=aa j)
  (b:ag (iQ n l h)) (w:az):(Instr.sliceBounds isS n cap lo hi af).run P w=.ok (cv 0 l,cv n h,cap) w/\cv 0 l<=cv n h/\cv n h<=n:=by
 rcases i with⟨rfl,rfl⟩|⟨d,l,rfl,rfl⟩ <;> rcases m with⟨rfl,rfl⟩|⟨f,h,rfl,rfl⟩
 .exact⟨by simp[Instr.sliceBounds,cv],by simp[cv],by simp[cv]⟩
 .obtain⟨a,c⟩:0<=h/\h<=(n:Int):=b;refine⟨?_,by simp[cv],by simp only[cv];omega⟩
  simp[Instr.sliceBounds,cv,run_sliceBound (P:=P) w f h cap _ a (by omega)]
 .obtain⟨a,c⟩:0<=l/\l<=(n:Int):=b;refine⟨?_,by simp only[cv];omega,by simp[cv]⟩
  simp[Instr.sliceBounds,cv,run_sliceBound (P:=P) w d l n _ a c]
 .obtain⟨a,c,q⟩:0<=l/\l<=h/\h<=(n:Int):=b;have e:((h.toNat:Nat):Int)=h:=rf (by omega)
  refine⟨?_,by simp only[cv];omega,by simp only[cv];omega⟩
  simp[Instr.sliceBounds,cv,run_sliceBound (P:=P) w f h cap _ (by omega) (by omega),run_sliceBound (P:=P) w d l h.toNat _ a (by omega)]
def eF(w:az)(k:IntKind) (i:Int)(y:Nat)(code:BoundsCode)(b:0<=i)(a:i<=(y:Int))(es:Array Event):(Instr.sliceBound (.int k i) y code).events P w es=es:=by
 simp[Instr.sliceBound,asIntOf,b,a]
def pR{isS:Bool}{n cap:Nat}{lo hi:Option ak}{l h:Option Int}(q:n<=cap)(m:(lo=af/\l=af)∨∃ k j,lo=aa (.int k j)/\l=aa j)(p:(hi=af/\h=af)∨∃ k j,hi=aa (.int k j)/\h=aa j)
  (c:ag (iQ n l h)) (w:az) (es:Array Event):(Instr.sliceBounds isS n cap lo hi af).events P w es=es:=by
 have s:∀ (isS:Bool) (v:Option ak) (d:Nat) (w:az) (es:Array Event),v=af->(Instr.sliceBounds isS n cap af af af).events P w es=es:=λisS v d w es _=>by simp[Instr.sliceBounds]
 rcases m with⟨rfl,rfl⟩|⟨i,l,rfl,rfl⟩ <;> rcases p with⟨rfl,rfl⟩|⟨b,h,rfl,rfl⟩
 .simp[Instr.sliceBounds]
 .obtain⟨a,f⟩:0<=h/\h<=(n:Int):=c;simp[Instr.sliceBounds,eF (P:=P) w b h cap _ a (by omega)]
 .obtain⟨a,f⟩:0<=l/\l<=(n:Int):=c;simp[Instr.sliceBounds,eF (P:=P) w i l n _ a f]
 .obtain⟨a,f,r⟩:0<=l/\l<=h/\h<=(n:Int):=c;have e:((h.toNat:Nat):Int)=h:=rf (by omega)
  simp[Instr.sliceBounds,run_sliceBound (P:=P) w b h cap _ (by omega) (by omega),eF (P:=P) w b h cap _ (by omega) (by omega),eF (P:=P) w i l h.toNat _ a (by omega)]
def rS(s:List UInt8):Option Int->Option Int->List UInt8
 |none,af=>s
 |some l,af=>s.drop l.toNat
 |none,aa h=>s.take h.toNat
 |some l,aa h=>(s.take h.toNat).drop l.toNat
theorem bH.JM(z:dg P T){t:ar}{x:an}{lo hi:Option an}(h:o.op=.slice t x lo hi af){i:TI}(m:bF T t=aa i)(y:i.desc=.string){s:List UInt8}{l u:Option Int}
  (v:g x=.e (.one (.c (.str s)))) (hl:uD g lo=aa l) (p:uD g hi=aa u) (A:ag (iQ s.length l u)):bH P o g σ (.e (.one (.c (.str (rS s l u))))) σ:=by
 refine .quiet λst ρ hh hr=>?_
 have h1:=hr x;rw[v] at h1
 replace h1:=fy h1
 generalize j:ρ x=vx at h1;cases h1 with
 |@str sb _ r q =>
 have b:sb.size=s.length:=by rw[<-r];exact jg.symm
 obtain⟨hb,d,f⟩:=nU (P:=P) (isS:=ae) (n:=sb.size) (cap:=sb.size) (bg _) (je hr hl) (je hr p) (by grind) st.w
 have a:=(z t i m).run_underlying (w:=st.w);rw[y] at a;have k:=pR (P:=P) (isS:=ae) (n:=sb.size) (cap:=sb.size) (bg _) (je hr hl) (je hr p) (by grind) st.w
 refine⟨.string (sb.extract (cv 0 l) (cv sb.size u)),?_,Rd.str ?_ ?_,by simp[ay,h,j,Instr.sliceAt,a,Instr.slice,k]⟩
 .simp[ay,h,j,Instr.sliceAt,a,Instr.slice,hb]
 .rw[Lib.extract_data,r,b];rw[b] at d f;cases l <;> cases u <;> simp only[rS,cv] at d f ⊢
  .simp
  .simp
  .grind [List.take_of_length_le]
  .rw[List.drop_take]
 .cases l <;> cases u <;> simp only[rS,me,List.length_take] <;> omega
def jL(l:Nat)(f:Nat->List C):Nat->List C:=λi=>f (l+i)
def NF(tt:Bool):Option Int->Bool
 |none=>tt
 |some _=>ae
theorem bH.NO(A:dg P T){t:ar}{x:an}{lo hi:Option an}(h:o.op=.slice t x lo hi af){i p:TI}{E:ar}(r:bF T t=aa i)(G:i.desc=.slice E)(L:bF T E=aa p){tt:Bool}{n:Nat}{es:Nat->List C}{l u:Option Int}
  (H:∀ s v,dc σ s v (g x)->Rd s.M v (.sl tt p.size n es)) (hl:uD g lo=aa l) (B:uD g hi=aa u) (y:ag (iQ n l u)) :
  bH P o g σ (.e (.one (.c (.sl (NF tt u) p.size (cv n u-cv 0 l) (jL (cv 0 l) es))))) σ:=by
 refine .quiet λst ρ hh hr=>?_
 have h1:=H st _ (hr x);obtain⟨a,cap,vs,q,k,K,F,R,Q⟩:=h1.flat;rw[q] at h1;obtain⟨hb,N,J⟩:=nU (P:=P) (isS:=ab) k (je hr hl) (je hr B) y st.w;have d:=(A t i r).run_underlying (w:=st.w);rw[G] at d;refine⟨.slice (if cap=cv 0 l then a else a.map (·.add (cv 0 l*p.size))) (cv n u-cv 0 l) (cap-cv 0 l),?_,?_,by simp[ay,h,q,Instr.sliceAt,d,Instr.slice,hb,pR (P:=P) (isS:=ab) k (je hr hl) (je hr B) y st.w]⟩
 .simp[ay,h,q,Instr.sliceAt,d,Instr.slice,hb,(A E p L).run_sizeOf]
 .cases h1 with
  |sl b off f _ _ _ O I hm' PK =>
   refine Rd.sl b (off+cv 0 l*p.size) (λi j=>f (cv 0 l+i) j) (by omega) (by omega) ?_ (λi hi=>O _ (by omega)) (λz=>?_) (λi hi j c hj=>?_) (λi hi j c hj=>PK _ (by omega) j c hj)
   .intro m;cases u with
    |none=>simp only[NF] at m;have:=F m;simp only[cv];omega
    |some u=>cases m
   .rw[aY (by omega),I (by omega)]
    simp[dj]
   .have:=hm' (cv 0 l+i) (by omega) j c hj
    grind
def bH.NM(n:dg P T){a dst:ar}{x:an}(h:o.op=.convert a dst x){i i2:TI}{k k':IntKind}{j:Int}(hi:bF T a=aa i)(l:bF T dst=aa i2)(q:i2.desc=.int k')(p:g x=.e (.one (.c (.int k j))))(m:bx k' j) :
  bH P o g σ (.e (.one (.c (.int k' j)))) σ:=by
 refine .quiet λst ρ hh hr=>?_
 have h1:=hr x;rw[p] at h1
 replace h1:=fy h1
 generalize d:ρ x=vx at h1;cases h1;have f:=(n a i hi).run_underlying (w:=st.w);have b:=(n dst i2 l).run_underlying (w:=st.w);rw[q] at b;exact⟨.int k' j,by simp[ay,h,d,convert,f,b,Conv.intToInt,mq m],Rd.int m,by simp[ay,h,d,convert,f,b,Conv.intToInt]⟩
theorem bH.NN(l:dg P T){a dst:ar}{x:an}(h:o.op=.convert a dst x){i i2:TI}{s:List UInt8}(hi:bF T a=aa i)(k:bF T dst=aa i2)(n:i2.desc=.string)(m:g x=.e (.one (.c (.str s)))) :
  bH P o g σ (.e (.one (.c (.str s)))) σ:=by
 refine .quiet λst ρ hh hr=>?_
 have h1:=hr x;rw[m] at h1;have d:=fy h1;generalize f:ρ x=vx at d;cases d;have j:=(l a i hi).run_underlying (w:=st.w);have b:=(l dst i2 k).run_underlying (w:=st.w);rw[n] at b;exact⟨_,by simp[ay,h,f,convert,j,b];rfl,by grind,by simp[ay,h,f,convert,j,b]⟩
def vQ(f:Nat->List C):Nat->Nat->Option (List UInt8)
 |_,0=>aa []
 |i,n+1=>match f i with
  |[.int .u8 v]=>match vQ f (i+1) n with
   |some r=>aa (UInt8.ofNat v.toNat::r)
   |none=>af
  |_=>af
def yv{M:Mem}{f:Nat->List C}:∀ {n i:Nat}{r:List UInt8}{vs:List ak},vQ f i n=aa r->vs.length=n->(∀ j,j<n->∀ c,(f (i+j))[0]?=aa c->∃ v,vs[j]?=aa v/\Rd M v c) ->
  ∃ xs:List Int,vs=xs.map (Value.int .u8)/\r=xs.map (λx=>UInt8.ofNat x.toNat)
 |0,i,r,vs,h,a,_=>by cases h;exact⟨[],by grind,rfl⟩
 |n+1,i,r,[],h,a,_=>by grind
 |n+1,i,r,v::vs,h,a,d=>by
  simp only[vQ] at h;split at h
  .rename_i x l
   split at h
   .rename_i q e
    cases h;obtain⟨u,b,k⟩:=d 0 (by omega) (.int .u8 x) (by grind)
    simp at b;subst b;cases k;obtain⟨xs,t,p⟩:=yv (vs:=vs) e (by grind) (λj m c s=>by
     have:=d (j+1) (by omega) c (by grind)
     simpa using this)
    exact⟨x::xs,by grind,by grind⟩
   grind
  grind
def ow{P:aq}(w:az){F:ak->ByteArray->Sem (ForInStep ByteArray)}(a:∀ x s,F (.int .u8 x) s=pure (.yield (s.push (UInt8.ofNat x.toNat)))):∀ (xs:List Int)(s:ByteArray),
  (forIn (m:=Sem) (xs.map (Value.int .u8)) s F).run P w=.ok ⟨s.data++(xs.map λx=>UInt8.ofNat x.toNat).toArray⟩ w
 |[],s=>by simp
 |x::xs,s=>by
  simp only[rr,List.forIn_cons,a,bY,cY,b9];rw[ow w a xs]
  congr 2
  apply Array.ext'
  simp[ByteArray.push]
end
section
open Go.Conc (G)
def OA{P:aq}(X:Cx P)(N:Nat)(all:List aw)(o:aw)(φ:Fr)(σ:List aV)(x:D)(σ':List aV):Prop :=
 ∀ s a,cx N σ s φ a->aJ σ s->∀ (b:aR) (k:List Item) (cs:List aR) (S:au->St->Prop) (i:Nat) (rest:List Nat),b.kind≠.early->all.toArray[i]?=aa o ->
  (∀ v s',dc σ' s' v x->aJ σ' s'->cD σ s σ' s'->ft X S (G (b.aT (a.put o.dst v) (.inRegion all.toArray rest::k)) cs) s')->ft X S (G (b.aT a (.inRegion all.toArray (i::rest)::k)) cs) s
section
variable {P:aq}{X:Cx P}{N:Nat}{all rest:List aw}{φ m:Fr}{σ σ':List aV}{o:aw}{x:D}
theorem OA.md(q:∀ σ s a,cx N σ s φ a->bj o (yielded all.toArray a.tmps)=ab)(h:bH P o (b5 φ) σ x σ'):OA X N all o φ σ x σ':=by
 intro s a f hh b k cs S i rest hb hi hK;refine zT hb hi (q _ _ _ f) λg d=>?_
 have c:=hh.rely d;obtain⟨r,s',h1,h2,e,n,p⟩:=h g a.eval c (dX (f.rely d hh));have l:=d.stepW.trans (n.oG c);have j:qx g s' ((ay a.eval o).events P g.w #[]):=⟨⟨σ,σ',c,e,n⟩,p⟩;cases r with
 |value v=>exact⟨_,s',v,h1,.inl rfl,j,hK v s' h2 e l⟩
 |skip=>simp only[Rq] at h2;subst h2;exact⟨_,s',aj,h1,.inr ⟨rfl,rfl⟩,j,hK aj s' av e l⟩
 |_=>exact h2.elim
def OA.pass(d:∀ σ s a,cx N σ s φ a->bj o (yielded all.toArray a.tmps)=ae):OA X N all o φ σ (.eK []) σ:=by
 intro s a f hh b k cs S i rest hb hi hK;exact .ctl hh rfl (λ_=>Nn hi (d _ _ _ f)) λe c=>hK aj e ⟨[],rfl,av⟩ (hh.rely c) c.stepW
def jB.te{Q:Fr->List aV->Prop}(h:OA X N all o φ σ x σ')(g:∀ t,o.dst=aa t->t<N)(k:jB X N all rest Q (lC o.dst x φ) σ'):jB X N all (o::rest) Q φ σ:=by
 intro s a f hh b kk cs S idx hb jH hQ;cases idx with
 |nil=>exact jH.elim
 |cons i idx =>
 refine h s a f hh b kk cs S i idx hb jH.1 λv s' hv lb st=>k s' _ ?_ lb b kk cs S idx hb jH.2 λc σ2 s2 a2 q e h2 oB=>hQ c σ2 s2 a2 q e h2 (st.trans oB)
 cases d:o.dst with
 |none=>exact f.mono st hh.len
 |some t=>exact(f.mono st hh.len).put (g t d) hv
end
abbrev dk:=List D->List aV->Option (D×List aV×List Prop)
def yp:List (Nat×dk)->Nat->Option dk
 |[],_=>af
 |(i,g)::r,f=>cond (aG i f) (aa g) (yp r f)
def dM{P:aq}(X:Cx P)(f:aW)(g:dk):Prop:=∀ args σ res σ' obs,g args σ=aa (res,σ',obs)->ag obs->Ev X f args σ res σ'
def bD{P:aq}(X:Cx P)(CT:List (Nat×dk)):Prop:=∀ f g,yp CT f=aa g->dM X f g
def bD.nil{P:aq}{X:Cx P}:bD X []:=λ_ _ h=>by cases h
def bD.cons{P:aq}{X:Cx P}{f:aW}{g:dk}{CT:List (Nat×dk)}(h:dM X f g)(r:bD X CT):bD X ((f,g)::CT):=by
 intro a g2 h2;simp only[yp] at h2;cases hb:aG f a with
 |true=>grind [Nat.eq_of_beq_eq_true]
 |false=>rw[hb] at h2;exact r a g2 h2
def bxA:A->List Nat->List Nat
 |.ptr l _,ks=>cond (fK l ks) ks (ks++[l])
 |.vec l _ _ _,ks=>cond (fK l ks) ks (ks++[l])
 |.ref l,ks=>cond (fK l ks) ks (ks++[l])
 |.bp l _,ks=>cond (fK l ks) ks (ks++[l])
 |_,ks=>ks
def bxL:List A->List Nat->List Nat
 |[],ks=>ks
 |a::r,ks=>bxL r (bxA a ks)
def bxD:D->List Nat->List Nat
 |.e (.one a),ks=>bxA a ks
 |.e (.agg cs),ks=>bxL cs ks
 |_,ks=>ks
def Ux:List D->List Nat->List Nat
 |[],ks=>ks
 |a::r,ks=>Ux r (bxD a ks)
def BH(l:Nat):List Nat->Nat->Option Nat
 |[],_=>af
 |k::r,i=>match aG k l with|true=>aa i|false=>BH l r (i+1)
def r8{l:Nat}:∀ {ks:List Nat}{i j:Nat},BH l ks i=aa j->i<=j/\ks[j-i]?=aa l
 |[],_,_,h=>by cases h
 |k::r,i,j,h=>by
  simp only[BH] at h;cases a:aG k l with
  |true=>rw[a] at h;cases h;exact⟨bg _,by grind [Nat.eq_of_beq_eq_true]⟩
  |false =>
   rw[a] at h;obtain⟨c,b⟩:=r8 h
   grind
def Tk(ks:List Nat):A->Option A
 |.ptr l o=>match BH l ks 0 with|some i=>aa (.ptr i o)|none=>af
 |.ref l=>match BH l ks 0 with|some i=>aa (.ref i)|none=>af
 |.bp l w=>match BH l ks 0 with|some i=>aa (.bp i w)|none=>af
 |.vec _ _ _ _=>af
 |.c x=>aa (.c x)
 |.any=>aa .any
def Wo(ks:List Nat):List A->Option (List A)
 |[]=>aa []
 |a::r=>match Tk ks a with
  |some b=>match Wo ks r with
   |some q=>aa (b::q)
   |none=>af
  |none=>af
def XW(ks:List Nat):D->Option D
 |.e (.one a)=>match Tk ks a with|some b=>aa (.e (.one b))|none=>af
 |.e (.agg cs)=>match Wo ks cs with|some b=>aa (.e (.agg b))|none=>af
 |.eK _=>af
 |.any=>aa .any
def Hf(ks:List Nat):List D->Option (List D)
 |[]=>aa []
 |a::r=>match XW ks a with
  |some b=>match Hf ks r with
   |some q=>aa (b::q)
   |none=>af
  |none=>af
def Kd{ks:List Nat}{a b:A}(h:Tk ks a=aa b):oH ks b=a/\GY ks.length b=ab:=by
 cases a with
 |ptr l o =>
  simp only[Tk] at h;split at h
  .rename_i i hi
   cases h;obtain⟨_,d⟩:=r8 hi;simp only[mh] at d;have e:i<ks.length:=(cr.1 d).1;exact⟨by simp[oH,e9,d],qZ e⟩
  grind
 |ref l =>
  simp only[Tk] at h;split at h
  .rename_i i hi
   cases h;obtain⟨_,d⟩:=r8 hi;simp only[mh] at d;have e:i<ks.length:=(cr.1 d).1;exact⟨by simp[oH,e9,d],qZ e⟩
  grind
 |bp l w =>
  simp only[Tk] at h;split at h
  .rename_i i hi
   cases h;obtain⟨_,d⟩:=r8 hi;simp only[mh] at d;have e:i<ks.length:=(cr.1 d).1;exact⟨by simp[oH,e9,d],qZ e⟩
  grind
 |vec l k n es=>cases h
 |c x=>cases h;exact⟨rfl,rfl⟩
 |any=>cases h;exact⟨rfl,rfl⟩
def Ke{ks:List Nat}:∀ {a b:List A},Wo ks a=aa b->Bv ks b=a/\DT ks.length b=ab
 |[],b,h=>by cases h;exact⟨rfl,rfl⟩
 |a::r,b,h=>by
  simp only[Wo] at h;split at h
  .rename_i x c
   split at h
   .rename_i q d
    cases h;obtain⟨g,f⟩:=Kd c;obtain⟨i,e⟩:=Ke d;exact⟨by simp[Bv,g,i],by simp[DT,f,e]⟩
   grind
  grind
def Rr{ks:List Nat}{a b:D}(h:XW ks a=aa b):jA ks b=a/\u6 ks.length b=ab:=by
 unfold XW at h;split at h
 .rename_i a
  split at h
  .rename_i x d;cases h;obtain⟨e,c⟩:=Kd d;exact⟨by simp[jA,zB,e],by simp[u6,Js,c]⟩
  grind
 .rename_i cs
  split at h
  .rename_i x d;cases h;obtain⟨e,c⟩:=Ke d;exact⟨by simp[jA,zB,e],by simp[u6,Js,c]⟩
  grind
 .cases h
 .cases h;exact⟨rfl,rfl⟩
def F3{ks:List Nat}:∀ {a b:List D},Hf ks a=aa b->iX ks b=a/\oF ks.length b=ab
 |[],b,h=>by cases h;exact⟨rfl,rfl⟩
 |a::r,b,h=>by
  simp only[Hf] at h;split at h
  .rename_i x c
   split at h
   .rename_i q d
    cases h;obtain⟨g,f⟩:=Rr c;obtain⟨i,e⟩:=F3 d;exact⟨by simp[iX,g,i],by simp[oF,f,e]⟩
   grind
  grind
def JK(CT:List (Nat×dk))(φ:Fr)(σ:List aV)(a:an)(xs:List an):Option (D×List aV×List Prop) :=
 match eQ (b5 φ a) with
 |none=>af
 |some (f,cap)=>match yp CT f with
  |none=>af
  |some g =>
   let args:=ou (xs.map (b5 φ)++fY cap)
   let ks:=Ux args []
   match Hf ks args with
   |none=>af
   |some Kf=>match kL ks σ with
    |none=>af
    |some σs=>match g Kf σs with
     |none=>af
     |some (res,σ1,obs)=>match cX σs,cX σ1,eg ks,bo ks.length σ1.length with
      |true,ab,ab,ab=>aa (jA (ks++mU σ.length (σ1.length-ks.length)) res,ef ks σ1 σ,obs)
      |_,_,_,_=>af
theorem OA.P5{P:aq}{X:Cx P}{N:Nat}{all:List aw}{φ:Fr}{σ:List aV}{o:aw}{CT:List (Nat×dk)}(hC:bD X CT){A:an}{xs:Array an}{J:Array ar}
  (Q:∀ σ s a,cx N σ s φ a->bj o (yielded all.toArray a.tmps)=ab) (M:o.op=.call { callee:=.value A,args:=xs,argTypes:=J }) {f:aW} {cap:List C} (B:eQ (b5 φ A)=aa (f,cap)) {g:dk} (G:yp CT f=aa g)
  {ks:List Nat} {d:List D} {l σ1:List aV} {res:D} {obs:List Prop} (F:Hf ks (ou (xs.toList.map (b5 φ)++fY cap))=aa d) (L:kL ks σ=aa l) (r:g d l=aa (res,σ1,obs))
  (R:cX l=ab) (K:cX σ1=ab) (hn:eg ks=ab) (H:ks.length<=σ1.length) (v:ag obs):OA X N all o φ σ (jA (ks++mU σ.length (σ1.length-ks.length)) res) (ef ks σ1 σ):=by
 obtain⟨p,I⟩:=F3 F;intro s a q hh b kk cs S i rest hb hi hK;have y:=hC f g G _ _ _ _ _ r v;have z:=dX q A;unfold eQ at B;split at B
 case h_2=>cases B
 case h_1 f' Jb he =>
  cases B;rw[he] at z;have k:=fy z;generalize O:a.eval A=fv at k;cases k with
  |fn fs mc hl Bi f1 f2 h1 h2 r1 r2 =>
   have E:fs=[]:=hZ hl;subst E;have n:cz σ s mc (fY cap):=lP (λj c hj=>⟨f2 j,h2 j (by grind),r2 j c hj⟩) Bi
   have t:cz σ s (xs.toList.map a.eval++mc) (iX ks d):=by
    rw[p];exact rJ ((nR (dX q) xs.toList).append n)
   obtain⟨fn,u,h,e⟩:=y.1;exact Jt hb hi (Q _ _ _ q) hh (λw=>(gM M u h e O w).1) (λw=>(gM M u h e O w).2) y t I L R K hn H hK
theorem OA.call{P:aq}{X:Cx P}{N:Nat}{all:List aw}{φ:Fr}{σ σ':List aV}{o:aw}{CT:List (Nat×dk)}(hC:bD X CT){d:an}{xs:Array an}{c:Array ar}{x:D}{obs:List Prop}
  (j:∀ σ s a,cx N σ s φ a->bj o (yielded all.toArray a.tmps)=ab) (i:o.op=.call { callee:=.value d,args:=xs,argTypes:=c })
  (b:JK CT φ σ d xs.toList=aa (x,σ',obs)) (e:ag obs):OA X N all o φ σ x σ':=by
 unfold JK at b;split at b
 .cases b
 rename_i f cap hf
 split at b
 .cases b
 rename_i g h
 simp only at b;split at b
 .cases b
 grind [OA.P5,Nat.le_of_ble_eq_true]
def BW{d:D}(h:u6 0 d=ab):jA [] d=d:=by
 have g:∀ {a:A},GY 0 a=ab->oH [] a=a:=by
  intro a b;cases a <;> simp only[GY] at b <;> first|rfl|(simp at b)
 have j:∀ {l:List A},DT 0 l=ab->Bv [] l=l:=by
  intro l
  induction l with
  |nil=>intro _;rfl
  |cons a r f =>
   intro h;simp only[DT] at h;cases b:GY 0 a with
   |false=>grind
   |true=>simp only[b] at h;simp[Bv,g b,f h]
 have i:∀ {a:E1},Js 0 a=ab->zB [] a=a:=by
  intro a b;cases a with
  |one a=>simp[zB,g b]
  |agg cs=>simp[zB,j b]
 have c:∀ {l:List E1},xF 0 l=ab->yh [] l=l:=by
  intro l
  induction l with
  |nil=>intro _;rfl
  |cons a r f =>
   intro h;simp only[xF] at h;cases b:Js 0 a with
   |false=>grind
   |true=>simp only[b] at h;simp[yh,i b,f h]
 cases d with
 |e x=>simp[jA,i h]
 |eK xs=>simp[jA,c h]
 |any=>rfl
def BF(CT:List (Nat×dk))(φ:Fr)(a:an)(xs:List an):Option (D×List Prop) :=
 match eQ (b5 φ a) with
 |none=>af
 |some (f,cap)=>match yp CT f with
  |none=>af
  |some g=>match Hf [] (ou (xs.map (b5 φ)++fY cap)) with
   |none=>af
   |some Kf=>match g Kf [] with
    |some (res,[],obs)=>match u6 0 res with
     |true=>aa (res,obs)
     |false=>af
    |_=>af
theorem OA.BF{P:aq}{X:Cx P}{N:Nat}{all:List aw}{φ:Fr}{σ:List aV}{o:aw}{CT:List (Nat×dk)}(hC:bD X CT){k:an}{xs:Array an}{e:Array ar}{x:D}{obs:List Prop}
  (n:∀ σ s a,cx N σ s φ a->bj o (yielded all.toArray a.tmps)=ab) (l:o.op=.call { callee:=.value k,args:=xs,argTypes:=e })
  (b:AM.BF CT φ k xs.toList=aa (x,obs)) (c:ag obs):OA X N all o φ σ x σ:=by
 unfold AM.BF at b;split at b
 .cases b
 rename_i f cap hf
 split at b
 .cases b
 rename_i g i
 split at b
 .cases b
 rename_i d j
 split at b
 case h_2=>cases b
 rename_i res acX XX
 split at b
 case h_2=>cases b
 rename_i h
 cases b;have:=OA.P5 (σ:=σ) hC n l hf i j rfl XX rfl rfl rfl (bg _) c;simpa[mU,BW h,ef] using this
structure I0 (N:Nat)(σ:List aV)(s:St)(V:Nat->D)(a:Act):Prop where
 size:a.tmps.size=N
 defers:∃ ls,oI σ s a.defers ls
 slot:∀ t,dc σ s (a.tmps.getD t aj) (V t)
def I0.Jz{N:Nat}{σ:List aV}{s:St}{V:Nat->D}{φ:Fr}{a:Act}(f:I0 N σ s V a)(h:∀ t σ s v,dc σ s v (V t)->dc σ s v (look φ t)):cx N σ s φ a :=
 ⟨f.size,f.defers,λt=>h t _ _ _ (f.slot t)⟩
def c7(e:Edge):Bool:=Region.binds .any e
structure vK {P:aq}(X:Cx P)(N:Nat)(ops:Array aw)(φ:Fr)(S:Nat->List aV)(x:Nat->D)(p:Nat->Fr)(free c:Nat->Bool)(q:Nat->Nat->Prop)(idx:Nat->Option Nat)(m:Fr):Prop where
 ei:P.follows Departure.mixedOrders=ab
 back:∀ i o,ops[i]?=aa o->∀ e∈o.after,c7 e=ab->e.on<i
 JA:∀ i o d,ops[i]?=aa o->o.dst=aa d->idx d=aa i/\d<N
 xH:∀ d i,idx d=aa i->∃ o,ops[i]?=aa o/\o.dst=aa d
 quiet:∀ i,c i=ae->S (i+1)=S i
 one:∀ i o,ops[i]?=aa o->free i=ae->OA X N ops.toList o (p i) (S i) (x i) (S (i+1))
 all:∀ i o,ops[i]?=aa o->free i=ab->c i=ae/\∀ k,OA X N ops.toList o (p i) (S k) (x i) (S k)
 cl:∀ L:Nat->Prop,(∀ i o,ops[i]?=aa o->L i->∀ e∈o.after,c7 e=ab->L e.on)->∀ i j,q i j->(L i->L j)/\∃ o,ops[i]?=aa o/\((∀ e∈o.after,c7 e=ab->L e.on)->L j)
 comp:∀ i f,i<ops.size->f<ops.size->c f=ab->i≠f->free i=ae->(f<i/\q i f)∨(i<f/\q f i)
 Tf:∀ i o,ops[i]?=aa o->∀ t σ s v,dc σ s v (match idx t with|some j=>(if ∃ e∈o.after,c7 e=ab/\e.on=j then x j else if ∃ oj,ops[j]?=aa oj/\∃ e∈oj.after,c7 e=ab/\e.on=i then look φ t else .any)|none=>look φ t)->dc σ s v (look (p i) t)
 fin:∀ t σ s v,dc σ s v (match idx t with|some j=>x j|none=>look φ t)->dc σ s v (look m t)
open Classical in
noncomputable def gb(φ:Fr)(x:Nat->D)(idx:Nat->Option Nat)(L:Array Bool)(t:Nat):D :=
 match idx t with
 |some j=>if L.getD j ae=ab then x j else look φ t
 |none=>look φ t
theorem mem_ready{ops:Array aw}{L:Array Bool}{i:Nat}:i∈bc .any ops L↔∃ o,ops[i]?=aa o/\L.getD i ab=ae/\∀ e∈o.after,c7 e=ab->L.getD e.on ae=ab:=by
 unfold bc;simp only[mO,rq,bL,jh]
 constructor
 .rintro⟨a,d,b⟩;rw[fR a] at b;simp only[j9,fJ,Array.all_eq_true',mP,jh] at b;refine⟨ops[i],fR a,d,λe j g=>?_⟩
  rcases b e j with h|h
  .unfold c7 at g;grind
  grind
 .rintro⟨o,a,d,b⟩;have f:i<ops.size:=(ia.1 a).1;refine⟨f,d,?_⟩;rw[a];simp only[j9,fJ,Array.all_eq_true',mP,jh];intro e j;cases g:Region.binds .any e with
  |false=>grind
  |true=>exact .inr (b e j g)
section
variable {P:aq}{X:Cx P}{N:Nat}{ops:Array aw}{φ m:Fr}{S:Nat->List aV}{x:Nat->D}{p:Nat->Fr}{free c:Nat->Bool}{q:Nat->Nat->Prop}{idx:Nat->Option Nat}
def vK.chain(h:vK X N ops φ S x p free c q idx m){i:Nat}:∀ {k:Nat},i<=k->(∀ g,i<=g->g<k->c g=ae)->S k=S i
 |0,b,_=>by grind
 |k+1,b,a=>by
  rcases cJ k i with hl|hl
  .grind
  .rw[h.quiet k (a k hl (by omega)),h.chain (k:=k) hl (λg h1 h2=>a g h1 (by omega))]
def vK.last(h:vK X N ops φ S x p free c q idx m){L:Array Bool}(l:∀ i,i<ops.size->L.getD i ae=ab){k:Nat}{s0 s:St}{a:Act}(n:k<=ops.size)
  (r:∀ f,f<ops.size->c f=ab->(L.getD f ae=ab↔f<k)) (b:I0 N (S k) s (gb φ x idx L) a) (hh:aJ (S k) s) (st:cD (S 0) s0 (S k) s) :
  cx N (S ops.size) s m a/\aJ (S ops.size) s/\cD (S 0) s0 (S ops.size) s:=by
 have d:S ops.size=S k:=h.chain n (λg h1 h2=>by
  grind)
 rw[<-d] at b hh st;refine⟨b.Jz λt σ s v e=>h.fin t σ s v ?_,hh,st⟩
 unfold gb at e;cases hi:idx t with
 |none=>grind
 |some j =>
  simp only[hi] at e ⊢;obtain⟨o,u,_⟩:=h.xH _ _ hi
  grind
theorem ez{L:Array Bool}{i j:Nat}(hi:i<L.size):(L.setIfInBounds i ab).getD j ae=ab↔j=i∨L.getD j ae=ab:=by
 simp only[dG]
 grind
theorem count_set:∀ {l:List Bool}{i:Nat},l[i]?=aa ae->((l.set i ab).filter (λb=>!b)).length+1=(l.filter (λb=>!b)).length
 |[],_,h=>by grind
 |b::r,0,h=>by grind
 |b::r,i+1,h=>by
  simp at h;have:=count_set (l:=r) h;cases b <;> simp[List.set_cons_succ] <;> omega
theorem vL(t:Nat)(L:Array Bool):Region.linearise.go .any ops 0 t L []=[]:=by simp[Region.linearise.go]
theorem oZ(n t:Nat)(L:Array Bool):Region.linearise.go .any ops (n+1) t L []=match (bc .any ops L)[t % (bc .any ops L).length]? with
  |some i=>i::Region.linearise.go .any ops n (t / (bc .any ops L).length) (L.setIfInBounds i ab) []
  |none=>[]:=by
 simp only[Region.linearise.go]
 change (match (bc .any ops L)[t % (bc .any ops L).length]? with
   |some i=>Region.linearise.go .any ops n (t / (bc .any ops L).length) (L.setIfInBounds i ab) [i]
   |none=>[].reverse)=_
 grind [linearise_go_acc]
def vK.arr(h:vK X N ops φ S x p free c q idx m){SS:au->St->Prop}{b:aR}{kk:List Item}{cs:List aR}(hb:b.kind≠.early){s0:St}
  (hQ:∀ s a,cx N (S ops.size) s m a->aJ (S ops.size) s->cD (S 0) s0 (S ops.size) s->ft X SS (G (b.aT a kk) cs) s) :
  ∀ (l:Nat) (L:Array Bool),L.size=ops.size->(L.toList.filter (λb=>!b)).length<=l ->
   (∀ i o,ops[i]?=aa o->L.getD i ae=ab->∀ e∈o.after,c7 e=ab->L.getD e.on ae=ab) ->
   ∀ (k:Nat) (s:St) (a:Act),k<=ops.size->(∀ f,f<ops.size->c f=ab->(L.getD f ae=ab↔f<k))->I0 N (S k) s (gb φ x idx L) a->aJ (S k) s->cD (S 0) s0 (S k) s ->
   ∀ t,ft X SS (G (b.aT a (.inRegion ops (Region.linearise.go .any ops l t L [])::kk)) cs) s:=by
 have fin:∀ (s:St) (a:Act),cx N (S ops.size) s m a->aJ (S ops.size) s->cD (S 0) s0 (S ops.size) s->ft X SS (G (b.aT a (.inRegion ops []::kk)) cs) s :=
  λs a a1 a2 a3=>.ctl a2 rfl (λ_=>iW) λs1 Q=>hQ s1 a (a1.rely Q a2) (a2.rely Q) (a3.trans Q.stepW)
 intro l
 induction l with
 |zero =>
  intro L hs hf Dq k s a hk H r hh st;have C:∀ i,i<ops.size->L.getD i ae=ab:=by
   intro i hi;have hm:L[i]'(by omega)∈L.toList:=by simp
   cases hb:L[i]'(by omega) with
   |true=>simp[dG,fR (by omega:i<L.size),hb]
   |false =>
    have:L[i]'(by omega)∈L.toList.filter (λb=>!b):=mO.2 ⟨hm,by grind⟩
    grind
  intro t;rw[vL];obtain⟨a1,a2,a3⟩:=h.last C hk H r hh st
  grind
 |succ l ih =>
  intro L hs hf Dq k s a hk H r hh st;intro t;rw[oZ];cases Z:(bc .any ops L)[t % (bc .any ops L).length]? with
  |none =>
   have hr:bc .any ops L=[]:=by
    cases hr:bc .any ops L with
    |nil=>rfl
    |cons y ys =>
     grind [Nat.mod_lt]
   have C:∀ i,i<ops.size->L.getD i ae=ab:=by
    intro i
    induction i using Nat.strongRecOn with
    |_ i ihi =>
     intro hi;cases hb:L.getD i ae with
     |true=>rfl
     |false =>
      have hm:i∈bc .any ops L:=mem_ready.2 ⟨ops[i],fR hi,by
       grind,λe V hbe=>by
       have:=h.back i _ (fR hi) e V hbe
       grind⟩
      grind
   obtain⟨a1,a2,a3⟩:=h.last C hk H r hh st
   grind
  |some i =>
   have hi:=bU Z;obtain⟨o,W,ZT,QU⟩:=mem_ready.1 hi;have R:i<ops.size:=(ia.1 W).1;have K:¬L.getD i ae=ab:=by
    grind
   have W2:=h.cl (λj=>L.getD j ae=ab) Dq
   have ZU:∀ g,q g i->¬L.getD g ae=ab:=λg hg hL=>K ((W2 g i hg).1 hL)
   have hup:∀ g,q i g->L.getD g ae=ab:=λg hg=>by
    grind
   have F:(L.setIfInBounds i ab).size=ops.size:=by grind
   have E:((L.setIfInBounds i ab).toList.filter (λb=>!b)).length<=l:=by
    have h1:L.toList[i]?=aa ae:=by
     rw[zo,fR (by omega:i<L.size)]
     simpa[dG,fR (by omega:i<L.size)] using K
    grind [count_set]
   have W3:∀ j o',ops[j]?=aa o'->(L.setIfInBounds i ab).getD j ae=ab->∀ e∈o'.after,c7 e=ab->(L.setIfInBounds i ab).getD e.on ae=ab:=by
    grind [ez]
   have hfi:cx N (S k) s (p i) a:=r.Jz λt σ s v U=>h.Tf i o W t σ s v (by
    unfold gb at U;cases w:idx t with
    |none=>grind
    |some j =>
     simp only[w] at U ⊢;split
     .grind
     .split
      .grind
      .trivial)
   have T:∀ (σ':List aV) (s':St) (v:ak),cD (S k) s σ' s'->dc σ' s' v (x i)->I0 N σ' s' (gb φ x idx (L.setIfInBounds i ab)) (a.put o.dst v):=by
    intro σ' s' v u U;cases hd:o.dst with
    |none =>
     refine⟨r.size,r.defers.imp λ_ h1=>h1.mono u.ext,λt=>?_⟩
     have A:=(r.slot t).mono u.ext hh.len;simp only[Act.put];unfold gb at A ⊢;cases w:idx t with
     |none=>grind
     |some j =>
      simp only[w] at A ⊢;obtain⟨oj,W4,W5⟩:=h.xH _ _ w
      grind [ez]
    |some d =>
     obtain⟨hid,hdN⟩:=h.JA i o d W hd;refine⟨by simp[Act.put,r.size],r.defers.imp λ_ h1=>h1.mono u.ext,λt=>?_⟩
     simp only[Act.put]
     by_cases e:d=t
     .subst e;have hs2:d<a.tmps.size:=by rw[r.size];exact hdN
      simp only[dG,vm hs2,fJ];unfold gb;simp only[hid];rw[bd ((ez (by omega)).2 (.inl rfl))]
      exact U
     .have A:=(r.slot t).mono u.ext hh.len;simp only[dG] at A ⊢;rw[sQ e];unfold gb at A ⊢;cases w:idx t with
      |none=>grind
      |some j =>
       simp only[w] at A ⊢;obtain⟨oj,W4,W5⟩:=h.xH _ _ w
       grind [ez]
   have B:∀ (k':Nat),k'<=ops.size->OA X N ops.toList o (p i) (S k) (x i) (S k')->(∀ f,f<ops.size->c f=ab->((L.setIfInBounds i ab).getD f ae=ab↔f<k')) ->
     ft X SS (G (b.aT a (.inRegion ops (i::Region.linearise.go .any ops l (t / (bc .any ops L).length) (L.setIfInBounds i ab) [])::kk)) cs) s:=by
    intro k' ZR hoa W6;have:=hoa s a hfi hh b kk cs SS i (Region.linearise.go .any ops l (t / (bc .any ops L).length) (L.setIfInBounds i ab) []) hb (by grind)
    simp only[oO] at this;exact this λv s' U lb u=>ih _ F E W3 k' s' _ ZR W6 (T _ _ _ u U) lb (st.trans u) _
   have same:c i=ae->∀ f,f<ops.size->c f=ab->((L.setIfInBounds i ab).getD f ae=ab↔f<k):=by
    grind [ez]
   cases n:free i with
   |true =>
    obtain⟨hq,Y⟩:=h.all i o W n;exact B k hk (Y k) (same hq)
   |false =>
    have z:=h.one i o W n;have M:S i=S k:=by
     rcases Nat.le_total k i with O|O
     .refine h.chain O λg h1 h2=>?_
      cases V:c g with
      |false=>rfl
      |true =>
       exfalso;rcases h.comp i g R (by omega) V (by omega) n with⟨_,hc⟩|⟨hc,_⟩
       .grind
       .omega
     .refine(h.chain O λg h1 h2=>?_).symm
      cases V:c g with
      |false=>rfl
      |true =>
       exfalso;have hLg:=(H g (by omega) V).2 h2
       by_cases QV:g=i
       .grind
       .rcases h.comp i g R (by omega) V (λe=>QV e.symm) n with⟨hc,_⟩|⟨_,hc⟩
        .omega
        grind
    rw[M] at z;cases I:c i with
    |false =>
     rw[h.quiet i I,M] at z;exact B k hk z (same I)
    |true =>
     refine B (i+1) (by omega) z λf Tg Wb=>?_
     rw[ez (by omega)]
     by_cases J:f=i
     .grind
     .simp only[J,false_or];rcases h.comp i f R Tg Wb (λe=>J e.symm) n with⟨h1,hc⟩|⟨h1,hc⟩
      .grind
      grind
end
end
def Ko(P:aq):List TypeDesc->List Field->Nat->Prop
 |[],[],_=>True
 |d::ds,f::fs,i=>f.name≠ "_"/\f.offset=i/\P.underlying f.type=aa d/\(match d with|.int _|.string|.bool=>True|_=>False)/\Ko P ds fs (i+1)
 |_,_,_=>False
def UA(d:Nat)(xs ys:Array ak)(f:Field)(_:Option Bool×Unit):Sem (ForInStep (Option Bool×Unit)) :=
 if f.name= "_" then pure (ForInStep.yield (af,()))
 else do
  let a<-part f.type xs f.offset
  let b<-part f.type ys f.offset
  let r<-Op.equalIn d f.type a b
  if r=ae then pure (ForInStep.done (aa ae,())) else pure (ForInStep.yield (af,()))
def sd{P:aq}(w:az)(d:Nat)(xs ys:Array ak):∀ {ds:List TypeDesc}{fs:List Field}{i:Nat}{vs ws:List ak}{b:Bool},Ko P ds fs i->jQ ds vs ws=aa b->(∀ j v,vs[j]?=aa v->xs[i+j]?=aa v)->(∀ j v,ws[j]?=aa v->ys[i+j]?=aa v) ->
  (Op.eqFields (d+1) xs ys fs).run P w=.ok b w/\∀ es,(forIn fs (af,()) (UA (d+1) xs ys)).events P w es=es
 |[],[],i,[],[],b,_,h,_,_=>by cases h;simp[Op.eqFields]
 |[],[],i,_::_,_,b,_,h,_,_=>by cases h
 |[],[],i,[],_::_,b,_,h,_,_=>by cases h
 |[],_::_,i,_,_,b,y,_,_,_=>y.elim
 |_::_,[],i,_,_,b,y,_,_,_=>y.elim
 |t::ds,f::fs,i,[],_,b,_,h,_,_=>by cases h
 |t::ds,f::fs,i,_::_,[],b,_,h,_,_=>by cases h
 |t::ds,f::fs,i,v::vs,u::us,b,⟨F,A,s,H,I⟩,h,B,G=>by
  simp only[jQ] at h;cases m:qJ t v u with
  |none=>grind
  |some a =>
   cases C:jQ ds vs us with
   |none=>grind
   |some b' =>
    simp[m,C] at h;subst h;obtain⟨K,q⟩:=sd w d xs ys I C (λj v J=>by have:=B (j+1) v (by grind);grind) (λj v J=>by have:=G (j+1) v (by grind);grind)
    have c:xs[i]?=aa v:=by simpa using B 0 v rfl
    have e:ys[i]?=aa u:=by simpa using G 0 u rfl
    have n:(isAgg f.type).run P w=.ok ae w:=by
     unfold isAgg underlying;cases t <;> simp at H <;> simp[s]
    have p:∀ (k:Array ak) (z:ak),k[i]?=aa z->(part f.type k f.offset).run P w=.ok z w:=by
     intro k z x;unfold part;simp[n,A,x]
    have l:∀ (k:Array ak) (z:ak),k[i]?=aa z->∀ es,(part f.type k f.offset).events P w es=es:=by
     intro k z x es;unfold part;simp[n,A,x]
    have r:∀ es,(Op.equalIn (d+1) f.type v u).events P w es=es:=by
     intro es;unfold qJ at m;split at m <;> first
      |(cases m;done)
      |(unfold Op.equalIn;simp[underlying,s];done)
      |(unfold Op.equalIn;simp[underlying,s];split <;> rfl)
    have E:(Op.equalIn (d+1) f.type v u).run P w=.ok a w:=by
     unfold qJ at m
     grind [run_equalIn_int,run_equalIn_string,run_equalIn_bool]
    refine⟨?_,λes=>?_⟩
    .rw[Op.eqFields.eq_2,bd F];simp only[bY,p xs v c,p ys u e,E,b9];cases a
     .simp
     grind
    .rw[List.forIn_cons];simp only[UA,F,cd,aO,bY,p xs v c,p ys u e,E,b9,aU,l xs v c,l ys u e,r];cases a
     .simp
     .simpa using q es
def jR{P:aq}{t:ar}{fs:List Field}{ds:List TypeDesc}(d:P.underlying t=aa (.struct fs.toArray))(c:P.stoodInHeld t=ae)(l:P.eqGuardType P.depth t=ae)(f:Ko P ds fs 0) :
  P.eqGuardType P.depth t=ae/\∀ (w:az) (vs ws:List ak) (b:Bool),jQ ds vs ws=aa b->(Op.equal t (.agg vs.toArray) (.agg ws.toArray)).run P w=.ok b w/\∀ es,(Op.equal t (.agg vs.toArray) (.agg ws.toArray)).events P w es=es:=by
 refine⟨l,λw vs ws b h=>?_⟩
 have k:P.fieldsOf t=fs.toArray:=by unfold Program.fieldsOf;rw[d]
 have key:=sd w 9998 vs.toArray ws.toArray f h (λj v e=>by grind) (λj v e=>by grind)
 refine⟨?_,λes=>?_⟩
 rotate_left
 .show (Op.equalIn (9999+1) t _ _).events P w es=es;have i:=key.2 es;unfold Op.equalIn;simp[underlying,d,c];show Result.evThen ((forIn fs (af,()) (UA 9999 vs.toArray ws.toArray)).run P w) ((forIn fs (af,()) (UA (9998+1) vs.toArray ws.toArray)).events P w es) _=es;rw[i];cases (forIn fs (af,()) (UA 9999 vs.toArray ws.toArray)).run P w with
  |ok a w'=>obtain⟨o,_⟩:=a;cases o <;> rfl
  |halt x w'=>rfl
 show (Op.equalIn (9999+1) t _ _).run P w=_
 grind [run_equalIn_agg]
def PT:List TypeDesc->List A->List A->Option Bool
 |[],[],[]=>aa ab
 |.int _::ds,.c (.int k a)::cs,.c (.int k' b)::es=>match He k k' with
  |true=>match PT ds cs es with
   |some r=>aa ((a==b)&&r)
   |none=>af
  |false=>af
 |.string::ds,.c (.str a)::cs,.c (.str b)::es=>match PT ds cs es with
  |some r=>aa ((a==b)&&r)
  |none=>af
 |.bool::ds,.c (.bool a)::cs,.c (.bool b)::es=>match PT ds cs es with
  |some r=>aa ((a==b)&&r)
  |none=>af
 |_,_,_=>af
def Ee{σ:List aV}{s:St}:∀ {ds:List TypeDesc}{cs es:List A}{b:Bool}{vs ws:List ak},PT ds cs es=aa b->dW σ s vs cs->dW σ s ws es->jQ ds vs ws=aa b:=by
 intro ds
 induction ds with
 |nil =>
  intro cs es b vs ws h e c;cases cs <;> cases es <;> simp only[PT,reduceCtorEq] at h
  cases vs <;> cases ws <;> first|exact e.elim|exact c.elim|(simpa[jQ] using h)
 |cons d ds ih =>
  intro cs es b vs ws h e c;unfold PT at h;split at h
  .grind
  .rename_i n f k a i k' b' es' heq
   cases heq;split at h
   .rename_i m
    cases z9 m;split at h
    .rename_i r l
     cases h;cases vs with
     |nil=>exact e.elim
     |cons v vs=>cases ws with
      |nil=>exact c.elim
      |cons w ws =>
       obtain⟨v1,j⟩:=e;obtain⟨w1,w2⟩:=c;cases (show Rd s.M v (.int k a) from v1)
       cases (show Rd s.M w (.int k b') from w1)
       simp[jQ,qJ,ih l j w2]
    grind
   grind
  .rename_i f a i b' es' heq
   cases heq;split at h
   .rename_i r l
    cases h;cases vs with
    |nil=>exact e.elim
    |cons v vs=>cases ws with
     |nil=>exact c.elim
     |cons w ws =>
      obtain⟨v1,j⟩:=e;obtain⟨w1,w2⟩:=c;cases (show Rd s.M v (.str a) from v1) with
      |str hx _ =>
      cases (show Rd s.M w (.str b') from w1) with
      |str hy _ =>
      simp only[jQ,qJ,ih l j w2]
      grind [ByteArray.toList_eq]
   grind
  .rename_i f a i b' es' heq
   cases heq;split at h
   .rename_i r l
    cases h;cases vs with
    |nil=>exact e.elim
    |cons v vs=>cases ws with
     |nil=>exact c.elim
     |cons w ws =>
      obtain⟨v1,j⟩:=e;obtain⟨w1,w2⟩:=c;cases (show Rd s.M v (.bool a) from v1)
      cases (show Rd s.M w (.bool b') from w1)
      simp[jQ,qJ,ih l j w2]
   grind
  grind
section
variable {P:aq}{T:List (Nat×TI)}{o:aw}{g:an->D}{σ:List aV}
def lr:BinOp->Bool->Option Bool
 |.eql,b=>aa b
 |.neq,b=>aa (!b)
 |_,_=>af
def tX{op:BinOp}{t:ar}{x y:ak}{w:az}{b c:Bool}(a:match x,y with|.agg _,.agg _=>True|.bool _,.bool _=>True|_,_=>False)(d:(Op.equal t x y).run P w=.ok b w)(h:lr op b=aa c) :
  (binOp op t x y).run P w=.ok (.bool c) w:=by
 cases op <;> simp only[lr,reduceCtorEq,di] at h
 .subst h;cases x <;> cases y <;> simp only at a <;> simp[binOp,d]
 .subst h;cases x <;> cases y <;> simp only at a <;> simp[binOp,d]
def pf{op:BinOp}{t:ar}{x y:ak}{w:az}{b c:Bool}(d:match x,y with|.agg _,.agg _=>True|.bool _,.bool _=>True|_,_=>False)(e:(Op.equal t x y).run P w=.ok b w)(a:∀ es,(Op.equal t x y).events P w es=es)(h:lr op b=aa c)(es:Array Event) :
  (binOp op t x y).events P w es=es:=by
 cases op <;> simp only[lr,reduceCtorEq,di] at h <;> (cases x <;> cases y <;> simp only at d <;> simp[binOp,a])
def wx(op:BinOp)(t:ar)(x y:an)(xs ys:Array ak)(w:az)(a:P.eqGuardType P.depth t=ae)(es:Array Event):(eqGuard op t x y (.agg xs) (.agg ys)).events P w es=es:=by
 cases op <;> simp[eqGuard,a]
theorem bH.structEq(v:dg P T){op:BinOp}{t ty:ar}{x y:an}(h:o.op=.binOp op t x y ty){i:TI}(hi:bF T t=aa i)(l:i.eq≠[]){cs es:List A}{b c:Bool}(u:g x=.e (.agg cs))(z:g y=.e (.agg es))
  (n:PT i.eq cs es=aa b) (q:lr op b=aa c):bH P o g σ (.e (.one (.c (.bool c)))) σ:=by
 refine .quiet λs ρ hh hr=>?_
 have h1:=hr x;have h2:=hr y;rw[u] at h1;rw[z] at h2;obtain⟨vs,r,d⟩:=h1;obtain⟨k,p,f⟩:=h2;obtain⟨m,heq⟩:=(v t i hi).eqs l;have a:=tX (x:=.agg vs.toArray) (y:=.agg k.toArray) av (heq s.w vs k b (Ee n d f)).1 q;have j:=pf (x:=.agg vs.toArray) (y:=.agg k.toArray) av (heq s.w vs k b (Ee n d f)).1 (heq s.w vs k b (Ee n d f)).2 q;refine⟨.bool c,?_,Rd.bool,by simp only[ay,h,r,p,aO,run_eqGuard_agg s.w op t x y _ _ m,wx op t x y _ _ s.w m,aU,bY,b9,a,j,Sem.events_pure]⟩
 simp only[ay,h,r,p,bY,run_eqGuard_agg s.w op t x y _ _ m,b9,a,cY]
theorem bH.Q3(r:dg P T){op:BinOp}{t ty:ar}{x y:an}(h:o.op=.binOp op t x y ty){i:TI}(hi:bF T t=aa i)(q:i.desc=.bool){a b c:Bool}(p:g x=.e (.one (.c (.bool a))))(u:g y=.e (.one (.c (.bool b))))
  (n:lr op (a==b)=aa c):bH P o g σ (.e (.one (.c (.bool c)))) σ:=by
 refine .quiet λs ρ hh hr=>?_
 have h1:=hr x;have h2:=hr y;rw[p] at h1;rw[u] at h2
 replace h1:=fy h1
 replace h2:=fy h2
 generalize k:ρ x=vx at h1;generalize j:ρ y=vy at h2;cases h1;cases h2;have m:P.underlying t=aa .bool:=by rw[(r t i hi).Te,q]
 have d:=tX (P:=P) (w:=s.w) (x:=.bool a) (y:=.bool b) av (run_equal_bool s.w t a b m) n;have l:∀ es,(Op.equal t (.bool a) (.bool b)).events P s.w es=es:=λes=>by
  show (Op.equalIn (9999+1) t _ _).events P s.w es=es;unfold Op.equalIn;simp[underlying,m]
 have f:=pf (P:=P) (w:=s.w) (x:=.bool a) (y:=.bool b) av (run_equal_bool s.w t a b m) l n;refine⟨.bool c,?_,Rd.bool,by simp only[ay,h,k,j,aO,eqGuard_at_bool,Sem.events_pure,cY,aU,bY,b9,d,f]⟩
 simp only[ay,h,k,j,bY,eqGuard_at_bool,cY,b9,d]
def bH.Ue{t ty:ar}{x y:an}(h:o.op=.binOp .xor t x y ty){a b:Int}(m:g x=.e (.one (.c (.int .i64 a))))(p:g y=.e (.one (.c (.int .i64 b))))(q:0<=a)(h1:0<=b) :
  bH P o g σ (.e (.one (.c (.int .i64 ((a.toNat ^^^ b.toNat:Nat):Int))))) σ:=by
 refine .quiet λs ρ hh hr=>?_
 have e1:=hr x;have e2:=hr y;rw[m] at e1;rw[p] at e2
 replace e1:=fy e1
 replace e2:=fy e2
 generalize i:ρ x=vx at e1;generalize f:ρ y=vy at e2;cases e1 with|int ha =>
 cases e2 with|int hb =>
 have n:a.toNat ^^^ b.toNat<2 ^ 63:=by
  apply Nat.xor_lt_two_pow <;> simp only[bx] at ha hb <;> omega
 have k:bx .i64 ((a.toNat ^^^ b.toNat:Nat):Int):=by simp only[bx];omega
 refine⟨.int .i64 ((a.toNat ^^^ b.toNat:Nat):Int),?_,.int k,?_⟩
 rotate_left
 .simp only[ay,h,i,f,aO,gA,jK,aU,Go.binOp,cW,fu,cd,Op.intBits,bY,b9,cY,Sem.events_pure]
 have d:((BitVec.ofInt 64 a) ^^^ (BitVec.ofInt 64 b)).toNat=a.toNat ^^^ b.toNat:=by
  rw[BitVec.toNat_xor,BitVec.toNat_ofInt,BitVec.toNat_ofInt];simp only[bx] at ha hb
  congr 1 <;> omega
 have j:(BitVec.ofInt IntKind.i64.bits a ^^^ BitVec.ofInt IntKind.i64.bits b).toNat=a.toNat ^^^ b.toNat:=d;have l:(Go.binOp .xor t (.int .i64 a) (.int .i64 b)).run P s.w=.ok (.int .i64 ((a.toNat ^^^ b.toNat:Nat):Int)) s.w:=by
  simp only[Go.binOp,cW,fu,cd,Op.intBits,cY]
  grind [mq]
 simp only[ay,h,i,f,bY,gA,b9,l,cY]
def bH.G0(I:dg P T){k dst:ar}{x:an}(h:o.op=.convert k dst x){i i2 ie:TI}{E:ar}(hi:bF T k=aa i)(B:bF T dst=aa i2)(O:i.desc=.slice E)(G:i2.desc=.string)(S:bF T E=aa ie)(A:ie.desc=.int .u8)
  {tt:Bool} {n:Nat} {es:Nat->List C} {r:List UInt8} (Q:∀ s v,dc σ s v (g x)->Rd s.M v (.sl tt 1 n es)) (hb:vQ es 0 n=aa r):bH P o g σ (.e (.one (.c (.str r)))) σ:=by
 refine .nT λs ρ hh hr=>?_
 have h1:=Q s _ (hr x);obtain⟨vs,N,b⟩:=dO (P:=P) hh h1;obtain⟨a,cap,U,u,K,R,_⟩:=h1.flat;have L:n<=9223372036854775807:=by omega
 have z:vs.length=n:=by rw[N.len];omega
 obtain⟨xs,e1,e2⟩:=yv (M:=s.M) (vs:=vs) hb z (λj hj c W=>by
  obtain⟨v,V,p2⟩:=N.rd j hj 0 c (by grind)
  grind)
 have J:=(I k i hi).run_underlying (w:=s.w);have l:=(I dst i2 B).run_underlying (w:=s.w);have m:=(I E ie S).run_underlying (w:=s.w);rw[O] at J;rw[G] at l;rw[A] at m;have H:r.length<=9223372036854775807:=by
  grind
 have f:∃ y:ByteArray,(Conv.bytesToString (.slice a n cap)).run P s.w=.ok (.string y) s.w/\y.data.toList=r:=by
  cases a with
  |none =>
   have p:r=[]:=by
    have:vs=[]:=by
     rw[u] at b;have h2:=b.1;simp[Builtin.firstCells] at h2
     grind
    grind
   exact⟨ByteArray.empty,by simp[Conv.bytesToString],by rw[p];rfl⟩
  |some ad =>
   rw[u] at b;have h2:=b.1;simp only[Builtin.firstCells,Nat.mul_one] at h2;refine⟨⟨#[]++(xs.map λx=>UInt8.ofNat x.toNat).toArray⟩,?_,by grind⟩
   simp only[Conv.bytesToString,bY,h2,b9,e1];rw[List.forIn_toArray,ow (P:=P) s.w (λ_ _=>rfl) xs ByteArray.empty]
   rfl
 obtain⟨y,q,F⟩:=f;refine⟨.string y,?_,Rd.str F H,?_⟩
 rotate_left
 .intro e d;simp only[ay,h,u,aO,convert,J,l,aU,b9,m,q,bY,events_underlying,Sem.events_pure] at d;cases a with
  |none=>simp[Conv.bytesToString] at d
  |some ad =>
   have t:=gN (P:=P) hh (h1.DC (λ_ _=>rfl)) (w:=s.w) rfl
   rw[u] at b t;have h2:=b.1;simp only[Builtin.firstCells,Nat.mul_one] at h2 t;unfold Conv.bytesToString at d;simp only at d;rw[aO,h2,aU,cO.bind (P:=P) ?_ λ_=>.pure] at d
   .grind [sT]
   .rw[List.forIn_toArray];refine cO.JH (λx s=>?_) _ _
    split
    .exact .pure
    .exact .bind .stuck λ_=>.pure
 simp only[ay,h,u,bY,convert,J,l,b9,m,q,cY]
end
def vR(g:an->D):List an->Option (List C)
 |[]=>aa []
 |x::r=>match g x with
  |.e (.one (.c c))=>match vR g r with
   |some q=>aa (c::q)
   |none=>af
  |_=>af
def wy{σ:List aV}{s:St}{ρ:an->ak}{g:an->D}(b:∀ y,dc σ s (ρ y) (g y)):∀ {xs:List an}{cs:List C},vR g xs=aa cs->xs.length=cs.length/\∀ (j:Nat)(c:C),cs[j]?=aa c->∃ v,(xs.map ρ)[j]?=aa v/\Rd s.M v c
 |[],cs,h=>by cases h;grind
 |x::r,cs,h=>by
  simp only[vR] at h;split at h
  .rename_i c d
   split at h
   .rename_i q e
    cases h;obtain⟨i,f⟩:=wy b e;refine⟨by grind,λj k a=>?_⟩
    cases j with
    |zero =>
     simp at a;subst a;have:=b x;rw[d] at this;exact⟨ρ x,by simp,fy this⟩
    |succ j=>grind
   grind
  grind
section
variable {P:aq}{T:List (Nat×TI)}{o:aw}{g:an->D}{σ:List aV}
theorem bH.makeFunc{fn:Fn}{a b:Array an}(h:o.op=.makeFunc fn a b){d f:List C}(l:vR g a.toList=aa d)(hb:vR g b.toList=aa f):bH P o g σ (.e (.one (.c (.fn fn d f)))) σ:=by
 refine .quiet λs ρ hh hr=>?_
 obtain⟨a1,a2⟩:=wy hr l;obtain⟨n,m⟩:=wy hr hb;have i:a.map ρ=(a.toList.map ρ).toArray:=by grind
 have k:b.map ρ=(b.toList.map ρ).toArray:=by grind
 refine⟨.func fn (a.toList.map ρ).toArray (b.toList.map ρ).toArray,?_,?_,by simp only[ay,h,Instr.makeFunc];rfl⟩
 .simp only[ay,h,Instr.makeFunc,i,k];rfl
 .refine Rd.fn _ _ (by grind) (by grind) (λj=>((a.toList.map ρ)[j]?).getD aj) (λj=>((b.toList.map ρ)[j]?).getD aj) ?_ ?_ ?_ ?_
  .grind
  .grind
  .grind
  grind
def rU:TypeDesc->Bool
 |.interface _=>ab
 |_=>ae
def vc(t:ar):D->Option C
 |.e (.one (.c c))=>aa (.ifs t c)
 |.e (.agg cs)=>match gn cs with
  |some q=>aa (.Jx t q)
  |none=>af
 |_=>af
def Ef{s:St}{v:ak}{t:ar}{d:D}{c:C}(h:vc t d=aa c)(r:dc σ s v d):Rd s.M (.iface t v) c:=by
 unfold vc at h;split at h
 .cases h;exact Rd.ifs (fy r) (fy r).cell
 .split at h
  .rename_i q i
   cases h;obtain⟨vs,rfl,f⟩:=r;have b:=kn i f;refine Rd.Jx (by have:=b.length;grind) (λj=>(vs[j]?).getD aj) (λj e=>by grind) λj c e=>?_
   obtain⟨v,l,k⟩:=b.get (j:=j) (a:=.c c) (by grind)
   rw[l];exact k
  grind
 grind
theorem bH.makeInterface(j:dg P T){t:ar}{x:an}(h:o.op=.makeInterface t x){i:TI}(hi:bF T t=aa i)(b:rU i.desc=ae){c:C}(f:vc t (g x)=aa c):bH P o g σ (.e (.one (.c c))) σ:=by
 refine .quiet λs ρ hh hr=>?_
 have d:=(j t i hi).run_underlying (w:=s.w);refine⟨.iface t (ρ x),?_,Ef f (hr x),?_⟩
 rotate_left
 .simp only[ay,h,Instr.makeInterface,aO,bY,d,aU,b9,events_underlying];cases a:i.desc <;> rw[a] at b <;> first|(cases b;done)|simp
 simp only[ay,h,Instr.makeInterface,bY,d,b9];cases a:i.desc <;> rw[a] at b <;> first|(cases b;done)|simp
def yw(i:TI):Option E1:=match i.agg with
 |true=>aa (.agg (i.zero.map A.c))
 |false=>af
def Kp{i:TI}{t:ar}(f:bJ P t i){s:St}{e:E1}(d:yw i=aa e):∃ z,(zeroValue t).run P s.w=.ok z s.w/\mY σ s z e:=by
 obtain⟨z,j,a⟩:=f.B4 σ s;refine⟨z,j,?_⟩;obtain⟨n,h,m,q,u,k,p,⟨cs,c⟩,r⟩:=f.info;have b:h=z:=by
  have:(zeroValue t).run P s.w=.ok h s.w:=by simp[zeroValue,typeInfo,m,k]
  grind
 subst b;unfold yw at d;cases l:i.agg with
 |true =>
  rw[l] at d c;simp only[cu] at c;cases d;rw[c] at a ⊢;exact⟨cs.toList,by simp,by simpa[Value.cells] using a⟩
 |false=>grind
def pV(t:ar)(i:TI):C->Option (E1×Bool)
 |.ifs t' c=>match aG t' t with
  |true=>aa (.one (.c c),ab)
  |false=>match yw i with
   |some e=>aa (e,ae)
   |none=>af
 |.Jx t' cs=>match aG t' t with
  |true=>aa (.agg (cs.map A.c),ab)
  |false=>match yw i with
   |some e=>aa (e,ae)
   |none=>af
 |.nW=>match yw i with
  |some e=>aa (e,ae)
  |none=>af
 |_=>af
theorem bH.typeAssert(I:dg P T){x:an}{r t:ar}(h:o.op=.typeAssert x r t ab){i:TI}(hi:bF T t=aa i)(F:rU i.desc=ae){c:C}(K:g x=.e (.one (.c c))){e:E1}{b:Bool}(k:pV t i c=aa (e,b)) :
  bH P o g σ (.eK [e,.one (.c (.bool b))]) σ:=by
 refine .quiet λs ρ hh hr=>?_
 have h1:=hr x;rw[K] at h1
 replace h1:=fy h1
 generalize y:ρ x=vx at h1;have q:=(I t i hi).run_underlying (w:=s.w);have key:∀ (v:ak) (b:Bool),(Instr.typeAssert vx r t ab).run P s.w=.ok (.tuple #[v,.bool b]) s.w->mY σ s v e->(Instr.typeAssert vx r t ab).events P s.w #[]=#[]->∃ v,(ay ρ o).run P s.w=.ok (.value v) s.w/\dc σ s v (.eK [e,.one (.c (.bool b))])/\(ay ρ o).events P s.w #[]=#[]:=by
  intro v b h1 h2 h3;refine⟨.tuple #[v,.bool b],?_,⟨[v,.bool b],rfl,h2,Rd.bool,av⟩,by simp only[ay,h,y,aO,h1,h3,aU,Sem.events_pure]⟩
  simp only[ay,h,y,bY,h1,b9,cY]
 have fail:∀ p,yw i=aa p->(∀ z,(zeroValue t).run P s.w=.ok z s.w->(Instr.typeAssert vx r t ab).run P s.w=.ok (.tuple #[z,.bool ae]) s.w/\(Instr.typeAssert vx r t ab).events P s.w #[]=#[])->e=p->b=ae->∃ v,(ay ρ o).run P s.w=.ok (.value v) s.w/\dc σ s v (.eK [e,.one (.c (.bool b))])/\(ay ρ o).events P s.w #[]=#[]:=by
  intro p n G B hb;subst B hb;obtain⟨z,h3,L⟩:=Kp (σ:=σ) (I t i hi) (s:=s) n
  grind
 have d:∀ m,i.desc≠.interface m:=by intro m e;rw[e] at F;cases F
 cases h1 with
 |@ifs t' v c h2 hc =>
  simp only[pV] at k;cases hb:aG t' t with
  |true =>
   rw[hb] at k;cases k;have E:=bX hb;subst E;refine key v ab ?_ h2 ?_ <;>
   .unfold Instr.typeAssert;simp only[bY,q,b9,aO,aU,events_underlying];cases a:i.desc <;> first|(exact absurd a (d _))|simp
  |false =>
   rw[hb] at k;have l:t'≠t:=λe=>by grind [Nat.beq_refl]
   simp only at k;split at k
   .rename_i p n
    cases k;refine fail _ n (λz h3=>⟨?_,?_⟩) rfl rfl <;>
    .unfold Instr.typeAssert;simp only[bY,q,b9,aO,aU,events_underlying];cases a:i.desc <;> first|(exact absurd a (d _))|simp[l,h3]
   grind
 |@Jx t' vs cs hl f N J =>
  simp only[pV] at k;cases hb:aG t' t with
  |true =>
   rw[hb] at k;cases k;have E:=bX hb;subst E;refine key (.agg vs.toArray) ab ?_ ⟨vs,rfl,?_⟩ ?_
   rotate_left 2
   .unfold Instr.typeAssert;simp only[q,aO,aU,events_underlying];cases a:i.desc <;> first|(exact absurd a (d _))|simp
   .unfold Instr.typeAssert;simp only[bY,q,b9];cases a:i.desc <;> first|(exact absurd a (d _))|simp
   .have go:∀ (vs:List ak) (cs:List C),vs.length=cs.length->(∀ (j:Nat) (c:C),cs[j]?=aa c->∃ v,vs[j]?=aa v/\Rd s.M v c)->dW σ s vs (cs.map A.c):=by
     intro vs
     induction vs with
     |nil=>intro cs hl _;cases cs with|nil=>trivial|cons _ _=>grind
     |cons v vs ih =>
      intro cs hl hg;cases cs with
      |nil=>grind
      |cons c cs =>
       obtain⟨u,H,p2⟩:=hg 0 c rfl;simp at H;subst H;exact⟨p2,ih cs (by grind) (λj c hj=>by simpa using hg (j+1) c (by grind))⟩
    grind
  |false =>
   rw[hb] at k;have l:t'≠t:=λe=>by grind [Nat.beq_refl]
   simp only at k;split at k
   .rename_i p n
    cases k;refine fail _ n (λz h3=>⟨?_,?_⟩) rfl rfl <;>
    .unfold Instr.typeAssert;simp only[bY,q,b9,aO,aU,events_underlying];cases a:i.desc <;> first|(exact absurd a (d _))|simp[l,h3]
   grind
 |nW =>
  simp only[pV] at k;split at k
  .rename_i p n
   cases k;refine fail _ n (λz h3=>⟨?_,?_⟩) rfl rfl <;>
   .unfold Instr.typeAssert;simp only[bY,q,b9,aO,aU,events_underlying];cases a:i.desc <;> first|(exact absurd a (d _))|simp[h3]
  grind
 |_=>simp[pV] at k
end
def Bo(op:BinOp)(k:IntKind) (a:Int)(k':IntKind) (b:Int):Option (Int×List Prop) :=
 match k with
 |.u64=>match op with
  |.shl=>aa (((a.toNat*2 ^ b.toNat % 18446744073709551616:Nat):Int),[0<=b,b<=64])
  |.shr=>aa (((a.toNat / 2 ^ b.toNat:Nat):Int),[0<=b,b<=64])
  |.and=>match k' with|.u64=>aa (((a.toNat &&& b.toNat:Nat):Int),[])|_=>af
  |.xor=>match k' with|.u64=>aa (((a.toNat ^^^ b.toNat:Nat):Int),[])|_=>af
  |_=>af
 |_=>af
section
variable {P:aq}{T:List (Nat×TI)}{o:aw}{d:an->D}{σ:List aV}
def bits_nat{a:Int}(h:bx .u64 a):(BitVec.ofInt IntKind.u64.bits a).toNat=a.toNat:=by
 rw[BitVec.toNat_ofInt];simp only[bx] at h;simp only[IntKind.bits];omega
def GV{op:BinOp}{k k':IntKind}{a b c:Int}{obs:List Prop}(t:ar)(f:Bo op k a k' b=aa (c,obs))(m:ag obs)(h:bx k a)(j:bx k' b)(w:az) :
  bx k c/\(Go.binOp op t (.int k a) (.int k' b)).run P w=.ok (.int k c) w/\(Go.binOp op t (.int k a) (.int k' b)).events P w #[]=#[]:=by
 unfold Bo at f;split at f
 .split at f
  .cases f;obtain⟨r,n⟩:0<=b/\b<=64:=m;have s:a.toNat*2 ^ b.toNat % 18446744073709551616<18446744073709551616:=jG _ (by decide)
   simp only[bx] at h;refine⟨by simp only[bx];omega,?_⟩
   have i:IntKind.wrap .u64 (a*2 ^ (min b.toNat IntKind.u64.bits))=((a.toNat*2 ^ b.toNat % 18446744073709551616:Nat):Int):=by
    have l:min b.toNat IntKind.u64.bits=b.toNat:=by rw[show IntKind.u64.bits=64 from rfl];omega
    have p:a=(a.toNat:Int):=by omega
    rw[l,p];simp only[IntKind.wrap,IntKind.bits,IntKind.signed,bA]
    grind
   simp only[Go.binOp,Op.shift,aY (show ¬b<0 by omega),i]
   exact⟨rfl,rfl⟩
  .cases f;obtain⟨r,n⟩:0<=b/\b<=64:=m;simp only[bx] at h;have q:a.toNat / 2 ^ b.toNat<=a.toNat:=Nat.div_le_self _ _;refine⟨by simp only[bx];grind,?_⟩
   have i:a.fdiv (2 ^ (min b.toNat IntKind.u64.bits))=((a.toNat / 2 ^ b.toNat:Nat):Int):=by
    have l:min b.toNat IntKind.u64.bits=b.toNat:=by rw[show IntKind.u64.bits=64 from rfl];omega
    grind
   simp only[Go.binOp,Op.shift,aY (show ¬b<0 by omega),i]
   exact⟨rfl,rfl⟩
  .split at f
   .cases f;have n:a.toNat &&& b.toNat<=a.toNat:=Nat.and_le_left;have g:bx .u64 ((a.toNat &&& b.toNat:Nat):Int):=by simp only[bx] at h ⊢;omega
    refine⟨g,?_⟩;have e:(BitVec.ofInt IntKind.u64.bits a &&& BitVec.ofInt IntKind.u64.bits b).toNat=a.toNat &&& b.toNat:=by rw[BitVec.toNat_and,bits_nat h,bits_nat j]
    simp only[Go.binOp,cW,fu,cd,Op.intBits,e,mq g];exact⟨rfl,rfl⟩
   .cases f
  .split at f
   .cases f;have g:bx .u64 ((a.toNat ^^^ b.toNat:Nat):Int):=by
     simp only[bx] at h j ⊢;have:a.toNat ^^^ b.toNat<2 ^ 64:=Nat.xor_lt_two_pow (by omega) (by omega)
     omega
    refine⟨g,?_⟩;have e:(BitVec.ofInt IntKind.u64.bits a ^^^ BitVec.ofInt IntKind.u64.bits b).toNat=a.toNat ^^^ b.toNat:=by rw[BitVec.toNat_xor,bits_nat h,bits_nat j]
    simp only[Go.binOp,cW,fu,cd,Op.intBits,e,mq g];exact⟨rfl,rfl⟩
   .cases f
  .cases f
 .cases f
theorem bH.bits{op:BinOp}{t ty:ar}{x y:an}{k k':IntKind}{a b c:Int}{obs:List Prop}(h:o.op=.binOp op t x y ty)(j:d x=.e (.one (.c (.int k a))))(p:d y=.e (.one (.c (.int k' b))))(q:Bo op k a k' b=aa (c,obs))(m:ag obs) :
  bH P o d σ (.e (.one (.c (.int k c)))) σ:=by
 refine .quiet λs ρ hh hr=>?_
 have h1:=hr x;have h2:=hr y;rw[j] at h1;rw[p] at h2
 replace h1:=fy h1
 replace h2:=fy h2
 generalize g:ρ x=vx at h1;generalize f:ρ y=vy at h2;cases h1 with|int ha =>
 cases h2 with|int hb =>
 obtain⟨n,i,l⟩:=GV (P:=P) t q m ha hb s.w;exact⟨.int k c,by simp only[ay,h,bY,g,f,gA,b9,i,cY],.int n,by simp[ay,h,g,f,gA,jK,i,l]⟩
end
section
open Go.Conc (G)
def ni(i:Nat)(ci:List C)(es:Nat->List C):Nat->List C:=λj=>if j=i then ci else es j
def oY(lo hi:Nat)(z:List C)(es:Nat->List C):Nat->List C:=λj=>if lo<=j/\j<hi then z else es j
section
variable {P:aq}{T:List (Nat×TI)}{o:aw}{B:an->D}{σ:List aV}{s:St}{l g:Nat}{E:ar}{k n:Nat}{es:Nat->List C}
def Kv(j:aJ σ s)(e:σ[l]?=aa (.buf E k n es)){k' i f:Nat}{v:ak}(r:gx σ s v (.bp l (.el g k' i f)))(z:g=n) :
  ∃ b c vs zs,s.β[l]?=aa ⟨.slice (aa ⟨b,0,af⟩) 0 c,[b]⟩/\v=.pointer (aa ⟨b,i*k'+f,af⟩)/\s.w.heap[b]?=aa (.cells (vs++zs).toArray E (0,0))/\(vs++zs).length=c*k/\n<=c/\c<=9223372036854775807/\Flat s.M k n es vs/\∀ o,s.M b o=af:=by
 obtain⟨F,⟨b,c,d,q⟩,_,m⟩:=r;obtain⟨L,h,a⟩:=(m _ _ _ _ e).2 z;rw[d] at a;rcases j.box l _ L e h with⟨_,rfl⟩|⟨G,c1,vs,zs,rfl,y,p,A,x,t,u⟩
 .cases a
 .cases a;exact⟨b,c,vs,zs,h,q,y,p,A,x,t,u⟩
def Kw{g:Nat->ak}:∀ {ds:List C}{m:Nat},(∀ j c,ds[j]?=aa c->Rd s.M (g (m+j)) c)->dW σ s ((bh ds.length).map λj=>g (m+j)) (ds.map A.c)
 |[],m,_=>trivial
 |d::ds,m,h=>by
  rw[fa,zl];refine⟨h 0 d rfl,?_⟩;have:=Kw (ds:=ds) (m:=m+1) (λj c a=>by have:=h (j+1) c (by grind);rwa [show m+1+j=m+(j+1) by omega])
  grind [Function.comp_def]
theorem bH.Xk(H:dg P T){t:ar}{x y:an}(h:o.op=.indexAddr t x y){i p:TI}{E:ar}(hi:bF T t=aa i)(L:i.desc=.slice E)(R:bF T E=aa p)
  {q m:Nat} {j:Int} {kk:IntKind} (M:B x=.e (.one (.bp l (.sl g p.size q m)))) (S:B y=.e (.one (.c (.int kk j)))) (U:0<=j) (h1:j<m):bH P o B σ (.e (.one (.bp l (.el g p.size (q+j.toNat) 0)))) σ:=by
 refine .quiet λs ρ hh hr=>?_
 have f:=hr x;rw[M] at f;have h2:=hr y;rw[S] at h2
 replace h2:=fy h2
 generalize G:ρ y=vy at h2;cases h2;have d:=f
 change gx σ s (ρ x) (.bp l _) at d
 obtain⟨lv,⟨a,a0,cap,O,N,K,Q,J,z,v⟩,A,F⟩:=d;obtain⟨b,rfl,rfl⟩:=v (by omega)
 have I:=(H t i hi).run_underlying (w:=s.w);rw[L] at I;obtain⟨r,rfl⟩:∃ r:Nat,j=r:=⟨j.toNat,by omega⟩
 have u:r<m:=by omega
 refine⟨.pointer (aa ⟨b,(q+r)*p.size,af⟩),?_,⟨lv,⟨b,O,z,by simp⟩,A,F⟩,?_⟩ <;>
 simp[ay,h,N,G,Instr.indexAt,asIntOf,I,(H E p R).run_sizeOf,dj,u,gR]
def bH.Q5(v:dg P T){t:ar}{x:an}{f:Nat}(h:o.op=.fieldAddr t x f){c i q off:Nat}{j:TI}(w:B x=.e (.one (.bp l (.el g c i q))))(r:jM T t f=aa (off,j)):bH P o B σ (.e (.one (.bp l (.el g c i (q+off))))) σ:=by
 refine .quiet λs ρ hh hr=>?_
 have h1:=hr x;rw[w] at h1;have a:=h1
 change gx σ s (ρ x) (.bp l _) at a
 obtain⟨lv,⟨b,y,m,u⟩,p,d⟩:=a;exact⟨.pointer (aa ⟨b,i*c+q+off,af⟩),by simp[ay,h,u,mF v r],⟨lv,⟨b,y,m,by grind⟩,p,d⟩,by simp[ay,h,u,n9 v r]⟩
theorem bH.Xl{x:an}(h:o.op=.nilCheck x){d i q:Nat}(m:B x=.e (.one (.bp l (.el g d i q)))):bH P o B σ (.e (.one (.bp l (.el g d i q)))) σ:=by
 refine .quiet λs ρ hh hr=>?_
 have h1:=hr x;rw[m] at h1;have c:=h1;have a:=h1
 change gx σ s (ρ x) (.bp l _) at a
 obtain⟨lv,⟨b,t,p,f⟩,r,j⟩:=a;exact⟨ρ x,by simp[ay,h,f],c,by simp[ay,h,f]⟩
theorem bH.Xm(G:dg P T){x:an}{d:Array ar}{t:ar}(h:o.op=.call { callee:=.builtin .len,args:=#[x],argTypes:=d })(A:d[0]?=aa t){i:TI}{E:ar}(hi:bF T t=aa i)(F:i.desc=.slice E)
  {j q m:Nat} (r:B x=.e (.one (.bp l (.sl g j q m)))):bH P o B σ (.e (.one (.c (.int .i64 m)))) σ:=by
 refine .quiet λs ρ hh hr=>?_
 have h1:=hr x;rw[r] at h1;have b:=h1
 change gx σ s (ρ x) (.bp l _) at b
 obtain⟨lv,⟨a,a0,cap,K,z,H,u,y,v,J⟩,I,p⟩:=b;have f:=(G t i hi).run_underlying (w:=s.w);rw[F] at f;refine⟨.int .i64 m,?_,Rd.int (by simp only[bx];omega),?_⟩ <;>
 simp[ay,h,resolve,invoke,builtin,Builtin.len_,z,f,goInt,A]
theorem bH.sliceB(J:dg P T){t:ar}{x:an}{lo hi:Option an}(h:o.op=.slice t x lo hi af){i f:TI}{E:ar}(F:bF T t=aa i)(L:i.desc=.slice E)(R:bF T E=aa f){q m:Nat}{d u:Option Int}
  (M:B x=.e (.one (.bp l (.sl g f.size q m)))) (hl:uD B lo=aa d) (K:uD B hi=aa u) (G:ag (iQ m d u)):bH P o B σ (.e (.one (.bp l (.sl g f.size (q+cv 0 d) (cv m u-cv 0 d))))) σ:=by
 refine .quiet λst ρ hh hr=>?_
 have h1:=hr x;rw[M] at h1;have p:=h1
 change gx σ st (ρ x) (.bp l _) at p
 obtain⟨lv,⟨a,a0,cap,N,I,j,Q,r,y,v⟩,z,A⟩:=p;obtain⟨hb,S,O⟩:=nU (P:=P) (isS:=ab) j (je hr hl) (je hr K) G st.w;have c:=(J t i F).run_underlying (w:=st.w);rw[L] at c;refine⟨.slice (if cap=cv 0 d then a else a.map (·.add (cv 0 d*f.size))) (cv m u-cv 0 d) (cap-cv 0 d),?_,⟨lv,⟨_,a0,_,N,rfl,by omega,by omega,r,y,λH=>?_⟩,z,A⟩,by simp[ay,h,I,Instr.sliceAt,c,Instr.slice,hb,pR (P:=P) (isS:=ab) j (je hr hl) (je hr K) G st.w]⟩
 .simp[ay,h,I,Instr.sliceAt,c,Instr.slice,hb,(J E f R).run_sizeOf]
 .obtain⟨b,rfl,rfl⟩:=v (by omega)
  refine⟨b,rfl,?_⟩;rw[aY (by omega)]
  simp[dj,gR]
def bH.BI(N:dg P T){t:ar}{x:an}(h:o.op=.load t x){i f:Nat}{F:TI}{e:E1}(Q:B x=.e (.one (.bp l (.el g k i f))))(z:g=n)(hl:σ[l]?=aa (.buf E k n es))(hi:bF T t=aa F)(K:m8 F ((hJ f (es i)).map A.c)=aa e)(y:i<n):bH P o B σ (.e e) σ:=by
 refine .nT λs ρ hh hr=>?_
 have h1:=hr x;rw[Q] at h1;obtain⟨b,W,vs,Z,R,I,d,O,S,U,L,Y⟩:=Kv hh hl h1 z;have V:=L.width i y
 let g:Nat->ak:=λj=>vs.getD (i*k+j) aj
 have z:∀ j c,(hJ f (es i))[j]?=aa c->vs[i*k+(f+j)]?=aa (g (f+j))/\Rd s.M (g (f+j)) c:=by
  intro j c hj;rw[nk,nI] at hj;obtain⟨v,v1,X⟩:=L.rd i y (f+j) c hj
  grind
 have H:=Kw (σ:=σ) (s:=s) (g:=g) (ds:=hJ f (es i)) (m:=f) (λj c hj=>(z j c hj).2)
 have a:∀ (j:Nat) (v:ak),((bh (hJ f (es i)).length).map λj=>g (f+j))[j]?=aa v->s.w.cell? ⟨b,i*k+f+j,af⟩=aa v:=by
  intro j v hj;simp only[nF] at hj
  by_cases r:j<(hJ f (es i)).length
  .simp[r] at hj;subst hj;have h2:=(z j _ (br r)).1;simp only[a9,d]
   grind
  grind
 obtain⟨v,p,G⟩:=pe (s:=s) (σ:=σ) (P:=P) (N t F hi) (b:=b) (off:=i*k+f) (e:=e) a H K;refine⟨v,by simp[ay,h,I,Instr.loadAt,Instr.sureAddr,p],G,λJ u=>?_⟩
 have q:J∈(loadVar t ⟨b,i*k+f,af⟩).events P s.w #[]:=by
  have e:ay ρ o=(do pure (.value (<-loadVar t ⟨b,i*k+f,af⟩))):=by simp[ay,h,I,Instr.loadAt,Instr.sureAddr]
  rw[e] at u;simpa[p] using u
 obtain⟨j,hj,rfl⟩:=kl (N t F hi) (n:=(hJ f (es i)).length) (λj hj=>⟨_,a j (g (f+j)) (by grind)⟩) (by have:=rL K;grind) J q
 exact rD (bU R) (by simp)
def Flat.put{M:Mem}{vs oC:List ak}{i f:Nat}{cc ci:List C}(h:Flat M k n es vs)(hi:i<n)(y:eX f cc (es i)=aa ci)(hl:oC.length=cc.length)(x:∀ (j:Nat)(c:C),cc[j]?=aa c->∃ v,oC[j]?=aa v/\Rd M v c) :
  i*k+f+oC.length<=vs.length/\Flat M k n (ni i ci es) (vs.take (i*k+f)++oC++vs.drop (i*k+f+oC.length)):=by
 obtain⟨h1,h2⟩:=pZ y;have A:=h.width i hi;have hb:i*k+k<=n*k:=by
  have:=et k (show i+1<=n by omega)
  grind
 have r:=h.len;have m:i*k+f+oC.length<=vs.length:=by omega
 have d:∀ p,(vs.take (i*k+f)++oC++vs.drop (i*k+f+oC.length))[p]?=if p<i*k+f then vs[p]? else if p<i*k+f+oC.length then oC[p-(i*k+f)]? else vs[p]?:=by
  intro p;have z:(vs.take (i*k+f)).length=i*k+f:=by grind
  by_cases c1:p<i*k+f
  .grind
  .rw[aY c1]
   by_cases c2:p<i*k+f+oC.length
   .grind
   .rw[aY c2,gk (by grind),nI]
    grind
 refine⟨m,⟨by grind,λb a=>?_,λb a j c hj=>?_⟩⟩
 .simp only[ni];split
  .grind
  .exact h.width b a
 .simp only[ni] at hj;rw[d];split at hj
  .rename_i e
   subst e;rw[h2] at hj
   by_cases c1:j<f
   .rw[j8,jD (by grind),gQ,bd c1] at hj
    rw[bd (by omega)]
    exact h.rd b hi j c hj
   .by_cases c2:j<f+cc.length
    .rw[j8,gk (by grind),jD (by grind)] at hj
     obtain⟨v,v1,w⟩:=x _ c hj;refine⟨v,?_,w⟩;rw[aY (by omega),bd (by omega),<-v1]
     congr 1
     grind
    .rw[gk (by grind),nI] at hj
     rw[aY (by omega),aY (by omega)]
     refine h.rd b hi j c ?_
     grind
  .rename_i e
   have t:j<k:=by have:=(cr.1 hj).1;have:=h.width b a;omega
   rcases cJ b i with q|u
   .have:(b+1)*k<=i*k:=et k q;rw[gR,Nat.one_mul] at this;rw[bd (by omega)]
    exact h.rd b a j c hj
   .have:(i+1)*k<=b*k:=et k (by omega)
    rw[gR,Nat.one_mul] at this;rw[aY (by omega),aY (by omega)]
    exact h.rd b a j c hj
def aJ.ef(hh:aJ σ s)(hl:σ[l]?=aa (.buf E k n es)){b:Nat}{vs zs vE:List ak}{d:Nat}(x:s.β[l]?=aa ⟨.slice (aa ⟨b,0,af⟩) 0 d,[b]⟩)(t:(vs++zs).length=d*k)(j:n<=d)(m:d<=9223372036854775807){es':Nat->List C}(e:s.w.heap[b]?=aa (.cells (vs++zs).toArray E (0,0)))(A:Flat s.M k n es' vE)(r:vE.length=vs.length)(y:∀ o,s.M b o=af) :
  aJ (σ.set l (.buf E k n es')) { s with w:=s.w.setRow b (vE++zs).toArray }/\Step σ s (σ.set l (.buf E k n es')) { s with w:=s.w.setRow b (vE++zs).toArray }:=by
 have f:(s.w.setRow b (vE++zs).toArray).heap[b]?=aa (.cells (vE++zs).toArray E (0,0)):=setRow_heap s.w b _ _ E _ e;have i:∀ a,a≠b->(s.w.setRow b (vE++zs).toArray).heap[a]?=s.w.heap[a]?:=λa c=>setRow_other s.w b a _ c
 have p:s.β.set l ⟨.slice (aa ⟨b,0,af⟩) 0 d,[b]⟩=s.β:=by
  apply iM
  grind
 obtain⟨F,G⟩:=hh.iP (M':=s.M) (w':=s.w.setRow b (vE++zs).toArray) (B':=.buf E k n es') (L':=⟨.slice (aa ⟨b,0,af⟩) 0 d,[b]⟩) hl x ⟨λ_=>rfl,bg _⟩ (by simp[World.setRow])
  (λa c hn=>i a (by grind)) (λ_ _ _ _=>rfl) (λ_ _ _ h=>h) (λa z v u=>by
   have q:a≠b:=by grind
   have:=hh.mem a z v u;rw[<-this];simp only[a9]
   grind) (λa c=>⟨.inl c,by grind⟩) rfl rfl rfl
  (.inr ⟨b,d,vE,zs,rfl,f,by grind,j,m,A,y⟩)
 grind
def rW{α:Type}:∀ {new l:List α},new.length=l.length->eX 0 new l=aa new
 |[],[],_=>rfl
 |[],_::_,h=>by grind
 |_::_,[],h=>by grind
 |n::ns,c::cs,h=>by simp only[eX,rW (new:=ns) (l:=cs) (by grind)]
def bH.JO(W:dg P T){t:ar}{x y:an}(h:o.op=.store t x y){i f:Nat}{u:TI}{new:List A}{cc ci:List C}(Z:B x=.e (.one (.bp l (.el g k i f))))(Y:g=n)(hl:σ[l]?=aa (.buf E k n es))(hi:bF T t=aa u)(hy:mT (B y)=aa new)(hn:new.length=u.size)(J:gn new=aa cc)(L:(es i).length=k->eX f cc (es i)=aa ci)(z:i<n) :
  bH P o B σ .any (σ.set l (.buf E k n (ni i ci es))):=by
 intro s ρ hh hr;have h1:=hr x;rw[Z] at h1;obtain⟨b,c0,vs,H,R,Q,a,K,N,O,V,S⟩:=Kv hh hl h1 Y;have d:=m6 hy (hr y);have p:=kn J d;have M:=dW.closed p;have F:(ρ y).cells.toList.length=cc.length:=by have:=p.length;grind
 replace L:=L (V.width i z)
 obtain⟨q1,q2⟩:=V.put z L F M;have G:(ρ y).cells.size=u.size:=by rw[<-hn,<-d.length,jg]
 obtain⟨t1,t2⟩:=hh.ef hl R K N O a q2 (by grind) S
 have I:=run_storeCells_at P b (i*k+f) E (ρ y).cells.toList 0 (vs++H).toArray s.w a (by grind) d.cell
 have m:((vs++H).toArray.toList.take (i*k+f+0)++(ρ y).cells.toList++(vs++H).toArray.toList.drop (i*k+f+0+(ρ y).cells.toList.length))=vs.take (i*k+f)++(ρ y).cells.toList++vs.drop (i*k+f+(ρ y).cells.toList.length)++H:=by
  grind
 rw[m] at I;refine⟨.skip,_,?_,rfl,t1,t2,?_⟩
 .simp[ay,h,Q,Instr.storeAt,Instr.sureAddr,storeVar,(W t u hi).run_sizeOf,G,I]
 .intro U c;have e:ay ρ o=(do storeVar t ⟨b,i*k+f,af⟩ (ρ y);pure .skip):=by simp[ay,h,Q,Instr.storeAt,Instr.sureAddr]
  rw[e] at c;have q:U∈(storeCells ⟨b,i*k+f,af⟩ (ρ y).cells.toList).events P s.w #[]:=by
   simp only[storeVar,aO,(W t u hi).run_sizeOf,G,aU,events_sizeOf,cW,fu,cd,bY,b9,Sem.events_pure] at c;generalize (storeCells ⟨b,i*k+f,af⟩ (ρ y).cells.toList).run P s.w=r at c;cases r with
   |ok v w'=>simpa using c
   |halt x w'=>simpa using c
  rcases eE (ρ y).cells.toList 0 (vs++H).toArray s.w #[] a (by grind) d.cell U q with X|⟨j,_,_,rfl⟩
  .grind
  .exact mn (bU R) (by simp) (S _)
end
section
variable {σ:List aV}
def aJ.zt{s:St}(hh:aJ σ s){b:Nat}{vs:List ak}(i:∀ o,s.M b o=af)(h:∀ o v,vs[o]?=aa v->s.w.cell? ⟨b,o,af⟩=aa v) :
  aJ (σ.map λ_=>.dead) { s with M:=λa o=>if a=b then vs[o]? else s.M a o }/\∀ a o v,s.M a o=aa v->(if a=b then vs[o]? else s.M a o)=aa v:=by
 have c:=hh.lE;refine⟨⟨λa o v f=>?_,c.len,λl B L g j=>?_,c.gg,c.lt,c.own⟩,λa o v f=>?_⟩
 .by_cases e:a=b
  .grind
  .simp only[e,cd] at f;exact c.mem a o v f
 .have:=bU g;simp at this;rw[<-this.2];trivial
 grind
def eZ.vo{s:St}{M':Mem}{b:Nat}{es:Array Event}(h:eZ { s with M:=M' } es){L:Loc}(l:L∈s.β)(hb:b∈L.bs)(k:∀ c o v,s.M c o=aa v->M' c o=aa v)(g:∀ c o v,M' c o=aa v->c=b∨s.M c o=aa v):eZ s es:=by
 intro e i;have h1:=h e i;unfold oE at h1 ⊢;split at h1
 .obtain⟨a1,a2,a3⟩:=h1;refine⟨a1,a2,?_⟩;rcases a3 with a3|⟨a3,a4⟩|⟨a3,v,a4⟩
  .grind
  .refine .inr (.inl ⟨a3,λf=>?_⟩)
   have:=a4 f
   rename_i a _
   cases j:s.M a.block a.off with
   |none=>rfl
   |some v=>grind
  grind
 all_goals exact h1
end
def IZ(k:Nat)(f:Nat->Nat->ak):Nat->List C:=λi=>(bh k).map λj=>.val (f i j)
theorem pO{k:Nat}{f:Nat->Nat->ak}{i j:Nat}{c:C}(h:(IZ k f i)[j]?=aa c):j<k/\c=.val (f i j):=by
 have a:j<k:=by
  have:=(cr.1 h).1;simpa[IZ] using this
 simp[IZ,a] at h
 grind
def DD{k:Nat}{f:Nat->Nat->ak}{i j:Nat}(h:j<k):(IZ k f i)[j]?=aa (.val (f i j)):=by simp[IZ,h]
def Rd.exact{M:Mem}{v:ak}{t:Bool}{k n:Nat}{es:Nat->List C}(h:Rd M v (.sl t k n es)) :
  ∃ f:Nat->Nat->ak,Rd M v (.sl t k n (IZ k f))/\(∀ i,i<n->(es i).length=k)/\∀ i,i<n->∀ j c,(es i)[j]?=aa c->Rd M (f i j) c:=by
 cases h with
 |sl b off f a hb ht hk ha hm hr =>
  have e:∀ i,i<n->∀ j,j<k->∃ c,(es i)[j]?=aa c:=λi hi j hj=>⟨_,br (by grind)⟩
  refine⟨f,.sl b off f a hb ht (λi _=>by simp[IZ]) ha (λi hi j c hj=>?_) (λi hi j c hj=>?_),hk,hr⟩
  .grind [pO]
  .obtain⟨h1,rfl⟩:=pO hj;obtain⟨g,h2⟩:=e i hi j h1;exact .val (hr i hi j g h2).cell
def Ag{σ:List aV}{s:St}{l:Nat}{E:ar}{k n:Nat}{es:Nat->List C}{L:Loc}{a c:Option Addr}{cap:Nat}(e:σ[l]?=aa (.buf E k n es))(j:s.β[l]?=aa L)(i:L.v=.slice c 0 cap)(g:n<=cap)(f:cap<=9223372036854775807)
  (p:0<cap->∃ b,c=aa ⟨b,0,af⟩/\a=aa ⟨b,0,af⟩):gx σ s (.slice a n cap) (.bp l (.sl n k 0 n)) :=
 ⟨L.v,⟨a,c,cap,cap,rfl,g,by omega,f,i,λh=>by grind⟩,(cr.1 e).1,λm k' n' es' he=>by
  rw[e] at he;cases he;exact⟨bg _,λ_=>⟨L,j,rfl⟩⟩⟩
def rv{P:aq}{o:aw}{σ:List aV}{x y:an}{E:ar}{g:TI}(h:mj P o x y E g){l n q:Nat}{tx:Bool}{es es':Nat->List C}{s:St}{ρ:an->ak}(r:aJ σ s)
  (h1:gx σ s (ρ x) (.bp l (.sl n g.size 0 n))) (hl:σ[l]?=aa (.buf E g.size n es)) (X:Rd s.M (ρ y) (.sl tx g.size q es')) (K:(n+q)*g.bytes<=140737488355328) :
  ∃ nx s',(ay ρ o).run P s.w=.ok nx s'.w/\Rq (σ.set l (.buf E g.size (n+q) (cR n es es'))) s' nx (.e (.one (.bp l (.sl (n+q) g.size 0 (n+q)))))/\aJ (σ.set l (.buf E g.size (n+q) (cR n es es'))) s'/\Step σ s (σ.set l (.buf E g.size (n+q) (cR n es es'))) s'/\eZ s ((ay ρ o).events P s.w #[]):=by
 obtain⟨t,t2,i,i2,ho,hi,hd,z,A⟩:=h.op;have G:l<σ.length:=(cr.1 hl).1;obtain⟨lv,⟨a,a0,cap,u,hv,N,Ta,O,GR,WG⟩,_,VZ⟩:=h1;obtain⟨L,hL,PD⟩:=(VZ _ _ _ _ hl).2 rfl;rw[GR] at PD;have PE:u=cap:=by omega
 subst PE;have V:0<u->∃ b,a0=aa ⟨b,0,af⟩/\a=aa ⟨b,0,af⟩:=λh=>by grind
 have R:l<s.β.length:=(cr.1 hL).1;have Y:=bU hL;have U:=r.box l _ L hl hL;rw[c6 ho,hv];have row:0<u->∃ b vs zs,a=aa ⟨b,0,af⟩/\L=⟨.slice (aa ⟨b,0,af⟩) 0 u,[b]⟩/\s.w.heap[b]?=aa (.cells (vs++zs).toArray E (0,0))/\(vs++zs).length=u*g.size/\Flat s.M g.size n es vs/\∀ o,s.M b o=af:=by
  intro I;obtain⟨b,e1,e2⟩:=V I;rcases U with⟨_,rfl⟩|⟨p,c1,vs,zs,rfl,h3,h4,h5,h6,h7,h8⟩
  .grind
  grind
 by_cases h0:q=0
 .subst h0;have m:=jc (P:=P) (ty:=o.type) hi hd z A h.elem r (a:=a) N X;simp only[iO];have ha:aP n es (cR n es es'):=λi hi=>by simp[cR,hi]
  have V3:eP (σ.set l (.buf E g.size n (cR n es es'))) ⟨s.β.set l L,s.M,s.w,s.own⟩ (.buf E g.size n (cR n es es')) L:=by
   rcases U with h3|⟨p,c1,vs,zs,X,h3,h4,h5,h6,h7,h8⟩
   .exact .inl h3
   .exact .inr ⟨p,c1,vs,zs,X,h3,h4,h5,h6,h7.DC ha,h8⟩
  have FV:=r.iP (M':=s.M) (w':=s.w) (B':=.buf E g.size n (cR n es es')) (L':=L) hl hL ⟨λ_=>rfl,bg _⟩ (bg _) (λ_ _ _=>rfl) (λ_ _ _ _=>rfl) (λ_ _ _ h=>h) r.mem
   (λb K=>⟨.inl K,r.lt L Y b K⟩) rfl rfl rfl V3
  refine⟨.value (.slice a n u),_,?_,?_,FV.1,FV.2,ey (jI hi hd z A h.elem r N X)⟩
  .simp[m]
  .exact Ag (E:=E) (by rw[fI G]) (by grind) PD N O V
 .by_cases k:n+q<=u
  .obtain⟨b,vs,zs,rfl,rfl,hw,H,hF,hM⟩:=row (by omega)
   obtain⟨f,M5,m⟩:=kh (P:=P) (ty:=o.type) hi hd z A h.elem r hw H X k;have PF:vs.length=n*g.size:=hF.len;have Tz:f.length=q*g.size:=M5.len;have ZI:n*g.size+q*g.size<=u*g.size:=by rw[<-gR];exact et _ k
   have UG:((vs++zs).take (n*g.size)++f++(vs++zs).drop (n*g.size+f.length))=(vs++f)++zs.drop f.length:=by
    rw[<-PF];simp[List.drop_append]
   rw[UG] at m;have Ns:=setRow_heap s.w b _ ((vs++f)++zs.drop f.length).toArray E _ hw;have DO:∀ p,p≠b->(s.w.setRow b ((vs++f)++zs.drop f.length).toArray).heap[p]?=s.w.heap[p]?:=λp Q=>setRow_other s.w b p _ Q
   obtain⟨t1,TD⟩:=r.iP (M':=s.M) (w':=s.w.setRow b ((vs++f)++zs.drop f.length).toArray) (B':=.buf E g.size (n+q) (cR n es es')) (L':=⟨.slice (aa ⟨b,0,af⟩) 0 u,[b]⟩) hl hL ⟨λ_=>rfl,by omega⟩ (by simp[World.setRow])
    (λp Q hn=>DO p (by grind)) (λ_ _ _ _=>rfl) (λ_ _ _ h=>h) (λp o' v hmv=>by
     have DX:p≠b:=by grind
     have:=r.mem p o' v hmv;rw[<-this];simp only[a9]
     grind) (λp Q=>⟨.inl Q,by grind⟩) rfl rfl rfl
    (.inr ⟨b,u,vs++f,zs.drop f.length,rfl,Ns,by grind,k,O,hF.append M5,hM⟩)
   refine⟨.value (.slice (aa ⟨b,0,af⟩) (n+q) u),_,?_,?_,t1,TD,ey (lQ hi hd z A h.elem r hw H X k Y (by simp) (λo _=>hM o))⟩
   .simp[m]
   .exact Ag (E:=E) (by rw[fI G]) (by simp only;rw[fI R]) rfl k O λ_=>⟨b,rfl,rfl⟩
  .have hg:u<n+q:=by omega
   obtain⟨f2,h2x,XG,sM⟩:=X.exact;have gd:∃ (M':Mem) (f0:Nat->Nat->ak),aJ (σ.map λ_=>.dead) { s with M:=M' }/\(∀ p o v,s.M p o=aa v->M' p o=aa v)/\Rd M' (.slice a n u) (.sl ae g.size n (IZ g.size f0))/\(∀ {es},eZ { s with M:=M' } es->eZ s es) /\
     (∀ i,i<n->(es i).length=g.size)/\∀ i,i<n->∀ j c,(es i)[j]?=aa c->Rd s.M (f0 i j) c:=by
    by_cases I:0<u
    .obtain⟨b,vs,zs,rfl,rfl,hw,H,hF,hM⟩:=row I;obtain⟨c1,c2⟩:=r.zt (b:=b) (vs:=vs) hM (λo v ho=>by
      simp only[a9,hw]
      grind)
     have S:∀ i,i<n->∀ j c,(es i)[j]?=aa c->vs[i*g.size+j]?=aa (vs.getD (i*g.size+j) aj)/\Rd s.M (vs.getD (i*g.size+j) aj) c:=by
      intro i hi j c F;obtain⟨v,v1,v2⟩:=hF.rd i hi j c F
      grind
     have Td:∀ i,i<n->∀ j,j<g.size->∃ c,(es i)[j]?=aa c:=λi hi j F=>⟨_,br (by rw[hF.width i hi];exact F)⟩
     refine⟨_,λi j=>vs.getD (i*g.size+j) aj,c1,c2,.sl b 0 (λi j=>vs.getD (i*g.size+j) aj) N O (by simp) (λi _=>by simp[IZ]) (λ_=>rfl) (λi hi j c F=>?_) (λi hi j c F=>?_),λhe=>?_,hF.width,λi hi j c F=>(S i hi j c F).2⟩
     .obtain⟨e1,_⟩:=pO F
      grind
     .obtain⟨e1,rfl⟩:=pO F;obtain⟨c',e2⟩:=Td i hi j e1;exact .val (S i hi j c' e2).2.cell
     .exact he.vo (b:=b) Y (by simp) c2 λp o v hv=>by
       grind
    .have e1:u=0:=by omega
     have e2:n=0:=by omega
     subst e1 e2;have B:=r.lE;exact⟨s.M,λ_ _=>aj,⟨B.mem,B.len,B.box,B.gg,B.lt,B.own⟩,λ_ _ _ h=>h,Rd.jJ,λh=>h,λi hi=>by omega,λi hi=>by omega⟩
   obtain⟨M',f0,c1,c2,hR,V7,hw0,hr0⟩:=gd;have W0:Rd ({ s with M:=M' }:St).M (ρ y) (.sl tx g.size q (IZ g.size f2)):=h2x.mono c2;obtain⟨vE,zs,J,Z,V4,V5,hlen,m⟩:=im (P:=P) (s:={ s with M:=M' }) (ty:=o.type) hi hd z A h.elem c1 hR W0 hg K h.bytes;have Jd:=iV (P:=P) (s:={ s with M:=M' }) (ty:=o.type) hi hd z A h.elem c1 hR W0 hg K h.bytes;have hFs:Flat s.M g.size (n+q) (cR n es es') vE:=by
    refine⟨Z.len,λi hi=>?_,λi hi j c F=>?_⟩
    .by_cases e:i<n
     .simp only[cR,e,cu];grind
     .simp only[cR,e,cd];grind
    .by_cases e:i<n
     .simp only[cR,e,cu] at F;have W:j<g.size:=by grind
      obtain⟨v,v1,v2⟩:=Z.rd i hi j (.val (f0 i j)) (by simp only[cR,e,cu];exact DD W)
      grind [Rd.fZ]
     .simp only[cR,e,cd] at F;have W:j<g.size:=by grind
      obtain⟨v,v1,v2⟩:=Z.rd i hi j (.val (f2 (i-n) j)) (by simp only[cR,e,cd];exact DD W)
      grind [Rd.fZ]
   have nM:∀ o,s.M s.w.heap.size o=af:=λo=>by
    cases hm:s.M s.w.heap.size o with
    |none=>rfl
    |some v=>have:=r.block hm;omega
   obtain⟨t1,TD⟩:=r.iP (M':=s.M) (w':=s.w.drew.alloc (.cells (vE++zs).toArray E)) (B':=.buf E g.size (n+q) (cR n es es')) (L':=⟨.slice (aa ⟨s.w.heap.size,0,af⟩) 0 J,[s.w.heap.size]⟩) hl hL
    ⟨λe=>absurd e (by omega),by omega⟩ (by simp) (λb K _=>cK s.w.drew _ K) (λ_ _ _ _=>rfl) (λ_ _ _ h=>h) (λb o v hm=>by
     have tM:=r.block hm;rw[<-r.mem b o v hm];simp only[a9];rw[cK s.w.drew _ tM];rfl) (λb K=>by
     simp at K;subst K;exact⟨.inr (bg _),by simp⟩) rfl rfl rfl (.inr ⟨s.w.heap.size,J,vE,zs,rfl,dx s.w.drew _,hlen,V4,V5,hFs,nM⟩)
   refine⟨.value (.slice (aa ⟨s.w.heap.size,0,af⟩) (n+q) J),_,?_,?_,t1,TD,ey (V7 Jd)⟩
   .simp only at m;simp[m]
   .exact Ag (E:=E) (by rw[fI G]) (by simp only;rw[fI R]) rfl V4 V5 λ_=>⟨_,rfl,rfl⟩
def bH.NK{P:aq}{o:aw}{d:an->D}{σ:List aV}{x y:an}{E:ar}{a:TI}(h:mj P o x y E a){l n b:Nat}{tx:Bool}{es es':Nat->List C}
  (f:d x=.e (.one (.bp l (.sl n a.size 0 n)))) (hl:σ[l]?=aa (.buf E a.size n es)) (c:∀ s v,dc σ s v (d y)->Rd s.M v (.sl tx a.size b es')) (hb:(n+b)*a.bytes<=140737488355328) :
  bH P o d σ (.e (.one (.bp l (.sl (n+b) a.size 0 (n+b))))) (σ.set l (.buf E a.size (n+b) (cR n es es'))) :=
 λs ρ hh hr=>rv h hh (by have:=hr x;rw[f] at this;exact this) hl (c s _ (hr y)) hb
section
variable {P:aq}{T:List (Nat×TI)}{o:aw}{d:an->D}{σ:List aV}
def bH.Xn(m:dg P T){x:an}{b:Array ar}{t:ar}(h:o.op=.call { callee:=.builtin .len,args:=#[x],argTypes:=b })(k:b[0]?=aa t){i:TI}{E:ar}(hi:bF T t=aa i)(l:i.desc=.slice E)
  {a:Option Addr} {n cap:Nat} (g:d x=.e (.one (.c (.val (.slice a n cap))))) (hn:n<=9223372036854775807):bH P o d σ (.e (.one (.c (.int .i64 n)))) σ:=by
 refine .quiet λs ρ hh hr=>?_
 have h1:=hr x;rw[g] at h1;have j:=Rd.fZ (fy h1);have f:=(m t i hi).run_underlying (w:=s.w);rw[l] at f;refine⟨.int .i64 n,?_,Rd.int (by simp only[bx];omega),?_⟩ <;>
 simp[ay,h,resolve,invoke,builtin,Builtin.len_,j,f,goInt,k]
theorem bH.BH(m:dg P T){t:ar}{x y:an}(h:o.op=.indexAddr t x y){i g:TI}{E:ar}(hi:bF T t=aa i)(u:i.desc=.slice E)(v:bF T E=aa g)
  {b off n cap:Nat} {j:Int} {kk:IntKind} (q:d x=.e (.one (.c (.val (.slice (aa ⟨b,off,af⟩) n cap))))) (z:d y=.e (.one (.c (.int kk j)))) (A:0<=j) (h1:j<n):bH P o d σ (.e (.one (.c (.val (.pointer (aa ⟨b,off+j.toNat*g.size,af⟩)))))) σ:=by
 refine .quiet λs ρ hh hr=>?_
 have a:=hr x;rw[q] at a;have r:=Rd.fZ (fy a);have h2:=hr y;rw[z] at h2
 replace h2:=fy h2
 generalize l:ρ y=vy at h2;cases h2;have p:=(m t i hi).run_underlying (w:=s.w);rw[u] at p;obtain⟨f,rfl⟩:∃ f:Nat,j=f:=⟨j.toNat,by omega⟩
 have k:f<n:=by omega
 refine⟨.pointer (aa ⟨b,off+f*g.size,af⟩),?_,Rd.val rfl,?_⟩ <;>
 simp[ay,h,r,l,Instr.indexAt,asIntOf,p,(m E g v).run_sizeOf,dj,k]
def bH.Q6(a:dg P T){t:ar}{x:an}{f:Nat}(h:o.op=.fieldAddr t x f){b off k:Nat}{j:TI}(l:d x=.e (.one (.c (.val (.pointer (aa ⟨b,off,af⟩))))))(i:jM T t f=aa (k,j)):bH P o d σ (.e (.one (.c (.val (.pointer (aa ⟨b,off+k,af⟩)))))) σ:=by
 refine .quiet λs ρ hh hr=>?_
 have h1:=hr x;rw[l] at h1;have g:=Rd.fZ (fy h1);exact⟨.pointer (aa ⟨b,off+k,af⟩),by simp[ay,h,g,mF a i],Rd.val rfl,by simp[ay,h,g,n9 a i]⟩
def bH.slice3(L:dg P T){t:ar}{x y z:an}(h:o.op=.slice t x af (aa y) (aa z)){i I:TI}{E:ar}(H:bF T t=aa i)(N:i.desc=.slice E)(S:bF T E=aa I){tt:Bool}{k n:Nat}{es:Nat->List C}{r u:IntKind}{j m:Int}
  (O:∀ s v,dc σ s v (d x)->Rd s.M v (.sl tt k n es)) (X:d y=.e (.one (.c (.int r j)))) (V:d z=.e (.one (.c (.int u m)))) (F:0<=j) (h1:j<=m) (h2:m<=n):bH P o d σ (.e (.one (.c (.sl ae k j.toNat es)))) σ:=by
 refine .quiet λst ρ hh hr=>?_
 have q:=O st _ (hr x);have l:=hr y;rw[X] at l
 replace l:=fy l
 generalize B:ρ y=vy at l;cases l;have g:=hr z;rw[V] at g
 replace g:=fy g
 generalize A:ρ z=vz at g;cases g;obtain⟨a,cap,vs,G,K,R,Z,hF,Y⟩:=q.flat;rw[G] at q;have p:=(L t i H).run_underlying (w:=st.w);rw[N] at p;have em:((m.toNat:Nat):Int)=m:=rf (by omega)
 have hb:(Instr.sliceBounds ab n cap af (aa (.int r j)) (aa (.int u m))).run P st.w=.ok (0,j.toNat,m.toNat) st.w:=by
  simp[Instr.sliceBounds,run_sliceBound (P:=P) st.w u m cap _ (by omega) (by omega),run_sliceBound (P:=P) st.w r j m.toNat _ F (by omega)]
 have U:(Instr.sliceBounds ab n cap af (aa (.int r j)) (aa (.int u m))).events P st.w #[]=#[]:=by
  simp[Instr.sliceBounds,run_sliceBound (P:=P) st.w u m cap _ (by omega) (by omega),run_sliceBound (P:=P) st.w r j m.toNat _ F (by omega),eF (P:=P) st.w u m cap _ (by omega) (by omega),eF (P:=P) st.w r j m.toNat _ F (by omega)]
 refine⟨.slice a j.toNat m.toNat,?_,?_,by simp[ay,h,G,B,A,Instr.sliceAt,p,Instr.slice,hb,U]⟩
 .simp[ay,h,G,B,A,Instr.sliceAt,p,Instr.slice,hb,(L E I S).run_sizeOf];intro _;rcases a with _|⟨b,off,sp⟩ <;> simp[Addr.add]
 .cases q with
  |sl b off f _ _ _ W Q hm' PK =>
   exact Rd.sl b off f (by omega) (by omega) (by simp) (λi hi=>W i (by omega)) (λJ=>Q (by omega)) (λi hi j c hj=>hm' i (by omega) j c hj) (λi hi j c hj=>PK i (by omega) j c hj)
end
def Flat.Tx{M:Mem}{k n q m:Nat}{es Nl:Nat->List C}{vs oC:List ak}(h:Flat M k n es vs)(b:Flat M k m Nl oC)(g:q+m<=n) :
  Flat M k n (λi=>if q<=i/\i<q+m then Nl (i-q) else es i) (vs.take (q*k)++oC++vs.drop (q*k+oC.length)):=by
 have hl:=h.len;have l:=b.len;have hb:q*k+m*k<=n*k:=by rw[<-gR];exact et k g
 have r:(vs.take (q*k)).length=q*k:=by grind
 have a:∀ p,(vs.take (q*k)++oC++vs.drop (q*k+oC.length))[p]?=if p<q*k then vs[p]? else if p<q*k+m*k then oC[p-q*k]? else vs[p]?:=by
  intro p
  by_cases c1:p<q*k
  .grind
  .rw[aY c1]
   by_cases c2:p<q*k+m*k
   .grind
   .rw[aY c2,gk (by grind),nI]
    grind
 refine⟨by grind,λi hi=>?_,λi hi j c hj=>?_⟩
 .by_cases e:q<=i/\i<q+m
  .rw[bd e];exact b.width _ (by omega)
  .rw[aY e];exact h.width i hi
 .rw[a]
  by_cases e:q<=i/\i<q+m
  .rw[bd e] at hj;have f:j<k:=by have:=(cr.1 hj).1;rw[b.width _ (by omega)] at this;exact this
   have e1:q*k<=i*k:=et k e.1;have e2:i*k+k<=q*k+m*k:=by rw[<-gR,<-k9];exact et k e.2
   rw[aY (by omega),bd (by omega)]
   obtain⟨v,v1,s⟩:=b.rd (i-q) (by omega) j c hj
   grind [Nat.sub_mul]
  .rw[aY e] at hj;have f:j<k:=by have:=(cr.1 hj).1;rw[h.width i hi] at this;exact this
   have:i*k+j<q*k∨q*k+m*k<=i*k+j:=by
    by_cases c1:i<q
    .left
     have:i*k+k<=q*k:=by rw[<-k9];exact et k c1
     omega
    .right
     have:(q+m)*k<=i*k:=et k (by omega)
     grind
   rcases this with c1|c1
   .rw[bd c1];exact h.rd i hi j _ hj
   .rw[aY (by omega),aY (by omega)];exact h.rd i hi j _ hj
def uY{s:St}{E k k':Nat}{es VY:Nat->List C}{v:ak}{σ':List aV}{β:List Loc}{l:Nat}(g:Rd s.M v (.sl ab k' 0 VY))(e:σ'[l]?=aa (.buf E k 0 es))(c:β[l]?=aa ⟨.slice af 0 0,[]⟩):gx σ' { s with β:=β } v (.bp l (.sl 0 k 0 0)):=by
 obtain⟨a,cap,vs,f,_,_,b,_,_⟩:=g.flat;have:=b rfl;subst this;refine⟨.slice af 0 0,⟨a,af,0,0,f,by omega,rfl,by omega,rfl,λh=>absurd h (by omega)⟩,(cr.1 e).1,λE2 k2 n2 Nl h=>?_⟩
 rw[e] at h;cases h;exact⟨bg _,λ_=>⟨_,c,rfl⟩⟩
def eZ.Ty{s:St}{β:List Loc}{v:ak}{es:Array Event}(h:eZ { s with β:=β++[⟨v,[]⟩] } es)(a:s.β=β):eZ s es:=by
 intro e c;have h1:=h e c;have key:∀ b,(∃ L∈β++[(⟨v,[]⟩:Loc)],b∈L.bs)->∃ L∈s.β,b∈L.bs:=λb ⟨L,f,hb⟩=>by
  grind
 unfold oE at h1 ⊢
 grind
def bH.GP{P:aq}{o:aw}{d:an->D}{σ:List aV}{x y:an}{E:ar}{a:TI}(h:mj P o x y E a){k m:Nat}{tx:Bool}{es es':Nat->List C}
  (n:d x=.e (.one (.c (.sl ab k 0 es)))) (t:∀ s v,dc σ s v (d y)->Rd s.M v (.sl tx a.size m es')) (hb:(0+m)*a.bytes<=140737488355328) :
  bH P o d σ (.e (.one (.bp σ.length (.sl (0+m) a.size 0 (0+m))))) (σ++[.buf E a.size (0+m) (cR 0 es es')]):=by
 intro s ρ hh hr;have h1:=hr x;rw[n] at h1;have h2:=t s _ (hr y);obtain⟨q,g2⟩:=hh.gT (B:=.buf E a.size 0 es) (L:=⟨.slice af 0 0,[]⟩) (.refl _ _) rfl hh (.inl ⟨rfl,rfl⟩) (by simp)
 have f:gx (σ++[.buf E a.size 0 es]) { s with β:=s.β++[⟨.slice af 0 0,[]⟩] } (ρ x) (.bp σ.length (.sl 0 a.size 0 0)):=uY (E:=E) (es:=es) (fy h1) (by simp) (by simp[<-hh.len])
 obtain⟨u,s',r,g,i,j,p⟩:=rv (P:=P) (σ:=σ++[.buf E a.size 0 es]) (s:={ s with β:=s.β++[⟨.slice af 0 0,[]⟩] }) (l:=σ.length) (es:=es) h q f (by simp) h2 hb
 have b:(σ++[aV.buf E a.size 0 es]).set σ.length (.buf E a.size (0+m) (cR 0 es es'))=σ++[.buf E a.size (0+m) (cR 0 es es')]:=by simp
 rw[b] at g i j;exact⟨u,s',r,g,i,g2.trans j,p.Ty rfl⟩
def GQ(i j m:Nat)(es:Nat->List C):Nat->List C:=λq=>if i<=q/\q<i+m then es (j+(q-i)) else es q
def bH.Jc{P:aq}{o:aw}{d:an->D}{σ:List aV}{x y:an}{E:ar}{f:TI}(h:mj P o x y E f){l n i j m:Nat}{es:Nat->List C}
  (hx:d x=.e (.one (.bp l (.sl n f.size 0 i)))) (hy:d y=.e (.one (.bp l (.sl n f.size j m)))) (hl:σ[l]?=aa (.buf E f.size n es)) (ZG:i+m<=n) (hjm:j+m<=n) :
  bH P o d σ (.e (.one (.bp l (.sl n f.size 0 (i+m))))) (σ.set l (.buf E f.size n (GQ i j m es))):=by
 intro s ρ hh hr;obtain⟨t,t2,ti,ti2,ho,hi,hd,W,X⟩:=h.op;have h1:=hr x;rw[hx] at h1
 change gx σ s (ρ x) (.bp l _) at h1
 have h2:=hr y;rw[hy] at h2
 change gx σ s (ρ y) (.bp l _) at h2
 obtain⟨lv,⟨a,a0,cap,H,hv,U,Ta,WE,GR,WG⟩,_,VZ⟩:=h1;obtain⟨L,hL,PD⟩:=(VZ _ _ _ _ hl).2 rfl;rw[GR] at PD;obtain⟨lv',⟨a',a0',k,c0',V0,WH,aa2,aa3,WJ,aa4⟩,_,WK⟩:=h2;obtain⟨L',gw,K⟩:=(WK _ _ _ _ hl).2 rfl;rw[hL] at gw;cases gw;rw[WJ,PD] at K;cases K;have hLm:=bU hL;have hu:=hi.run_underlying (w:=s.w);have R:=W.run_underlying (w:=s.w);rw[hd] at hu;rw[X] at R;rw[c6 ho,hv,V0]
 by_cases WL:n=0
 .have e1:i=0:=by omega
  have e2:m=0:=by omega
  subst WL e1 e2;have QD:σ.set l (.buf E f.size 0 (GQ 0 j 0 es))=σ:=by
   have:GQ 0 j 0 es=es:=by funext q;simp only[GQ];grind
   rw[this]
   apply iM
   grind
  have hz:Rd s.M (.slice a' 0 k) (.sl ae f.size 0 λ_=>[]):=.sl 0 0 (λ_ _=>aj) (by omega) (by omega) (by simp) (λi hi=>by omega) (λh=>by omega) (λi hi=>by omega) (λi hi=>by omega)
  have N:=jc (P:=P) (ty:=o.type) hi hd W X h.elem hh (a:=a) U hz;rw[QD];refine⟨.value (.slice a 0 cap),s,?_,?_,hh,.refl _ _,ey (jI hi hd W X h.elem hh U hz)⟩
  .simp[N]
  .exact⟨lv,⟨a,a0,cap,H,rfl,U,Ta,WE,GR,WG⟩,(cr.1 hl).1,VZ⟩
 rcases hh.box l _ L hl hL with⟨e,_⟩|⟨b,c1,vs,Z,rfl,r,hz1,hz2,hz3,Y,hM⟩
 .grind
 cases PD;have S:0<cap:=by omega
 obtain⟨b1,e1,rfl⟩:=WG S;cases e1;have PE:H=cap:=by omega
 subst PE;rw[show b=b from rfl]
 have PF:vs.length=n*f.size:=Y.len;have u:i+m<=H:=by omega
 have hik:i*f.size+m*f.size<=n*f.size:=by rw[<-gR];exact et _ ZG
 have hjk:j*f.size+m*f.size<=n*f.size:=by rw[<-gR];exact et _ hjm
 obtain⟨c1,c2⟩:=hh.zt (b:=b) (vs:=vs) hM (λq v J=>by
  simp only[a9,r]
  grind)
 let g:=(vs.drop (j*f.size)).take (m*f.size)
 have Tz:g.length=m*f.size:=by grind
 have hng:∀ p,p<m*f.size->g[p]?=vs[j*f.size+p]?:=λp G=>by grind
 have M5:Flat s.M f.size m (λq=>es (j+q)) g:=by
  refine⟨Tz,λq J=>Y.width _ (by omega),λq J p c G=>?_⟩
  have hpk:p<f.size:=by have:=(cr.1 G).1;rw[Y.width _ (by omega)] at this;exact this
  obtain⟨v,v1,v2⟩:=Y.rd (j+q) (by omega) p c G
  refine⟨v,?_,v2⟩;have hq2:q*f.size+f.size<=m*f.size:=by rw[<-k9];exact et _ J
  grind
 have z:∀ v∈g,v.oneCell'=ab:=M5.cell;have V1:Rd (λA q=>if A=b then vs[q]? else s.M A q) (.slice a' m k) (.sl ae f.size m (IZ f.size λq p=>vs.getD ((j+q)*f.size+p) aj)):=by
  refine .sl b (j*f.size) (λq p=>vs.getD ((j+q)*f.size+p) aj) WH (by omega) (by simp) (λq _=>by simp[IZ]) (λG=>?_) (λq J p c G=>?_) (λq J p c G=>?_)
  .grind
  .obtain⟨p1,_⟩:=pO G;have hq2:q*f.size+f.size<=m*f.size:=by rw[<-k9];exact et _ J
   grind
  .obtain⟨p1,rfl⟩:=pO G;obtain⟨c',WM⟩:∃ c',(es (j+q))[p]?=aa c':=⟨_,br (by rw[Y.width _ (by omega)];exact p1)⟩
   obtain⟨v,v1,v2⟩:=Y.rd (j+q) (by omega) p c' WM
   have e:vs.getD ((j+q)*f.size+p) aj=v:=by grind
   rw[e];exact .val v2.cell
 obtain⟨F,TB,hf,O⟩:=dO (P:=P) (s:={ s with M:=λA q=>if A=b then vs[q]? else s.M A q }) c1 V1
 have hnn:F=g:=by
  apply iM
  intro p;have Bi:F.length=m*f.size:=TB.len
  by_cases G:p<m*f.size
  .have hk:0<f.size:=by
    grind
   have J:p / f.size<m:=pE (by grind)
   have TC:p / f.size*f.size+p % f.size=p:=pG p f.size;obtain⟨v,v1,v2⟩:=TB.rd _ J (p % f.size) _ (DD (jG _ hk));rw[TC] at v1;rw[v1,hng p G,Rd.fZ v2];rw[gR,uV,TC,ai,br (by omega)]
   rfl
  grind
 subst hnn;have Jd:=gN (P:=P) (s:={ s with M:=λA q=>if A=b then vs[q]? else s.M A q }) c1 V1 (w:=s.w) rfl
 replace hf:(Builtin.firstCells f.size m (.slice a' m k)).run P s.w=.ok g.toArray s.w:=hf
 have abd:i*f.size+g.length<=(vs++Z).length:=by grind
 have I:=run_storeCells_at P b (i*f.size) E g 0 (vs++Z).toArray s.w r (by grind) z
 simp only[iO] at I;have QE:((vs++Z).toArray.toList.take (i*f.size)++g++(vs++Z).toArray.toList.drop (i*f.size+g.length))=vs.take (i*f.size)++g++vs.drop (i*f.size+g.length)++Z:=by
  grind
 rw[QE] at I;have q2:=Y.Tx M5 ZG;have he:(λq=>if i<=q/\q<i+m then (λq=>es (j+q)) (q-i) else es q)=GQ i j m es:=rfl
 rw[he] at q2;obtain⟨t1,TD⟩:=hh.ef hl hL hz1 hz2 hz3 r q2 (by grind) hM
 have B:(Builtin.lenOf (.slice a' m k)).run P s.w=.ok m s.w:=by rw[O];rfl
 have Q:(Builtin.lenOf (.slice a' m k)).events P s.w #[]=#[]:=by rw[O];rfl
 refine⟨.value (.slice (aa ⟨b,0*f.size,af⟩) (i+m) H),_,?_,?_,t1,TD,ey ?_⟩
 .have N:(Builtin.append_ #[t,t2] o.type #[.slice (aa ⟨b,0*f.size,af⟩) i H,.slice a' m k]).run P s.w=.ok (.slice (aa ⟨b,0*f.size,af⟩) (i+m) H) (s.w.setRow b (vs.take (i*f.size)++g++vs.drop (i*f.size+g.length)++Z).toArray):=by
   unfold Builtin.append_;simp only[iJ,kX,mN,bY,hu,R,b9,h.elem.run_sizeOf,cY,jE,cd,B,u,cu,ic,hf,dj,Nat.zero_mul,bt,I]
  grind [Go.Sem.run_bind,Go.Result.andThen_ok,Go.Sem.run_pure]
 .exact⟨.slice (aa ⟨b,0,af⟩) 0 H,⟨_,_,H,H,rfl,u,by omega,WE,rfl,λ_=>⟨b,rfl,rfl⟩⟩,by grind,λE2 k2 n2 Nl V2=>by
   rw[fI (cr.1 hl).1] at V2;cases V2;exact⟨bg _,λ_=>⟨_,hL,rfl⟩⟩⟩
 .intro e V;unfold Builtin.append_ at V;simp only[iJ,kX,mN,aO,bY,hu,R,aU,h.elem.run_sizeOf,cY,jE,cd,B,Q,u,cu,ic,hf,dj,Nat.zero_mul,bt,I,
   pL,Sem.events_ite,events_underlying,events_sizeOf,Sem.events_pure] at V
  rcases eE g 0 (vs++Z).toArray s.w _ r (by grind) z e V with h3|⟨p,_,_,rfl⟩
  .have h4:eZ { s with M:=λA q=>if A=b then vs[q]? else s.M A q } #[e]:=eZ.one (sT (Jd e h3))
   exact h4.vo (b:=b) hLm (by simp) c2 (λA q v hv=>by
    grind) e (by simp)
  grind [mn]
section
variable {P:aq}{T:List (Nat×TI)}{o:aw}{d:an->D}{σ:List aV}
theorem bH.slice3B(K:dg P T){t:ar}{x w y z:an}(h:o.op=.slice t x (aa w) (aa y) (aa z)){H G:TI}{E:ar}(I:bF T t=aa H)(O:H.desc=.slice E)(V:bF T E=aa G){l g k q n:Nat}{A u v:IntKind}{i j m:Int}
  (Q:d x=.e (.one (.bp l (.sl g k q n)))) (L:d w=.e (.one (.c (.int A i)))) (Y:d y=.e (.one (.c (.int u j)))) (X:d z=.e (.one (.c (.int v m)))) (Z:0<=i) (h1:i<=j) (h2:j<=m) (h3:m<=n):bH P o d σ (.e (.one .any)) σ:=by
 refine .quiet λst ρ hh hr=>?_
 have s:=hr x;rw[Q] at s
 change gx σ st (ρ x) (.bp l _) at s
 obtain⟨lv,⟨a,a0,cap,c0,J,N,S,M,U,R⟩,_,_⟩:=s;have r:=hr w;rw[L] at r
 replace r:=fy r
 generalize B:ρ w=vw at r;cases r;have f:=hr y;rw[Y] at f
 replace f:=fy f
 generalize F:ρ y=vy at f;cases f;have b:=hr z;rw[X] at b
 replace b:=fy b
 generalize C:ρ z=vz at b;cases b;have p:=(K t H I).run_underlying (w:=st.w);rw[O] at p;have hb:(Instr.sliceBounds ab n cap (aa (.int A i)) (aa (.int u j)) (aa (.int v m))).run P st.w=.ok (i.toNat,j.toNat,m.toNat) st.w:=by
  simp[Instr.sliceBounds,run_sliceBound (P:=P) st.w v m cap _ (by omega) (by omega),run_sliceBound (P:=P) st.w u j m.toNat _ (by omega) (by omega),run_sliceBound (P:=P) st.w A i j.toNat _ (by omega) (by omega)]
 have W:(Instr.sliceBounds ab n cap (aa (.int A i)) (aa (.int u j)) (aa (.int v m))).events P st.w #[]=#[]:=by
  simp[Instr.sliceBounds,run_sliceBound (P:=P) st.w v m cap _ (by omega) (by omega),run_sliceBound (P:=P) st.w u j m.toNat _ (by omega) (by omega),run_sliceBound (P:=P) st.w A i j.toNat _ (by omega) (by omega),
   eF (P:=P) st.w v m cap _ (by omega) (by omega),eF (P:=P) st.w u j m.toNat _ (by omega) (by omega),eF (P:=P) st.w A i j.toNat _ (by omega) (by omega)]
 refine⟨.slice (if m.toNat=i.toNat then a else a.map (·.add (i.toNat*G.size))) (j.toNat-i.toNat) (m.toNat-i.toNat),?_,rfl,by simp[ay,h,J,B,F,C,Instr.sliceAt,p,Instr.slice,hb,W]⟩
 simp[ay,h,J,B,F,C,Instr.sliceAt,p,Instr.slice,hb,(K E G V).run_sizeOf]
end
section drop
variable {σ1 rest:List aV}{s:St}
def St.cut(s:St)(n:Nat):St:={ s with β:=s.β.take n }
def gx.drop{v:ak}{a:A}(r:gx (σ1++rest) s v a)(d:GY σ1.length a=ab):gx σ1 (s.cut σ1.length) v a:=by
 have lt:∀ {l:Nat},bo (l+1) σ1.length=ab->l<σ1.length:=λh=>db h
 cases a with
 |c x=>exact r
 |any=>exact r
 |ptr l o =>
  have hl:=lt d;obtain⟨g,L,b,m,f⟩:=r;refine⟨λB p=>g B (by grind),L,b,?_,f⟩
  simp only[St.cut,gQ,hl,cu];exact m
 |ref l =>
  have hl:=lt d;obtain⟨g,L,m,f⟩:=r;refine⟨λB p=>g B (by grind),L,?_,f⟩
  simp only[St.cut,gQ,hl,cu];exact m
 |bp l w =>
  have hl:=lt d;obtain⟨lv,g,_,f⟩:=r;refine⟨lv,g,hl,λE k' n' es' p=>?_⟩
  obtain⟨h1,h2⟩:=f E k' n' es' (by grind)
  refine⟨h1,λe=>?_⟩
  obtain⟨L,j,i⟩:=h2 e;refine⟨L,?_,i⟩;simp only[St.cut,gQ,hl,cu];exact j
 |vec l k n es =>
  have hl:=lt d;obtain⟨g,_,f⟩:=r;refine⟨g,hl,λE k' n' es' p=>?_⟩
  obtain⟨h1,h2⟩:=f E k' n' es' (by grind)
  refine⟨h1,λe=>?_⟩
  obtain⟨L,j,i⟩:=h2 e;refine⟨L,?_,i⟩;simp only[St.cut,gQ,hl,cu];exact j
def dW.uC:∀ {vs:List ak}{cs:List A},dW (σ1++rest) s vs cs->DT σ1.length cs=ab->dW σ1 (s.cut σ1.length) vs cs
 |[],[],_,_=>trivial
 |[],_::_,r,_=>r.elim
 |_::_,[],r,_=>r.elim
 |v::vs,c::cs,r,h=>by
  simp only[DT] at h;cases a:GY σ1.length c with
  |false=>grind
  |true=>simp only[a] at h;exact⟨r.1.drop a,dW.uC r.2 h⟩
def mY.uC{v:ak}{e:E1}(r:mY (σ1++rest) s v e)(h:Js σ1.length e=ab):mY σ1 (s.cut σ1.length) v e:=by
 cases e with
 |one a=>exact gx.drop r h
 |agg cs=>obtain⟨vs,h1,h2⟩:=r;exact⟨vs,h1,dW.uC h2 h⟩
def gJ.uC:∀ {vs:List ak}{cs:List E1},gJ (σ1++rest) s vs cs->xF σ1.length cs=ab->gJ σ1 (s.cut σ1.length) vs cs
 |[],[],_,_=>trivial
 |[],_::_,r,_=>r.elim
 |_::_,[],r,_=>r.elim
 |v::vs,c::cs,r,h=>by
  simp only[xF] at h;cases a:Js σ1.length c with
  |false=>grind
  |true=>simp only[a] at h;exact⟨mY.uC r.1 a,gJ.uC r.2 h⟩
def dc.drop{v:ak}{d:D}(r:dc (σ1++rest) s v d)(h:u6 σ1.length d=ab):dc σ1 (s.cut σ1.length) v d:=by
 cases d with
 |e x=>exact mY.uC r h
 |eK xs=>obtain⟨vs,h1,h2⟩:=r;exact⟨vs,h1,gJ.uC h2 h⟩
 |any=>trivial
def cD.drop{σ0:List aV}{s0:St}(st:cD σ0 s0 (σ1++rest) s)(c:σ0.length<=σ1.length):cD σ0 s0 σ1 (s.cut σ1.length):=by
 refine⟨st.size,st.eN,st.mem,st.jz,λL a b hb=>st.xB L (iK a) b hb,?_,st.os,st.tape,st.output,st.own⟩
 intro l B L d a;obtain⟨B',L',h1,h2,e⟩:=st.box l B L d a;have hl:l<σ1.length:=cG (cr.1 d).1 c;rw[jD hl] at h1;exact⟨B',L',h1,by simp only[St.cut,gQ,hl,cu];exact h2,e⟩
def gx.rR{σ:List aV}{v:ak}{a:A}(hl:s.β.length=σ.length)(r:gx σ s v a):GY σ.length a=ab:=by
 have ok:∀ {l:Nat},l<σ.length->bo (l+1) σ.length=ab:=λh=>qZ h
 have lt:∀ {l:Nat} {L:Loc},s.β[l]?=aa L->l<σ.length:=λh=>by grind
 cases a with
 |c x=>rfl
 |any=>rfl
 |ptr l o=>obtain⟨_,L,b,d,_⟩:=r;exact ok (lt d)
 |ref l=>obtain⟨_,L,d,_⟩:=r;exact ok (lt d)
 |bp l w=>obtain⟨lv,_,h,_⟩:=r;exact ok h
 |vec l k n es=>exact ok r.2.1
def dW.rR{σ:List aV}(hl:s.β.length=σ.length):∀ {vs:List ak}{cs:List A},dW σ s vs cs->DT σ.length cs=ab
 |[],[],_=>rfl
 |[],_::_,r=>r.elim
 |_::_,[],r=>r.elim
 |v::vs,c::cs,r=>by simp only[DT,r.1.rR hl];exact dW.rR hl r.2
def mY.rR{σ:List aV}(hl:s.β.length=σ.length){v:ak}{e:E1}(r:mY σ s v e):Js σ.length e=ab:=by
 cases e with
 |one a=>exact gx.rR hl r
 |agg cs=>obtain⟨vs,_,h⟩:=r;exact dW.rR hl h
def gJ.rR{σ:List aV}(hl:s.β.length=σ.length):∀ {vs:List ak}{cs:List E1},gJ σ s vs cs->xF σ.length cs=ab
 |[],[],_=>rfl
 |[],_::_,r=>r.elim
 |_::_,[],r=>r.elim
 |v::vs,c::cs,r=>by simp only[xF,mY.rR hl r.1];exact gJ.rR hl r.2
def dc.rR{σ:List aV}(hl:s.β.length=σ.length){v:ak}{d:D}(r:dc σ s v d):u6 σ.length d=ab:=by
 cases d with
 |e x=>exact mY.rR hl r
 |eK xs=>obtain⟨vs,_,h⟩:=r;exact gJ.rR hl h
 |any=>rfl
def aJ.PQ{s0:St}{σ0:List aV}(m:aJ σ0 s0)(a:σ0.length=σ1.length)(w:∀ (l:Nat)(B:aV),σ1[l]?=aa B->(∃ E cs,B=.cells E cs/\DT σ1.length cs=ab)∨σ0[l]?=aa B)(h:aJ (σ1++rest) s):aJ σ1 (s.cut σ1.length):=by
 have hl:σ1.length<=s.β.length:=by rw[h.len];simp
 refine⟨h.mem,by simp[St.cut,hl],?_,?_,?_,λb hb=>⟨(h.own b hb).1,λL d=>(h.own b hb).2 L (iK d)⟩⟩
 .intro l B L u d;have j:l<σ1.length:=(cr.1 u).1;simp only[St.cut,gQ,j,cu] at d;have c:=h.box l B L (by grind) d
  have f:∃ o,s0.β[l]?=aa o:=⟨_,br (by rw[m.len,a];exact j)⟩
  obtain⟨o,f⟩:=f;have i:=(w l B u).imp_right λh=>m.box l B o h f
  have x:=m.len.trans a;cases B with
  |cells E cs =>
   obtain⟨b,vs,h1,h2,q,p⟩:=c;refine⟨b,vs,h1,h2,dW.uC q ?_,p⟩;rcases i with⟨_,_,e,i⟩|⟨_,_,_,_,g3,_⟩
   .grind
   .exact a▸g3.rR m.len
  |vec E k n es=>exact c
  |dD H=>exact c
  |dead=>trivial
  |loop N φ r =>
   obtain⟨l',tmps,fn,y,h1,h2,q,p,v⟩:=c;rcases i with⟨_,_,e,_⟩|⟨_,_,_,_,_,_,_,g4,_⟩
   .cases e
   .exact⟨l',tmps,fn,y,h1,h2,q,λt=>(p t).drop (a▸(g4 t).rR m.len),v⟩
  |qV=>exact c
  |buf E k n es=>exact c
 .intro l l' L L' d g b hb oS;simp only[St.cut,gQ] at d g;split at d <;> split at g <;> first|exact h.gg l l' L L' d g b hb oS|grind|grind
 .intro L d b hb;exact h.lt L (iK d) b hb
def aJ.Ua{s0:St}(a:aJ σ1 s0)(h:aJ (σ1++rest) s):aJ σ1 (s.cut σ1.length):=a.PQ rfl (λ_ _ h=>.inr h) h
def OA.BC{P:aq}{X:Cx P}{N:Nat}{all:List aw}{o:aw}{φ:Fr}{σ:List aV}{E:ar}{k n:Nat}{es:Nat->List C}(h:OA X N all o φ σ (.e (.one (.vec σ.length k n es))) (σ++[.vec E k n es])):OA X N all o φ σ (.e (.one (.c (.sl ae k n es)))) σ:=by
 intro s a f hh b kk cs S i rest hb hi hK;refine h s a f hh b kk cs S i rest hb hi λv s' hv lb st=>?_
 have g:eR s' (s'.cut σ.length):=⟨rfl,λ_ _ _ h=>h,λ_ _ _=>rfl,lb.mem,λb hb=>hb.imp id λ⟨L,d,hb⟩=>⟨L,iK d,hb⟩⟩
 exact .ghost g (hK v (s'.cut σ.length) hv.1 (hh.Ua lb) (st.drop (bg _)))
end drop
end
end Go.AM
