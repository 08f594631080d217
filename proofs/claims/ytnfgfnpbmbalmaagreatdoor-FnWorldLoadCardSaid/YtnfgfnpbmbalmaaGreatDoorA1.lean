/- Part 1. No condition. -/
import Derived.Tactics2
import Derived.Conc.Own
import Derived.Conc.Events
import Derived.Conc.Listed
import Derived.Laws.CopyRow
import Derived.Laws.AppendOwn
import Derived.Laws.Rows
import Derived.Laws.Strings
import Derived.Laws.Cells
import Derived.Lib.Strings
import Derived.Laws.Slices
import Derived.Orders
import Derived.Laws.StructEq
set_option linter.all false
set_option maxHeartbeats 8000000
open Go renaming Value → ak
open Option renaming some → aa
open Go renaming Program → aq
open Go renaming TypeId → ar
open Bool renaming true → ab
open Go renaming Goroutine → au
open Go renaming Frame → aR
open Go renaming Oper → aw
open Go renaming FuncId → aW
open Go.Region renaming wanted → bj
open Go renaming execOp → ay
open Go renaming Operand → an
open Option renaming none → af
open Bool renaming false → ae
open Go renaming undef → aj
open Go.World renaming cell? → a9
open List renaming getD_eq_getElem?_getD → ai
open Go.Sem renaming events_bind → aO
open Go.Result renaming evThen_ok → aU
open Go renaming World → az
open Go renaming stepG → aK
open List renaming range → bh
open Nat renaming beq → aG
open Nat renaming ble → bo
open Go.Region renaming ready → bc
open Go.Op renaming bytesLess → bl
namespace Go
section
set_option linter.defProp false
set_option linter.deprecated false
def av:=@_root_.trivial
def br:=@_root_.List.getElem?_eq_getElem
def ba:=@_root_.decide_eq_true_eq
def aE:=@_root_.and_true
def aF:=@_root_.true_and
def bM:=@_root_.decide_eq_false_iff_not
def bA:=@_root_.Int.toNat_natCast
def bX:=@_root_.Nat.eq_of_beq_eq_true
def bU:=@_root_.List.mem_of_getElem?
def cr:=@_root_.List.getElem?_eq_some_iff
def bg:=@_root_.Nat.le_refl
def bR:=@_root_.List.length_append
def bL:=@_root_.Bool.and_eq_true
def bt:=@_root_.Nat.zero_add
def b9:=@_root_.Go.Result.andThen_ok
def dG:=@_root_.Array.getD_eq_getD_getElem?
def b7:=@_root_.List.take_length
def db:=@_root_.Nat.le_of_ble_eq_true
def cG:=@_root_.Nat.lt_of_lt_of_le
def bY:=@_root_.Go.Sem.run_bind
def cn:=@_root_.decide_eq_true
def aY:=@_root_.if_neg
def dt:=@_root_.beq_eq_false_iff_ne
def bd:=@_root_.if_pos
def dH:=@_root_.List.getElem_of_mem
def di:=@_root_.Option.some.injEq
def er:=@_root_.List.length_singleton
def et:=@_root_.Nat.mul_le_mul_right
def fR:=@_root_.Array.getElem?_eq_getElem
def gk:=@_root_.List.getElem?_append_right
def cJ:=@_root_.Nat.lt_or_ge
def hZ:=@_root_.List.eq_nil_of_length_eq_zero
def fI:=@_root_.List.getElem?_set_self
def cY:=@_root_.Go.Sem.run_pure
def ia:=@_root_.Array.getElem?_eq_some_iff
def eB:=@_root_.beq_self_eq_true
def dy:=@_root_.Bool.not_true
def dN:=@_root_.Bool.true_and
def eC:=@_root_.decide_eq_false
def cd:=@_root_.if_false
def fu:=@_root_.not_true_eq_false
def fa:=@_root_.List.length_cons
def jD:=@_root_.List.getElem?_append_left
def fJ:=@_root_.Option.getD_some
def iJ:=@_root_.List.getElem?_toArray
def j4:=@_root_.List.pairwise_iff_getElem
def gQ:=@_root_.List.getElem?_take
def iK:=@_root_.List.mem_of_mem_take
def iL:=@_root_.List.getElem?_set_ne
def cu:=@_root_.if_true
def fb:=@_root_.List.mem_cons
def eL:=@_root_.Nat.le_trans
def jg:=@_root_.Array.length_toList
def gB:=@_root_.List.mem_append
def kX:=@_root_.List.getElem?_cons_zero
def j5:=@_root_.List.take_append_drop
def j6:=@_root_.List.length_filter_le
def iM:=@_root_.List.ext_getElem?
def jh:=@_root_.Bool.not_eq_true'
def ib:=@_root_.List.length_nil
def jE:=@_root_.Bool.false_eq_true
def du:=@_root_.congrArg
def mM:=@_root_.Array.getElem?_replicate
def ic:=@_root_.Bool.not_false
def mN:=@_root_.List.getElem?_cons_succ
def qu:=@_root_.List.findIdx?_eq_some_iff_getElem
def ji:=@_root_.Nat.not_lt_zero
def jk:=@_root_.List.foldl_cons
def j7:=@_root_.List.take_add_one
def lO:=@_root_.List.mem_iff_getElem
def j8:=@_root_.List.append_assoc
def kY:=@_root_.List.mem_singleton
def kZ:=@_root_.bne_self_eq_false
def gC:=@_root_.Nat.zero_le
def fS:=@_root_.beq_iff_eq
def j9:=@_root_.Option.map_some
def gR:=@_root_.Nat.add_mul
def iN:=@_root_.Nat.beq_refl
def iO:=@_root_.Nat.add_zero
def vn:=@_root_.Array.getElem?_setIfInBounds_self_of_lt
def sR:=@_root_.Array.getElem?_setIfInBounds_ne
def ig:=@_root_.decide_true
def k6:=@_root_.List.length_map
def k7:=@_root_.List.append_nil
def qv:=@_root_.Array.mapM_eq_mapM_toList
def oP:=@_root_.Array.toArray_toList
def cW:=@_root_.ne_eq
def k8:=@_root_.Prod.mk.injEq
def nF:=@_root_.List.getElem?_map
def mO:=@_root_.List.mem_filter
def mP:=@_root_.Bool.or_eq_true
def nG:=@_root_.Option.bind_some
def oQ:=@_root_.Nat.eq_zero_or_pos
def nH:=@_root_.List.getElem_mem
def vo:=@_root_.List.find?_eq_some_iff_getElem
def k9:=@_root_.Nat.succ_mul
def sS:=@_root_.Nat.lt_succ_iff_lt_or_eq
def jF:=@_root_.bne_iff_ne
def jG:=@_root_.Nat.mod_lt
def sT:=@_root_.Option.map_eq_some_iff
def me:=@_root_.List.length_drop
def mf:=@_root_.Bool.not_eq_true
def lA:=@_root_.List.mapM_cons
def nI:=@_root_.List.getElem?_drop
def qX:=@_root_.List.findIdx?_eq_none_iff
def mg:=@_root_.Bool.eq_iff_iff
def nJ:=@_root_.not_false_eq_true
def kA:=@_root_.decide_false
def pE:=@_root_.Nat.div_lt_of_lt_mul
def nK:=@_root_.List.foldl_append
def qY:=@_root_.Nat.le_mul_of_pos_right
def pF:=@_root_.Nat.add_sub_cancel
def lB:=@_root_.List.mem_map
def nL:=@_root_.UInt8.toNat_inj
def nN:=@_root_.List.length_set
def qZ:=@_root_.Nat.ble_eq_true_of_le
def q8:=@_root_.List.getElem?_eq_none
def ra:=@_root_.Bool.and_eq_false_iff
def gi:=@_root_.true_or
def kB:=@_root_.Nat.not_lt
def mh:=@_root_.Nat.sub_zero
def pG:=@_root_.Nat.div_add_mod'
def pH:=@_root_.List.mem_flatMap
def pI:=@_root_.List.ext_getElem
def pJ:=@_root_.List.drop_length
def uN:=@_root_.List.drop_eq_getElem_cons
def rb:=@_root_.List.flatMap_append
def rf:=@_root_.Int.toNat_of_nonneg
def rh:=@_root_.List.find?_eq_none
def ri:=@_root_.Int.emod_lt_of_pos
def rj:=@_root_.Bool.not_eq_false'
def uO:=@_root_.Nat.add_sub_cancel_left
def nO:=@_root_.Nat.mul_comm
def uP:=@_root_.List.take_of_length_le
def pK:=@_root_.Bool.false_and
def uQ:=@_root_.Array.mem_of_getElem?
def rl:=@_root_.List.not_mem_nil
def uR:=@_root_.List.mem_cons_of_mem
def rm:=@_root_.List.map_append
def rn:=@_root_.Int.emod_nonneg
def uS:=@_root_.Nat.mul_le_mul_left
def uT:=@_root_.List.filter_eq_self
def rq:=@_root_.List.mem_range
def zl:=@_root_.List.mem_of_find?_eq_some
def uU:=@_root_.List.getElem?_set
def zm:=@_root_.List.set_eq_of_length_le
def ru:=@_root_.List.map_cons
def pL:=@_root_.Go.Sem.run_ite
def rv:=@_root_.Nat.sub_self
def zn:=@_root_.List.range_succ_eq_map
def zo:=@_root_.Array.getElem?_eq_none
def uV:=@_root_.Option.some.inj
def zp:=@_root_.List.contains_iff_mem
def zq:=@_root_.Array.getElem?_toList
def zr:=@_root_.Array.getElem?_modify
def nP:=@_root_.and_self
def zt:=@_root_.Nat.pow_le_pow_right
def mi:=@_root_.Ne.symm
def zu:=@_root_.Nat.add_sub_cancel'
def uW:=@_root_.Nat.add_assoc
end
end Go
namespace Go.AM
inductive C where
  | int (k:IntKind) (n:Int)
  | bool (b:Bool)
  | str (s:List UInt8)
  | sl (tight:Bool) (k n:Nat) (es:Nat->List C)
  | rp (cs:List C)
  | km
  | ifs (t:ar) (c:C)
  | Jx (t:ar) (cs:List C)
  | nW
  | fn (f:Fn) (first cap:List C)
  | zA
  | val (x:ak)
inductive BP where
  | sl (g k o n:Nat)
  | el (g k i f:Nat)
def BP.g:BP->Nat
  | .sl g _ _ _=>g
  | .el g _ _ _=>g
def BP.K:BP->ak->ak->Prop
  | .sl _ k o n,lv,v=>∃ a a0 cap c0,v=.slice a n cap/\n<=cap/\o+cap=c0/\c0<=9223372036854775807/\lv=.slice a0 0 c0/\(0<cap->∃ b,a0=aa ⟨b,0,af⟩/\a=aa ⟨b,o*k,af⟩)
  | .el _ k i f,lv,v=>∃ b c0,lv=.slice (aa ⟨b,0,af⟩) 0 c0/\v=.pointer (aa ⟨b,i*k+f,af⟩)
inductive A where
  | c (x:C)
  | ptr (l off:Nat)
  | vec (l k n:Nat) (es:Nat->List C)
  | ref (l:Nat)
  | bp (l:Nat) (w:BP)
  | any
abbrev A.v (x:ak):A:=.c (.val x)
inductive E1 where
  | one (a:A)
  | agg (cs:List A)
inductive D where
  | e (x:E1)
  | eK (xs:List E1)
  | any
abbrev Fr:=List (Nat×D)
def look:Fr->Nat->D
  | [],_=>.any
  | (i,d)::r,t=>cond (aG i t) d (look r t)
inductive aV where
  | cells (E:ar) (cs:List A)
  | vec (E:ar) (k n:Nat) (es:Nat->List C)
  | dD (H:ak->(Nat->Option Obj)->Prop)
  | dead
  | loop (N:Nat) (φ:Fr) (r:Loop)
  | qV
  | buf (E:ar) (k n:Nat) (es:Nat->List C)
@[simp] def aV.gr:aV->Bool
  | .vec _ _ _ _=>ab
  | .buf _ _ _ _=>ab
  | _=>ae
structure Loc where
  v:ak
  bs:List Nat
abbrev Mem:=Nat->Nat->Option ak
structure St where
  β:List Loc
  M:Mem
  w:az
  own:Nat->Prop
def bx:IntKind->Int->Prop
  | .i8,n=>-128<=n/\n<=127
  | .i16,n=>-32768<=n/\n<=32767
  | .i32,n=>-2147483648<=n/\n<=2147483647
  | .i64,n=>-9223372036854775808<=n/\n<=9223372036854775807
  | .u8,n=>0<=n/\n<=255
  | .u16,n=>0<=n/\n<=65535
  | .u32,n=>0<=n/\n<=4294967295
  | .u64,n=>0<=n/\n<=18446744073709551615
def cZ:ak->Bool
  | .agg _|.tuple _=>ae
  | _=>ab
def BP.K.cell {w:BP} {lv v:ak} (h:w.K lv v):cZ v=ab:=by
  cases w with
  | sl=>obtain⟨_,_,_,_,rfl,_⟩:=h;rfl
  | el=>obtain⟨_,_,_,rfl⟩:=h;rfl
inductive Rd (M:Mem):ak->C->Prop
  | int {k:IntKind} {n:Int} (h:bx k n):Rd M (.int k n) (.int k n)
  | bool {b:Bool}:Rd M (.bool b) (.bool b)
  | str {s:ByteArray} {l:List UInt8} (h:s.data.toList=l) (hl:l.length<=9223372036854775807):Rd M (.string s) (.str l)
  | sl {a:Option Addr} {n cap:Nat} {tight:Bool} {k:Nat} {es:Nat->List C} (b off:Nat) (f:Nat->Nat->ak)
      (G0:n<=cap) (hb:cap<=9223372036854775807) (ht:tight=ab->cap=n) (hk:∀ i,i<n->(es i).length=k)
      (ha:0<n->a=aa ⟨b,off,af⟩)
      (hm:∀ i,i<n->∀ j c,(es i)[j]?=aa c->M b (off+i*k+j)=aa (f i j))
      (hr:∀ i,i<n->∀ j c,(es i)[j]?=aa c->Rd M (f i j) c):Rd M (.slice a n cap) (.sl tight k n es)
  | rp {cs:List C} (b off:Nat) (f:Nat->ak)
      (hm:∀ j c,cs[j]?=aa c->M b (off+j)=aa (f j))
      (hr:∀ j c,cs[j]?=aa c->Rd M (f j) c):Rd M (.pointer (aa ⟨b,off,af⟩)) (.rp cs)
  | km:Rd M (.pointer af) .km
  | ifs {t:ar} {v:ak} {c:C} (h:Rd M v c) (hc:cZ v=ab):Rd M (.iface t v) (.ifs t c)
  | Jx {t:ar} {vs:List ak} {cs:List C} (hl:vs.length=cs.length)
      (f:Nat->ak) (hf:∀ j,j<vs.length->vs[j]?=aa (f j)) (hr:∀ j c,cs[j]?=aa c->Rd M (f j) c):Rd M (.iface t (.agg vs.toArray)) (.Jx t cs)
  | nW:Rd M .nilIface .nW
  | fn {g:Fn} {first cap:List C} (fs cs:List ak) (hl:fs.length=first.length) (Bl:cs.length=cap.length) (f1 f2:Nat->ak)
      (h1:∀ j,j<fs.length->fs[j]?=aa (f1 j)) (h2:∀ j,j<cs.length->cs[j]?=aa (f2 j))
      (r1:∀ j c,first[j]?=aa c->Rd M (f1 j) c) (r2:∀ j c,cap[j]?=aa c->Rd M (f2 j) c):Rd M (.func g fs.toArray cs.toArray) (.fn g first cap)
  | zA:Rd M .nilFunc .zA
  | val {x:ak} (h:cZ x=ab):Rd M x (.val x)
def Rd.fZ {M:Mem} {v x:ak} (h:Rd M v (.val x)):v=x:=by cases h;rfl
def Rd.cell {M:Mem} {v:ak} {c:C} (h:Rd M v c):cZ v=ab:=by cases h <;> first|rfl|assumption
def Rd.mono {M M':Mem} (d:∀ b o v,M b o=aa v->M' b o=aa v) {v:ak} {c:C} (h:Rd M v c):Rd M' v c:=by
  induction h with
  | int h=>exact .int h
  | bool=>exact .bool
  | str h hl=>exact .str h hl
  | sl b off f a hb ht hk ha hm hr ih =>
    exact .sl b off f a hb ht hk ha (λi hi j c hj=>d _ _ _ (hm i hi j c hj)) (λi hi j c hj=>ih i hi j c hj)
  | rp b off f hm hr ih=>exact .rp b off f (λj c hj=>d _ _ _ (hm j c hj)) (λj c hj=>ih j c hj)
  | km=>exact .km
  | ifs h e ih=>exact .ifs ih e
  | Jx hl f g hr ih=>exact .Jx hl f g (λj c hj=>ih j c hj)
  | nW=>exact .nW
  | fn fs cs hl Bl f1 f2 h1 h2 r1 r2 ih1 ih2=>exact .fn fs cs hl Bl f1 f2 h1 h2 (λj c hj=>ih1 j c hj) (λj c hj=>ih2 j c hj)
  | zA=>exact .zA
  | val h=>exact .val h
def gw (σ:List aV) (s:St) (v:ak):A->Prop
  | .c x=>Rd s.M v x
  | .ptr l off=>(∀ B,σ[l]?=aa B->B.gr=ae)/\∃ L b,s.β[l]?=aa L/\L.v=.pointer (aa ⟨b,0,af⟩)/\v=.pointer (aa ⟨b,off,af⟩)
  | .vec l k n es=>Rd s.M v (.sl ae k n es)/\l<σ.length/\∀ E k' n' es',σ[l]?=aa (aV.vec E k' n' es')->n<=n'/\(n'=n->∃ L,s.β[l]?=aa L/\v=L.v)
  | .ref l=>(∀ B,σ[l]?=aa B->B.gr=ae)/\∃ L,s.β[l]?=aa L/\v=L.v/\cZ v=ab
  | .bp l w=>∃ a,w.K a v/\l<σ.length/\∀ E k n es,σ[l]?=aa (aV.buf E k n es)->w.g<=n/\(w.g=n->∃ L,s.β[l]?=aa L/\L.v=a)
  | .any=>cZ v=ab
def dW (σ:List aV) (s:St):List ak->List A->Prop
  | [],[]=>True
  | v::vs,a::al=>gw σ s v a/\dW σ s vs al
  | _,_=>False
def mY (σ:List aV) (s:St) (v:ak):E1->Prop
  | .one a=>gw σ s v a
  | .agg cs=>∃ vs:List ak,v=.agg vs.toArray/\dW σ s vs cs
def gJ (σ:List aV) (s:St):List ak->List E1->Prop
  | [],[]=>True
  | v::vs,a::al=>mY σ s v a/\gJ σ s vs al
  | _,_=>False
def dc (σ:List aV) (s:St) (v:ak):D->Prop
  | .e x=>mY σ s v x
  | .eK xs=>∃ vs:List ak,v=.tuple vs.toArray/\gJ σ s vs xs
  | .any=>True
def cz (σ:List aV) (s:St):List ak->List D->Prop
  | [],[]=>True
  | v::vs,a::al=>dc σ s v a/\cz σ s vs al
  | _,_=>False
structure Flat (M:Mem) (k n:Nat) (es:Nat->List C) (vs:List ak):Prop where
  len:vs.length=n*k
  width:∀ i,i<n->(es i).length=k
  rd:∀ i,i<n->∀ (j:Nat) (c:C),(es i)[j]?=aa c->∃ v,vs[i*k+j]?=aa v/\Rd M v c
def Flat.mono {M M':Mem} (a:∀ b o v,M b o=aa v->M' b o=aa v) {k n:Nat} {es:Nat->List C} {vs:List ak} (h:Flat M k n es vs):Flat M' k n es vs :=
  ⟨h.len,h.width,λi hi j c hj=>let ⟨v,h1,h2⟩:=h.rd i hi j c hj;⟨v,h1,h2.mono a⟩⟩
def eP (σ:List aV) (s:St):aV->Loc->Prop
  | .cells E cs,L=>∃ b vs,L=⟨.pointer (aa ⟨b,0,af⟩),[b]⟩/\s.w.heap[b]?=aa (.cells (List.toArray vs) E (0,0))/\dW σ s vs cs/\∀ o,s.M b o=af
  | .vec E k n es,L=>Rd s.M L.v (.sl ae k n es) /\
      (((L.bs=[]/\n=0)/\Rd s.M L.v (.sl ab k n es)) ∨
       ∃ b cap vs,L=⟨.slice (aa ⟨b,0,af⟩) n cap,[b]⟩/\s.w.heap[b]?=aa (.cells (List.toArray vs) E (0,0))/\vs.length=cap*k/\∀ o,n*k<=o->s.M b o=af)
  | .dD H,L=>∃ c,H L.v c/\(∀ (b:Nat) (o:Obj),c b=aa o->s.w.heap[b]?=aa o)/\(∀ b,b∈L.bs↔(c b).isSome=ab)/\∀ b∈L.bs,∀ o,s.M b o=af
  | .dead,_=>True
  | .loop N φ r,L=>∃ l tmps fn df,L=⟨.func (.yield l) #[] #[],[l]⟩/\s.w.heap[l]?=aa (.loop { r with tmps:=tmps,fn:=fn,defers:=df })/\tmps.size=N/\(∀ t,dc σ s (tmps.getD t aj) (look φ t))/\∀ o,s.M l o=af
  | .qV,L=>∃ r:Nat,L=⟨.int .i64 r,[r]⟩/\s.w.heap[r]?=aa (.deferred (aa []))/\∀ o,s.M r o=af
  | .buf E k n es,L=>(n=0/\L=⟨.slice af 0 0,[]⟩)∨∃ b a vs zs,L=⟨.slice (aa ⟨b,0,af⟩) 0 a,[b]⟩/\s.w.heap[b]?=aa (.cells (List.toArray (vs++zs)) E (0,0))/\(vs++zs).length=a*k/\n<=a/\a<=9223372036854775807/\Flat s.M k n es vs/\∀ o,s.M b o=af
structure aJ (σ:List aV) (s:St):Prop where
  mem:∀ b o v,s.M b o=aa v->s.w.cell? ⟨b,o,af⟩=aa v
  len:s.β.length=σ.length
  box:∀ (l:Nat) (B:aV) (L:Loc),σ[l]?=aa B->s.β[l]?=aa L->eP σ s B L
  gg:∀ (l l':Nat) (L L':Loc),s.β[l]?=aa L->s.β[l']?=aa L'->∀ b∈L.bs,b∈L'.bs->l=l'
  lt:∀ L∈s.β,∀ b∈L.bs,b<s.w.heap.size
  own:∀ b,s.own b->b<s.w.heap.size/\∀ L∈s.β,b∉L.bs
def ij:aV->Loc->aV->Loc->Prop
  | .vec _ _ n _,L,.vec _ _ a _,L'=>(a=n->L'.v=L.v)/\n<=a
  | .vec _ _ _ _,_,.dead,_=>True
  | .vec _ _ _ _,_,_,_=>False
  | .buf _ _ n _,L,.buf _ _ a _,L'=>(a=n->L'.v=L.v)/\n<=a
  | .buf _ _ _ _,_,.dead,_=>True
  | .buf _ _ _ _,_,_,_=>False
  | _,_,.vec _ _ _ _,_=>False
  | _,_,.buf _ _ _ _,_=>False
  | .dead,L,.dead,L'=>L'.v=L.v
  | .dead,_,_,_=>False
  | .qV,L,.qV,L'=>L'.v=L.v
  | .qV,_,_,_=>False
  | _,_,.qV,_=>False
  | _,L,_,L'=>L'.v=L.v
structure Ext (σ:List aV) (s:St) (σ':List aV) (s':St):Prop where
  mem:∀ b o v,s.M b o=aa v->s'.M b o=aa v
  box:∀ (l:Nat) (B:aV) (L:Loc),σ[l]?=aa B->s.β[l]?=aa L->∃ B' L',σ'[l]?=aa B'/\s'.β[l]?=aa L'/\ij B L B' L'
structure Step (σ:List aV) (s:St) (σ':List aV) (s':St):Prop where
  size:s.w.heap.size<=s'.w.heap.size
  eN:∀ b,b<s.w.heap.size->(∀ L∈s.β,b∉L.bs)->s'.w.heap[b]?=s.w.heap[b]?
  mem:∀ b o v,s.M b o=aa v->s'.M b o=aa v
  jz:∀ b,b<s.w.heap.size->(∀ L∈s.β,b∉L.bs)->∀ o,s'.M b o=s.M b o
  xC:∀ L'∈s'.β,∀ b∈L'.bs,s.w.heap.size<=b∨∃ L∈s.β,b∈L.bs
  box:∀ (l:Nat) (B:aV) (L:Loc),σ[l]?=aa B->s.β[l]?=aa L->∃ B' L',σ'[l]?=aa B'/\s'.β[l]?=aa L'/\ij B L B' L'
  os:s'.w.os=s.w.os
  tape:s'.w.tape=s.w.tape
  output:s'.w.output=s.w.output
  own:s'.own=s.own
structure cD (σ:List aV) (s:St) (σ':List aV) (s':St):Prop where
  size:s.w.heap.size<=s'.w.heap.size
  eN:∀ b,s.own b->s'.w.heap[b]?=s.w.heap[b]?
  mem:∀ b o v,s.M b o=aa v->s'.M b o=aa v
  jz:∀ b,b<s.w.heap.size->(∀ L∈s.β,b∉L.bs)->∀ o,s'.M b o=s.M b o
  xC:∀ L'∈s'.β,∀ b∈L'.bs,s.w.heap.size<=b∨∃ L∈s.β,b∈L.bs
  box:∀ (l:Nat) (B:aV) (L:Loc),σ[l]?=aa B->s.β[l]?=aa L->∃ B' L',σ'[l]?=aa B'/\s'.β[l]?=aa L'/\ij B L B' L'
  os:s'.w.os=s.w.os
  tape:s'.w.tape=s.w.tape
  output:s'.w.output=s.w.output
  own:s'.own=s.own
structure cj (s s':St):Prop where
  β:s'.β=s.β
  M:s'.M=s.M
  own:s'.own=s.own
  size:s.w.heap.size<=s'.w.heap.size
  eN:∀ b,(s.own b∨∃ L∈s.β,b∈L.bs)->s'.w.heap[b]?=s.w.heap[b]?
  mem:∀ b o v,s.M b o=aa v->s'.w.cell? ⟨b,o,af⟩=aa v
  os:s'.w.os=s.w.os
  tape:s'.w.tape=s.w.tape
  output:s'.w.output=s.w.output
def oE (s:St) (e:Event):Prop :=
  match e.loc with
  | .cell a=>e.sync=ae/\a.spot=af/\(False∨((∃ L∈s.β,a.block∈L.bs)/\(e.write=ab->s.M a.block a.off=af))∨(e.write=ae/\∃ v,s.M a.block a.off=aa v))
  | .obj r=>e.sync=ae/\(False∨∃ L∈s.β,r∈L.bs)
  | .mark m=>m=.noRoom∨∃ f,m=.extern f
  | _=>False
def eZ (s:St) (es:Array Event):Prop:=∀ e∈es,oE s e
def eZ.nil {s:St}:eZ s #[]:=by intro e h;grind
def ij.refl (B:aV) (L:Loc):ij B L B L:=by cases B <;> simp[ij]
def ij.trans {B B' W0:aV} {L L' ZT:Loc} (h:ij B L B' L') (a:ij B' L' W0 ZT):ij B L W0 ZT:=by
  cases B <;> cases B' <;> cases W0 <;> simp_all [ij]
  all_goals
    grind
def Step.refl (σ:List aV) (s:St):Step σ s σ s :=
  ⟨bg _,λ_ _ _=>rfl,λ_ _ _ h=>h,λ_ _ _ _=>rfl,λL h b hb=>.inr ⟨L,h,hb⟩,λ_ B L h a=>⟨B,L,h,a,.refl _ _⟩,rfl,rfl,rfl,rfl⟩
def Step.trans {σ σ1 σ2:List aV} {s d s2:St} (h:Step σ s σ1 d) (k:Step σ1 d σ2 s2):Step σ s σ2 s2:=by
  have out:∀ b,b<s.w.heap.size->(∀ L∈s.β,b∉L.bs)->∀ L∈d.β,b∉L.bs:=by
    intro b hb hn L a c;rcases h.xC L a b c with h1|⟨u,t,j⟩
    · omega
    grind
  refine⟨eL h.size k.size,?_,λb o v n=>k.mem _ _ _ (h.mem _ _ _ n),?_,?_,?_,k.os.trans h.os,k.tape.trans h.tape,k.output.trans h.output,k.own.trans h.own⟩
  · intro b hb hn
    rw[k.eN b (cG hb h.size) (out b hb hn),h.eN b hb hn]
  · intro b hb hn o
    rw[k.jz b (cG hb h.size) (out b hb hn),h.jz b hb hn]
  · intro L a b hb
    rcases k.xC L a b hb with h1|⟨L1,g,p⟩
    · exact .inl (eL h.size h1)
    grind
  · intro l B L r a
    obtain⟨B1,L1,h1,h2,q⟩:=h.box l B L r a;obtain⟨e,i,k1,f,m⟩:=k.box l B1 L1 h1 h2;exact⟨e,i,k1,f,q.trans m⟩
def cD.refl (σ:List aV) (s:St):cD σ s σ s :=
  ⟨bg _,λ_ _=>rfl,λ_ _ _ h=>h,λ_ _ _ _=>rfl,λL h b hb=>.inr ⟨L,h,hb⟩,λ_ B L h a=>⟨B,L,h,a,.refl _ _⟩,rfl,rfl,rfl,rfl⟩
def cD.trans {σ σ1 σ2:List aV} {s d s2:St} (h:cD σ s σ1 d) (k:cD σ1 d σ2 s2):cD σ s σ2 s2:=by
  have out:∀ b,b<s.w.heap.size->(∀ L∈s.β,b∉L.bs)->∀ L∈d.β,b∉L.bs:=by
    intro b hb hn L a c;rcases h.xC L a b c with h1|⟨u,t,j⟩
    · omega
    grind
  refine⟨eL h.size k.size,?_,λb o v n=>k.mem _ _ _ (h.mem _ _ _ n),?_,?_,?_,k.os.trans h.os,k.tape.trans h.tape,k.output.trans h.output,k.own.trans h.own⟩
  · intro b hb
    rw[k.eN b (by rw[h.own];exact hb),h.eN b hb]
  · intro b hb hn o
    rw[k.jz b (cG hb h.size) (out b hb hn),h.jz b hb hn]
  · intro L a b hb
    rcases k.xC L a b hb with h1|⟨L1,g,p⟩
    · exact .inl (eL h.size h1)
    grind
  · intro l B L r a
    obtain⟨B1,L1,h1,h2,q⟩:=h.box l B L r a;obtain⟨e,i,k1,f,m⟩:=k.box l B1 L1 h1 h2;exact⟨e,i,k1,f,q.trans m⟩
def Step.oG {σ σ':List aV} {s s':St} (hh:aJ σ s) (h:Step σ s σ' s'):cD σ s σ' s' :=
  ⟨h.size,λb hb=>h.eN b (hh.own b hb).1 (hh.own b hb).2,h.mem,h.jz,h.xC,h.box,h.os,h.tape,h.output,h.own⟩
def cD.ext {σ σ':List aV} {s s':St} (h:cD σ s σ' s'):Ext σ s σ' s':=⟨h.mem,h.box⟩
def cj.refl {σ:List aV} {s:St} (hh:aJ σ s):cj s s:=⟨rfl,rfl,rfl,bg _,λ_ _=>rfl,hh.mem,rfl,rfl,rfl⟩
def cj.stepW {σ:List aV} {s s':St} (h:cj s s'):cD σ s σ s' :=
  ⟨h.size,λb hb=>h.eN b (.inl hb),λb o v c=>by rw[h.M];exact c,λ_ _ _ _=>by rw[h.M],λL a b hb=>.inr ⟨L,by rw[<-h.β];exact a,hb⟩,
    λl B L d a=>⟨B,L,d,by rw[h.β];exact a,.refl _ _⟩,h.os,h.tape,h.output,h.own⟩
def Step.ext {σ σ':List aV} {s s':St} (h:Step σ s σ' s'):Ext σ s σ' s':=⟨h.mem,h.box⟩
section mono
variable {σ σ':List aV} {s s':St}
def Ext.Ns (h:Ext σ s σ' s') {l:Nat} {L:Loc} (b:s.β[l]?=aa L) (hl:s.β.length=σ.length) (hn:∀ B,σ[l]?=aa B->B.gr=ae) :
    (∀ B,σ'[l]?=aa B->B.gr=ae)/\∃ L',s'.β[l]?=aa L'/\L'.v=L.v:=by
  have a:l<σ.length:=by grind
  obtain⟨B',L',k1,d,e⟩:=h.box l (σ[l]) L (br a) b;have c:=hn _ (br a);generalize σ[l]=B at *;rw[k1];cases B <;> cases B' <;> simp_all [ij,aV.gr]
def gw.mono (h:Ext σ s σ' s') (hl:s.β.length=σ.length) {v:ak} {a:A} (r:gw σ s v a):gw σ' s' v a:=by
  cases a with
  | c x=>exact Rd.mono h.mem r
  | any=>exact r
  | ptr l off =>
    obtain⟨hn,L,b,h1,h2,m⟩:=r;obtain⟨f,L',k1,i⟩:=h.Ns h1 hl hn;exact⟨f,L',b,k1,by grind,m⟩
  | vec l k n es =>
    obtain⟨j,e,t⟩:=r;obtain⟨B',L',k1,i,g⟩:=h.box l (σ[l]) (s.β[l]'(by omega)) (br e) (br (by omega))
    have d:l<σ'.length:=(cr.1 k1).1;refine⟨Rd.mono h.mem j,d,λE k' f es' he=>?_⟩
    rw[he] at k1;cases k1;have p:=br e;generalize σ[l]=B at *;cases B with
    | vec E0 k0 n0 VQ =>
      obtain⟨o,q⟩:=g
      grind
    | _=>simp[ij] at g
  | ref l =>
    obtain⟨hn,L,h1,h2,m⟩:=r;obtain⟨f,L',k1,i⟩:=h.Ns h1 hl hn;exact⟨f,L',k1,by grind,m⟩
  | bp l w =>
    obtain⟨lv,j,e,t⟩:=r;obtain⟨B',L',k1,i,g⟩:=h.box l (σ[l]) (s.β[l]'(by omega)) (br e) (br (by omega))
    have d:l<σ'.length:=(cr.1 k1).1;refine⟨lv,j,d,λE k' f es' he=>?_⟩
    rw[he] at k1;cases k1;have p:=br e;generalize σ[l]=B at *;cases B with
    | buf E0 k0 n0 VQ =>
      obtain⟨o,q⟩:=g
      grind
    | _=>simp[ij] at g
def dW.mono (h:Ext σ s σ' s') (hl:s.β.length=σ.length) {vs:List ak} {cs:List A} (r:dW σ s vs cs):dW σ' s' vs cs:=by
  induction vs generalizing cs with
  | nil=>cases cs <;> simp_all [dW]
  | cons v vs ih =>
    cases cs with
    | nil=>simp[dW] at r
    | cons a cs=>exact⟨r.1.mono h hl,ih r.2⟩
def mY.mono (h:Ext σ s σ' s') (hl:s.β.length=σ.length) {v:ak} {x:E1} (r:mY σ s v x):mY σ' s' v x:=by
  cases x with
  | one a=>exact gw.mono h hl r
  | agg cs=>obtain⟨vs,h1,h2⟩:=r;exact⟨vs,h1,h2.mono h hl⟩
def gJ.mono (h:Ext σ s σ' s') (hl:s.β.length=σ.length) {vs:List ak} {xs:List E1} (r:gJ σ s vs xs):gJ σ' s' vs xs:=by
  induction vs generalizing xs with
  | nil=>cases xs <;> simp_all [gJ]
  | cons v vs ih =>
    cases xs with
    | nil=>simp[gJ] at r
    | cons a cs=>exact⟨r.1.mono h hl,ih r.2⟩
def dc.mono (h:Ext σ s σ' s') (hl:s.β.length=σ.length) {v:ak} {d:D} (r:dc σ s v d):dc σ' s' v d:=by
  cases d with
  | e x=>exact mY.mono h hl r
  | eK xs=>obtain⟨vs,h1,h2⟩:=r;exact⟨vs,h1,h2.mono h hl⟩
  | any=>trivial
def cz.mono (h:Ext σ s σ' s') (hl:s.β.length=σ.length) {vs:List ak} {xs:List D} (r:cz σ s vs xs):cz σ' s' vs xs:=by
  induction vs generalizing xs with
  | nil=>cases xs <;> simp_all [cz]
  | cons v vs ih =>
    cases xs with
    | nil=>simp[cz] at r
    | cons a cs=>exact⟨r.1.mono h hl,ih r.2⟩
end mono
def oI (σ:List aV) (s:St):List Deferred->List Nat->Prop
  | [],[]=>True
  | d::ds,l::ls=>(σ[l]?=aa .qV/\∃ (L:Loc) (r:Nat),s.β[l]?=aa L/\L.v=.int .i64 r/\d={ target:=.collected r,args:=#[] })/\l∉ls/\oI σ s ds ls
  | _,_=>False
def oI.mono {σ σ':List aV} {s s':St} (h:Ext σ s σ' s'):∀ {ds:List Deferred} {ls:List Nat},oI σ s ds ls->oI σ' s' ds ls
  | [],[],_=>trivial
  | [],_::_,r=>r.elim
  | _::_,[],r=>r.elim
  | d::ds,l::ls,⟨⟨h1,L,r,h2,g,b⟩,f,c⟩=>by
    obtain⟨B',L',k1,a,e⟩:=h.box l _ L h1 h2;cases B' <;> simp[ij] at e
    exact⟨⟨k1,L',r,a,by grind,b⟩,f,oI.mono h c⟩
def mv:List aV->Bool
  | []=>ab
  | .qV::_=>ae
  | _::r=>mv r
def na:∀ {l:List aV},mv l=ab->∀ B∈l,B≠.qV
  | [],_,B,a=>by grind
  | b::r,h,B,a=>by
    have c:b≠.qV/\mv r=ab:=by cases b <;> simp_all [mv]
    rcases fb.1 a with rfl|a
    · exact c.1
    · exact na c.2 B a
def lU {s:St} {r:Nat} {wr:Bool} {L:Loc} (b:L∈s.β) (a:r∈L.bs):oE s ⟨.obj r,wr,ae⟩:=⟨rfl,.inr ⟨L,b,a⟩⟩
def eZ.one {s:St} {e:Event} (h:oE s e):eZ s #[e]:=by intro x a;grind
def eZ.two {s:St} {e a:Event} (h:oE s e) (b:oE s a):eZ s #[e,a]:=by
  intro x c;grind
section
open Go.Conc (G listed)
def qx(s s':St)(es:Array Event):Prop:=(∃ σ σ',aJ σ s/\aJ σ' s'/\Step σ s σ' s')/\eZ s es
structure Cx (P:aq) where
 main:Bool
 rely:St->St->Prop
 xF:au->St->(au->St->Prop)->Prop
 ik:∀ {s s'},rely s s'->cj s s'
 Bp:Prop
class Cx.jr {P:aq} (X:Cx P):Prop where
 ok:X.Bp
structure eR (s s':St):Prop where
 w:s'.w=s.w
 mem:∀ b o v,s.M b o=aa v->s'.M b o=aa v
 jz:∀ b,(∀ L∈s.β,b∉L.bs)->∀ o,s'.M b o=s.M b o
 cell:∀ b o v,s'.M b o=aa v->s.w.cell? ⟨b,o,af⟩=aa v
 blk:∀ b,(s'.own b∨∃ L∈s'.β,b∈L.bs)->s.own b∨∃ L∈s.β,b∈L.bs
structure mR (s s':St):Prop where
 w:s'.w=s.w
 β:s'.β=s.β
 own:s'.own=s.own
 less:∀ b o v,s'.M b o=aa v->s.M b o=aa v
 mem:∀ b o v,s.M b o=aa v->s'.M b o=aa v∨s.own b
inductive ft {P:aq} (X:Cx P) (S:au->St->Prop):au->St->Prop
 |stop {g:au} {s:St}:S g s->ft X S g s
 |step {g:au} {s:St} (ng:St->au) (ns:St->St) (ne:St->Array Event):g.status=.running ->
   (∀ s1,X.rely s s1->aK P X.main g s1.w=.go (ng s1) (ns s1).w (ne s1))->(∀ s1,X.rely s s1->qx s1 (ns s1) (ne s1))->(∀ s1,X.rely s s1->ft X S (ng s1) (ns s1))->ft X S g s
 |ghost {g:au} {s s':St}:eR s s'->ft X S g s'->ft X S g s
 |forget {g:au} {s s':St}:X.Bp->mR s s'->ft X S g s'->ft X S g s
 |xF {g:au} {s:St} {T:au->St->Prop}:X.xF g s T->(∀ g' s',T g' s'->ft X S g' s')->ft X S g s
section
variable {P:aq}{X:Cx P}{S:au->St->Prop}
def ft.next{g:au}{s:St}(f:g.status=.running)(h:∀ c,X.rely s c->∃ g' s' es,aK P X.main g c.w=.go g' s'.w es/\qx c s' es/\ft X S g' s'):ft X S g s:=by
 classical
 have hh:∀ c,∃ r:au×St×Array Event,X.rely s c->aK P X.main g c.w=.go r.1 r.2.1.w r.2.2/\qx c r.2.1 r.2.2/\ft X S r.1 r.2.1:=by
  intro c
  by_cases e:X.rely s c
  .obtain⟨g',s',es,h1⟩:=h c e;exact⟨(g',s',es),λ_=>h1⟩
  .exact⟨(g,c,#[]),λd=>absurd d e⟩
 refine .step (λc=>(Classical.choose (hh c)).1) (λc=>(Classical.choose (hh c)).2.1) (λc=>(Classical.choose (hh c)).2.2) f ?_ ?_ ?_
 .grind
 .grind
 grind
def eR.of{σ σ':List aV}{s s':St}(hh:aJ σ s)(c:aJ σ' s')(e:s'.w=s.w)(st:cD σ s σ' s'):eR s s':=by
 have g:∀ b o v,s'.M b o=aa v->s.w.cell? ⟨b,o,af⟩=aa v:=λb o v h=>by rw[<-e];exact c.mem b o v h
 have d:∀ b o v,s.w.cell? ⟨b,o,af⟩=aa v->b<s.w.heap.size:=by
  intro b o v h;rcases cJ b s.w.heap.size with h1|h1
  .exact h1
  .simp[a9,zo h1] at h
 refine⟨e,st.mem,λb hb o=>?_,g,λb hb=>?_⟩
 .rcases cJ b s.w.heap.size with h1|h1
  .exact st.jz b h1 hb o
  .cases h2:s'.M b o with
   |some v=>grind
   |none=>cases i:s.M b o with
    |none=>rfl
    |some v=>have:=d _ _ _ (hh.mem _ _ _ i);omega
 .rcases hb with hb|⟨L,f,hb⟩
  .exact .inl (by rw[<-st.own];exact hb)
  .rcases st.xC L f b hb with h1|h1
   .have:=c.lt L f b hb;grind
   grind
def aJ.rely{σ:List aV}{s s':St}(hh:aJ σ s)(h:cj s s'):aJ σ s':=by
 have ex:Ext σ s σ s':=h.stepW.ext;have A:∀ v a,gw σ s v a->gw σ s' v a:=λv a r=>r.mono ex hh.len
 refine⟨λb o v y=>h.mem b o v (by rw[<-h.M];exact y),by rw[h.β];exact hh.len,?_,by rw[h.β];exact hh.gg,?_,?_⟩
 .intro l B L x e;rw[h.β] at e;have hb:=hh.box l B L x e;have C:∀ b∈L.bs,s'.w.heap[b]?=s.w.heap[b]?:=λb hb=>h.eN b (.inr ⟨L,bU e,hb⟩)
  cases B with
  |cells E cs =>
   obtain⟨b,vs,h1,h2,c,d⟩:=hb;subst h1;exact⟨b,vs,rfl,by grind,c.mono ex hh.len,λo=>by rw[h.M,d]⟩
  |vec E k n es =>
   obtain⟨h1,h2⟩:=hb;refine⟨by rw[h.M];exact h1,?_⟩
   rcases h2 with⟨h2,c⟩|⟨b,cap,vs,h2,c,d,f⟩
   .exact .inl ⟨h2,by rw[h.M];exact c⟩
   .subst h2;exact .inr ⟨b,cap,vs,rfl,by grind,d,λo z=>by rw[h.M,f o z]⟩
  |dD H =>
   obtain⟨ch,h1,h2,c,d⟩:=hb;refine⟨ch,h1,λb o i=>?_,c,λb g o=>by rw[h.M,d b g]⟩
   grind
  |dead=>trivial
  |loop N φ r =>
   obtain⟨l,tmps,fn,j,h1,h2,c,d,f⟩:=hb;subst h1;exact⟨l,tmps,fn,j,rfl,by grind,c,λt=>(d t).mono ex hh.len,λo=>by rw[h.M,f]⟩
  |qV =>
   obtain⟨r,h1,h2,c⟩:=hb;subst h1;exact⟨r,rfl,by grind,λo=>by rw[h.M,c]⟩
  |buf E k n es =>
   rcases hb with hb|⟨b,p,vs,u,h1,h2,c,d,f,q,m⟩
   .exact .inl hb
   .subst h1;exact .inr ⟨b,p,vs,u,rfl,by grind,c,d,f,by rw[h.M];exact q,λo=>by rw[h.M,m]⟩
 .intro L e b hb;rw[h.β] at e;exact cG (hh.lt L e b hb) h.size
 .intro b hb;rw[h.own] at hb;rw[h.β];exact⟨cG (hh.own b hb).1 h.size,(hh.own b hb).2⟩
def qx.quiet{σ:List aV}{s:St}(hh:aJ σ s):qx s s #[]:=⟨⟨σ,σ,hh,hh,.refl _ _⟩,.nil⟩
def _root_.Go.Frame.aT(b:aR)(a:Act)(todo:List Item):aR:={ b with tmps:=a.tmps,todo:=todo,defers:=a.defers++b.defers,mode:=.run }
variable {b:aR}{a:Act}{k:List Item}{cs:List aR}{w:az}{main:Bool}
def Fy(b:aR)(a:Act)(c:List Item):(b.aT a c).eval=a.eval:=by funext x;cases x <;> rfl
def Fz:aK P main (G (b.aT a (.code .skip::k)) cs) w=.go (G (b.aT a k) cs) w:=by simp[G,aK,stepG.exec,Frame.aT]
def qy{id:Nat}:aK P main (G (b.aT a (.inBlock id::k)) cs) w=.go (G (b.aT a k) cs) w:=by simp[G,aK,stepG.exec,Frame.aT]
def nS{x y:Code}:aK P main (G (b.aT a (.code (.seq x y)::k)) cs) w=.go (G (b.aT a (.code x::.code y::k)) cs) w:=by simp[G,aK,stepG.exec,Frame.aT]
def u4{c:an}{x y:Code}{t:Bool}(h:a.eval c=.bool t) :
  aK P main (G (b.aT a (.code (.cond c x y)::k)) cs) w=.go (G (b.aT a (.code (if t then x else y)::k)) cs) w:=by
 have d:(b.aT a (.code (.cond c x y)::k)).eval c=.bool t:=by rw[Fy];exact h
 simp only[Frame.aT] at d;simp[G,aK,stepG.exec,Frame.aT,d]
def rB{id:Nat}{c:Code}:aK P main (G (b.aT a (.code (.block id c)::k)) cs) w=.go (G (b.aT a (.code c::.inBlock id::k)) cs) w:=by simp[G,aK,stepG.exec,Frame.aT]
def FB{c:Code}:aK P main (G (b.aT a (.code (.loop c)::k)) cs) w=.go (G (b.aT a (.code c::.inLoop c::k)) cs) w:=by simp[G,aK,stepG.exec,Frame.aT]
def yh{c:Code}:aK P main (G (b.aT a (.inLoop c::k)) cs) w=.go (G (b.aT a (.code c::.inLoop c::k)) cs) w:=by simp[G,aK,stepG.exec,Frame.aT]
def zx{id:Nat}{k':List Item}(h:exitTo id k=aa k'):aK P main (G (b.aT a (.code (.exit id)::k)) cs) w=.go (G (b.aT a k') cs) w:=by simp[G,aK,stepG.exec,Frame.aT,h]
def pQ{id:Nat}{ops:Array aw}:aK P main (G (b.aT a (.code (.region id ops ae)::k)) cs) w=.go (G (b.aT a (.inRegion ops (bh ops.size)::k)) cs) w:=by simp[G,aK,stepG.exec,Frame.aT]
def lR{id:Nat}{ops:Array aw}:aK P main (G (b.aT a (.code (.region id ops ab)::k)) cs) w =
  .go (G (b.aT a (.inRegion ops (Region.schedule (P.follows .mixedOrders) ops (w.tape w.drawn (.order b.fn id)))::k)) cs) { w with drawn:=w.drawn+1 }:=by
 simp[G,aK,stepG.exec,Frame.aT,choose,Sem.run,Question.forced,Question.cut]
def iW{ops:Array aw}:aK P main (G (b.aT a (.inRegion ops []::k)) cs) w=.go (G (b.aT a k) cs) w:=by simp[G,aK,stepG.exec,Frame.aT]
def DH(h:b.roundOf=af):aK P main (G (b.aT a (.code .ret::k)) cs) w=.go (G { b.aT a (.code .ret::k) with mode:=.returning } cs) w:=by simp[G,aK,stepG.exec,Frame.aT,h]
def DI(h:b.roundOf=af):aK P main (G (b.aT a []) cs) w=.go (G { b.aT a [] with mode:=.returning } cs) w:=by simp[G,aK,stepG.exec,Frame.aT,h]
def kg(ops:Array aw)(i:Nat)(rest:List Nat)(v:ak) :
  (b.aT a (.inRegion ops (i::rest)::k)).finish v=b.aT (a.put ((ops[i]?).bind (·.dst)) v) (.inRegion ops rest::k):=by
 cases h:(ops[i]?).bind (·.dst) <;> simp[Frame.finish,Frame.aT,Act.put,h]
def Nq{ops:Array aw}{i:Nat}{rest:List Nat}{o:aw}(d:ops[i]?=aa o)(e:bj o (yielded ops a.tmps)=ae) :
  aK P main (G (b.aT a (.inRegion ops (i::rest)::k)) cs) w=.go (G (b.aT (a.put o.dst aj) (.inRegion ops rest::k)) cs) w:=by
 have c:=kg (b:=b) (a:=a) (k:=k) ops i rest aj;rw[d] at c;simp only[nG] at c;rw[<-c];simp[G,aK,stepG.exec,Frame.aT,d,e]
def rC{ρ:an->ak}{o:aw}{c:Call}(h:o.op=.defer c){f:Next}{w':az}(e:(ay ρ o).run P w=.ok f w'):∃ d,f=.defer d:=by
 simp only[ay,h,bY] at e;cases g:(resolve ρ c o.type).run P w with
 |ok d w2=>rw[g] at e;simp at e;grind
 |halt x w2=>rw[g] at e;simp at e
def u5{ops:Array aw}{i:Nat}{rest:List Nat}{o:aw}(f:ops[i]?=aa o)(e:bj o (yielded ops a.tmps)=ab)(g:∀ c,o.op≠.defer c) :
  aK P main (G (b.aT a (.inRegion ops (i::rest)::k)) cs) w=stepG.apply P ab (b.aT a (.inRegion ops (i::rest)::k)) cs af (ay a.eval o) w:=by
 have d:=Fy b a (.inRegion ops (i::rest)::k);simp only[Frame.aT] at d;simp[G,aK,stepG.exec,stepG.oper,Frame.oper?,Frame.aT,f,e,d]
 grind
def Jg{ops:Array aw}{i:Nat}{rest:List Nat}{o:aw}{v:ak}{w':az}(f:ops[i]?=aa o)(g:bj o (yielded ops a.tmps)=ab)
  (l:b.kind≠.early) (h:(ay a.eval o).run P w=.ok (.value v) w') :
  aK P main (G (b.aT a (.inRegion ops (i::rest)::k)) cs) w=.go (G (b.aT (a.put o.dst v) (.inRegion ops rest::k)) cs) w' (listed P b.fn a o w):=by
 have d:=kg (b:=b) (a:=a) (k:=k) ops i rest v;rw[f] at d;simp only[nG] at d;have e:(b.kind==CallKind.early)=ae:=by grind
 rw[u5 f g (λc j=>by grind [rC]),<-d]
 simp[stepG.apply,h,G,Frame.aT,e,GStep.after,listed]
def FC{ops:Array aw}{i:Nat}{rest:List Nat}{o:aw}{w':az}(f:ops[i]?=aa o)(g:bj o (yielded ops a.tmps)=ab)
  (l:b.kind≠.early) (h:(ay a.eval o).run P w=.ok .skip w') :
  aK P main (G (b.aT a (.inRegion ops (i::rest)::k)) cs) w=.go (G (b.aT (a.put o.dst aj) (.inRegion ops rest::k)) cs) w' (listed P b.fn a o w):=by
 have d:=kg (b:=b) (a:=a) (k:=k) ops i rest aj;rw[f] at d;simp only[nG] at d;have e:(b.kind==CallKind.early)=ae:=by grind
 rw[u5 f g (λc j=>by grind [rC]),<-d]
 simp[stepG.apply,h,G,Frame.aT,e,GStep.after,listed]
def oS{ops:Array aw}{i:Nat}{rest:List Nat}{o:aw}{f:aW}{args:Array ak}{w':az}(h:ops[i]?=aa o)(e:bj o (yielded ops a.tmps)=ab)
  (l:b.kind≠.early) (g:(ay a.eval o).run P w=.ok (.enter f args) w') :
  aK P main (G (b.aT a (.inRegion ops (i::rest)::k)) cs) w=.go (G (Frame.enter P f args .normal) (b.aT a (.inRegion ops (i::rest)::k)::cs)) w' (listed P b.fn a o w):=by
 have d:(b.kind==CallKind.early)=ae:=by grind
 rw[u5 h e (λc j=>by grind [rC])]
 simp[stepG.apply,g,G,Frame.aT,d,GStep.after,listed]
structure ux (P:aq)(f:aW)(fr:aR)(v:ak)(s:St):Prop where
 isF:fr.fn=f
 mode:fr.mode=.returning
 defers:fr.defers=[]
 kind:fr.kind=.normal
 fn:∃ fn,P.funcs[fr.fn]?=aa fn/\∀ w,(∀ b o u,s.M b o=aa u->w.cell? ⟨b,o,af⟩=aa u)->(results fn fr.tmps).run P w=.ok v w/\∀ e∈(results fn fr.tmps).events P w #[],∃ b o u,e=⟨.cell ⟨b,o,af⟩,ae,ae⟩/\s.M b o=aa u
def ux.mono{f:aW}{fr:aR}{v:ak}{s s':St}(h:ux P f fr v s)(j:∀ b o u,s.M b o=aa u->s'.M b o=aa u):ux P f fr v s':=by
 obtain⟨h1,h2,e,c,fn,d,i⟩:=h;refine⟨h1,h2,e,c,fn,d,λw g=>?_⟩
 grind
def eZ.seen{s:St}{es:Array Event}{fn:aW}(h:eZ s es):eZ s (seen P fn es):=λe c=>h e (Go.Conc.mem_seen c)
def Jh{f:aW}{g c:aR}{v:ak}{s:St}(h:ux P f g v s)(w:az)(i:∀ b o u,s.M b o=aa u->w.cell? ⟨b,o,af⟩=aa u):∃ es,aK P main (G g (c::cs)) w=.go (G (c.finish v) cs) w es/\∀ e∈es,∃ b o u,e=⟨.cell ⟨b,o,af⟩,ae,ae⟩/\s.M b o=aa u:=by
 obtain⟨fn,l,d⟩:=h.fn;obtain⟨n,j⟩:=d w i;refine⟨seen P g.fn ((results fn g.tmps).events P w #[]),?_,λe m=>j e (Go.Conc.mem_seen m)⟩
 simp[G,aK,unwind,doReturn,h.mode,h.defers,h.kind,l,n,GStep.after]
end
end
section
open Go.Conc (G)
structure cx (N:Nat)(σ:List aV)(s:St)(φ:Fr)(a:Act):Prop where
 size:a.tmps.size=N
 defers:∃ ls,oI σ s a.defers ls
 slot:∀ t,dc σ s (a.tmps.getD t aj) (look φ t)
def cx.mono{N:Nat}{σ σ':List aV}{s s':St}{φ:Fr}{a:Act}(h:cD σ s σ' s')(hl:s.β.length=σ.length)(f:cx N σ s φ a):cx N σ' s' φ a :=
 ⟨f.size,f.defers.imp λ_ h1=>h1.mono h.ext,λt=>(f.slot t).mono h.ext hl⟩
def cx.rely{N:Nat}{σ:List aV}{s s':St}{φ:Fr}{a:Act}(h:cj s s')(hh:aJ σ s)(f:cx N σ s φ a):cx N σ s' φ a:=f.mono h.stepW hh.len
def cx.put{N:Nat}{σ:List aV}{s:St}{φ:Fr}{a:Act}(f:cx N σ s φ a){d:Nat}(g:d<N){v:ak}{x:D}(r:dc σ s v x):cx N σ s ((d,x)::φ) (a.put (aa d) v):=by
 refine⟨by simp[Act.put,f.size],f.defers,λt=>?_⟩
 simp only[Act.put,look]
 by_cases e:d=t
 .subst e;rw[show aG d d=ab from iN d]
  have c:d<a.tmps.size:=by rw[f.size];exact g
  simp only[dG,vn c,fJ,cond];exact r
 .have:aG d t=ae:=by
   grind [bX]
  rw[this];have h:=f.slot t;simp only[dG] at h ⊢
  grind
def o8(φ c:Fr):Prop:=∀ σ s v t,dc σ s v (look φ t)->dc σ s v (look c t)
def cx.le{N:Nat}{σ:List aV}{s:St}{φ c:Fr}{a:Act}(h:o8 φ c)(f:cx N σ s φ a):cx N σ s c a :=
 ⟨f.size,f.defers,λt=>h _ _ _ _ (f.slot t)⟩
abbrev Post:=Exit->Fr->List aV->Prop
def ends{P:aq}(X:Cx P)(S:au->St->Prop)(b:aR)(k:List Item)(cs:List aR):Exit->Act->St->Prop
 |.normal,a,s=>ft X S (G (b.aT a k) cs) s
 |.exit id,a,s=>∀ pre,(∀ k',exitTo id (pre++k')=exitTo id k')->ft X S (G (b.aT a (.code (.exit id)::(pre++k))) cs) s
 |.ret,a,s=>∀ pre,ft X S (G (b.aT a (.code .ret::pre)) cs) s
 |.panic ch,a,s=>∀ c,ft X S (G { b.aT a c with mode:=.panicking ch } cs) s
 |_,_,_=>False
section
variable {P:aq}{X:Cx P}{S:au->St->Prop}{b:aR}{k:List Item}{cs:List aR}{a:Act}{s:St}
def ends.cons{x:Item}(d:∀ id k',exitTo id (x::k')=exitTo id k'){e:Exit}(c:e≠.normal)(h:ends X S b k cs e a s):ends X S b (x::k) cs e a s:=by
 cases e with
 |normal=>grind
 |exit id =>
  intro pre hp;have:=h (pre++[x]) (λk'=>by grind)
  grind
 |ret=>exact h
 |panic ch=>exact h
 |goto l=>exact h
 |outgrown=>exact h
def ft.ctl{σ:List aV}{g g':au}(hh:aJ σ s)(e:g.status=.running)(d:∀ w,aK P X.main g w=.go g' w #[])(h:∀ c,cj s c->ft X S g' c):ft X S g s :=
 .next e λc h1=>⟨g',c,#[],d c.w,.quiet (hh.rely (X.ik h1)),h c (X.ik h1)⟩
def pM{σ:List aV}{f:aW}{j c:aR}{cs:List aR}{v:ak}{s:St}(r:aJ σ s)(h:ux P f j v s)(k:∀ d,cj s d->ft X S (G (c.finish v) cs) d):ft X S (G j (c::cs)) s:=by
 refine .next rfl λd p=>?_
 have i:=X.ik p;have g:=r.rely i;obtain⟨es,q,l⟩:=Jh (main:=X.main) (c:=c) (cs:=cs) h d.w i.mem;refine⟨_,d,es,q,⟨⟨σ,σ,g,g,.refl _ _⟩,λe n=>?_⟩,k d i⟩
 obtain⟨b,o,u,rfl,m⟩:=l e n;exact⟨rfl,rfl,.inr (.inr ⟨rfl,u,by rw[i.M];exact m⟩)⟩
def wj{c:Code}(I:Nat->Act->St->Prop)(i:∀ n a s,I n a s->∃ σ,aJ σ s/\∀ d,cj s d->I n a d)
  (round:∀ n a s,I n a s->(∀ a' s' m,m<n->I m a' s'->ft X S (G (b.aT a' (.inLoop c::k)) cs) s')->ft X S (G (b.aT a (.code c::.inLoop c::k)) cs) s) {n:Nat} (j:I n a s) :
  ft X S (G (b.aT a (.code (.loop c)::k)) cs) s:=by
 have key:∀ n a s,I n a s->ft X S (G (b.aT a (.inLoop c::k)) cs) s:=by
  intro n
  induction n using Nat.strongRecOn with
  |_ n l =>
   intro a s hi;obtain⟨σ,h,f⟩:=i n a s hi;exact .ctl h rfl (λw=>yh) λd g=>round n a d (f d g) λa' s' m o e=>l m o a' s' e
 obtain⟨σ,h,f⟩:=i n a s j;exact .ctl h rfl (λw=>FB) λd g=>round n a d (f d g) λa' s' m _ e=>key m a' s' e
end
def AW{P:aq}(X:Cx P)(N:Nat)(c:Code)(Q:Post)(φ:Fr)(σ:List aV):Prop :=
 ∀ s a,cx N σ s φ a->aJ σ s->∀ (b:aR) (k:List Item) (cs:List aR) (S:au->St->Prop),b.kind≠.early ->
  (∀ e d σ' s' a',Q e d σ'->cx N σ' s' d a'->aJ σ' s'->cD σ s σ' s'->ends X S b k cs e a' s')->ft X S (G (b.aT a (.code c::k)) cs) s
def Names(all:List aw):List Nat->List aw->Prop
 |[],[]=>True
 |i::idx,o::rest=>all.toArray[i]?=aa o/\Names all idx rest
 |_,_=>False
def jB{P:aq}(X:Cx P)(N:Nat)(all rest:List aw)(Q:Fr->List aV->Prop)(φ:Fr)(σ:List aV):Prop :=
 ∀ s a,cx N σ s φ a->aJ σ s->∀ (b:aR) (k:List Item) (cs:List aR) (S:au->St->Prop) (idx:List Nat),b.kind≠.early->Names all idx rest ->
  (∀ c σ' s' a',Q c σ'->cx N σ' s' c a'->aJ σ' s'->cD σ s σ' s'->ft X S (G (b.aT a' k) cs) s')->ft X S (G (b.aT a (.inRegion all.toArray idx::k)) cs) s
section rules
variable {P:aq}{X:Cx P}{N:Nat}{Q:Post}{φ:Fr}{σ:List aV}
def AW.mono{c:Code}{f:Post}(h:AW X N c Q φ σ)(j:∀ e φ σ,Q e φ σ->f e φ σ):AW X N c f φ σ :=
 λs a i hh b k cs S hb hQ=>h s a i hh b k cs S hb λe d σ' s' a' q g l st=>hQ e d σ' s' a' (j _ _ _ q) g l st
def AW.le{c:Code}{d:Fr}(h:AW X N c Q d σ)(hl:o8 φ d):AW X N c Q φ σ :=
 λs a e hh b k cs S hb hQ=>h s a (e.le hl) hh b k cs S hb hQ
def AW.skip(h:Q .normal φ σ):AW X N .skip Q φ σ:=λs a e hh b k cs S _ d =>
 .ctl hh rfl (λ_=>Fz) λc h1=>d .normal φ σ c a h (e.rely h1 hh) (hh.rely h1) h1.stepW
def AW.ret(h:Q .ret φ σ):AW X N .ret Q φ σ:=λs a d hh b k cs S _ c=>c .ret φ σ s a h d hh (.refl _ _) k
def AW.exit{id:Nat}(h:Q (.exit id) φ σ):AW X N (.exit id) Q φ σ:=λs a d hh b k cs S _ c=>by
 have:=c (.exit id) φ σ s a h d hh (.refl _ _) [] (λ_=>rfl)
 grind
def F2(next:Fr->List aV->Prop)(Q:Post):Post
 |.normal,φ,σ=>next φ σ
 |e,φ,σ=>Q e φ σ
def AW.seq{x y:Code}(h:AW X N x (F2 (AW X N y Q) Q) φ σ):AW X N (.seq x y) Q φ σ:=by
 intro s a i hh b k cs S hb hQ;refine .ctl hh rfl (λ_=>nS) λl h1=>?_
 refine h l a (i.rely h1 hh) (hh.rely h1) b (.code y::k) cs S hb ?_;intro e j σ' s' a' q f g st;have c:=h1.stepW.trans st;cases e with
 |normal=>exact q s' a' f g b k cs S hb λe d σ2 s2 a2 q2 f2 h2 oB=>hQ e d σ2 s2 a2 q2 f2 h2 (c.trans oB)
 |_=>exact ends.cons (λ_ _=>rfl) (by simp) (hQ _ _ _ _ _ q f g c)
def AW.cond{c:an}{x y:Code}{t:Bool}{u:Nat}(n:c=.tmp u)(hl:look φ u=.e (.one (.c (.bool t))))
  (p:t=ab->AW X N x Q φ σ) (m:t=ae->AW X N y Q φ σ):AW X N (.cond c x y) Q φ σ:=by
 intro s a f hh b k cs S hb hQ;have h:=f.slot u;rw[hl] at h;have i:a.eval c=.bool t:=by
  subst n;generalize i:a.tmps.getD u aj=v at h;simp only[dc,mY,gw] at h;cases h;exact i
 refine .ctl hh rfl (λ_=>u4 i) λj h1=>?_
 have g:∀ e d σ' s' a',Q e d σ'->cx N σ' s' d a'->aJ σ' s'->cD σ j σ' s'->ends X S b k cs e a' s':=λe d σ' s' a' q l o st=>hQ e d σ' s' a' q l o (h1.stepW.trans st)
 cases t
 .exact m rfl j a (f.rely h1 hh) (hh.rely h1) b k cs S hb g
 .exact p rfl j a (f.rely h1 hh) (hh.rely h1) b k cs S hb g
def z8(id:Nat)(Q:Post):Post
 |.exit I9,φ,σ=>if I9=id then Q .normal φ σ else Q (.exit I9) φ σ
 |e,φ,σ=>Q e φ σ
def AW.block{id:Nat}{c:Code}(h:AW X N c (z8 id Q) φ σ):AW X N (.block id c) Q φ σ:=by
 intro s a m hh b k cs S hb hQ;refine .ctl hh rfl (λ_=>rB) λn h1=>?_
 refine h n a (m.rely h1 hh) (hh.rely h1) b (.inBlock id::k) cs S hb ?_;intro e i σ' s' a' q g f st;have d:=h1.stepW.trans st;cases e with
 |normal =>
  exact .ctl f rfl (λ_=>qy) λs2 h2=>hQ .normal i σ' s2 a' q (g.rely h2 f) (f.rely h2) (d.trans h2.stepW)
 |exit I9 =>
  simp only[z8] at q;split at q
  .rename_i e
   subst e;intro pre hp;refine .ctl f rfl (λ_=>zx (k':=k) (by rw[hp];simp[exitTo])) λs2 h2=>?_
   exact hQ .normal i σ' s2 a' q (g.rely h2 f) (f.rely h2) (d.trans h2.stepW)
  .rename_i j
   intro pre hp;have:=hQ (.exit I9) i σ' s' a' q g f d (pre++[.inBlock id]) (λk'=>by
    rw[j8,hp];have:(id==I9)=ae:=by grind
    simp[exitTo,this])
   grind
 |ret=>exact hQ _ _ _ _ _ q g f d
 |panic ch=>exact hQ _ _ _ _ _ q g f d
 |goto l=>exact hQ _ _ _ _ _ q g f d
 |outgrown=>exact hQ _ _ _ _ _ q g f d
def AW.loop{S:Type}{c:Code}(I:S->Prop)(fr:S->Fr)(st:S->List aV)(h:S->Nat)(x:S)(t:I x)(l:o8 φ (fr x))(m:st x=σ)
  (round:∀ x,I x->AW X N c (F2 (λp σ'=>∃ y,I y/\h y<h x/\o8 p (fr y)/\σ'=st y) Q) (fr x) (st x)):AW X N (.loop c) Q φ σ:=by
 intro s a w hh b k cs S hb hQ;subst m;refine wj (λn a' s'=>∃ y,I y/\cx N (st y) s' (fr y) a'/\aJ (st y) s'/\cD (st x) s (st y) s'/\h y=n) ?_ ?_ ⟨x,t,w.le l,hh,.refl _ _,rfl⟩
 .rintro n a' s' ⟨y,o,i,g,d,e⟩;exact⟨st y,g,λB h1=>⟨y,o,i.rely h1 g,g.rely h1,d.trans h1.stepW,e⟩⟩
 rintro n a' s' ⟨y,o,i,g,d,rfl⟩ v;refine round y o s' a' i g b (.inLoop c::k) cs S hb ?_;intro e u σ2 s2 a2 q r h2 oB;cases e with
 |normal =>
  obtain⟨z,A,j,f,rfl⟩:=q;exact v a2 s2 (h z) j ⟨z,A,r.le f,h2,d.trans oB,rfl⟩
 |_=>exact ends.cons (λ_ _=>rfl) (by simp) (hQ _ _ _ _ _ q r h2 (d.trans oB))
end rules
end
def dW.length{σ:List aV}{s:St}{vs:List ak}{cs:List A}(r:dW σ s vs cs):vs.length=cs.length:=by
 induction vs generalizing cs with
 |nil=>cases cs <;> simp_all [dW]
 |cons v vs ih =>
  cases cs with
  |nil=>simp[dW] at r
  |cons a cs=>simp[ih r.2]
def gw.cell{σ:List aV}{s:St}{v:ak}{a:A}(r:gw σ s v a):cZ v=ab:=by
 cases a with
 |c x=>exact Rd.cell r
 |ptr l off=>obtain⟨_,_,_,_,_,rfl⟩:=r;rfl
 |vec l k n es=>exact Rd.cell r.1
 |ref l=>obtain⟨_,_,_,_,h⟩:=r;exact h
 |bp l w=>obtain⟨_,h,_⟩:=r;exact h.cell
 |any=>exact r
def dW.get{σ:List aV}{s:St}{vs:List ak}{cs:List A}(r:dW σ s vs cs){j:Nat}{a:A}(h:cs[j]?=aa a):∃ v,vs[j]?=aa v/\gw σ s v a:=by
 induction vs generalizing cs j with
 |nil=>cases cs <;> simp_all [dW]
 |cons v vs ih =>
  cases cs with
  |nil=>grind
  |cons b cs =>
   cases j with
   |zero=>simp at h;subst h;exact⟨v,rfl,r.1⟩
   |succ j=>simp at h;obtain⟨u,c,d⟩:=ih r.2 h;grind
def dW.cell{σ:List aV}{s:St}{vs:List ak}{cs:List A}(r:dW σ s vs cs):∀ v∈vs,v.oneCell'=ab:=by
 induction vs generalizing cs with
 |nil=>simp
 |cons v vs ih =>
  cases cs with
  |nil=>simp[dW] at r
  |cons a cs =>
   intro u b;rcases fb.1 b with rfl|b
   .have:=gw.cell r.1;cases u <;> simp_all [cZ,Value.oneCell']
   .exact ih r.2 u b
def dW.append{σ:List aV}{s:St}{vs vF:List ak}{cs mc:List A}(r:dW σ s vs cs)(r':dW σ s vF mc):dW σ s (vs++vF) (cs++mc):=by
 induction vs generalizing cs with
 |nil=>cases cs <;> simp_all [dW]
 |cons v vs ih =>
  cases cs with
  |nil=>simp[dW] at r
  |cons a cs=>exact⟨r.1,ih r.2⟩
def dW.take{σ:List aV}{s:St}{vs:List ak}{cs:List A}(r:dW σ s vs cs)(k:Nat):dW σ s (vs.take k) (cs.take k):=by
 induction vs generalizing cs k with
 |nil=>cases cs <;> simp_all [dW]
 |cons v vs ih =>
  cases cs with
  |nil=>simp[dW] at r
  |cons a cs=>cases k with
   |zero=>simp[dW]
   |succ k=>exact⟨r.1,ih r.2 k⟩
def dW.drop{σ:List aV}{s:St}{vs:List ak}{cs:List A}(r:dW σ s vs cs)(k:Nat):dW σ s (vs.drop k) (cs.drop k):=by
 induction vs generalizing cs k with
 |nil=>cases cs <;> simp_all [dW]
 |cons v vs ih =>
  cases cs with
  |nil=>simp[dW] at r
  |cons a cs=>cases k with
   |zero=>exact r
   |succ k=>simpa using ih r.2 k
def aJ.block{σ:List aV}{s:St}(h:aJ σ s){b o:Nat}{v:ak}(a:s.M b o=aa v):b<s.w.heap.size:=by
 have:=h.mem b o v a;rcases cJ b s.w.heap.size with h|h
 .exact h
 .simp[a9,zo h] at this
def aJ.same{σ:List aV}{s:St}(h:aJ σ s){w':az}(e:w'.heap=s.w.heap):aJ σ { s with w:=w' }:=by
 have q:∀ a,w'.cell? a=s.w.cell? a:=λa=>by simp[a9,e]
 have i:∀ v a,gw σ s v a->gw σ { s with w:=w' } v a:=λv a r=>by cases a <;> exact r
 have f:∀ vs al,dW σ s vs al->dW σ { s with w:=w' } vs al:=by
  intro vs
  induction vs with
  |nil=>intro al r;cases al <;> simp_all [dW]
  |cons v vs ih=>intro al r;cases al with
   |nil=>simp[dW] at r
   |cons a al=>exact⟨i _ _ r.1,ih _ r.2⟩
 refine⟨λb o v z=>by rw[q];exact h.mem b o v z,h.len,?_,h.gg,λL f b hb=>by show b<w'.heap.size;rw[e];exact h.lt L f b hb,λb hb=>⟨by show b<w'.heap.size;rw[e];exact(h.own b hb).1,(h.own b hb).2⟩⟩
 intro l B L y g;have:=h.box l B L y g;cases B with
 |cells E cs =>
  obtain⟨b,vs,h1,h2,c,d⟩:=this;exact⟨b,vs,h1,by grind,f _ _ c,d⟩
 |vec E k n es =>
  obtain⟨h1,h2⟩:=this;refine⟨h1,?_⟩
  grind
 |dD H =>
  obtain⟨ch,h1,h2,c,d⟩:=this;exact⟨ch,h1,λb o hb=>by grind,c,d⟩
 |dead=>trivial
 |loop N φ r =>
  obtain⟨l,tmps,fn,j,h1,h2,c,d,x⟩:=this;exact⟨l,tmps,fn,j,h1,by grind,c,λt=>dc.mono (s:=s) (σ':=σ) (s':={ s with w:=w' }) ⟨λ_ _ _ h=>h,λ_ B L h p=>⟨B,L,h,p,.refl _ _⟩⟩ h.len (d t),x⟩
 |qV =>
  obtain⟨r,h1,h2,c⟩:=this;exact⟨r,h1,by grind,c⟩
 |buf E k n es =>
  rcases this with h1|⟨b,m,vs,u,h1,h2,c⟩
  .exact .inl h1
  .exact .inr ⟨b,m,vs,u,h1,by grind,c⟩
def Step.same{σ:List aV}{s:St}{w':az}(f:w'.heap=s.w.heap)(e:w'.os=s.w.os)(d:w'.tape=s.w.tape)(a:w'.output=s.w.output):Step σ s σ { s with w:=w' } :=
 ⟨by grind,λb _ _=>by grind,λ_ _ _ h=>h,λ_ _ _ _=>rfl,λL h b hb=>.inr ⟨L,h,hb⟩,λ_ B L h c=>⟨B,L,h,c,.refl _ _⟩,e,d,a,rfl⟩
def eP.carry{σ σ':List aV}{s s':St}{B:aV}{L:Loc}(d:Ext σ s σ' s')(hl:s.β.length=σ.length)(hb:∀ b∈L.bs,s'.w.heap[b]?=s.w.heap[b]?/\∀ o,s'.M b o=s.M b o)(h:eP σ s B L):eP σ' s' B L:=by
 cases B with
 |cells E cs =>
  obtain⟨b,vs,h1,h2,a,c⟩:=h;subst h1;obtain⟨k1,e⟩:=hb b (by simp)
  exact⟨b,vs,rfl,by grind,a.mono d hl,λo=>by grind⟩
 |vec E k n es =>
  obtain⟨h1,h2⟩:=h;refine⟨h1.mono d.mem,?_⟩;rcases h2 with⟨h2,a⟩|⟨b,cap,vs,h2,a,c,f⟩
  .exact .inl ⟨h2,a.mono d.mem⟩
  grind
 |dD H =>
  obtain⟨ch,h1,h2,a,c⟩:=h;refine⟨ch,h1,λb o g=>?_,a,λb i o=>by grind⟩
  grind
 |dead=>trivial
 |loop N φ r =>
  obtain⟨l,tmps,fn,j,h1,h2,a,c,f⟩:=h;subst h1;obtain⟨k1,e⟩:=hb l (by simp)
  exact⟨l,tmps,fn,j,rfl,by grind,a,λt=>(c t).mono d hl,λo=>by grind⟩
 |qV =>
  obtain⟨r,h1,h2,a⟩:=h;subst h1;obtain⟨k1,e⟩:=hb r (by simp)
  exact⟨r,rfl,by grind,λo=>by grind⟩
 |buf E k n es =>
  rcases h with h1|⟨b,m,vs,q,h1,h2,a,c,f,p,u⟩
  .exact .inl h1
  .subst h1;obtain⟨k1,e⟩:=hb b (by simp)
   exact .inr ⟨b,m,vs,q,rfl,by grind,a,c,f,p.mono d.mem,λo=>by grind⟩
def St.fM(s:St)(E:ar)(vs:List ak):St :=
 { β:=s.β++[⟨.pointer (aa ⟨s.w.heap.size,0,af⟩),[s.w.heap.size]⟩],M:=s.M,w:=s.w.alloc (.cells vs.toArray E),own:=s.own }
def cK(w:az)(o:Obj){b:Nat}(h:b<w.heap.size):(w.alloc o).heap[b]?=w.heap[b]?:=by
 show (w.heap.push o)[b]?=w.heap[b]?
 grind
def dx(w:az)(o:Obj):(w.alloc o).heap[w.heap.size]?=aa o:=by
 show (w.heap.push o)[w.heap.size]?=aa o;simp
def Step.fM{σ:List aV}(s:St)(E:ar)(vs:List ak)(B:aV):Step σ s (σ++[B]) (s.fM E vs):=by
 refine⟨by simp[St.fM],?_,λ_ _ _ h=>h,λ_ _ _ _=>rfl,?_,?_,rfl,rfl,rfl,rfl⟩
 .intro b hb _;exact cK _ _ hb
 .intro L c b hb;simp only[St.fM,gB,kY] at c
  grind
 .intro l B' L a c;have hl:l<s.β.length:=(cr.1 c).1;have d:l<σ.length:=(cr.1 a).1;exact⟨B',L,by grind,by simp only[St.fM];grind,.refl _ _⟩
def aJ.fM{σ:List aV}{s:St}(h:aJ σ s){E:ar}{vs:List ak}{cs:List A}(r:dW σ s vs cs):aJ (σ++[.cells E cs]) (s.fM E vs):=by
 have st:=Step.fM (σ:=σ) s E vs (.cells E cs);have i:(s.fM E vs).w.heap.size=s.w.heap.size+1:=by simp[St.fM]
 refine⟨?_,by simp[St.fM,h.len],?_,?_,?_,?_⟩
 .intro b o v f;have hb:=h.block f;have:=h.mem b o v f;rw[<-this];simp only[a9,St.fM]
  grind [cK]
 .intro l B L g a;rcases Nat.lt_trichotomy l σ.length with d|rfl|j
  .rw[jD d] at g;simp only[St.fM] at a;rw[jD (by rw[h.len];exact d)] at a
   refine(h.box l B L g a).carry st.ext h.len λb hb=>⟨?_,λ_=>rfl⟩
   have:=h.lt L (bU a) b hb;exact cK _ _ this
  .simp at g;subst g;simp only[St.fM] at a;rw[gk (by rw[h.len];grind)] at a
   simp[h.len] at a;subst a;refine⟨s.w.heap.size,vs,rfl,dx _ _,r.mono st.ext h.len,λo=>?_⟩
   cases f:s.M s.w.heap.size o with
   |none=>exact f
   |some v=>have:=h.block f;omega
  grind
 .intro l l' L L' a e b hb oO;simp only[St.fM] at a e;have c:∀ l L,(s.β++[⟨.pointer (aa ⟨s.w.heap.size,0,af⟩),[s.w.heap.size]⟩])[l]?=aa L->(s.β[l]?=aa L)∨(l=s.β.length/\L.bs=[s.w.heap.size]):=by
   grind
  rcases c l L a with h1|⟨rfl,h1⟩ <;> rcases c l' L' e with h2|⟨rfl,h2⟩
  .exact h.gg l l' L L' h1 h2 b hb oO
  .have:=h.lt L (bU h1) b hb;grind
  .have:=h.lt L' (bU h2) b oO;grind
  .rfl
 .intro L a b hb;rw[i];simp only[St.fM,gB,kY] at a;rcases a with a|rfl
  .have:=h.lt L a b hb;omega
  grind
 .intro b hb;obtain⟨m,k⟩:=h.own b hb;refine⟨by grind,λL a=>?_⟩
  simp only[St.fM,gB,kY] at a
  grind
def aJ.grow{σ:List aV}{s:St}(h:aJ σ s){M':Mem}{w':az}(a:s.w.heap.size<=w'.heap.size)(f:∀ b,b<s.w.heap.size->w'.heap[b]?=s.w.heap[b]?)
  (e:∀ b,b<s.w.heap.size->∀ o,M' b o=s.M b o) (n:∀ b,s.w.heap.size<=b->∀ o v,M' b o=aa v->w'.cell? ⟨b,o,af⟩=aa v)
  (m:w'.os=s.w.os) (k:w'.tape=s.w.tape) (i:w'.output=s.w.output):aJ σ ⟨s.β,M',w',s.own⟩/\Step σ s σ ⟨s.β,M',w',s.own⟩:=by
 have st:Step σ s σ ⟨s.β,M',w',s.own⟩ :=
  ⟨a,λb hb _=>f b hb,λb o v d=>by rw[<-d];exact e b (h.block d) o,λb hb _ o=>e b hb o,λL h b hb=>.inr ⟨L,h,hb⟩,λ_ B L h g=>⟨B,L,h,g,.refl _ _⟩,m,k,i,rfl⟩
 refine⟨⟨?_,h.len,?_,h.gg,λL c b hb=>cG (h.lt L c b hb) a,λb hb=>⟨cG (h.own b hb).1 a,(h.own b hb).2⟩⟩,st⟩
 .intro b o v d;rcases cJ b s.w.heap.size with hb|hb
  .have hm':s.M b o=aa v:=by grind
   rw[<-h.mem b o v hm'];simp only[a9]
   grind
  grind
 .intro l B L j c;exact(h.box l B L j c).carry st.ext h.len λb hb=>⟨f b (h.lt L (bU c) b hb),λo=>e b (h.lt L (bU c) b hb) o⟩
def aJ.write{σ:List aV}{s:St}(h:aJ σ s){l b:Nat}{L:Loc}{E:ar}{cs mc:List A}{a:List ak}(i:σ[l]?=aa (.cells E cs))(c:s.β[l]?=aa L)(f:L.bs=[b])
  (r:dW σ s a mc):aJ (σ.set l (.cells E mc)) { s with w:=s.w.setRow b a.toArray }/\Step σ s (σ.set l (.cells E mc)) { s with w:=s.w.setRow b a.toArray }:=by
 have d:l<σ.length:=(cr.1 i).1;obtain⟨j,vs,h1,h2,p,m⟩:=h.box l _ L i c;subst h1;simp at f;subst f;have st:Step σ s (σ.set l (.cells E mc)) { s with w:=s.w.setRow j a.toArray }:=by
  refine⟨by simp,?_,λ_ _ _ h=>h,λ_ _ _ _=>rfl,λL h b hb=>.inr ⟨L,h,hb⟩,?_,rfl,rfl,rfl,rfl⟩
  .intro b hb hn;exact setRow_other _ _ _ _ (λe=>hn _ (bU c) (by simp[e]))
  .intro l' B L' nD gI
   by_cases e:l=l'
   .subst e;rw[i] at nD;cases nD;exact⟨_,L',by rw[fI d],gI,by simp[ij]⟩
   .exact⟨B,L',by grind,gI,.refl _ _⟩
 refine⟨⟨?_,by simp[h.len],?_,h.gg,λL c b hb=>by simpa using h.lt L c b hb,λb hb=>by simpa using h.own b hb⟩,st⟩
 .intro b o v k;have n:b≠j:=λe=>by grind
  rw[<-h.mem b o v k];simp only[a9]
  grind [setRow_other]
 .intro l' B L' nD gI
  by_cases e:l=l'
  .subst e;rw[fI d] at nD;cases nD;rw[c] at gI;cases gI;exact⟨j,a,rfl,setRow_heap _ _ _ _ _ _ h2,r.mono st.ext h.len,m⟩
  .rw[iL e] at nD;refine(h.box l' B L' nD gI).carry st.ext h.len λb hb=>⟨setRow_other _ _ _ _ λg=>?_,λ_=>rfl⟩
   subst g;exact e (h.gg l l' _ L' c gI b (by simp) hb)
section
open Go.Conc (G)
def Rs(σ:List aV)(s:St):Next->D->Prop
 |.value v,x=>dc σ s v x
 |.skip,x=>x=.any
 |_,_=>False
def bH(P:aq)(o:aw)(b:an->D)(σ:List aV)(x:D)(σ':List aV):Prop :=
 ∀ s ρ,aJ σ s->(∀ y,dc σ s (ρ y) (b y))->∃ a s',(ay ρ o).run P s.w=.ok a s'.w/\Rs σ' s' a x/\aJ σ' s'/\Step σ s σ' s'/\eZ s ((ay ρ o).events P s.w #[])
def bH.nT{P:aq}{o:aw}{a:an->D}{σ:List aV}{x:D}
  (h:∀ s ρ,aJ σ s->(∀ y,dc σ s (ρ y) (a y))->∃ v,(ay ρ o).run P s.w=.ok (.value v) s.w/\dc σ s v x/\eZ s ((ay ρ o).events P s.w #[])):bH P o a σ x σ :=
 λs ρ hh hr=>let ⟨v,h1,h2,b⟩:=h s ρ hh hr;⟨.value v,s,h1,h2,hh,.refl _ _,b⟩
def bH.quiet{P:aq}{o:aw}{a:an->D}{σ:List aV}{x:D}
  (h:∀ s ρ,aJ σ s->(∀ y,dc σ s (ρ y) (a y))->∃ v,(ay ρ o).run P s.w=.ok (.value v) s.w/\dc σ s v x/\(ay ρ o).events P s.w #[]=#[]):bH P o a σ x σ :=
 λs ρ hh hr=>let ⟨v,h1,h2,b⟩:=h s ρ hh hr;⟨.value v,s,h1,h2,hh,.refl _ _,by rw[b];exact .nil⟩
def N8:IntKind->Int->Bool
 |.i64,.ofNat m=>bo m 9223372036854775807
 |.i64,.negSucc m=>bo m 9223372036854775807
 |.u8,.ofNat m=>bo m 255
 |.i32,.ofNat m=>bo m 2147483647
 |.i32,.negSucc m=>bo m 2147483647
 |.u64,.ofNat m=>bo m 18446744073709551615
 |.u32,.ofNat m=>bo m 4294967295
 |_,_=>ae
def Ru{k:IntKind}{n:Int}(h:N8 k n=ab):bx k n:=by
 cases k <;> cases n <;> simp only[N8,bx] at h ⊢ <;> first|(cases h;done)|(have:=db h;grind)
def qi:ak->Option C
 |.int k n=>cond (N8 k n) (aa (.int k n)) af
 |.bool b=>aa (.bool b)
 |.string s=>cond (bo s.size 9223372036854775807) (aa (.str s.data.toList)) af
 |.slice af 0 0=>aa (.sl ab 0 0 (λ_=>[]))
 |.pointer af=>aa .km
 |.nilIface=>aa .nW
 |.nilFunc=>aa .zA
 |.map m=>aa (.val (.map m))
 |_=>af
def Rd.jJ{M:Mem}{t:Bool}{k:Nat}{a:Option Addr}{es:Nat->List C}:Rd M (.slice a 0 0) (.sl t k 0 es) :=
 Rd.sl 0 0 (λ_ _=>aj) (bg _) (by omega) (λ_=>rfl) (by omega) (by omega) (by omega) (by omega)
def Rd.qi{M:Mem}{v:ak}{c:C}(h:qi v=aa c):Rd M v c:=by
 unfold AM.qi at h;split at h <;> first
  |(rename_i k n;cases hb:N8 k n <;> rw[hb] at h <;> cases h;exact .int (Ru hb))
  |(rename_i s;cases hb:bo s.size 9223372036854775807 <;> rw[hb] at h <;> cases h;exact .str rfl (by rw[jg];exact db hb))
  |(cases h;done)
  |(cases h;exact .bool)
  |(cases h;exact Rd.jJ)
  |(cases h;exact .km)
  |(cases h;exact .nW)
  |(cases h;exact .zA)
  |(cases h;exact .val rfl)
def dOf:Option C->D
 |some c=>.e (.one (.c c))
 |none=>.any
def b5(φ:Fr):an->D
 |.tmp t=>look φ t
 |.const v=>dOf (qi v)
 |.func f=>.e (.one (.c (.fn (.func f) [] [])))
 |.global _=>.any
def dX{N:Nat}{σ:List aV}{s:St}{φ:Fr}{a:Act}(f:cx N σ s φ a)(y:an):dc σ s (a.eval y) (b5 φ y):=by
 cases y with
 |tmp t=>exact f.slot t
 |const v =>
  simp only[b5,Act.eval];cases h:qi v with
  |none=>trivial
  |some c=>exact Rd.qi h
 |func g =>
  exact Rd.fn [] [] rfl rfl (λ_=>aj) (λ_=>aj) (by simp) (by simp) (by simp) (by simp)
 |global g=>trivial
def lC:Option Nat->D->Fr->Fr
 |some t,x,φ=>(t,x)::φ
 |none,_,φ=>φ
def zV{P:aq}{X:Cx P}{S:au->St->Prop}{b:aR}{k:List Item}{cs:List aR}{a:Act}{s:St}{ops:Array aw}{i:Nat}{rest:List Nat}{o:aw}(l:b.kind≠.early)(p:ops[i]?=aa o)(m:bj o (yielded ops a.tmps)=ab)
  (h:∀ c,cj s c->∃ d s' v,(ay a.eval o).run P c.w=.ok d s'.w/\(d=.value v∨(d=.skip/\v=aj))/\qx c s' ((ay a.eval o).events P c.w #[])/\ft X S (G (b.aT (a.put o.dst v) (.inRegion ops rest::k)) cs) s') :
  ft X S (G (b.aT a (.inRegion ops (i::rest)::k)) cs) s:=by
 refine .next rfl λc g=>?_
 obtain⟨d,s',v,n,f,e,j⟩:=h c (X.ik g);refine⟨_,s',Go.Conc.listed P b.fn a o c.w,?_,⟨e.1,e.2.seen⟩,j⟩
 grind [Jg,FC]
def bH.move{P:aq}{o:aw}{a:an->D}{σ:List aV}{x:an}(h:o.op=.move x):bH P o a σ (a x) σ :=
 .quiet λs ρ _ b=>⟨ρ x,by simp[ay,h,pure],b x,by simp[ay,h]⟩
def bH.assign{P:aq}{o:aw}{a:an->D}{σ:List aV}{x:an}(h:o.op=.assign x):bH P o a σ (a x) σ :=
 .quiet λs ρ _ b=>⟨ρ x,by simp[ay,h,pure],b x,by simp[ay,h]⟩
def fy{σ:List aV}{s:St}{v:ak}{c:C}(h:dc σ s v (.e (.one (.c c)))):Rd s.M v c:=h
def bH.pick{P:aq}{o:aw}{f:an->D}{σ:List aV}{c a b:an}(h:o.op=.pick c a b){t:Bool}(i:f c=.e (.one (.c (.bool t)))) :
  bH P o f σ (match t with|true=>f a|false=>f b) σ:=by
 refine .quiet λs ρ _ g=>?_
 have h1:=g c;rw[i] at h1;have h2:=fy h1;generalize d:ρ c=v at h2;cases h2;cases t
 .exact⟨ρ b,by simp[ay,h,d,asBool],g b,by simp[ay,h,d,asBool]⟩
 .exact⟨ρ a,by simp[ay,h,d,asBool],g a,by simp[ay,h,d,asBool]⟩
def Kj(op:BinOp)(k:IntKind) (x y:Int):Option (C×List Prop) :=
 match op with
 |.add=>aa (.int k (x+y),[bx k (x+y)])
 |.sub=>aa (.int k (x-y),[bx k (x-y)])
 |.mul=>aa (.int k (x*y),[bx k (x*y)])
 |.quo=>aa (.int k (x / y),[0<=x,0<y])
 |.rem=>aa (.int k (x % y),[0<=x,0<y])
 |.eql=>aa (.bool (x==y),[])
 |.neq=>aa (.bool (x != y),[])
 |.lss=>aa (.bool (decide (x<y)),[])
 |.leq=>aa (.bool (decide (x<=y)),[])
 |.gtr=>aa (.bool (decide (y<x)),[])
 |.geq=>aa (.bool (decide (y<=x)),[])
 |_=>af
def Kk(op:BinOp)(x y:List UInt8):Option (C×List Prop) :=
 match op with
 |.add=>aa (.str (x++y),[x.length+y.length<=9223372036854775807])
 |.eql=>aa (.bool (x==y),[])
 |.neq=>aa (.bool (!(x==y)),[])
 |.lss=>aa (.bool (bl x y),[])
 |.leq=>aa (.bool (bl x y||x==y),[])
 |.gtr=>aa (.bool (!(bl x y||x==y)),[])
 |.geq=>aa (.bool (!(bl x y)),[])
 |_=>af
def ag:List Prop->Prop
 |[]=>True
 |[p]=>p
 |p::q::r=>p/\ag (q::r)
def ag.cons{p:Prop}{r:List Prop}:ag (p::r)↔p/\ag r:=by cases r <;> simp[ag]
def mq{k:IntKind}{n:Int}(h:bx k n):k.wrap n=n:=by
 cases k <;> simp only[bx,IntKind.wrap,IntKind.bits,IntKind.signed] at h ⊢ <;> simp <;> (try split) <;> omega
def Kl{P:aq}{w:az}{op:BinOp}{k:IntKind}{x y:Int}{c:C}{obs:List Prop}(h:Kj op k x y=aa (c,obs))(a:ag obs)(j:bx k x)(l:bx k y)(t:ar)(M:Mem) :
  ∃ v,(binOp op t (.int k x) (.int k y)).run P w=.ok v w/\Rd M v c:=by
 cases op <;> simp only[Kj,di,k8,reduceCtorEq] at h
 case add=>obtain⟨rfl,rfl⟩:=h;exact⟨_,by simp only[binOp,cW,fu,cd,Op.intArith,mq a];rfl,.int a⟩
 case sub=>obtain⟨rfl,rfl⟩:=h;exact⟨_,by simp only[binOp,cW,fu,cd,Op.intArith,mq a];rfl,.int a⟩
 case mul=>obtain⟨rfl,rfl⟩:=h;exact⟨_,by simp only[binOp,cW,fu,cd,Op.intArith,mq a];rfl,.int a⟩
 case quo =>
  obtain⟨rfl,rfl⟩:=h;obtain⟨d,b⟩:=a
  replace b:0<y:=b
  have e:x.tdiv y=x / y:=Int.tdiv_eq_ediv_of_nonneg d;have f:bx k (x / y):=by
   have g:0<=x / y:=Int.ediv_nonneg d (by omega)
   have i:x / y<=x:=Int.ediv_le_self _ d;cases k <;> simp only[bx] at j ⊢ <;> omega
  exact⟨_,by simp only[binOp,cW,fu,cd,Op.intDiv,show y≠0 by omega,e,mq f];rfl,.int f⟩
 case rem =>
  obtain⟨rfl,rfl⟩:=h;obtain⟨d,b⟩:=a
  replace b:0<y:=b
  have e:x.tmod y=x % y:=Int.tmod_eq_emod_of_nonneg d;have f:bx k (x % y):=by
   have g:0<=x % y:=rn _ (by omega)
   have i:x % y<y:=ri _ b;cases k <;> simp only[bx] at l ⊢ <;> omega
  exact⟨_,by simp only[binOp,cW,fu,cd,Op.intDiv,show y≠0 by omega,e];rfl,.int f⟩
 all_goals (obtain⟨rfl,rfl⟩:=h;exact⟨_,by simp only[binOp,cW,fu,cd,Op.intCmp,gt_iff_lt,ge_iff_le];rfl,.bool⟩)
def Km{P:aq}{w:az}{op:BinOp}{x y:ByteArray}{a b:List UInt8}{c:C}{obs:List Prop}(h:Kk op a b=aa (c,obs))(d:ag obs)(f:x.data.toList=a)(i:y.data.toList=b)(t:ar)(M:Mem) :
  ∃ v,(binOp op t (.string x) (.string y)).run P w=.ok v w/\Rd M v c:=by
 subst f i;cases op <;> simp only[Kk,di,k8,reduceCtorEq] at h
 case add =>
  obtain⟨rfl,rfl⟩:=h;have g:¬((x.size+y.size:Nat):Int)>IntKind.i64.max:=by
   have l:x.data.toList.length=x.size:=jg;have k:y.data.toList.length=y.size:=jg;have e:IntKind.i64.max=9223372036854775807:=rfl;have j:x.data.toList.length+y.data.toList.length<=9223372036854775807:=d
   grind
  refine⟨_,by simp only[binOp,Op.stringOp,g,cd];rfl,.str (by simp) (by simpa[ag] using d)⟩
 all_goals (obtain⟨rfl,rfl⟩:=h;exact⟨_,by simp only[binOp,Op.stringOp,ByteArray.toList_eq];rfl,.bool⟩)
def N9{P:aq}{w:az}{op:BinOp}{k:IntKind}{x y:Int}{c:C}{obs:List Prop}(h:Kj op k x y=aa (c,obs))(b:ag obs)(t:ar) :
  (binOp op t (.int k x) (.int k y)).events P w #[]=#[]:=by
 cases op <;> simp only[Kj,di,k8,reduceCtorEq] at h
 case quo =>
  obtain⟨rfl,rfl⟩:=h;obtain⟨d,a⟩:=b
  replace a:0<y:=a
  simp only[binOp,cW,fu,cd,Op.intDiv,show y≠0 by omega];rfl
 case rem =>
  obtain⟨rfl,rfl⟩:=h;obtain⟨d,a⟩:=b
  replace a:0<y:=a
  simp only[binOp,cW,fu,cd,Op.intDiv,show y≠0 by omega];rfl
 all_goals (simp only[binOp,cW,fu,cd,Op.intCmp,Op.intArith];rfl)
def Oa{P:aq}{w:az}{op:BinOp}{x y:ByteArray}{a b:List UInt8}{c:C}{obs:List Prop}(h:Kk op a b=aa (c,obs))(g:ag obs)(d:x.data.toList=a)(i:y.data.toList=b)(t:ar) :
  (binOp op t (.string x) (.string y)).events P w #[]=#[]:=by
 subst d i;cases op <;> simp only[Kk,di,k8,reduceCtorEq] at h
 case add =>
  obtain⟨rfl,rfl⟩:=h;have f:¬((x.size+y.size:Nat):Int)>IntKind.i64.max:=by
   have l:x.data.toList.length=x.size:=jg;have k:y.data.toList.length=y.size:=jg;have e:IntKind.i64.max=9223372036854775807:=rfl;have j:x.data.toList.length+y.data.toList.length<=9223372036854775807:=g
   grind
  simp only[binOp,Op.stringOp,f,cd];rfl
 all_goals (simp only[binOp,Op.stringOp];rfl)
def Hh:IntKind->IntKind->Bool
 |.i8,.i8|.i16,.i16|.i32,.i32|.i64,.i64|.u8,.u8|.u16,.u16|.u32,.u32|.u64,.u64=>ab
 |_,_=>ae
def Ab{k k':IntKind}(h:Hh k k'=ab):k=k':=by cases k <;> cases k' <;> first|rfl|(cases h;done)
def NJ(op:BinOp):C->C->Option (C×List Prop)
 |.int k x,.int k' y=>cond (Hh k k') (Kj op k x y) af
 |.str a,.str b=>Kk op a b
 |_,_=>af
def gz{P:aq}(op:BinOp)(t:ar)(x y:an)(k k':IntKind) (n a:Int)(u:az):(eqGuard op t x y (.int k n) (.int k' a)).run P u=.ok () u:=by cases op <;> rfl
def tX{P:aq}(op:BinOp)(t:ar)(x y:an)(a b:ByteArray)(u:az):(eqGuard op t x y (.string a) (.string b)).run P u=.ok () u:=by cases op <;> rfl
def jK{P:aq}(op:BinOp)(t:ar)(x y:an)(k k':IntKind) (n a:Int)(u:az)(es:Array Event):(eqGuard op t x y (.int k n) (.int k' a)).events P u es=es:=by cases op <;> rfl
def wv{P:aq}(op:BinOp)(t:ar)(x y:an)(a b:ByteArray)(u:az)(es:Array Event):(eqGuard op t x y (.string a) (.string b)).events P u es=es:=by cases op <;> rfl
def bH.binOp{P:aq}{o:aw}{p:an->D}{σ:List aV}{op:BinOp}{t ty:ar}{x y:an}(h:o.op=.binOp op t x y ty){a b c:C}{obs:List Prop}
  (z:p x=.e (.one (.c a))) (hb:p y=.e (.one (.c b))) (g:NJ op a b=aa (c,obs)) (i:ag obs):bH P o p σ (.e (.one (.c c))) σ:=by
 refine .quiet λs ρ _ r=>?_
 have h1:=r x;have h2:=r y;rw[z] at h1;rw[hb] at h2
 replace h1:=fy h1
 replace h2:=fy h2
 generalize f:ρ x=vx at h1;generalize d:ρ y=vy at h2;cases h1 <;> cases h2 <;> simp only[NJ,reduceCtorEq] at g
 case int.int k n hn k' n' WX =>
  cases u:Hh k k' <;> simp only[u,cond,reduceCtorEq] at g
  cases Ab u;obtain⟨v,j,m⟩:=Kl (P:=P) (w:=s.w) g i hn WX t s.M;exact⟨v,by simp only[ay,h,bY,f,d,gz,b9,j,cY],m,by simp[ay,h,f,d,gz,jK,N9 g i]⟩
 case str.str =>
  rename_i A l q hl y' l' hy Bl
  obtain⟨v,j,m⟩:=Km (P:=P) (w:=s.w) g i q hy t s.M;exact⟨v,by simp only[ay,h,bY,f,d,tX,b9,j,cY],m,by simp[ay,h,f,d,tX,wv,Oa g i q hy]⟩
def V6(op:UnOp):C->Option C
 |.bool b=>match op with|.not=>aa (.bool (!b))|_=>af
 |_=>af
def bH.unOp{P:aq}{o:aw}{f:an->D}{σ:List aV}{op:UnOp}{t:ar}{x:an}(h:o.op=.unOp op t x){a c:C}
  (i:f x=.e (.one (.c a))) (d:V6 op a=aa c):bH P o f σ (.e (.one (.c c))) σ:=by
 refine .quiet λs ρ _ g=>?_
 have h1:=g x;rw[i] at h1
 replace h1:=fy h1
 generalize b:ρ x=vx at h1;cases h1 <;> simp only[V6,reduceCtorEq] at d
 cases op <;> simp only[reduceCtorEq,di] at d
 subst d;exact⟨_,by simp only[ay,h,b,Op.unary,bY,cY,b9],Rd.bool,by simp[ay,h,b,Op.unary]⟩
def gJ.get{σ:List aV}{s:St}{vs:List ak}{xs:List E1}(r:gJ σ s vs xs){j:Nat}{x:E1}(h:xs[j]?=aa x):∃ v,vs[j]?=aa v/\mY σ s v x:=by
 induction vs generalizing xs j with
 |nil=>cases xs <;> simp_all [gJ]
 |cons v vs ih =>
  cases xs with
  |nil=>grind
  |cons b cs =>
   cases j with
   |zero=>simp at h;subst h;exact⟨v,rfl,r.1⟩
   |succ j=>simp at h;obtain⟨u,a,c⟩:=ih r.2 h;grind
def bH.extract{P:aq}{o:aw}{c:an->D}{σ:List aV}{x:an}{j:Nat}(h:o.op=.extract x j){xs:List E1}{e:E1}
  (k:c x=.eK xs) (i:xs[j]?=aa e):bH P o c σ (.e e) σ:=by
 refine .quiet λs ρ _ f=>?_
 have h1:=f x;rw[k] at h1;obtain⟨vs,g,d⟩:=h1;obtain⟨v,b,a⟩:=d.get i;refine⟨v,?_,a,?_⟩ <;> simp[ay,h,g,Instr.extract,b]
end
def zw (b o:Nat):Event:=⟨.cell ⟨b,o,af⟩,ae,ae⟩
def GY (b o:Nat):Event:=⟨.cell ⟨b,o,af⟩,ab,ae⟩
def dj (b o n:Nat):(⟨b,o,af⟩:Addr).add n=⟨b,o+n,af⟩:=by
  unfold Addr.add;split <;> simp_all
section
variable {P:aq}
def zz {w:az} {b o:Nat} {v:ak} (h:w.cell? ⟨b,o,af⟩=aa v) (es:Array Event):(load ⟨b,o,af⟩).events P w es=es.push (zw b o):=by
  rw[events_load,h];rfl
def nh {w:az} {b o:Nat}:∀ (n i:Nat) (acc:Array ak) (es:Array Event),(∀ j,j<n->∃ v,w.cell? ⟨b,o+(i+j),af⟩=aa v) ->
    ∀ e∈(loadCellsFrom ⟨b,o,af⟩ i n acc).events P w es,e∈es∨∃ j,j<i+n/\e=zw b (o+j)
  | 0,i,acc,es,_=>λe h=>.inl (by simpa[loadCellsFrom] using h)
  | n+1,i,acc,es,d=>λe h=>by
    obtain⟨v,a⟩:=d 0 (by omega)
    simp only[iO] at a;simp only[loadCellsFrom,aO,dj,run_load,a,aU,zz a] at h;rcases nh n (i+1) (acc.push v) _ (λj c=>by grind) e h with f|⟨j,c,rfl⟩
    · grind
    grind
def rA {w:az} {b o n:Nat} {es:Array Event} (h:∀ j,j<n->∃ v,w.cell? ⟨b,o+j,af⟩=aa v):∀ e∈(loadCells ⟨b,o,af⟩ n).events P w es,e∈es∨∃ j,j<n/\e=zw b (o+j):=by
  intro e a;have:=nh (P:=P) n 0 #[] es (by grind) e a
  grind
def eE {b o:Nat} {t:ar}:∀ (vs:List ak) (i:Nat) (a:Array ak) (w:az) (es:Array Event),w.heap[b]?=aa (.cells a t (0,0))->o+i+vs.length<=a.size->(∀ v∈vs,v.oneCell'=ab) ->
    ∀ e∈(storeCells ⟨b,o,af⟩ vs i).events P w es,e∈es∨∃ j,i<=j/\j<i+vs.length/\e=GY b (o+j)
  | [],_,_,_,_,_,_,_=>λe h=>.inl (by simpa[storeCells] using h)
  | v::rest,i,a,w,es,g,r,l=>λe h=>by
    have hi:o+i<a.size:=by grind
    have c:w.cell? ⟨b,o+i,af⟩=aa a[o+i]:=by simp[a9,g,hi]
    have d:w.frozen? ⟨b,o+i,af⟩=ae:=by simp[World.frozen?,g]
    have k:(store (⟨b,o+i,af⟩:Addr) v).run P w=.ok () (w.setRow b (a.setIfInBounds (o+i) v)):=by
      grind [run_store,setCell_eq_setRow]
    have f:(store (⟨b,o+i,af⟩:Addr) v).events P w es=es.push (GY b (o+i)):=by
      rw[events_store P w es _ v _ (l v (by simp)),c]
      simp only[d,jE,cd];rfl
    simp only[storeCells,aO,dj,k,f,aU] at h;rcases eE rest (i+1) (a.setIfInBounds (o+i) v) _ _ (setRow_heap _ _ _ _ _ _ g) (by grind) (λu p=>l u (by grind)) e h with m|⟨j,q,n,rfl⟩
    · grind
    grind
def cO {α:Type} (P:aq) (m:Sem α):Prop:=∀ w es,m.events P w es=es
def cO.bind {α β:Type} {m:Sem α} {f:α->Sem β} (h:cO P m) (k:∀ a,cO P (f a)):cO P (m >>= f):=by
  intro w es;rw[aO,h w es];cases m.run P w with
  | ok a w'=>exact k a w' es
  | halt x w'=>rfl
def cO.pure {α:Type} {a:α}:cO P (Pure.pure a:Sem α):=λ_ _=>rfl
def cO.stuck {α:Type} {a:String}:cO P (Go.stuck a:Sem α):=λ_ _=>rfl
def cO.unsupported {α:Type} {u:Unsupported}:cO P (Go.unsupported u:Sem α):=λ_ _=>rfl
def cO.sizeOf {t:ar}:cO P (sizeOf t):=λ_ _=>events_sizeOf ..
def cO.underlying {t:ar}:cO P (underlying t):=λ_ _=>events_underlying ..
def cO.zeroValue {t:ar}:cO P (zeroValue t):=λ_ _=>events_zeroValue ..
def cO.newObj {o:Obj}:cO P (newObj o):=λ_ _=>rfl
def cO.newRow {t:ar} {c:Array ak}:cO P (newRow t c):=.bind .newObj λ_=>.pure
def cO.PU {α β:Type} {f:α->Sem β} (h:∀ a,cO P (f a)):∀ l:List α,cO P (l.mapM f)
  | []=>by rw[List.mapM_nil];exact .pure
  | a::l=>by rw[lA];exact .bind (h a) λ_=>.bind (cO.PU h l) λ_=>.pure
def cO.map {α β:Type} {f:α->β} {m:Sem α} (h:cO P m):cO P (Functor.map f m):=λw es=>by rw[Sem.events_map];exact h w es
def cO.T7 {α β:Type} {f:α->Sem β} (h:∀ a,cO P (f a)) (l:Array α):cO P (l.mapM f):=by
  rw[qv];exact .map (.PU h _)
def cO.JI {α β:Type} {F:α->β->Sem (ForInStep β)} (h:∀ a b,cO P (F a b)):∀ (l:List α) (b:β),cO P (forIn l b F)
  | [],b=>by rw[List.forIn_nil];exact .pure
  | a::l,b=>by
    rw[List.forIn_cons];refine .bind (h a b) λr=>?_
    cases r with
    | done b=>exact .pure
    | yield b=>exact cO.JI h l b
def cO.build {t:ar} {parts:Array (Nat×ak)}:cO P (Instr.build t parts):=by
  unfold Instr.build;refine .bind .zeroValue λz=>.bind .underlying λd=>?_
  cases d <;> first
    | exact .stuck
    | (refine .bind (.T7 (λ_=>.bind .sizeOf λ_=>.pure) _) λpl=>?_
       split
       · exact .pure
       · exact .stuck)
    | (refine .bind .sizeOf λn=>?_
       split
       · exact .pure
       · exact .stuck)
def cO.buildSlice {t:ar} {n:Nat} {parts:Array (Nat×ak)}:cO P (Instr.buildSlice t n parts):=by
  unfold Instr.buildSlice;refine .bind .underlying λd=>?_
  cases d <;> first
    | exact .stuck
    | (refine .bind .sizeOf λm=>?_
       dsimp only
       have hj:∀ (elem:ar) (zero:Array ak),cO P (match Instr.fill (λi=>aa (i*m,m)) (Array.map (λx=>zero[x % zero.size]!) (Array.range (n*m))) parts.toList with
          | some cells=>do
            let a<-Go.newRow elem cells
            Pure.pure (Value.slice (aa a) n n)
          | _=>Go.stuck "buildSlice: a part of the wrong size"):=by
         intro elem zero;split
         · exact .bind .newRow λ_=>.pure
         · exact .stuck
       by_cases b:n*m=0
       · simp only[b,cu]
         rw[b] at hj;split
         · grind
         · exact .bind .pure λz=>hj _ z
       · simp only[b,cd]
         split
         · exact .bind .unsupported λ_=>.bind .zeroValue λz=>.bind .pure λz=>hj _ z
         · exact .bind .zeroValue λz=>.bind .pure λz=>hj _ z)
def rE {s:St} {b o:Nat} {L:Loc} (c:L∈s.β) (a:b∈L.bs):oE s (zw b o):=⟨rfl,rfl,.inr (.inl ⟨⟨L,c,a⟩,λh=>by cases h⟩)⟩
def Bo {s:St} {b o:Nat} {v:ak} (h:s.M b o=aa v):oE s (zw b o):=⟨rfl,rfl,.inr (.inr ⟨rfl,v,h⟩)⟩
def mn {s:St} {b o:Nat} {L:Loc} (c:L∈s.β) (a:b∈L.bs) (d:s.M b o=af):oE s (GY b o):=⟨rfl,rfl,.inr (.inl ⟨⟨L,c,a⟩,λ_=>d⟩)⟩
end
structure TI where
 size:Nat
 bytes:Nat
 agg:Bool
 desc:TypeDesc
 zero:List C
 eq:List TypeDesc:=[]
def qJ:TypeDesc->ak->ak->Option Bool
 |.int _,.int k a,.int k' b=>if k=k' then aa (a==b) else af
 |.string,.string a,.string b=>aa (a.toList==b.toList)
 |.bool,.bool a,.bool b=>aa (a==b)
 |_,_,_=>af
def jQ:List TypeDesc->List ak->List ak->Option Bool
 |[],[],[]=>aa ab
 |d::ds,v::vs,w::ws=>match qJ d v w with
  |some a=>match jQ ds vs ws with
   |some b=>aa (a&&b)
   |none=>af
  |none=>af
 |_,_,_=>af
def Kn:TypeDesc->Bool
 |.struct _|.array _ _=>ab
 |_=>ae
structure bJ (P:aq)(t:ar)(i:TI):Prop where
 Th:P.underlying t=aa i.desc
 agg:Kn i.desc=i.agg
 info:∃ inf z,P.info? t=aa inf/\inf.size=i.size/\inf.bytes=i.bytes/\inf.zero=aa z/\z.cells.toList.map qi=i.zero.map aa/\(∃ cs,z=if i.agg then .agg cs else z)/\i.zero.length=i.size
 eqs:i.eq≠[]->P.eqGuardType P.depth t=ae/\∀ (w:az) (vs ws:List ak) (b:Bool),jQ i.eq vs ws=aa b->(Op.equal t (.agg vs.toArray) (.agg ws.toArray)).run P w=.ok b w/\∀ es,(Op.equal t (.agg vs.toArray) (.agg ws.toArray)).events P w es=es
def bF:List (Nat×TI)->Nat->Option TI
 |[],_=>af
 |(i,d)::r,t=>cond (aG i t) (aa d) (bF r t)
def dg(P:aq)(T:List (Nat×TI)):Prop:=∀ t i,bF T t=aa i->bJ P t i
section
variable {P:aq}{w:az}{t:ar}{i:TI}
def bJ.run_underlying(h:bJ P t i):(underlying t).run P w=.ok i.desc w:=by
 simp[underlying,h.Th]
def bJ.ki(h:bJ P t i):(isAgg t).run P w=.ok i.agg w:=by
 have:=h.agg;unfold Go.isAgg;rw[bY,h.run_underlying];cases a:i.desc <;> rw[a] at this <;> simp[Kn] at this <;> simp[this]
def bJ.run_sizeOf(h:bJ P t i):(sizeOf t).run P w=.ok i.size w:=by
 obtain⟨a,z,h1,h2,_⟩:=h.info;simp[sizeOf,typeInfo,h1,h2]
def kK{σ:List aV}{s:St}:∀ {vs:List ak}{cs:List C},vs.map qi=cs.map aa->dW σ s vs (cs.map A.c)
 |[],[],_=>trivial
 |[],_::_,h=>by grind
 |_::_,[],h=>by grind
 |v::vs,c::cs,h=>by
  simp only[ru,List.cons.injEq] at h;exact⟨Rd.qi h.1,kK h.2⟩
def bJ.B6(h:bJ P t i)(σ:List aV)(s:St):∃ z,(zeroValue t).run P w=.ok z w/\dW σ s z.cells.toList (i.zero.map A.c):=by
 obtain⟨d,z,h1,h2,e,b,a,_⟩:=h.info;exact⟨z,by simp[zeroValue,typeInfo,h1,b],kK a⟩
end
def mT:D->Option (List A)
 |.e (.one a)=>aa [a]
 |.e (.agg cs)=>aa cs
 |_=>af
def m6{σ:List aV}{s:St}{v:ak}{d:D}{cs:List A}(h:mT d=aa cs)(r:dc σ s v d):dW σ s v.cells.toList cs:=by
 cases d with
 |e x =>
  cases x with
  |one a =>
   cases h;have:=gw.cell r;cases v <;> first|exact⟨r,av⟩|cases this
  |agg c =>
   cases h;obtain⟨vs,rfl,b⟩:=r;simpa[Value.cells] using b
 |eK xs=>cases h
 |any=>cases h
def bH.newVar{P:aq}{o:aw}{a:an->D}{σ:List aV}{E:ar}{cs:List A}
  (h:∀ s ρ,aJ σ s->(∀ y,dc σ s (ρ y) (a y))->∃ v:ak,(ay ρ o).run P s.w=((do pure (.value (.pointer (aa (<-newVar E v))))):Sem Next).run P s.w/\dW σ s v.cells.toList cs/\(ay ρ o).events P s.w #[]=#[]) :
  bH P o a σ (.e (.one (.ptr σ.length 0))) (σ++[.cells E cs]):=by
 intro s ρ hh hr;obtain⟨v,h1,h2,b⟩:=h s ρ hh hr;refine⟨.value (.pointer (aa ⟨s.w.heap.size,0,af⟩)),s.fM E v.cells.toList,?_,?_,hh.fM h2,.fM s E _ _,by rw[b];exact .nil⟩
 .rw[h1];simp[Go.newVar,newRow,St.fM]
 .refine⟨by simp,⟨.pointer (aa ⟨s.w.heap.size,0,af⟩),[s.w.heap.size]⟩,s.w.heap.size,?_,rfl,rfl⟩
  simp[St.fM,<-hh.len]
def bH.alloc{P:aq}{T:List (Nat×TI)}(b:dg P T){o:aw}{d:an->D}{σ:List aV}{E:ar}(h:o.op=.alloc E){i:TI}(hi:bF T E=aa i) :
  bH P o d σ (.e (.one (.ptr σ.length 0))) (σ++[.cells E (i.zero.map A.c)]):=by
 refine .newVar λs ρ _ _=>?_
 obtain⟨z,a,f⟩:=(b E i hi).B6 (w:=s.w) σ s;exact⟨z,by simp[ay,h,Instr.alloc,a],f,by simp[ay,h,Instr.alloc,a,Go.newVar,newRow]⟩
def bH.box{P:aq}{o:aw}{a:an->D}{σ:List aV}{E:ar}{x:an}(h:o.op=.box E x){cs:List A}(b:mT (a x)=aa cs) :
  bH P o a σ (.e (.one (.ptr σ.length 0))) (σ++[.cells E cs]) :=
 .newVar λs ρ _ c=>⟨ρ x,by simp[ay,h,Instr.box],m6 b (c x),by simp[ay,h,Instr.box,Go.newVar,newRow]⟩
def ov{α:Type}:Nat->List α->Option (List α)
 |0,_=>aa []
 |n+1,x::xs=>match ov n xs with|some r=>aa (x::r)|none=>af
 |_+1,[]=>af
def m9{α:Type}:∀ {n:Nat}{l r:List α},ov n l=aa r->r=l.take n/\r.length=n
 |0,l,r,h=>by cases h;simp
 |n+1,[],r,h=>by simp[ov] at h
 |n+1,x::xs,r,h=>by
  simp only[ov] at h;cases a:ov n xs with
  |none=>grind
  |some q =>
   simp[a] at h;subst h;obtain⟨c,b⟩:=m9 a
   grind
def fw{α:Type}:Nat->List α->Option α
 |_,[]=>af
 |0,x::_=>aa x
 |n+1,_::xs=>fw n xs
def dz{α:Type}:∀ {n:Nat}{l:List α}{x:α},fw n l=aa x->l[n]?=aa x
 |_,[],_,h=>by simp[fw] at h
 |0,x::_,_,h=>by simpa[fw] using h
 |n+1,_::xs,_,h=>by simpa using dz (n:=n) (l:=xs) h
def hJ{α:Type}:Nat->List α->List α
 |0,l=>l
 |_+1,[]=>[]
 |n+1,_::xs=>hJ n xs
def nk{α:Type}:∀ (n:Nat)(l:List α),hJ n l=l.drop n
 |0,_=>by simp[hJ]
 |_+1,[]=>by simp[hJ]
 |n+1,_::xs=>by simp[hJ,nk n xs]
def m8(i:TI)(cs:List A):Option E1 :=
 match i.agg with
 |true=>match ov i.size cs with|some r=>aa (.agg r)|none=>af
 |false=>match fw 0 cs with|some a=>aa (.one a)|none=>af
def pe{P:aq}{σ:List aV}{s:St}{t:ar}{i:TI}(k:bJ P t i){b off:Nat}{vs:List ak}{cs:List A}{e:E1}
  (q:∀ (j:Nat) (v:ak),vs[j]?=aa v->s.w.cell? ⟨b,off+j,af⟩=aa v) (l:dW σ s vs cs) (f:m8 i cs=aa e) :
  ∃ v,(loadVar t ⟨b,off,af⟩).run P s.w=.ok v s.w/\mY σ s v e:=by
 simp only[loadVar,bY,k.ki,b9];cases o:i.agg <;> simp only[m8,o] at f
 .cases g:fw 0 cs with
  |none=>grind
  |some a =>
   simp[g] at f;subst f;obtain⟨v,u,h⟩:=l.get (dz g);refine⟨v,?_,h⟩
   grind [run_load]
 .cases g:ov i.size cs with
  |none=>grind
  |some r =>
   simp[g] at f;subst f;obtain⟨n,m⟩:=m9 g;have c:=l.take i.size;rw[<-n] at c;have p:(vs.take i.size).length=i.size:=by rw[c.length,m]
   have d:=run_loadCells_list (P:=P) s.w ⟨b,off,af⟩ (vs.take i.size) (λj v x=>by
    grind [dj])
   rw[p] at d;refine⟨.agg (vs.take i.size).toArray,?_,vs.take i.size,rfl,c⟩;simp[k.run_sizeOf,d]
def kl{P:aq}{w:az}{t:ar}{i:TI}(d:bJ P t i){b off n:Nat}(f:∀ j,j<n->∃ v,w.cell? ⟨b,off+j,af⟩=aa v)(c:(if i.agg then i.size else 1)<=n) :
  ∀ e∈(loadVar t ⟨b,off,af⟩).events P w #[],∃ j,j<n/\e=zw b (off+j):=by
 intro e a;simp only[loadVar,aO,d.ki,aU,events_isAgg] at a;cases k:i.agg
 .rw[k] at c a;obtain⟨v,g⟩:=f 0 (by grind)
  simp only[iO] at g;simp only[jE,cd,zz g] at a;rcases Array.mem_push.1 a with h|rfl
  .grind
  .exact⟨0,by grind,rfl⟩
 .rw[k] at c a;simp only[cu] at c;simp only[cu,aO,d.run_sizeOf,aU,events_sizeOf] at a;have key:∀ e∈(loadCells ⟨b,off,af⟩ i.size).events P w #[],∃ j,j<n/\e=zw b (off+j):=by
   intro e a;rcases rA (P:=P) (λj l=>f j (by omega)) e a with h|⟨j,l,rfl⟩
   .grind
   grind
  apply key
  generalize (loadCells ⟨b,off,af⟩ i.size).run P w=r at a;cases r with
  |ok v w'=>simpa using a
  |halt x w'=>simpa using a
def rM{i:TI}{cs:List A}{e:E1}(h:m8 i cs=aa e):(if i.agg then i.size else 1)<=cs.length:=by
 unfold m8 at h;cases b:i.agg <;> rw[b] at h
 .cases cs with
  |nil=>simp[fw] at h
  |cons c cs=>simp
 .simp only at h;cases a:ov i.size cs with
  |none=>grind
  |some r =>
   obtain⟨f,d⟩:=m9 a
   grind
def bH.FR{P:aq}{T:List (Nat×TI)}(B:dg P T){o:aw}{C:an->D}{σ:List aV}{t:ar}{x:an}(h:o.op=.load t x){l off:Nat}{E:ar}{cs:List A}{i:TI}{e:E1}
  (F:C x=.e (.one (.ptr l off))) (G:σ[l]?=aa (.cells E cs)) (hi:bF T t=aa i) (y:m8 i (hJ off cs)=aa e):bH P o C σ (.e e) σ:=by
 refine .nT λs ρ hh hr=>?_
 have h1:=hr x;rw[F] at h1;obtain⟨_,L,b,q,g,u⟩:=h1;obtain⟨m,vs,rfl,p,a,_⟩:=hh.box l _ L G q;simp at g;subst g;rw[nk] at y;obtain⟨v,c,k⟩:=pe (s:=s) (σ:=σ) (P:=P) (B t i hi) (b:=m) (off:=off) (vs:=vs.drop off) (cs:=cs.drop off) (e:=e) (λj v hj=>by
  simp only[a9,p]
  grind) (a.drop off) y
 refine⟨v,by simp[ay,h,u,Instr.loadAt,Instr.sureAddr,c],k,λr d=>?_⟩
 have f:r∈(loadVar t ⟨m,off,af⟩).events P s.w #[]:=by
  have e:ay ρ o=(do pure (.value (<-loadVar t ⟨m,off,af⟩))):=by simp[ay,h,u,Instr.loadAt,Instr.sureAddr]
  rw[e] at d;simpa[c] using d
 have z:(vs.drop off).length=(cs.drop off).length:=(a.drop off).length;obtain⟨j,hj,rfl⟩:=kl (B t i hi) (n:=(vs.drop off).length) (λj hj=>by
  refine⟨(vs.drop off)[j],?_⟩;simp only[a9,p];simp at hj ⊢ <;> omega) (by grind [rM]) r f
 exact rE (bU q) (by simp)
def bH.JQ{P:aq}{T:List (Nat×TI)}(B:dg P T){o:aw}{E:an->D}{σ:List aV}{t:ar}{x:an}(h:o.op=.load t x){cs:List C}{i:TI}{e:E1}
  (F:E x=.e (.one (.c (.rp cs)))) (hi:bF T t=aa i) (z:m8 i (cs.map A.c)=aa e):bH P o E σ (.e e) σ:=by
 refine .nT λs ρ hh hr=>?_
 have h1:=hr x;rw[F] at h1;have h2:=fy h1;generalize l:ρ x=vx at h2;cases h2
 rename_i b off f q G
 have r:∀ (n:Nat) (ds:List C),(∀ j c,ds[j]?=aa c->Rd s.M (f (n+j)) c)->dW σ s ((bh ds.length).map λj=>f (n+j)) (ds.map A.c):=by
  intro n ds
  induction ds generalizing n with
  |nil=>intro _;trivial
  |cons d ds ih =>
   intro y;rw[fa,zn];refine⟨y 0 d rfl,?_⟩;have:=ih (n+1) (λj c hj=>by have:=y (j+1) c (by grind);grind)
   grind [Function.comp_def]
 obtain⟨v,g,p⟩:=pe (s:=s) (σ:=σ) (P:=P) (B t i hi) (b:=b) (off:=off) (vs:=(bh cs.length).map λj=>f (0+j)) (cs:=cs.map A.c) (e:=e) (λj v hj=>by
  simp only[nF,bt] at hj
  by_cases a:j<cs.length
  .simp[a] at hj;subst hj;exact hh.mem _ _ _ (q j cs[j] (br a))
  grind) (r 0 cs (by grind)) z
 refine⟨v,by simp[ay,h,l,Instr.loadAt,Instr.sureAddr,g],p,λu k=>?_⟩
 have m:u∈(loadVar t ⟨b,off,af⟩).events P s.w #[]:=by
  have e:ay ρ o=(do pure (.value (<-loadVar t ⟨b,off,af⟩))):=by simp[ay,h,l,Instr.loadAt,Instr.sureAddr]
  rw[e] at k;simpa[g] using k
 obtain⟨j,hj,rfl⟩:=kl (B t i hi) (n:=cs.length) (λj hj=>⟨f j,hh.mem _ _ _ (q j cs[j] (br hj))⟩) (by have:=rM z;grind) u m
 exact Bo (q j cs[j] (br hj))
def eX{α:Type}:Nat->List α->List α->Option (List α)
 |0,[],l=>aa l
 |0,n::ns,_::cs=>match eX 0 ns cs with|some r=>aa (n::r)|none=>af
 |k+1,ns,c::cs=>match eX k ns cs with|some r=>aa (c::r)|none=>af
 |_,_,[]=>af
def pZ{α:Type}:∀ {off:Nat}{new l r:List α},eX off new l=aa r->off+new.length<=l.length/\r=l.take off++new++l.drop (off+new.length)
 |0,[],l,r,h=>by cases l <;> cases h <;> simp
 |0,n::ns,c::cs,r,h=>by
  simp only[eX] at h;cases a:eX 0 ns cs with
  |none=>grind
  |some q =>
   simp[a] at h;subst h;obtain⟨d,b⟩:=pZ a
   grind
 |0,n::ns,[],r,h=>by simp[eX] at h
 |k+1,ns,c::cs,r,h=>by
  simp only[eX] at h;cases a:eX k ns cs with
  |none=>grind
  |some q =>
   simp[a] at h;subst h;obtain⟨d,b⟩:=pZ a
   grind
 |k+1,ns,[],r,h=>by simp[eX] at h
def dW.eX{σ:List aV}{s:St}{off:Nat}{vs new:List ak}{cs Rv r:List A}(h:AM.eX off Rv cs=aa r)(h1:dW σ s vs cs)(h2:dW σ s new Rv) :
  off+new.length<=vs.length/\dW σ s (vs.take off++new++vs.drop (off+new.length)) r:=by
 obtain⟨k1,rfl⟩:=pZ h;rw[h2.length,h1.length];refine⟨k1,((h1.take off).append h2).append (by have:=h1.drop (off+Rv.length);exact this)⟩
def bH.store{P:aq}{T:List (Nat×TI)}(G:dg P T){o:aw}{u:an->D}{σ:List aV}{t:ar}{x y:an}(h:o.op=.store t x y){l off:Nat}{E:ar}{cs new mc:List A}{i:TI}
  (J:u x=.e (.one (.ptr l off))) (F:σ[l]?=aa (.cells E cs)) (hi:bF T t=aa i) (M:mT (u y)=aa new) (hn:new.length=i.size) (H:eX off new cs=aa mc) :
  bH P o u σ .any (σ.set l (.cells E mc)):=by
 intro s ρ hh hr;have h1:=hr x;rw[J] at h1;obtain⟨_,L,b,q,m,C⟩:=h1;obtain⟨n,vs,rfl,B,p,f⟩:=hh.box l _ L F q;simp at m;subst m;have c:=m6 M (hr y);obtain⟨k1,I⟩:=dW.eX H p c;obtain⟨w1,w2⟩:=hh.write F q rfl I;refine⟨.skip,_,?_,rfl,w1,w2,?_⟩
 rotate_left
 .intro z a;have d:(ρ y).cells.size=i.size:=by rw[<-hn,<-c.length,jg]
  have e:ay ρ o=(do storeVar t ⟨n,off,af⟩ (ρ y);pure .skip):=by simp[ay,h,C,Instr.storeAt,Instr.sureAddr]
  rw[e] at a;have k:z∈(storeCells ⟨n,off,af⟩ (ρ y).cells.toList).events P s.w #[]:=by
   simp only[storeVar,aO,(G t i hi).run_sizeOf,d,aU,events_sizeOf,cW,fu,cd,bY,b9,Sem.events_pure] at a;generalize (storeCells ⟨n,off,af⟩ (ρ y).cells.toList).run P s.w=r at a;cases r with
   |ok v w'=>simpa using a
   |halt x w'=>simpa using a
  rcases eE (ρ y).cells.toList 0 vs.toArray s.w #[] B (by grind) c.cell z k with K|⟨j,_,_,rfl⟩
  .grind
  .exact mn (bU q) (by simp) (f _)
 have g:=run_storeCells_at P n off E (ρ y).cells.toList 0 vs.toArray s.w B (by grind) (c.cell)
 have d:(ρ y).cells.size=i.size:=by rw[<-hn,<-c.length,jg]
 simp only[iO] at g;simp[ay,h,C,Instr.storeAt,Instr.sureAddr,storeVar,(G t i hi).run_sizeOf,d,g]
def jM(T:List (Nat×TI))(t:ar)(f:Nat):Option (Nat×TI) :=
 match bF T t with
 |some i=>match i.desc with
  |.struct fs=>match fw f fs.toList with
   |some fl=>match bF T fl.type with
    |some j=>cond (aG j.size 0) af (aa (fl.offset,j))
    |none=>af
   |none=>af
  |_=>af
 |none=>af
def tj{P:aq}{T:List (Nat×TI)}(b:dg P T){t:ar}{f off:Nat}{j:TI}(h:jM T t f=aa (off,j)) :
  ∃ i fs fl,bF T t=aa i/\i.desc=.struct fs/\fs[f]?=aa fl/\fl.offset=off/\bF T fl.type=aa j/\j.size≠0/\bJ P t i/\bJ P fl.type j:=by
 unfold jM at h;split at h
 .rename_i i hi
  split at h
  .rename_i fs WO
   split at h
   .rename_i fl hfl
    split at h
    .rename_i d c
     cases a:aG d.size 0 <;> simp[a] at h
     obtain⟨rfl,rfl⟩:=h;refine⟨i,fs,fl,hi,WO,by simpa using dz hfl,rfl,c,?_,b _ _ hi,b _ _ c⟩
     intro e;rw[e] at a;cases a
    grind
   grind
  grind
 grind
def mF{P:aq}{T:List (Nat×TI)}(e:dg P T){t:ar}{f off:Nat}{j:TI}(h:jM T t f=aa (off,j))(b o:Nat)(w:az) :
  (Instr.fieldAt t (.pointer (aa ⟨b,o,af⟩)) f).run P w=.ok (.pointer (aa ⟨b,o+off,af⟩)) w:=by
 obtain⟨i,fs,n,l,a,g,c,m,d,k,g2⟩:=tj e h;simp[Instr.fieldAt,k.run_underlying,a,g,Instr.sureAddr,fieldPlace,g2.run_sizeOf,d,dj,c]
def n9{P:aq}{T:List (Nat×TI)}(d:dg P T){t:ar}{f off:Nat}{j:TI}(h:jM T t f=aa (off,j))(b o:Nat)(w:az)(es:Array Event) :
  (Instr.fieldAt t (.pointer (aa ⟨b,o,af⟩)) f).events P w es=es:=by
 obtain⟨i,fs,n,l,a,e,k,m,c,g,g2⟩:=tj d h;simp[Instr.fieldAt,g.run_underlying,a,e,Instr.sureAddr,fieldPlace,g2.run_sizeOf,c]
def bH.rW{P:aq}{T:List (Nat×TI)}(g:dg P T){o:aw}{i:an->D}{σ:List aV}{t:ar}{x:an}{f:Nat}(h:o.op=.fieldAddr t x f){l off k:Nat}{j:TI}
  (m:i x=.e (.one (.ptr l off))) (c:jM T t f=aa (k,j)):bH P o i σ (.e (.one (.ptr l (off+k)))) σ:=by
 refine .quiet λs ρ hh hr=>?_
 have h1:=hr x;rw[m] at h1;obtain⟨hn,L,b,n,a,d⟩:=h1;exact⟨.pointer (aa ⟨b,off+k,af⟩),by simp[ay,h,d,mF g c],⟨hn,L,b,n,a,rfl⟩,by simp[ay,h,d,n9 g c]⟩
def bH.tR{P:aq}{T:List (Nat×TI)}(g:dg P T){o:aw}{i:an->D}{σ:List aV}{t:ar}{x:an}{f:Nat}(h:o.op=.fieldAddr t x f){cs:List C}{k:Nat}{j:TI}
  (m:i x=.e (.one (.c (.rp cs)))) (d:jM T t f=aa (k,j)):bH P o i σ (.e (.one (.c (.rp (hJ k cs))))) σ:=by
 refine .quiet λs ρ hh hr=>?_
 have h1:=hr x;rw[m] at h1;have h2:=fy h1;generalize a:ρ x=vx at h2;cases h2
 rename_i b o l p n
 refine⟨.pointer (aa ⟨b,o+k,af⟩),by simp[ay,h,a,mF g d],?_,by simp[ay,h,a,n9 g d]⟩
 rw[nk];refine Rd.rp b (o+k) (λj=>l (k+j)) (λj c hj=>?_) (λj c hj=>?_)
 .grind
 grind
def Ko{σ:List aV}{s:St}{P:aq}{t:ar}{i:TI}(g:bJ P t i){vs:List ak}{cs:List A}(r:dW σ s vs cs){off:Nat}{e:E1}(b:m8 i (hJ off cs)=aa e)(w:az) :
  ∃ v,(part t vs.toArray off).run P w=.ok v w/\mY σ s v e/\∀ es,(part t vs.toArray off).events P w es=es:=by
 simp only[part,bY,g.ki,b9,aO,aU,events_isAgg];rw[nk] at b;cases k:i.agg <;> simp only[m8,k] at b
 .cases d:fw 0 (cs.drop off) with
  |none=>grind
  |some a =>
   simp[d] at b;subst b;obtain⟨v,h,f⟩:=(r.drop off).get (dz d);simp at h;refine⟨v,?_,f,λes=>?_⟩ <;> simp[h]
 .cases d:ov i.size (cs.drop off) with
  |none=>grind
  |some q =>
   simp[d] at b;subst b;obtain⟨j,l⟩:=m9 d;have c:=(r.drop off).take i.size;rw[<-j] at c;refine⟨.agg (vs.toArray.extract off (off+i.size)),by simp[g.run_sizeOf],⟨(vs.drop off).take i.size,?_,c⟩,λes=>by simp⟩
   simp
def bH.field{P:aq}{T:List (Nat×TI)}(y:dg P T){o:aw}{p:an->D}{σ:List aV}{t:ar}{x:an}{f:Nat}(h:o.op=.field t x f){cs:List A}{k:Nat}{j:TI}{e:E1}
  (q:p x=.e (.agg cs)) (r:jM T t f=aa (k,j)) (u:m8 j (hJ k cs)=aa e):bH P o p σ (.e e) σ:=by
 refine .quiet λs ρ hh hr=>?_
 have h1:=hr x;rw[q] at h1;obtain⟨vs,l,d⟩:=h1;obtain⟨i,fs,fl,h1,h2,m,g,B,z,n,g2⟩:=tj y r;obtain⟨v,c,a,b⟩:=Ko g2 d u s.w;exact⟨v,by simp[ay,h,l,Instr.field,n.run_underlying,h2,m,asAgg,g,c],a,by simp[ay,h,l,Instr.field,n.run_underlying,h2,m,asAgg,g,b]⟩
def bH.tS{P:aq}{o:aw}{d:an->D}{σ:List aV}{x:an}(h:o.op=.nilCheck x){l off:Nat}(f:d x=.e (.one (.ptr l off))):bH P o d σ (.e (.one (.ptr l off))) σ:=by
 refine .quiet λs ρ hh hr=>?_
 have h1:=hr x;rw[f] at h1;have a:=h1;obtain⟨hn,L,b,i,g,c⟩:=h1;exact⟨ρ x,by simp[ay,h,c],a,by simp[ay,h,c]⟩
def bH.vV{P:aq}{o:aw}{b:an->D}{σ:List aV}{x:an}(h:o.op=.nilCheck x){cs:List C}(d:b x=.e (.one (.c (.rp cs)))):bH P o b σ (.e (.one (.c (.rp cs)))) σ:=by
 refine .quiet λs ρ hh hr=>?_
 have h1:=hr x;rw[d] at h1;have h2:=fy h1;generalize a:ρ x=vx at h2;cases h2;exact⟨_,by simp[ay,h,a];rfl,by grind,by simp[ay,h,a]⟩
def Hm(new:List ak):∀ (j off:Nat)(cs:Array ak),off+j+new.length<=cs.size ->
  ((new.zipIdx j).foldl (λcs (x:ak×Nat)=>cs.setIfInBounds (off+x.2) x.1) cs).toList=cs.toList.take (off+j)++new++cs.toList.drop (off+j+new.length):=by
 induction new with
 |nil=>intro j off cs _;simp
 |cons v vs ih =>
  intro j off cs h;simp only[List.zipIdx_cons,jk];rw[ih (j+1) off _ (by grind)]
  have:=list_seg_step cs.toList (off+j) v vs (by grind)
  simpa[Array.toList_setIfInBounds,uW] using this
def vt(place:Nat->Option (Nat×Nat)):List (Nat×List A)->List A->Option (List A)
 |[],cs=>aa cs
 |(i,new)::rest,cs=>match place i with
  |some (off,size)=>match aG new.length size with
   |true=>match eX off new cs with
    |some r=>vt place rest r
    |none=>af
   |false=>af
  |none=>af
def rF{σ:List aV}{s:St}{place place':Nat->Option (Nat×Nat)}(o:∀ i p,place i=aa p->place' i=aa p):∀ {parts:List (Nat×List A)}{vparts:List (Nat×ak)}{cs r:List A}{vs:Array ak},
  vt place parts cs=aa r->vparts.map (·.1)=parts.map (·.1)->(∀ (k:Nat) (p:Nat×List A) (q:Nat×ak),parts[k]?=aa p->vparts[k]?=aa q->dW σ s q.2.cells.toList p.2)->dW σ s vs.toList cs ->
  ∃ d,Instr.fill place' vs vparts=aa d/\dW σ s d.toList r
 |[],[],cs,r,vs,h,_,_,b=>by cases h;exact⟨vs,rfl,b⟩
 |[],_::_,cs,r,vs,h,a,_,b=>by grind
 |_::_,[],cs,r,vs,h,a,_,b=>by grind
 |(i,new)::rest,(f,v)::Us,cs,r,vs,h,a,n,b=>by
  simp only[ru,List.cons.injEq] at a;obtain⟨rfl,a⟩:=a;simp only[vt] at h;cases c:place f with
  |none=>grind
  |some p =>
   obtain⟨off,size⟩:=p;simp only[c] at h;cases l:aG new.length size with
   |false=>grind
   |true =>
    simp only[l] at h;cases j:eX off new cs with
    |none=>grind
    |some q =>
     simp only[j] at h;have e:=n 0 (f,new) (f,v) rfl rfl;simp only at e;have B:=e.length;have t:new.length=size:=bX l;obtain⟨k1,y⟩:=dW.eX j b e;have z:=Hm v.cells.toList 0 off vs (by grind)
     have g:v.cells.size=size:=by grind
     have u:off+size<=vs.size:=by grind
     obtain⟨d,w,m⟩:=rF (σ:=σ) (s:=s) o (parts:=rest) (vparts:=Us) (cs:=q) (r:=r)
      (vs:=v.cells.zipIdx.foldl (λcs (x:ak×Nat)=>cs.setIfInBounds (off+x.2) x.1) vs) h a (λk p q w m=>n (k+1) p q (by grind) (by grind)) (by
       grind [Array.toList_zipIdx])
     refine⟨d,?_,m⟩;simp only[Instr.fill,o _ _ c,g,cW,fu,kA,Bool.false_or,ba]
     grind
def p0(T:List (Nat×TI)):List Field->Option (List (Nat×Nat))
 |[]=>aa []
 |f::fs=>match bF T f.type with
  |some j=>match p0 T fs with
   |some r=>aa ((f.offset,j.size)::r)
   |none=>af
  |none=>af
def wx{P:aq}{T:List (Nat×TI)}(a:dg P T):∀ {fs:List Field}{r:List (Nat×Nat)},p0 T fs=aa r->fs.mapM (λf=>(P.info? f.type).map λi=>(f.offset,i.size))=aa r
 |[],r,h=>by cases h;simp
 |f::fs,r,h=>by
  simp only[p0] at h;cases c:bF T f.type with
  |none=>grind
  |some j =>
   cases b:p0 T fs with
   |none=>grind
   |some q =>
    simp[c,b] at h;subst h;obtain⟨d,z,g,e,_⟩:=(a _ _ c).info;simp[lA,g,e,wx a b]
def nV(a:an->D):List (Nat×an)->Option (List (Nat×List A))
 |[]=>aa []
 |(i,x)::r=>match mT (a x) with
  |some cs=>match nV a r with
   |some q=>aa ((i,cs)::q)
   |none=>af
  |none=>af
def pS{σ:List aV}{s:St}{ρ:an->ak}{a:an->D}(c:∀ y,dc σ s (ρ y) (a y)):∀ {l:List (Nat×an)}{q:List (Nat×List A)},nV a l=aa q ->
  (l.map λ(i,x)=>(i,ρ x)).map (·.1)=q.map (·.1)/\∀ (k:Nat) (p:Nat×List A) (u:Nat×ak),q[k]?=aa p->(l.map λ(i,x)=>(i,ρ x))[k]?=aa u->dW σ s u.2.cells.toList p.2
 |[],q,h=>by cases h;simp
 |(i,x)::r,q,h=>by
  simp only[nV] at h;cases d:mT (a x) with
  |none=>grind
  |some cs =>
   cases b:nV a r with
   |none=>grind
   |some q' =>
    simp[d,b] at h;subst h;obtain⟨f,e⟩:=pS c b
    grind [m6]
def zP(T:List (Nat×TI))(a:an->D)(t:ar)(parts:List (Nat×an)):Option (List A) :=
 match bF T t with
 |some i=>match i.desc with
  |.struct fs=>match p0 T fs.toList with
   |some pl=>match nV a parts with
    |some ps=>vt (λk=>fw k pl) ps (i.zero.map A.c)
    |none=>af
   |none=>af
  |_=>af
 |none=>af
def bH.build{P:aq}{T:List (Nat×TI)}(g:dg P T){o:aw}{j:an->D}{σ:List aV}{t:ar}{parts:Array (Nat×an)}(h:o.op=.build t parts){cs:List A}
  (b:zP T j t parts.toList=aa cs):bH P o j σ (.e (.agg cs)) σ:=by
 refine .quiet λs ρ hh hr=>?_
 unfold zP at b;cases hi:bF T t with
 |none=>grind
 |some i =>
  simp only[hi] at b;cases l:i.desc with
  |struct fs =>
   simp only[l] at b;cases c:p0 T fs.toList with
   |none=>grind
   |some pl =>
    simp only[c] at b;cases d:nV j parts.toList with
    |none=>grind
    |some ps =>
     simp only[d] at b;obtain⟨n,z,u,C,F,m,r,E,B⟩:=(g t i hi).info;obtain⟨y,p2⟩:=pS (σ:=σ) (s:=s) hr d;obtain⟨f,q,v⟩:=rF (σ:=σ) (s:=s) (place':=λk=>pl.toArray[k]?) (λk p G=>by grind [dz]) b y p2 (kK r)
     have hb:P.built t (parts.map λ(i,x)=>(i,ρ x)).toList=aa f:=by
      unfold Program.built;have a:=(g t i hi).Th;rw[l] at a;simp only[u,a,m,wx g c];simpa using q
     refine⟨.agg f,?_,⟨f.toList,by simp,v⟩,?_⟩
     .simp only[ay,h,bY,run_build s.w t _ f hb,b9,cY]
     .simp only[ay,h,aO,run_build s.w t _ f hb,aU,Sem.events_pure];exact cO.build s.w #[]
  |_=>grind
def RD{k n i j:Nat}(hi:i<n)(b:j<k):i*k+j<n*k:=by
 have a:(i+1)*k<=n*k:=et k (by omega)
 rw[gR] at a;omega
def Ob{k i j:Nat}(a:j<k):(i*k+j) / k=i:=by
 grind [nO,Nat.mul_add_div,Nat.div_eq_of_lt]
def Oc{k i j:Nat}(a:j<k):(i*k+j) % k=j:=by
 rw[nO,Nat.mul_add_mod,Nat.mod_eq_of_lt a]
def Flat.nil{M:Mem}{k:Nat}{es:Nat->List C}:Flat M k 0 es []:=⟨by simp,by omega,by omega⟩
def cR(n:Nat)(f g:Nat->List C):Nat->List C:=λi=>if i<n then f i else g (i-n)
def Flat.append{M:Mem}{k n m:Nat}{es es':Nat->List C}{vs vF:List ak}(h:Flat M k n es vs)(b:Flat M k m es' vF):Flat M k (n+m) (cR n es es') (vs++vF):=by
 refine⟨by simp[h.len,b.len,gR],λi hi=>?_,λi hi j c hj=>?_⟩
 .simp only[cR];split
  .rename_i a;exact h.width i a
  .exact b.width _ (by omega)
 .simp only[cR] at hj;split at hj
  .rename_i a
   obtain⟨v,h1,h2⟩:=h.rd i a j c hj
   grind
  .rename_i d
   obtain⟨v,h1,h2⟩:=b.rd _ (by omega) j c hj
   refine⟨v,?_,h2⟩;have e1:i*k+j=vs.length+((i-n)*k+j):=by
    rw[h.len,<-uW,<-gR,zu (by omega)]
   grind
def Flat.cell{M:Mem}{k n:Nat}{es:Nat->List C}{vs:List ak}(h:Flat M k n es vs):∀ v∈vs,v.oneCell'=ab:=by
 intro v b;obtain⟨p,a,rfl⟩:=dH b;rw[h.len] at a;have c:0<k:=by
  grind
 have hi:p / k<n:=pE (by rw[nO];exact a)
 have hj:p % k<k:=jG _ c;have d:=h.width _ hi;obtain⟨v,h1,h2⟩:=h.rd (p / k) hi (p % k) ((es (p / k))[p % k]'(by omega)) (br (by omega))
 have e:p / k*k+p % k=p:=pG p k;rw[e] at h1;rw[br (by rw[h.len];exact a)] at h1
 simp at h1;rw[h1];have:=Rd.cell h2;cases v <;> simp_all [cZ,Value.oneCell']
def Rd.flat{M:Mem}{v:ak}{t:Bool}{k n:Nat}{es:Nat->List C}(h:Rd M v (.sl t k n es)) :
  ∃ a cap vs,v=.slice a n cap/\n<=cap/\cap<=9223372036854775807/\(t=ab->cap=n)/\Flat M k n es vs/\∀ p u,vs[p]?=aa u->∃ b off,a=aa ⟨b,off,af⟩/\M b (off+p)=aa u:=by
 cases h with
 |@sl a _ cap _ _ _ b off f d hb ht hk ha hm hr =>
  refine⟨a,cap,(bh (n*k)).map λp=>f (p / k) (p % k),rfl,d,hb,ht,⟨by simp,hk,?_⟩,?_⟩
  .grind [RD,Ob,Oc]
  .intro p u e;simp only[nF] at e
   by_cases c:p<n*k
   .simp[c] at e;subst e;have g:0<k:=by
     grind
    have hi:p / k<n:=pE (by rw[nO];exact c)
    have hj:p % k<k:=jG _ g;have i:=hk _ hi;have:=hm (p / k) hi (p % k) ((es (p / k))[p % k]'(by omega)) (br (by omega))
    refine⟨b,off,ha (Nat.lt_of_le_of_lt (gC _) hi),?_⟩
    grind [uW,pG]
   .simp[c] at e
def Rd.qw{M:Mem}{k n:Nat}{es:Nat->List C}{vs:List ak}(h:Flat M k n es vs){a:Option Addr}{b off cap:Nat}{t:Bool}(f:0<n->a=aa ⟨b,off,af⟩)(d:n<=cap)(hb:cap<=9223372036854775807)(e:t=ab->cap=n)
  (g:∀ p u,vs[p]?=aa u->M b (off+p)=aa u):Rd M (.slice a n cap) (.sl t k n es):=by
 refine .sl b off (λi j=>(vs[i*k+j]?).getD aj) d hb e h.width f (λi hi j c hj=>?_) (λi hi j c hj=>?_)
 .obtain⟨v,h1,h2⟩:=h.rd i hi j c hj
  grind
 .obtain⟨v,h1,h2⟩:=h.rd i hi j c hj;rw[h1];exact h2
def dO{P:aq}{σ:List aV}{s:St}(m:aJ σ s){v:ak}{t:Bool}{k n:Nat}{es:Nat->List C}(h:Rd s.M v (.sl t k n es)) :
  ∃ vs,Flat s.M k n es vs/\(Builtin.firstCells k n v).run P s.w=.ok vs.toArray s.w/\Builtin.lenOf v=pure n:=by
 obtain⟨a,cap,vs,rfl,d,o,q,e,f⟩:=h.flat;refine⟨vs,e,?_,rfl⟩;have l:vs.length=n*k:=e.len;cases a with
 |none =>
  have:vs=[]:=by
   cases vs with
   |nil=>rfl
   |cons u p=>obtain⟨b,off,c,_⟩:=f 0 u rfl;cases c
  subst this;rfl
 |some ad =>
  simp only[Builtin.firstCells];rw[<-l];refine run_loadCells_list s.w ad vs λj u i=>?_
  obtain⟨b,off,c,g⟩:=f j u i;cases c;rw[dj];exact m.mem _ _ _ g
def bH.JO{P:aq}{T:List (Nat×TI)}(p:dg P T){o:aw}{f:an->D}{σ:List aV}{t:ar}{x y:an}(h:o.op=.index t x y){l:List UInt8}{j:Int}{k:IntKind}{i:TI}{m:Nat}(hi:bF T t=aa i)(n:i.desc=.string)
  (q:f x=.e (.one (.c (.str l)))) (u:f y=.e (.one (.c (.int k j)))) (hj:j=m) (v:m<l.length):bH P o f σ (.e (.one (.c (.int .u8 (l[m]).toNat)))) σ:=by
 refine .quiet λs ρ hh hr=>?_
 have h1:=hr x;have h2:=hr y;rw[q] at h1;rw[u] at h2
 replace h1:=fy h1
 replace h2:=fy h2
 generalize d:ρ x=vx at h1;generalize b:ρ y=vy at h2;cases h1 with
 |@str sb _ r hl =>
 cases h2;subst r;have g:sb[m]?=aa (sb.data.toList[m]):=by
  have hm':m<sb.size:=by have e:sb.data.toList.length=sb.size:=jg;omega
  rw[getElem?_pos sb m hm']
  congr 1
 refine⟨.int .u8 (sb.data.toList[m]).toNat,?_,Rd.int ?_,?_⟩
 rotate_left 2
 .have a:=(p t i hi).run_underlying (w:=s.w);rw[n] at a;simp[ay,h,d,b,Instr.index,asIntOf,a,hj,g]
 .have a:=(p t i hi).run_underlying (w:=s.w);rw[n] at a;simp[ay,h,d,b,Instr.index,asIntOf,a,hj,g]
 .have:=(sb.data.toList[m]).toNat_lt;simp only[bx];omega
def bH.indexAddr{P:aq}{T:List (Nat×TI)}(F:dg P T){o:aw}{z:an->D}{σ:List aV}{t:ar}{x y:an}(h:o.op=.indexAddr t x y){i g:TI}{E:ar}(hi:bF T t=aa i)(I:i.desc=.slice E)(G:bF T E=aa g)
  {tt:Bool} {n:Nat} {es:Nat->List C} {j:Int} {k:IntKind} {m:Nat} (H:∀ s v,dc σ s v (z x)->Rd s.M v (.sl tt g.size n es)) (J:z y=.e (.one (.c (.int k j)))) (hj:j=m) (d:m<n) :
  bH P o z σ (.e (.one (.c (.rp (es m))))) σ:=by
 refine .quiet λs ρ hh hr=>?_
 have h1:=H s _ (hr x);have h2:=hr y;rw[J] at h2
 replace h2:=fy h2
 generalize u:ρ x=vx at h1;generalize p:ρ y=vy at h2;cases h2;cases h1 with
 |@sl a _ cap _ _ _ b off f A hb ht hk ha hm' PN =>
 have l:0<n:=by omega
 have B:=(F t i hi).run_underlying (w:=s.w);rw[I] at B;refine⟨.pointer (aa ⟨b,off+m*g.size,af⟩),?_,Rd.rp b (off+m*g.size) (f m) (λq c r=>hm' m d q c r) (λq c r=>PN m d q c r),?_⟩ <;>
 simp[ay,h,u,p,Instr.indexAt,asIntOf,B,hj,ha l,(F E g G).run_sizeOf,dj,d]
def bH.T9{P:aq}{T:List (Nat×TI)}(q:dg P T){o:aw}{j:an->D}{σ:List aV}{x:an}{b:Array ar}{t:ar}(h:o.op=.call { callee:=.builtin .len,args:=#[x],argTypes:=b })(r:b[0]?=aa t){i:TI}{E:ar}(hi:bF T t=aa i)(m:i.desc=.slice E)
  {tt:Bool} {k n:Nat} {es:Nat->List C} (l:∀ s v,dc σ s v (j x)->Rd s.M v (.sl tt k n es)):bH P o j σ (.e (.one (.c (.int .i64 n)))) σ:=by
 refine .quiet λs ρ hh hr=>?_
 obtain⟨a,cap,vs,p,f,hb,_⟩:=(l s _ (hr x)).flat;have g:=(q t i hi).run_underlying (w:=s.w);rw[m] at g;have d:b[0]?=aa t:=r;refine⟨.int .i64 n,?_,Rd.int (by simp only[bx];omega),?_⟩ <;>
 simp[ay,h,resolve,invoke,builtin,Builtin.len_,p,g,goInt,d]
def bH.Q4{P:aq}{T:List (Nat×TI)}(p:dg P T){o:aw}{j:an->D}{σ:List aV}{x:an}{a:Array ar}{t:ar}(h:o.op=.call { callee:=.builtin .len,args:=#[x],argTypes:=a })(q:a[0]?=aa t){i:TI}(hi:bF T t=aa i)(m:i.desc=.string)
  {l:List UInt8} (k:j x=.e (.one (.c (.str l)))):bH P o j σ (.e (.one (.c (.int .i64 l.length)))) σ:=by
 refine .quiet λs ρ hh hr=>?_
 have h1:=hr x;rw[k] at h1
 replace h1:=fy h1
 generalize d:ρ x=vx at h1;cases h1 with
 |@str sb _ n hl =>
 have g:=(p t i hi).run_underlying (w:=s.w);rw[m] at g;have b:a[0]?=aa t:=q;have f:sb.size=l.length:=by rw[<-n];exact jg.symm
 refine⟨.int .i64 l.length,?_,Rd.int (by simp only[bx];omega),?_⟩ <;>
 simp[ay,h,resolve,invoke,builtin,Builtin.len_,d,g,goInt,b,f]
def St.newRow(s:St)(E:ar)(vs:List ak):St :=
 { β:=s.β,M:=λb o=>if b=s.w.heap.size then vs[o]? else s.M b o,w:=s.w.alloc (.cells vs.toArray E),own:=s.own }
def aJ.newRow{σ:List aV}{s:St}(h:aJ σ s)(E:ar)(vs:List ak):aJ σ (s.newRow E vs)/\Step σ s σ (s.newRow E vs):=by
 refine h.grow (by simp) (λb hb=>cK _ _ hb) (λb hb o=>by grind) (λb hb o v a=>?_) rfl rfl rfl
 by_cases e:b=s.w.heap.size
 .subst e;simp at a;show a9 (s.w.alloc (.cells vs.toArray E)) ⟨s.w.heap.size,o,af⟩=aa v;unfold a9
  grind [dx]
 .simp only[e,cd] at a;have:=h.block a;omega
def Hn(s:St)(E:ar)(vs:List ak):∀ p u,vs[p]?=aa u->(s.newRow E vs).M s.w.heap.size (0+p)=aa u:=by
 intro p u h;simpa[St.newRow] using h
def gn:List A->Option (List C)
 |[]=>aa []
 |.c c::r=>match gn r with|some q=>aa (c::q)|none=>af
 |.vec _ k n es::r=>match gn r with|some q=>aa (.sl ae k n es::q)|none=>af
 |_::_=>af
def kn{σ:List aV}{s:St}:∀ {cs:List A}{r:List C}{vs:List ak},gn cs=aa r->dW σ s vs cs->dW σ s vs (r.map A.c)
 |[],r,vs,h,a=>by cases h;exact a
 |_::_,_,[],_,a=>a.elim
 |.c c::al,r,v::vs,h,a=>by
  simp only[gn] at h;cases b:gn al with
  |none=>grind
  |some q=>simp[b] at h;subst h;exact⟨a.1,kn b a.2⟩
 |.vec l k n es::al,r,v::vs,h,a=>by
  simp only[gn] at h;cases b:gn al with
  |none=>grind
  |some q=>simp[b] at h;subst h;exact⟨a.1.1,kn b a.2⟩
 |.ptr l o::al,r,v::vs,h,a=>by simp[gn] at h
 |.ref l::al,r,v::vs,h,a=>by simp[gn] at h
 |.bp l w::al,r,v::vs,h,a=>by simp[gn] at h
 |.any::al,r,v::vs,h,a=>by simp[gn] at h
def qz{α:Type}(k:Nat):Nat->List α->Option (List (List α))
 |0,[]=>aa []
 |0,_::_=>af
 |n+1,l=>match ov k l with
  |some c=>match qz k n (hJ k l) with
   |some r=>aa (c::r)
   |none=>af
  |none=>af
def dW.closed{σ:List aV}{s:St}:∀ {vs:List ak}{cs:List C},dW σ s vs (cs.map A.c)->∀ (j:Nat)(c:C),cs[j]?=aa c->∃ v,vs[j]?=aa v/\Rd s.M v c:=by
 intro vs cs h j c hj;obtain⟨v,h1,h2⟩:=h.get (j:=j) (a:=.c c) (by grind)
 exact⟨v,h1,h2⟩
def sV{M:Mem}{k:Nat}:∀ {n:Nat}{cs:List C}{es:List (List C)}{vs:List ak},qz k n cs=aa es->vs.length=cs.length->(∀ (j:Nat)(c:C),cs[j]?=aa c->∃ v,vs[j]?=aa v/\Rd M v c)->es.length=n/\Flat M k n (λi=>es.getD i []) vs
 |0,[],es,vs,h,a,b=>by cases h;simp at a;subst a;exact⟨rfl,.nil⟩
 |0,_::_,es,vs,h,a,b=>by cases h
 |n+1,cs,es,vs,h,a,b=>by
  simp only[qz] at h;cases g:ov k cs with
  |none=>grind
  |some c =>
   simp only[g] at h;cases d:qz k n (hJ k cs) with
   |none=>grind
   |some q =>
    simp[d] at h;subst h;obtain⟨m,f⟩:=m9 g;rw[nk] at d;obtain⟨r,p⟩:=sV (vs:=vs.drop k) d (by grind) (λj c o=>by
     obtain⟨v,m,f⟩:=b (k+j) c (by grind)
     exact⟨v,by grind,f⟩)
    refine⟨by grind,?_⟩
    have s:k<=cs.length:=by grind
    have l:Flat M k 1 (λ_=>c) (vs.take k):=by
     refine⟨by grind,by grind,λi hi j x o=>?_⟩
     grind
    have:=l.append p;rw[Nat.add_comm 1 n] at this;have e:cR 1 (λ_=>c) (λi=>q.getD i [])=λi=>(c::q).getD i []:=by
     funext i
     cases i <;> simp[cR]
    rw[e] at this;simpa using this
def DM(T:List (Nat×TI))(a:an->D)(t:ar)(n:Nat)(parts:List (Nat×an)):Option (Nat×List (List C)) :=
 match bF T t with
 |some i=>match i.desc with
  |.slice E=>match bF T E with
   |some ie=>match aG ie.size 0 with
    |true=>af
    |false=>match bo (n*ie.size) 16777216 with
     |true=>match nV a parts with
      |some ps=>match vt (λk=>aa (k*ie.size,ie.size)) ps (List.replicate (n*ie.size) A.any) with
       |some cs=>match gn cs with
        |some r=>match qz ie.size n r with
         |some es=>aa (ie.size,es)
         |none=>af
        |none=>af
       |none=>af
      |none=>af
     |false=>af
   |none=>af
  |_=>af
 |none=>af
def bH.buildSlice{P:aq}{T:List (Nat×TI)}(N:dg P T){o:aw}{U:an->D}{σ:List aV}{t:ar}{n:Nat}{parts:Array (Nat×an)}(h:o.op=.buildSlice t n parts){k:Nat}{es:List (List C)}
  (a:DM T U t n parts.toList=aa (k,es)):bH P o U σ (.e (.one (.c (.sl ab k n λi=>es.getD i [])))) σ:=by
 intro s ρ hh hr;unfold DM at a;cases hi:bF T t with
 |none=>grind
 |some i =>
  simp only[hi] at a;cases V:i.desc with
  |slice E =>
   simp only[V] at a;cases L:bF T E with
   |none=>grind
   |some ie =>
    simp only[L] at a;cases S:aG ie.size 0 with
    |true=>grind
    |false =>
     simp only[S] at a;cases y:bo (n*ie.size) 16777216 with
     |false=>grind
     |true =>
      simp only[y] at a;cases G:nV U parts.toList with
      |none=>grind
      |some ps =>
       simp only[G] at a;cases j:vt (λk=>aa (k*ie.size,ie.size)) ps (List.replicate (n*ie.size) A.any) with
       |none=>grind
       |some cs =>
        simp only[j] at a;cases H:gn cs with
        |none=>grind
        |some r =>
         simp only[H] at a;cases F:qz ie.size n r with
         |none=>grind
         |some es' =>
          simp only[F,di,k8] at a;obtain⟨rfl,rfl⟩:=a;have hz0:ie.size≠0:=λe=>by rw[e] at S;cases S
          have X:=db y;obtain⟨inf,z,z1,z2,z3,Y,W,z6,z7⟩:=(N E ie L).info;have hzs:z.cells.size=ie.size:=by
           have:=du List.length W
           grind
          have Z:∀ v∈z.cells.toList,cZ v=ab:=by
           intro v K;have d:qi v∈z.cells.toList.map qi:=lB.2 ⟨v,K,rfl⟩;rw[W] at d;obtain⟨c,_,hc⟩:=lB.1 d;exact(Rd.qi (M:=s.M) hc.symm).cell
          have l:∀ m,(∀ v∈(bh m).map (λq=>z.cells[q % z.cells.size]!),cZ v=ab):=by
           grind [jG]
          have B:∀ vs:List ak,(∀ v∈vs,cZ v=ab)->dW σ s vs (List.replicate vs.length A.any):=by
           intro vs
           induction vs with
           |nil=>intro _;trivial
           |cons v vs ih=>intro K;exact⟨K v (by simp),ih λu J=>K u (by grind)⟩
          obtain⟨p1,p2⟩:=pS (σ:=σ) (s:=s) hr G;have Q:dW σ s ((Array.range (n*ie.size)).map (λq=>z.cells[q % z.cells.size]!)).toList (List.replicate (n*ie.size) A.any):=by
           have:=B _ (l (n*ie.size));simpa using this
          obtain⟨I,u1,u2⟩:=rF (σ:=σ) (s:=s) (place':=λk=>aa (k*ie.size,ie.size)) (λk p hk=>hk) j p1 p2 Q
          have u3:=kn H u2;obtain⟨c1,c2⟩:=sV (M:=s.M) (vs:=I.toList) F (by simpa using u3.length) u3.closed
          obtain⟨g1,g2⟩:=hh.newRow E I.toList;refine⟨.value (.slice (aa ⟨s.w.heap.size,0,af⟩) n n),s.newRow E I.toList,?_,?_,g1,g2,?_⟩
          rotate_left 2
          .have e:(ay ρ o).events P s.w #[]=#[]:=by
            simp only[ay,h];exact cO.bind cO.buildSlice (λ_=>cO.pure) _ _
           rw[e];exact .nil
          .have J:=(N t i hi).run_underlying (w:=s.w);rw[V] at J;have O:(zeroValue E).run P s.w=.ok z s.w:=by simp[zeroValue,typeInfo,z1,Y]
           have f:Instr.fill (λk=>aa (k*ie.size,ie.size)) ((Array.range (n*ie.size)).map (λq=>z.cells[q % z.cells.size]!)) (parts.map λ(i,x)=>(i,ρ x)).toList=aa I:=by simpa using u1
           by_cases h0:n*ie.size=0
           .have R:n=0:=by grind [Nat.mul_eq_zero]
            subst R;have g:Array.range 0=#[]:=rfl;simp[g] at f;simp[ay,h,Instr.buildSlice,J,(N E ie L).run_sizeOf,g,f,Go.newRow,St.newRow]
           .rw[show ay ρ o=(do pure (.value (<-Instr.buildSlice t n (parts.map λ(i,x)=>(i,ρ x))))) by simp[ay,h]]
            simp only[Instr.buildSlice,bY,J,b9,(N E ie L).run_sizeOf,h0,cd,O,show ¬n*ie.size>2 ^ 24 by omega,pL,f,cY]
            simp[Go.newRow,St.newRow]
          .refine Rd.qw (c2.mono g2.mem) (b:=s.w.heap.size) (off:=0) (λ_=>rfl) (bg _) ?_ (λ_=>rfl) (Hn s E I.toList)
           have:n<=n*ie.size:=qY n (by omega)
           omega
  |_=>grind
def Ext.trans{σ σ1 σ2:List aV}{s a s2:St}(h:Ext σ s σ1 a)(k:Ext σ1 a σ2 s2):Ext σ s σ2 s2:=by
 refine⟨λb o v n=>k.mem _ _ _ (h.mem _ _ _ n),λl B L r j=>?_⟩
 obtain⟨B1,L1,h1,h2,p⟩:=h.box l B L r j;obtain⟨c,f,k1,e,m⟩:=k.box l B1 L1 h1 h2;exact⟨c,f,k1,e,p.trans m⟩
def fT{α:Type}{l:List α}{x y:α}{i:Nat}(h:(l++[x])[i]?=aa y):l[i]?=aa y∨(i=l.length/\y=x):=by
 grind
def aJ.gT{σ:List aV}{s a:St}(h1:aJ σ a)(st:Step σ s σ a)(m:a.β=s.β)(hh:aJ σ s){B:aV}{L:Loc}(p:eP (σ++[B]) { a with β:=a.β++[L] } B L)
  (f:∀ b∈L.bs,s.w.heap.size<=b/\b<a.w.heap.size):aJ (σ++[B]) { a with β:=a.β++[L] }/\Step σ s (σ++[B]) { a with β:=a.β++[L] }:=by
 have ex:Ext σ a (σ++[B]) { a with β:=a.β++[L] }:=by
  refine⟨λ_ _ _ h=>h,λl B' L' nD gI=>?_⟩
  have hl:l<a.β.length:=(cr.1 gI).1;have o:l<σ.length:=(cr.1 nD).1;exact⟨B',L',by grind,by grind,.refl _ _⟩
 have e2:=st.ext.trans ex;refine⟨⟨h1.mem,by simp[h1.len],?_,?_,?_,?_⟩,⟨st.size,st.eN,st.mem,st.jz,?_,e2.box,st.os,st.tape,st.output,st.own⟩⟩
 .intro l B' L' nD gI;rcases fT nD with j|⟨rfl,rfl⟩
  .have hl:l<a.β.length:=by rw[h1.len];grind
   rw[jD hl] at gI;exact(h1.box l B' L' j gI).carry ex h1.len λ_ _=>⟨rfl,λ_=>rfl⟩
  .rcases fT gI with c|⟨_,rfl⟩
   .have:=(cr.1 c).1;rw[h1.len] at this;omega
   grind
 .intro l l' L1 L2 c k b hb oO;rcases fT c with k1|⟨rfl,rfl⟩ <;> rcases fT k with n|⟨rfl,rfl⟩
  .exact h1.gg l l' L1 L2 k1 n b hb oO
  .have a1:=f b oO;have a2:=hh.lt L1 (by grind) b hb
   omega
  .have a1:=f b hb;have a2:=hh.lt L2 (by grind) b oO
   omega
  .rfl
 .intro L' gI b hb;simp only[gB,kY] at gI;rcases gI with gI|rfl
  .exact h1.lt L' gI b hb
  grind
 .intro b hb;refine⟨(h1.own b hb).1,λL' gI QH=>?_⟩
  simp only[gB,kY] at gI;rcases gI with gI|rfl
  .exact(h1.own b hb).2 L' gI QH
  .have e:=st.own;simp only at hb;rw[e] at hb;have:=(hh.own b hb).1
   grind
 grind
def aJ.iP{σ:List aV}{s:St}{M':Mem}{w':az}(hh:aJ σ s){l:Nat}{B B':aV}{L L':Loc}(u:σ[l]?=aa B)(j:s.β[l]?=aa L)(F:ij B L B' L')
  (r:s.w.heap.size<=w'.heap.size) (R:∀ b,b<s.w.heap.size->b∉L.bs->w'.heap[b]?=s.w.heap[b]?) (K:∀ b,b<s.w.heap.size->b∉L.bs->∀ o,M' b o=s.M b o)
  (h:∀ b o v,s.M b o=aa v->M' b o=aa v) (J:∀ b o v,M' b o=aa v->w'.cell? ⟨b,o,af⟩=aa v)
  (I:∀ b∈L'.bs,(b∈L.bs∨s.w.heap.size<=b)/\b<w'.heap.size)
  (G:w'.os=s.w.os) (H:w'.tape=s.w.tape) (D:w'.output=s.w.output)
  (Q:eP (σ.set l B') ⟨s.β.set l L',M',w',s.own⟩ B' L'):aJ (σ.set l B') ⟨s.β.set l L',M',w',s.own⟩/\Step σ s (σ.set l B') ⟨s.β.set l L',M',w',s.own⟩:=by
 have A:l<σ.length:=(cr.1 u).1;have z:l<s.β.length:=(cr.1 j).1;have a:∀ i X,(s.β.set l L')[i]?=aa X->(i=l/\X=L')∨(i≠l/\s.β[i]?=aa X):=by
  grind
 have ex:Ext σ s (σ.set l B') ⟨s.β.set l L',M',w',s.own⟩:=by
  refine⟨h,λi X Y c m=>?_⟩
  by_cases e:l=i
  .grind
  .exact⟨X,Y,by grind,by grind,.refl _ _⟩
 have out:∀ i X,i≠l->s.β[i]?=aa X->∀ b∈X.bs,b<s.w.heap.size/\b∉L.bs:=by
  intro i X hi c b hb;exact⟨hh.lt X (bU c) b hb,λp=>hi (hh.gg i l X L c j b hb p)⟩
 refine⟨⟨J,by simp[hh.len],?_,?_,?_,?_⟩,⟨r,?_,h,?_,?_,ex.box,G,H,D,rfl⟩⟩
 .intro i X Y c m;rcases a i Y m with⟨rfl,rfl⟩|⟨hi,m⟩
  .grind
  .rw[iL (λe=>hi e.symm)] at c
   refine(hh.box i X Y c m).carry ex hh.len λb hb=>?_
   grind
 .intro i C X y c f b hb oO;rcases a i X c with⟨rfl,rfl⟩|⟨hi,n⟩ <;> rcases a C y f with⟨rfl,rfl⟩|⟨x,k⟩
  .rfl
  .grind
  .grind
  .exact hh.gg i C X y n k b hb oO
 .intro X c b hb;obtain⟨i,hi,rfl⟩:=dH c;rcases a i _ (br hi) with⟨rfl,e⟩|⟨x,f⟩
  .grind
  grind
 .intro b hb;obtain⟨O,N⟩:=hh.own b hb
  grind
 .grind
 .grind
 grind
def rz{a old bytes:Nat}(h:old<a)(b:a*bytes<=140737488355328):¬Builtin.nextslicecap a old*bytes>2 ^ 48:=by
 have:=growslice_fits h b;omega
section
variable {P:aq}{T:List (Nat×TI)}(q:dg P T){σ:List aV}{s:St}{t g ty E:ar}{i i2 d:TI}
def jc(hi:bJ P t i)(u:i.desc=.slice E)(j:bJ P g i2)(f:i2.desc=.slice E)(p:bJ P E d)(y:aJ σ s)
  {a:Option Addr} {n cap:Nat} (e:n<=cap) {x:ak} {tx:Bool} {es':Nat->List C} (k:Rd s.M x (.sl tx d.size 0 es')) :
  (Builtin.append_ #[t,g] ty #[.slice a n cap,x]).run P s.w=.ok (.slice a n cap) s.w:=by
 obtain⟨b,v,r,o⟩:=dO (P:=P) y k;have m:=hi.run_underlying (w:=s.w);have c:=j.run_underlying (w:=s.w);rw[u] at m;rw[f] at c;obtain⟨a',l,vs,rfl,_⟩:=k.flat;have h:b=[]:=hZ (by simpa using v.len)
 subst h;cases a <;> simp[Builtin.append_,m,c,p.run_sizeOf,Builtin.lenOf,e,r,storeCells]
def im(hi:bJ P t i)(S:i.desc=.slice E)(I:bJ P g i2)(D:i2.desc=.slice E)(O:bJ P E d)(hh:aJ σ s)
  {a:Option Addr} {n cap m:Nat} {Y tx:Bool} {es es':Nat->List C} {x:ak} (hv:Rd s.M (.slice a n cap) (.sl Y d.size n es)) (U:Rd s.M x (.sl tx d.size m es')) (W:cap<n+m) (N:(n+m)*d.bytes<=140737488355328) (G:d.bytes≠0) :
  ∃ vs zs Np,Flat s.M d.size (n+m) (cR n es es') vs/\n+m<=Np/\Np<=9223372036854775807/\(vs++zs).length=Np*d.size /\
   (Builtin.append_ #[t,g] ty #[.slice a n cap,x]).run P s.w=.ok (.slice (aa ⟨s.w.heap.size,0,af⟩) (n+m) Np) (s.w.drew.alloc (.cells (vs++zs).toArray E)):=by
 have p:aJ σ { s with w:=s.w.drew }:=hh.same rfl;obtain⟨b,Q,B,l⟩:=dO (P:=P) p (v:=x) U;obtain⟨c,r,f,hlo⟩:=dO (P:=P) p (v:=.slice a n cap) hv;have K:=hi.run_underlying (w:=s.w);have j:=I.run_underlying (w:=s.w);rw[S] at K;rw[D] at j;obtain⟨k,z,L,z2,z3,R,z5,z6,z7⟩:=O.info;have V:n+m<=140737488355328:=eL (qY _ (Nat.pos_of_ne_zero G)) N;have H:z.cells.size=d.size:=by
  have:=du List.length z5
  grind
 refine⟨c++b,(Builtin.zeroCells z.cells (grownCap s.w (n+m) cap E-(n+m))).toList,grownCap s.w (n+m) cap E,r.append Q,grownCap_ge _ _ _ _,?_,?_,?_⟩
 .have:=grownCap_le_maxLen s.w (n+m) cap E (by unfold maxLen;omega)
  unfold maxLen at this;omega
 .have QI:=grownCap_ge s.w (n+m) cap E;simp only[bR,r.len,Q.len,jg,size_zeroCells,H,<-gR]
  grind
 .have X:=rz W N;have o:¬Builtin.nextslicecap (n+m) cap*k.bytes>2 ^ 48:=by grind
  have y:¬n+m<=cap:=by omega
  have J:¬((n+m:Nat):Int)>IntKind.i64.max:=by
   have e:IntKind.i64.max=9223372036854775807:=rfl
   grind
  have F:∀ u,(typeInfo E).run P u=.ok k u:=λu=>by simp[typeInfo,L]
  have A:∀ u,(zeroValue E).run P u=.ok z u:=λu=>by simp[zeroValue,typeInfo,L,R]
  have h:(Builtin.lenOf x).run P s.w=.ok m s.w:=by rw[l];rfl
  replace B:(Builtin.firstCells d.size m x).run P s.w.drew=.ok b.toArray s.w.drew:=B
  replace f:(Builtin.firstCells d.size n (.slice a n cap)).run P s.w.drew=.ok c.toArray s.w.drew:=f
  unfold Builtin.append_;simp only[iJ,kX,mN,bY,K,j,b9,O.run_sizeOf,cY,jE,cd,h,y,
   J,false_and,F,o,run_choose,Question.forced,run_askRoom,pL,World.drew_eq,f,B,ic,cu,A]
  simp[Go.newRow,grownCap];have e:∀ Z:Array ak,(c++b).toArray++Z=(c++(b++Z.toList)).toArray:=λZ=>by grind
  rw[e];rfl
def kh(hi:bJ P t i)(A:i.desc=.slice E)(o:bJ P g i2)(l:i2.desc=.slice E)(G:bJ P E d)(D:aJ σ s)
  {b n cap m:Nat} {v:ar} {c:List ak} (F:s.w.heap[b]?=aa (.cells c.toArray v (0,0))) (k:c.length=cap*d.size) {tx:Bool} {es':Nat->List C} {x:ak} (B:Rd s.M x (.sl tx d.size m es')) (u:n+m<=cap) :
  ∃ a,Flat s.M d.size m es' a/\(Builtin.append_ #[t,g] ty #[.slice (aa ⟨b,0,af⟩) n cap,x]).run P s.w=.ok (.slice (aa ⟨b,0,af⟩) (n+m) cap) (s.w.setRow b (c.take (n*d.size)++a++c.drop (n*d.size+a.length)).toArray):=by
 obtain⟨a,p,z,h⟩:=dO (P:=P) D B;have y:=hi.run_underlying (w:=s.w);have f:=o.run_underlying (w:=s.w);rw[A] at y;rw[l] at f;have r:n*d.size+a.length<=c.length:=by
  rw[p.len,k,<-gR];exact et _ u
 have j:=run_storeCells_at P b (n*d.size) v a 0 c.toArray s.w F (by grind) p.cell
 simp only[iO] at j;have e:(Builtin.lenOf x).run P s.w=.ok m s.w:=by rw[h];rfl
 refine⟨a,p,?_⟩;unfold Builtin.append_;simp only[iJ,kX,mN,bY,y,f,b9,G.run_sizeOf,cY,jE,cd,e,u,cu,ic,z,dj,bt,j]
end
def DG{α:Type}{P:aq}{x:Sem α}{w:az}{es:Array Event}{e:Event}(h:e∈x.events P w es):e∈es∨e∈x.events P w #[]:=by
 grind [Sem.events_acc]
def ZH(s:St)(e:Event):Prop:=∃ b o u,e=zw b o/\s.M b o=aa u
def gN{P:aq}{σ:List aV}{s:St}(D:aJ σ s){v:ak}{t:Bool}{k n:Nat}{es:Nat->List C}(h:Rd s.M v (.sl t k n es)){w:az}(y:w.heap=s.w.heap) :
  ∀ e∈(Builtin.firstCells k n v).events P w #[],ZH s e:=by
 obtain⟨a,cap,vs,rfl,r,G,J,B,F⟩:=h.flat;have I:vs.length=n*k:=B.len;intro e l;cases a with
 |none=>simp[Builtin.firstCells] at l
 |some ad =>
  simp only[Builtin.firstCells] at l;have c:∀ j,j<n*k->∃ b off u,ad=⟨b,off,af⟩/\s.M b (off+j)=aa u:=by
   intro j o;obtain⟨b,off,H,m⟩:=F j (vs[j]'(by omega)) (br (by omega))
   grind
  by_cases x:n*k=0
  .rw[x] at l;simp[loadCells,loadCellsFrom] at l
  .obtain⟨b,off,_,rfl,_⟩:=c 0 (by omega)
   have A:∀ j,j<n*k->∃ v,w.cell? ⟨b,off+j,af⟩=aa v:=by
    intro j o;obtain⟨z,f,u,p,m⟩:=c j o;cases p;have:=D.mem _ _ _ m;exact⟨u,by simp only[a9,y] at this ⊢;exact this⟩
   rcases rA (P:=P) A e l with h|⟨j,o,rfl⟩
   .grind
   .obtain⟨z,f,u,p,m⟩:=c j o;cases p;exact⟨_,_,u,rfl,m⟩
def sU{s:St}{e:Event}(h:ZH s e):oE s e:=by
 obtain⟨b,o,u,rfl,a⟩:=h;exact Bo a
section
variable {P:aq}{σ:List aV}{s:St}{t g ty E:ar}{i i2 d:TI}
def jI(hi:bJ P t i)(z:i.desc=.slice E)(m:bJ P g i2)(h:i2.desc=.slice E)(v:bJ P E d)(u:aJ σ s)
  {a:Option Addr} {n cap:Nat} (f:n<=cap) {x:ak} {tx:Bool} {es':Nat->List C} (j:Rd s.M x (.sl tx d.size 0 es')) :
  eZ s ((Builtin.append_ #[t,g] ty #[.slice a n cap,x]).events P s.w #[]):=by
 obtain⟨b,A,y,r⟩:=dO (P:=P) u j;have k:=gN (P:=P) u j (w:=s.w) rfl;have p:=hi.run_underlying (w:=s.w);have c:=m.run_underlying (w:=s.w);rw[z] at p;rw[h] at c;obtain⟨a',o,vs,rfl,_⟩:=j.flat;have l:b=[]:=hZ (by simpa using A.len)
 subst l;intro e B;refine sU (k e ?_);cases a <;> simpa[Builtin.append_,p,c,v.run_sizeOf,Builtin.lenOf,f,y,storeCells] using B
def iV(hi:bJ P t i)(hd:i.desc=.slice E)(O:bJ P g i2)(J:i2.desc=.slice E)(X:bJ P E d)(N:aJ σ s)
  {a:Option Addr} {n cap m:Nat} {td tx:Bool} {es es':Nat->List C} {x:ak} (V:Rd s.M (.slice a n cap) (.sl td d.size n es)) (R:Rd s.M x (.sl tx d.size m es')) (hg:cap<n+m) (W:(n+m)*d.bytes<=140737488355328) (L:d.bytes≠0) :
  eZ s ((Builtin.append_ #[t,g] ty #[.slice a n cap,x]).events P s.w #[]):=by
 have D:aJ σ { s with w:=s.w.drew }:=N.same rfl;obtain⟨p,hF,H,b⟩:=dO (P:=P) D (v:=x) R;obtain⟨A,hFo,j,hlo⟩:=dO (P:=P) D (v:=.slice a n cap) V;have No:=gN (P:=P) N R (w:=s.w.drew) rfl;have Y:=gN (P:=P) N V (w:=s.w.drew) rfl;have S:=hi.run_underlying (w:=s.w);have y:=O.run_underlying (w:=s.w);rw[hd] at S;rw[J] at y;obtain⟨f,z,U,z2,z3,Z,z5,z6,z7⟩:=X.info;have hle:n+m<=140737488355328:=eL (qY _ (Nat.pos_of_ne_zero L)) W;have hnx:=rz hg W;have B:¬Builtin.nextslicecap (n+m) cap*f.bytes>2 ^ 48:=by grind
 have F:¬n+m<=cap:=by omega
 have Q:¬((n+m:Nat):Int)>IntKind.i64.max:=by
  have e:IntKind.i64.max=9223372036854775807:=rfl
  grind
 have K:∀ u,(typeInfo E).run P u=.ok f u:=λu=>by simp[typeInfo,U]
 have G:∀ u,(zeroValue E).run P u=.ok z u:=λu=>by simp[zeroValue,typeInfo,U,Z]
 have k:(Builtin.lenOf x).run P s.w=.ok m s.w:=by rw[b];rfl
 have l:(Builtin.lenOf x).events P s.w #[]=#[]:=by rw[b];rfl
 replace H:(Builtin.firstCells d.size m x).run P s.w.drew=.ok p.toArray s.w.drew:=H
 replace j:(Builtin.firstCells d.size n (.slice a n cap)).run P s.w.drew=.ok A.toArray s.w.drew:=j
 intro e o;unfold Builtin.append_ at o;simp only[iJ,kX,mN,aO,bY,S,y,b9,aU,X.run_sizeOf,cY,jE,cd,k,l,F,
  Q,false_and,K,B,run_choose,Question.forced,run_askRoom,pL,Sem.events_ite,World.drew_eq,j,H,ic,cu,G,events_underlying,events_sizeOf,events_typeInfo,events_choose,events_zeroValue,Sem.events_pure] at o
 have I:∀ (x:Nat) (w:az) (e:Event),e∈(askRoom x).events P w #[]->e=⟨.mark .noRoom,ae,ab⟩:=by
  intro x w e h;unfold askRoom at h
  simp_all
 rw[cO.newRow (P:=P)] at o;generalize (Go.newRow E _).run P s.w.drew=r at o;have c:e∈(Builtin.firstCells d.size m x).events P s.w.drew ((Builtin.firstCells d.size n (.slice a n cap)).events P s.w.drew ((askRoom ((Question.appendCap (n+m) cap E).cut (s.w.tape s.w.drawn (Question.appendCap (n+m) cap E))*f.bytes)).events P s.w.drew #[])):=by
  cases r with
  |ok v w'=>simpa using o
  |halt v w'=>simpa using o
 rcases DG c with c|c
 .rcases DG c with c|c
  .rw[I _ _ _ c];exact .inl rfl
  grind [sU]
 grind [sU]
def lQ(hi:bJ P t i)(Q:i.desc=.slice E)(A:bJ P g i2)(z:i2.desc=.slice E)(S:bJ P E d)(I:aJ σ s)
  {b n cap m:Nat} {H:ar} {c:List ak} (J:s.w.heap[b]?=aa (.cells c.toArray H (0,0))) (u:c.length=cap*d.size) {tx:Bool} {es':Nat->List C} {x:ak} (F:Rd s.M x (.sl tx d.size m es')) (G:n+m<=cap)
  {L:Loc} (W:L∈s.β) (R:b∈L.bs) (v:∀ o,n*d.size<=o->s.M b o=af) :
  eZ s ((Builtin.append_ #[t,g] ty #[.slice (aa ⟨b,0,af⟩) n cap,x]).events P s.w #[]):=by
 obtain⟨a,B,O,f⟩:=dO (P:=P) I F;have N:=gN (P:=P) I F (w:=s.w) rfl;have K:=hi.run_underlying (w:=s.w);have p:=A.run_underlying (w:=s.w);rw[Q] at K;rw[z] at p;have D:n*d.size+a.length<=c.length:=by
  rw[B.len,u,<-gR];exact et _ G
 have r:=run_storeCells_at P b (n*d.size) H a 0 c.toArray s.w J (by grind) B.cell
 simp only[iO] at r;have k:(Builtin.lenOf x).run P s.w=.ok m s.w:=by rw[f];rfl
 have l:(Builtin.lenOf x).events P s.w #[]=#[]:=by rw[f];rfl
 intro e y;unfold Builtin.append_ at y;simp only[iJ,kX,mN,aO,bY,K,p,aU,S.run_sizeOf,cY,jE,cd,k,l,G,cu,ic,O,dj,bt,r,
  pL,Sem.events_ite,events_underlying,events_sizeOf,Sem.events_pure] at y
 rcases eE a 0 c.toArray s.w _ J (by grind) B.cell e y with h|⟨j,V,U,rfl⟩
 .grind [sU]
 grind [mn]
end
structure mj (P:aq)(o:aw)(x y:an)(E:ar)(d:TI):Prop where
 op:∃ t g i i2,o.op=.call { callee:=.builtin .append,args:=#[x,y],argTypes:=#[t,g] }/\bJ P t i/\i.desc=.slice E/\bJ P g i2/\i2.desc=.slice E
 elem:bJ P E d
 bytes:d.bytes≠0
 size:d.size≠0
def St.grown(s:St)(E:ar)(vs zs:List ak)(β:List Loc):St :=
 { β:=β,M:=λb o=>if b=s.w.heap.size then vs[o]? else s.M b o,w:=s.w.drew.alloc (.cells (vs++zs).toArray E),own:=s.own }
def yf{σ:List aV}{s:St}(h:aJ σ s)(E:ar)(vs zs:List ak):∀ b o v,(if b=s.w.heap.size then vs[o]? else s.M b o)=aa v->(s.w.drew.alloc (.cells (vs++zs).toArray E)).cell? ⟨b,o,af⟩=aa v:=by
 intro b o v a
 by_cases e:b=s.w.heap.size
 .subst e;simp only[cu] at a;unfold a9;have:(s.w.drew.alloc (.cells (vs++zs).toArray E)).heap[s.w.heap.size]?=aa (.cells (vs++zs).toArray E):=dx s.w.drew _
  grind
 .simp only[e,cd] at a;have c:=h.block a;rw[<-h.mem b o v a];unfold a9;have:(s.w.drew.alloc (.cells (vs++zs).toArray E)).heap[b]?=s.w.heap[b]?:=cK s.w.drew _ c
  grind
def yg{σ:List aV}{s:St}(h:aJ σ s)(vs:List ak):∀ b o v,s.M b o=aa v->(if b=s.w.heap.size then vs[o]? else s.M b o)=aa v:=by
 intro b o v a;have:=h.block a
 grind
def ey{P:aq}{s:St}{m:Sem ak}(h:eZ s (m.events P s.w #[])):eZ s ((do pure (.value (<-m)):Sem Next).events P s.w #[]):=by
 simp_all
def c6{o:aw}{x y:an}{t g:ar}(h:o.op=.call { callee:=.builtin .append,args:=#[x,y],argTypes:=#[t,g] })(ρ:an->ak) :
  ay ρ o=(do pure (.value (<-Builtin.append_ #[t,g] o.type #[ρ x,ρ y]))):=by
 simp[ay,h,resolve,invoke,builtin]
def Rd.loose{M:Mem}{v:ak}{t:Bool}{k n:Nat}{es:Nat->List C}(h:Rd M v (.sl t k n es)):Rd M v (.sl ae k n es):=by
 cases h with
 |sl b off f a hb ht hk ha hm hr=>exact .sl b off f a hb (by simp) hk ha hm hr
def Rd.DD{M:Mem}{v:ak}{t:Bool}{k n:Nat}{es es':Nat->List C}(e:∀ i,i<n->es i=es' i)(h:Rd M v (.sl t k n es)):Rd M v (.sl t k n es'):=by
 cases h with
 |sl b off f a hb ht hk ha hm hr=>exact .sl b off f a hb ht (λi hi=>by grind) ha (λi hi j c hj=>hm i hi j c (by grind)) (λi hi j c hj=>hr i hi j c (by grind))
def Rd.uX{M:Mem}{v:ak}{k k' n:Nat}{es:Nat->List C}(c:k=k'∨n=0)(h:Rd M v (.sl ab k n es)):Rd M v (.sl ab k' n es):=by
 rcases c with rfl|rfl
 .exact h
 .obtain⟨a,cap,vs,e,f,b,j,_⟩:=h.flat
  grind [Rd.jJ]
def pP{σ:List aV}{s:St}{l:Nat}{E:ar}{k n:Nat}{es:Nat->List C}{L:Loc}(a:σ[l]?=aa (.vec E k n es))(c:s.β[l]?=aa L)(h:eP σ s (.vec E k n es) L):gw σ s L.v (.vec l k n es):=by
 refine⟨h.1,(cr.1 a).1,λb k' n' es' he=>?_⟩
 grind
def bH.oU{P:aq}{o:aw}{U:an->D}{σ:List aV}{x y:an}{E:ar}{d:TI}(h:mj P o x y E d){n m k:Nat}{tx:Bool}{es es':Nat->List C}
  (Z:U x=.e (.one (.c (.sl ab k n es)))) (hk:k=d.size∨n=0) (hy:∀ s v,dc σ s v (U y)->Rd s.M v (.sl tx d.size m es')) (hb:(n+m)*d.bytes<=140737488355328) (hz:n=0∨0<m) :
  bH P o U σ (.e (.one (.vec σ.length d.size (n+m) (cR n es es')))) (σ++[.vec E d.size (n+m) (cR n es es')]):=by
 intro s ρ hh hr;obtain⟨t,g,i,i2,Q,hi,K,A,z⟩:=h.op;have h1:=hr x;rw[Z] at h1;have l:=Rd.uX hk (fy h1);have h2:=hy s _ (hr y);obtain⟨a,cap,vs,hv,B,GV,ht,hF,V⟩:=l.flat;have O:cap=n:=ht rfl;subst O;rw[c6 Q];rw[hv] at l ⊢
 by_cases X:m=0
 .subst X;have r:=jc (P:=P) (ty:=o.type) hi K A z h.elem hh (a:=a) B h2;simp only[iO];have l:=Rd.DD (es':=cR cap es es') (λi hi=>by grind) l
  have J:eP (σ++[.vec E d.size cap (cR cap es es')]) { s with β:=s.β++[⟨.slice a cap cap,[]⟩] } (.vec E d.size cap (cR cap es es')) ⟨.slice a cap cap,[]⟩:=⟨l.loose,.inl ⟨⟨rfl,by omega⟩,l⟩⟩
  obtain⟨R,g2⟩:=hh.gT (.refl _ _) rfl hh J (by simp)
  refine⟨.value (.slice a cap cap),_,?_,?_,R,g2,ey (jI hi K A z h.elem hh B h2)⟩
  .simp[r]
  .exact pP (by simp) (by simp[<-hh.len]) J
 .have W:cap<cap+m:=by omega
  obtain⟨j,G,f,H,N,S,I,r⟩:=im (P:=P) (ty:=o.type) hi K A z h.elem hh l h2 W hb h.bytes;have F:aJ σ (s.grown E j G s.β)/\Step σ s σ (s.grown E j G s.β) :=
   hh.grow (by simp) (λb hb=>cK s.w.drew _ hb) (λb hb o=>by grind)
    (λb hb o v V=>yf hh E j G b o v V) rfl rfl rfl
  have L:Rd (s.grown E j G s.β).M (.slice (aa ⟨s.w.heap.size,0,af⟩) (cap+m) f) (.sl ae d.size (cap+m) (cR cap es es')) :=
   Rd.qw (H.mono F.2.mem) (b:=s.w.heap.size) (off:=0) (λ_=>rfl) N S (by simp) (λp u Y=>by simpa[St.grown] using Y)
  have J:eP (σ++[.vec E d.size (cap+m) (cR cap es es')]) { (s.grown E j G s.β) with β:=(s.grown E j G s.β).β++[⟨.slice (aa ⟨s.w.heap.size,0,af⟩) (cap+m) f,[s.w.heap.size]⟩] } (.vec E d.size (cap+m) (cR cap es es')) ⟨.slice (aa ⟨s.w.heap.size,0,af⟩) (cap+m) f,[s.w.heap.size]⟩:=by
   refine⟨L,.inr ⟨s.w.heap.size,f,j++G,rfl,dx s.w.drew _,I,λo Q=>?_⟩⟩
   have hl:j.length<=o:=by rw[H.len];exact Q
   simp[St.grown,q8 hl]
  obtain⟨R,g2⟩:=F.1.gT F.2 rfl hh J (λb hb=>by
   simp at hb;subst hb;refine⟨bg _,?_⟩;simp[St.grown])
  refine⟨.value (.slice (aa ⟨s.w.heap.size,0,af⟩) (cap+m) f),_,?_,?_,R,g2,ey (iV hi K A z h.elem hh l h2 W hb h.bytes)⟩
  .simp[r];rfl
  .exact pP (by simp) (by simp[St.grown,<-hh.len]) J
def bH.GW{P:aq}{o:aw}{η:an->D}{σ:List aV}{x y:an}{E:ar}{d:TI}(h:mj P o x y E d){l n m:Nat}{tx:Bool}{es es':Nat->List C}
  (hx:η x=.e (.one (.vec l d.size n es))) (hl:σ[l]?=aa (.vec E d.size n es)) (hy:∀ s v,dc σ s v (η y)->Rd s.M v (.sl tx d.size m es')) (hb:(n+m)*d.bytes<=140737488355328) :
  bH P o η σ (.e (.one (.vec l d.size (n+m) (cR n es es')))) (σ.set l (.vec E d.size (n+m) (cR n es es'))):=by
 intro s ρ hh hr;obtain⟨t,g,i,i2,ho,hi,Z,J,H⟩:=h.op;have QJ:l<σ.length:=(cr.1 hl).1;have h1:=hr x;rw[hx] at h1;obtain⟨R,_,h1v⟩:=h1;obtain⟨L,U,hv⟩:=(h1v _ _ _ _ hl).2 rfl;have h2:=hy s _ (hr y);have QK:l<s.β.length:=(cr.1 U).1;have N:=hh.box l _ L hl U;obtain⟨a,cap,vs,Te,V,GV,ht,hF,hm⟩:=R.flat;rw[c6 ho,Te];rw[Te] at R;have S:L.v=.slice a n cap:=by grind
 by_cases h0:m=0
 .subst h0;have B:=jc (P:=P) (ty:=o.type) hi Z J H h.elem hh (a:=a) V h2;simp only[iO];have ha:∀ i,i<n->es i=cR n es es' i:=λi hi=>by simp[cR,hi]
  have VV:eP (σ.set l (.vec E d.size n (cR n es es'))) ⟨s.β.set l L,s.M,s.w,s.own⟩ (.vec E d.size n (cR n es es')) L:=by
   refine⟨N.1.DD ha,?_⟩;rcases N.2 with⟨h3,h4⟩|h3
   .exact .inl ⟨h3,h4.DD ha⟩
   grind
  have f:=hh.iP (M':=s.M) (w':=s.w) (B':=.vec E d.size n (cR n es es')) (L':=L) hl U ⟨λ_=>rfl,bg _⟩ (bg _) (λ_ _ _=>rfl) (λ_ _ _ _=>rfl) (λ_ _ _ h=>h) hh.mem
   (λb hb=>⟨.inl hb,hh.lt L (bU U) b hb⟩) rfl rfl rfl VV
  refine⟨.value (.slice a n cap),_,?_,?_,f.1,f.2,ey (jI hi Z J H h.elem hh V h2)⟩
  .simp[B]
  .rw[<-S];exact pP (E:=E) (by grind) (by grind) VV
 .have Q:¬(n+m=n):=by omega
  by_cases k:n+m<=cap
  .rcases N.2 with⟨QL,F⟩|⟨b,Je,A,rfl,hw,O,W⟩
   .rw[S] at F;obtain⟨_,_,_,e,_,_,ht2,_⟩:=F.flat
    grind
   .simp only at S;cases S;obtain⟨c,M6,B⟩:=kh (P:=P) (ty:=o.type) hi Z J H h.elem hh hw O h2 k;have TC:c.length=m*d.size:=M6.len;have WJ:b<s.w.heap.size:=(ia.1 hw).1
    let M':Mem:=λG o=>if G=b/\n*d.size<=o/\o<(n+m)*d.size then c[o-n*d.size]? else s.M G o
    have Dr:A.length=cap*d.size:=O;have hnm:(n+m)*d.size=n*d.size+m*d.size:=gR _ _ _;have WK:(n+m)*d.size<=cap*d.size:=et _ k;have TD:∀ G o v,s.M G o=aa v->M' G o=aa v:=by
     grind
    have QG:∀ p u,c[p]?=aa u->M' b (n*d.size+p)=aa u:=by
     grind
    have X:Rd M' (.slice (aa ⟨b,0,af⟩) (n+m) cap) (.sl ae d.size (n+m) (cR n es es')):=by
     refine Rd.qw (vs:=vs++c) ((hF.append M6).mono TD) (b:=b) (off:=0) (λ_=>rfl) k GV (by simp) (λp u hp=>?_)
     have PI:vs.length=n*d.size:=hF.len
     grind
    have f:=hh.iP (M':=M') (w':=s.w.setRow b (A.take (n*d.size)++c++A.drop (n*d.size+c.length)).toArray) (B':=.vec E d.size (n+m) (cR n es es')) (L':=⟨.slice (aa ⟨b,0,af⟩) (n+m) cap,[b]⟩) hl U
     ⟨λe=>absurd e Q,by omega⟩ (by simp) (λG _ I=>setRow_other _ _ _ _ (by grind)) (λG _ I o=>by
      grind) TD ?_ (λG I=>by
      simp at I;subst I;exact⟨.inl (by simp),by simpa using WJ⟩) rfl rfl rfl ?_
    .refine⟨.value (.slice (aa ⟨b,0,af⟩) (n+m) cap),_,?_,?_,f.1,f.2,ey (lQ hi Z J H h.elem hh hw O h2 k (bU U) (by simp) W)⟩
     .simp[B]
     .exact pP (L:=⟨.slice (aa ⟨b,0,af⟩) (n+m) cap,[b]⟩) (E:=E) (by grind) (by grind) (f.1.box l _ _ (by grind) (by grind))
    .intro G o v K
     by_cases I:G=b
     .subst I;have Y:∀ j,(s.w.setRow G (A.take (n*d.size)++c++A.drop (n*d.size+c.length)).toArray).cell? ⟨G,j,af⟩=(A.take (n*d.size)++c++A.drop (n*d.size+c.length))[j]?:=by
       grind [cell_setRow_same]
      rw[Y];simp only[M'] at K;have hkl:(A.take (n*d.size)).length=n*d.size:=by rw[List.length_take];omega
      split at K
      .grind
      .rename_i hc
       have h3:=hh.mem G o v K;have ho:o<n*d.size:=by
        grind
       rw[j8,jD (by omega),gQ,bd ho]
       simp only[a9,hw] at h3
       grind
     .simp only[M'] at K;rw[aY (by omega)] at K
      rw[<-hh.mem G o v K];simp only[a9]
      grind [setRow_other]
    .refine⟨X,.inr ⟨b,cap,_,rfl,setRow_heap _ _ _ _ _ _ hw,?_,λo ho=>?_⟩⟩
     .grind
     grind
  .have hg:cap<n+m:=by omega
   obtain⟨z,zs,r,Nn,VW,VX,hlen,B⟩:=im (P:=P) (ty:=o.type) hi Z J H h.elem hh R h2 hg hb h.bytes;have hbl:∀ b∈L.bs,b<s.w.heap.size:=hh.lt L (bU U);have X:Rd (λb o=>if b=s.w.heap.size then z[o]? else s.M b o) (.slice (aa ⟨s.w.heap.size,0,af⟩) (n+m) r) (.sl ae d.size (n+m) (cR n es es')) :=
    Rd.qw (Nn.mono (yg hh z)) (b:=s.w.heap.size) (off:=0) (λ_=>rfl) VW VX (by simp) (λp u hp=>by grind)
   have f:=hh.iP (M':=λb o=>if b=s.w.heap.size then z[o]? else s.M b o) (w':=s.w.drew.alloc (.cells (z++zs).toArray E)) (B':=.vec E d.size (n+m) (cR n es es')) (L':=⟨.slice (aa ⟨s.w.heap.size,0,af⟩) (n+m) r,[s.w.heap.size]⟩) hl U
    ⟨λe=>absurd e Q,by omega⟩ (by simp) (λb hb _=>cK s.w.drew _ hb) (λb hb _ o=>by grind) (yg hh z) (yf hh E z zs) (λb hb=>by
     simp at hb;subst hb;exact⟨.inr (bg _),by simp⟩) rfl rfl rfl ⟨X,.inr ⟨s.w.heap.size,r,z++zs,rfl,dx s.w.drew _,hlen,λo ho=>by
      have hl:z.length<=o:=by rw[Nn.len];exact ho
      grind⟩⟩
   refine⟨.value (.slice (aa ⟨s.w.heap.size,0,af⟩) (n+m) r),_,?_,?_,f.1,f.2,ey (iV hi Z J H h.elem hh R h2 hg hb h.bytes)⟩
   .simp[B]
   .exact pP (L:=⟨.slice (aa ⟨s.w.heap.size,0,af⟩) (n+m) r,[s.w.heap.size]⟩) (E:=E) (by grind) (by grind) (f.1.box l _ _ (by grind) (by grind))
section
open Go.Conc (G)
def kL{α:Type}:List Nat->List α->Option (List α)
 |[],_=>aa []
 |k::ks,l=>match fw k l with
  |some x=>match kL ks l with
   |some r=>aa (x::r)
   |none=>af
  |none=>af
def e9{α:Type}:∀ (n:Nat)(l:List α),fw n l=l[n]?
 |_,[]=>by simp[fw]
 |0,x::_=>by simp[fw]
 |n+1,_::xs=>by simpa[fw] using e9 n xs
def iC{α:Type}:∀ {ks:List Nat}{l r:List α},kL ks l=aa r->r.length=ks.length/\∀ (j k:Nat),ks[j]?=aa k->∃ x,r[j]?=aa x/\l[k]?=aa x
 |[],l,r,h=>by cases h;simp
 |k::ks,l,r,h=>by
  simp only[kL] at h;cases b:fw k l with
  |none=>grind
  |some x =>
   cases a:kL ks l with
   |none=>grind
   |some q =>
    simp[b,a] at h;subst h;obtain⟨d,c⟩:=iC a
    grind [dz]
def zC{α c:Type}:∀ {ks:List Nat}{l r:List α}{l':List c},kL ks l=aa r->l'.length=l.length->∃ r',kL ks l'=aa r'
 |[],l,r,l',_,_=>⟨[],rfl⟩
 |k::ks,l,r,l',h,b=>by
  simp only[kL] at h;cases d:fw k l with
  |none=>grind
  |some x =>
   cases e:kL ks l with
   |none=>grind
   |some q =>
    obtain⟨r',a⟩:=zC (l':=l') e b;have f:k<l'.length:=by rw[b];exact(cr.1 (dz d)).1
    exact⟨l'[k]::r',by simp[kL,e9,f,a]⟩
def oH(ks:List Nat):A->A
 |.ptr l o=>match fw l ks with|some k=>.ptr k o|none=>.any
 |.vec l k n es=>match fw l ks with|some m=>.vec m k n es|none=>.c (.sl ae k n es)
 |.ref l=>match fw l ks with|some k=>.ref k|none=>.any
 |.bp l w=>match fw l ks with|some k=>.bp k w|none=>.any
 |.c x=>.c x
 |.any=>.any
def Bx(ks:List Nat):List A->List A
 |[]=>[]
 |a::r=>oH ks a::Bx ks r
def zD(ks:List Nat):E1->E1
 |.one a=>.one (oH ks a)
 |.agg cs=>.agg (Bx ks cs)
def yi(ks:List Nat):List E1->List E1
 |[]=>[]
 |a::r=>zD ks a::yi ks r
def jA(ks:List Nat):D->D
 |.e x=>.e (zD ks x)
 |.eK xs=>.eK (yi ks xs)
 |.any=>.any
def iX(ks:List Nat):List D->List D
 |[]=>[]
 |a::r=>jA ks a::iX ks r
def DT:A->Bool
 |.c _|.any=>ab
 |_=>ae
def zE:List A->Bool
 |[]=>ab
 |a::r=>match DT a with|true=>zE r|false=>ae
def vC:aV->Bool
 |.cells _ cs=>zE cs
 |.loop ..=>ae
 |_=>ab
def cX:List aV->Bool
 |[]=>ab
 |a::r=>match vC a with|true=>cX r|false=>ae
def kM:∀ {l:List aV},cX l=ab->∀ B∈l,vC B=ab
 |[],_,B,a=>by grind
 |b::r,h,B,a=>by
  simp only[cX] at h;cases c:vC b with
  |false=>grind
  |true =>
   simp only[c] at h;rcases fb.1 a with rfl|a
   .exact c
   .exact kM h B a
def dW.plain{σ σ':List aV}{s s':St}(e:s'.M=s.M):∀ {vs:List ak}{cs:List A},zE cs=ab->dW σ s vs cs->dW σ' s' vs cs
 |[],[],_,_=>trivial
 |[],_::_,_,h=>h.elim
 |_::_,[],_,h=>h.elim
 |v::vs,a::al,b,h=>by
  simp only[zE] at b;cases d:DT a with
  |false=>grind
  |true =>
   simp only[d] at b;refine⟨?_,dW.plain e b h.2⟩;cases a with
   |c x=>have:=h.1;simp only[gw] at this ⊢;grind
   |any=>exact h.1
   |_=>simp[DT] at d
def eP.plain{σ σ':List aV}{s s':St}(a:s'.M=s.M)(c:s'.w=s.w){B:aV}{L:Loc}(d:vC B=ab)(h:eP σ s B L):eP σ' s' B L:=by
 cases B with
 |cells E cs =>
  obtain⟨b,vs,h1,h2,e,f⟩:=h;exact⟨b,vs,h1,by grind,e.plain a d,λo=>by rw[a];grind⟩
 |vec E k n es=>simp only[eP,a,c] at h ⊢;exact h
 |dD H=>simp only[eP,a,c] at h ⊢;exact h
 |dead=>trivial
 |loop N φ r=>simp[vC] at d
 |qV=>simp only[eP,a,c] at h ⊢;exact h
 |buf E k n es=>simp only[eP,a,c] at h ⊢;exact h
def fK:Nat->List Nat->Bool
 |_,[]=>ae
 |k,x::r=>match aG k x with|true=>ab|false=>fK k r
def eg:List Nat->Bool
 |[]=>ab
 |k::r=>match fK k r with|true=>ae|false=>eg r
def rI:∀ {k:Nat}{l:List Nat},k∈l->fK k l=ab
 |k,[],h=>by grind
 |k,x::r,h=>by
  simp only[fK];cases a:aG k x with
  |true=>rfl
  |false =>
   rcases fb.1 h with rfl|h
   .grind [iN]
   .exact rI h
def vD:∀ {l:List Nat},eg l=ab->∀ (i j k:Nat),l[i]?=aa k->l[j]?=aa k->i=j
 |[],_,i,j,k,hi,_=>by grind
 |x::r,h,i,j,k,hi,a=>by
  simp only[eg] at h;cases c:fK x r with
  |true=>grind
  |false =>
   simp only[c] at h;have no:∀ q,r[q]?=aa x->False:=λq b=>by
    have:=rI (bU b)
    grind
   cases i with
   |zero =>
    grind
   |succ i =>
    cases j with
    |zero =>
     grind
    |succ j =>
     simp at hi a;rw[vD h i j k hi a]
def G1(n:Nat):A->Bool
 |.ptr l _|.vec l _ _ _|.ref l|.bp l _=>bo (l+1) n
 |_=>ab
def DU(n:Nat):List A->Bool
 |[]=>ab
 |a::r=>match G1 n a with|true=>DU n r|false=>ae
def Js(n:Nat):E1->Bool
 |.one a=>G1 n a
 |.agg cs=>DU n cs
def xG(n:Nat):List E1->Bool
 |[]=>ab
 |a::r=>match Js n a with|true=>xG n r|false=>ae
def u7(n:Nat):D->Bool
 |.e x=>Js n x
 |.eK xs=>xG n xs
 |.any=>ab
def oF(n:Nat):List D->Bool
 |[]=>ab
 |a::r=>match u7 n a with|true=>oF n r|false=>ae
section sub
variable {ks:List Nat}{σ σ':List aV}{s:St}{β':List Loc}
def gw.sub(q:kL ks σ=aa σ')(m:kL ks s.β=aa β'){v:ak}{a:A}(d:gw σ s v (oH ks a))(e:G1 ks.length a=ab):gw σ' { s with β:=β' } v a:=by
 obtain⟨u,i⟩:=iC q;obtain⟨z,g2⟩:=iC m;cases a with
 |c x=>exact d
 |any=>exact d
 |ptr l o =>
  have hl:l<ks.length:=db e;simp only[oH,e9,br hl] at d;obtain⟨h1,L,b,h2,h,r⟩:=d;obtain⟨x,j,p⟩:=i l _ (br hl);obtain⟨y,f,g⟩:=g2 l _ (br hl);rw[g] at h2;cases h2;exact⟨λB t=>h1 B (by grind),L,b,f,h,r⟩
 |vec l k n es =>
  have hl:l<ks.length:=db e;simp only[oH,e9,br hl] at d;obtain⟨h1,h2,h⟩:=d;obtain⟨x,j,p⟩:=i l _ (br hl);obtain⟨y,f,g⟩:=g2 l _ (br hl);refine⟨h1,by grind,λE k' n' es' t=>?_⟩
  grind
 |ref l =>
  have hl:l<ks.length:=db e;simp only[oH,e9,br hl] at d;obtain⟨h1,L,h2,h,r⟩:=d;obtain⟨x,j,p⟩:=i l _ (br hl);obtain⟨y,f,g⟩:=g2 l _ (br hl);rw[g] at h2;cases h2;exact⟨λB t=>h1 B (by grind),L,f,h,r⟩
 |bp l w =>
  have hl:l<ks.length:=db e;simp only[oH,e9,br hl] at d;obtain⟨lv,h1,h2,h⟩:=d;obtain⟨x,j,p⟩:=i l _ (br hl);obtain⟨y,f,g⟩:=g2 l _ (br hl);refine⟨lv,h1,(cr.1 j).1,λE k n es t=>?_⟩
  grind
def gw.m7{σ2:List aV}{s2:St}(u:s2.M=s.M)(e:∀ (j:Nat)(B:aV),σ[j]?=aa B->∃ k,ks[j]?=aa k/\σ2[k]?=aa B)(g:∀ (j:Nat)(L:Loc),s.β[j]?=aa L->∃ k,ks[j]?=aa k/\s2.β[k]?=aa L)(t:s.β.length=σ.length)
  {v:ak} {a:A} (f:gw σ s v a):gw σ2 s2 v (oH ks a):=by
 cases a with
 |c x=>simp only[oH,gw,u];exact f
 |any=>exact f
 |ptr l o =>
  obtain⟨h1,L,b,h2,h,p⟩:=f;obtain⟨k,k1,m⟩:=g l L h2;have hl:l<σ.length:=by grind
  obtain⟨k',d,i⟩:=e l _ (br hl);rw[k1] at d;cases d;simp only[oH,e9,k1];refine⟨λB q=>?_,L,b,m,h,p⟩
  grind
 |vec l k n es =>
  obtain⟨h1,h2,h⟩:=f;obtain⟨k1,r,p2⟩:=e l _ (br h2);simp only[oH,e9,r];refine⟨by grind,(cr.1 p2).1,λE k' n' es' q=>?_⟩
  grind
 |ref l =>
  obtain⟨h1,L,h2,h,p⟩:=f;obtain⟨k,k1,m⟩:=g l L h2;have hl:l<σ.length:=by grind
  obtain⟨k',d,i⟩:=e l _ (br hl);rw[k1] at d;cases d;simp only[oH,e9,k1];refine⟨λB q=>?_,L,m,h,p⟩
  grind
 |bp l w =>
  obtain⟨lv,h1,h2,h⟩:=f;obtain⟨k1,r,p2⟩:=e l _ (br h2);simp only[oH,e9,r];refine⟨lv,h1,(cr.1 p2).1,λE k' n' es' q=>?_⟩
  grind
def dW.sub(b:kL ks σ=aa σ')(c:kL ks s.β=aa β'):∀ {vs:List ak}{cs:List A},dW σ s vs (Bx ks cs)->DU ks.length cs=ab->dW σ' { s with β:=β' } vs cs
 |[],[],_,_=>trivial
 |[],_::_,h,_=>h.elim
 |_::_,[],h,_=>h.elim
 |v::vs,a::al,h,d=>by
  simp only[DU] at d;cases e:G1 ks.length a with
  |false=>grind
  |true=>simp only[e] at d;exact⟨h.1.sub b c e,dW.sub b c h.2 d⟩
def mY.sub(b:kL ks σ=aa σ')(c:kL ks s.β=aa β'){v:ak}{x:E1}(h:mY σ s v (zD ks x))(d:Js ks.length x=ab):mY σ' { s with β:=β' } v x:=by
 cases x with
 |one a=>exact gw.sub b c h d
 |agg cs=>obtain⟨vs,h1,h2⟩:=h;exact⟨vs,h1,h2.sub b c d⟩
def gJ.sub(b:kL ks σ=aa σ')(c:kL ks s.β=aa β'):∀ {vs:List ak}{xs:List E1},gJ σ s vs (yi ks xs)->xG ks.length xs=ab->gJ σ' { s with β:=β' } vs xs
 |[],[],_,_=>trivial
 |[],_::_,h,_=>h.elim
 |_::_,[],h,_=>h.elim
 |v::vs,a::al,h,d=>by
  simp only[xG] at d;cases e:Js ks.length a with
  |false=>grind
  |true=>simp only[e] at d;exact⟨h.1.sub b c e,gJ.sub b c h.2 d⟩
def dc.sub(a:kL ks σ=aa σ')(b:kL ks s.β=aa β'){v:ak}{d:D}(h:dc σ s v (jA ks d))(c:u7 ks.length d=ab):dc σ' { s with β:=β' } v d:=by
 cases d with
 |e x=>exact mY.sub a b h c
 |eK xs=>obtain⟨vs,h1,h2⟩:=h;exact⟨vs,h1,h2.sub a b c⟩
 |any=>trivial
def cz.sub(b:kL ks σ=aa σ')(c:kL ks s.β=aa β'):∀ {vs:List ak}{ds:List D},cz σ s vs (iX ks ds)->oF ks.length ds=ab->cz σ' { s with β:=β' } vs ds
 |[],[],_,_=>trivial
 |[],_::_,h,_=>h.elim
 |_::_,[],h,_=>h.elim
 |v::vs,a::al,h,d=>by
  simp only[oF] at d;cases e:u7 ks.length a with
  |false=>grind
  |true=>simp only[e] at d;exact⟨h.1.sub b c e,cz.sub b c h.2 d⟩
variable {σ2:List aV}{s2:St}
def dW.m7(d:s2.M=s.M)(b:∀ (j:Nat)(B:aV),σ[j]?=aa B->∃ k,ks[j]?=aa k/\σ2[k]?=aa B)(c:∀ (j:Nat)(L:Loc),s.β[j]?=aa L->∃ k,ks[j]?=aa k/\s2.β[k]?=aa L)(a:s.β.length=σ.length) :
  ∀ {vs:List ak} {cs:List A},dW σ s vs cs->dW σ2 s2 vs (Bx ks cs)
 |[],[],_=>trivial
 |[],_::_,h=>h.elim
 |_::_,[],h=>h.elim
 |_::_,_::_,h=>⟨h.1.m7 d b c a,dW.m7 d b c a h.2⟩
def mY.m7(e:s2.M=s.M)(c:∀ (j:Nat)(B:aV),σ[j]?=aa B->∃ k,ks[j]?=aa k/\σ2[k]?=aa B)(d:∀ (j:Nat)(L:Loc),s.β[j]?=aa L->∃ k,ks[j]?=aa k/\s2.β[k]?=aa L)(b:s.β.length=σ.length)
  {v:ak} {x:E1} (h:mY σ s v x):mY σ2 s2 v (zD ks x):=by
 cases x with
 |one a=>exact gw.m7 e c d b h
 |agg cs=>obtain⟨vs,h1,h2⟩:=h;exact⟨vs,h1,h2.m7 e c d b⟩
def gJ.m7(d:s2.M=s.M)(b:∀ (j:Nat)(B:aV),σ[j]?=aa B->∃ k,ks[j]?=aa k/\σ2[k]?=aa B)(c:∀ (j:Nat)(L:Loc),s.β[j]?=aa L->∃ k,ks[j]?=aa k/\s2.β[k]?=aa L)(a:s.β.length=σ.length) :
  ∀ {vs:List ak} {xs:List E1},gJ σ s vs xs->gJ σ2 s2 vs (yi ks xs)
 |[],[],_=>trivial
 |[],_::_,h=>h.elim
 |_::_,[],h=>h.elim
 |_::_,_::_,h=>⟨h.1.m7 d b c a,gJ.m7 d b c a h.2⟩
def dc.m7(f:s2.M=s.M)(b:∀ (j:Nat)(B:aV),σ[j]?=aa B->∃ k,ks[j]?=aa k/\σ2[k]?=aa B)(c:∀ (j:Nat)(L:Loc),s.β[j]?=aa L->∃ k,ks[j]?=aa k/\s2.β[k]?=aa L)(a:s.β.length=σ.length)
  {v:ak} {d:D} (h:dc σ s v d):dc σ2 s2 v (jA ks d):=by
 cases d with
 |e x=>exact mY.m7 f b c a h
 |eK xs=>obtain⟨vs,h1,h2⟩:=h;exact⟨vs,h1,h2.m7 f b c a⟩
 |any=>trivial
end sub
def ef.rJ{α:Type}:Nat->α->List α->List α
 |_,_,[]=>[]
 |0,x,_::r=>x::r
 |k+1,x,y::r=>y::ef.rJ k x r
def ef{α:Type}:List Nat->List α->List α->List α
 |[],new,old=>old++new
 |k::ks,x::new,old=>ef ks new (ef.rJ k x old)
 |_::_,[],old=>old
def kC{α:Type}:∀ (k:Nat)(x:α)(l:List α),ef.rJ k x l=l.set k x
 |_,_,[]=>by simp[ef.rJ]
 |0,x,_::r=>by simp[ef.rJ]
 |k+1,x,y::r=>by simp[ef.rJ,kC k x r]
def vE{α:Type}:∀ {ks:List Nat}{new old:List α},eg ks=ab->(∀ k∈ks,k<old.length)->ks.length<=new.length ->
  (ef ks new old).length=old.length+(new.length-ks.length)/\(∀ (j k:Nat),ks[j]?=aa k->(ef ks new old)[k]?=new[j]?) /\
  (∀ j,(ef ks new old)[old.length+j]?=new[ks.length+j]?)/\(∀ l,l<old.length->l∉ks->(ef ks new old)[l]?=old[l]?)
 |[],new,old,_,_,_=>by
  refine⟨by simp[ef],by simp,λj=>?_,λl g _=>?_⟩
  .simp only[ef,ib,bt]
   grind
  .simp[ef,jD g]
 |k::ks,[],old,_,_,h=>by grind
 |k::ks,x::new,old,a,b,e=>by
  have d:=a;simp only[eg] at a;cases f:fK k ks with
  |true=>grind
  |false =>
   simp only[f] at a;have n:k<old.length:=b k (by simp)
   have c:k∉ks:=λh=>by grind [rI]
   obtain⟨o,i,p,m⟩:=vE (ks:=ks) (new:=new) (old:=old.set k x) a (λk' ZS=>by grind) (by grind)
   simp only[ef,kC]
   grind
def Ev{P:aq}(X:Cx P)(f:aW)(args:List D)(σ:List aV)(res:D)(σ':List aV):Prop :=
 (∃ fn,P.funcs[f]?=aa fn/\(fn.name== "runtime.NumGoroutine")=ae/\fn.body.isNone=ae) /\
 ∀ s (vs:List ak),cz σ s vs args->aJ σ s->∀ (S:au->St->Prop) (cs:List aR),
  (∀ a v s',ux P f a v s'->dc σ' s' v res->aJ σ' s'->cD σ s σ' s'->ft X S (G a cs) s')->ft X S (G (Frame.enter P f vs.toArray .normal) cs) s
def cM{P:aq}{ι:Type}(X:Cx P)(f:aW)(args:List D)(σ:List aV)(res:ι->D)(σ':ι->List aV):Prop :=
 (∃ fn,P.funcs[f]?=aa fn/\(fn.name== "runtime.NumGoroutine")=ae/\fn.body.isNone=ae) /\
 ∀ s (vs:List ak),cz σ s vs args->aJ σ s->∀ (S:au->St->Prop) (cs:List aR),
  (∀ i a v s',ux P f a v s'->dc (σ' i) s' v (res i)->aJ (σ' i) s'->cD σ s (σ' i) s'->ft X S (G a cs) s')->ft X S (G (Frame.enter P f vs.toArray .normal) cs) s
def Ev.Bm{P:aq}{X:Cx P}{f:aW}{args:List D}{σ:List aV}{res:D}{σ':List aV}(h:Ev X f args σ res σ'):cM (ι:=Unit) X f args σ (λ_=>res) (λ_=>σ') :=
 ⟨h.1,λs vs hr hh S cs hS=>h.2 s vs hr hh S cs (hS ())⟩
def cM.uA{P:aq}{X:Cx P}{f:aW}{args:List D}{σ:List aV}{res:D}{σ':List aV}(h:cM (ι:=Unit) X f args σ (λ_=>res) (λ_=>σ')):Ev X f args σ res σ' :=
 ⟨h.1,λs vs hr hh S cs hS=>h.2 s vs hr hh S cs (λ_=>hS)⟩
def zF(s:St)(a:List Loc):Nat->Prop:=λb=>s.own b∨((∃ L∈s.β,b∈L.bs)/\∀ L∈a,b∉L.bs)
def mU(n:Nat):Nat->List Nat
 |0=>[]
 |m+1=>n::mU (n+1) m
def By:∀ (m n j:Nat),(mU n m)[j]?=if j<m then aa (n+j) else af
 |0,n,j=>by simp[mU]
 |m+1,n,0=>by simp[mU]
 |m+1,n,j+1=>by
  simp only[mU,mN,By m (n+1) j,Nat.add_lt_add_iff_right]
  grind
def frame{ks:List Nat}{σ V σ1:List aV}{s a:St}{p:List Loc}(q:aJ σ s)(P:kL ks σ=aa V)(Y:kL ks s.β=aa p)(hn:eg ks=ab)
  (hp:cX σ1=ab) (t:aJ σ1 a) (st:cD V { s with β:=p,own:=zF s p } σ1 a) (O:ks.length<=σ1.length) {v:ak} {res:D} (hr:dc σ1 a v res) :
  ∃ s2:St,s2.w=a.w/\dc (ef ks σ1 σ) s2 v (jA (ks++mU σ.length (σ1.length-ks.length)) res)/\aJ (ef ks σ1 σ) s2/\cD σ s (ef ks σ1 σ) s2/\s2.M=a.M/\s2.own=s.own/\∀ L∈s2.β,L∈a.β∨(L∈s.β/\∀ b∈L.bs,∀ L'∈p,b∉L'.bs):=by
 have G:∀ k∈ks,k<σ.length:=by
  intro k N;obtain⟨j,m,rfl⟩:=dH N;obtain⟨x,_,h2⟩:=(iC P).2 j _ (br m)
  grind
 have A:∀ k∈ks,k<s.β.length:=by rw[q.len];exact G
 have J:ks.length<=a.β.length:=by rw[t.len];exact O
 obtain⟨a1,a2,a3,a4⟩:=vE (new:=σ1) (old:=σ) hn G O;obtain⟨b1,b2,b3,b4⟩:=vE (new:=a.β) (old:=s.β) hn A J;obtain⟨c1,c2⟩:=iC P;obtain⟨d1,d2⟩:=iC Y
 let K:=ks++mU σ.length (σ1.length-ks.length)
 have T:∀ j,j<σ1.length->∃ k,K[j]?=aa k/\(ef ks σ1 σ)[k]?=σ1[j]?/\(ef ks a.β s.β)[k]?=a.β[j]?:=by
  intro j m;rcases cJ j ks.length with n|C
  .refine⟨ks[j],?_,a2 j _ (br n),b2 j _ (br n)⟩
   grind
  .refine⟨σ.length+(j-ks.length),?_,?_,?_⟩
   .simp only[K];rw[gk C,By,bd (by omega)]
   .rw[a3];grind
   .rw[<-q.len,b3];grind
 have f:∀ l L,(ef ks a.β s.β)[l]?=aa L->(∃ j,j<σ1.length/\a.β[j]?=aa L/\(∀ B,(ef ks σ1 σ)[l]?=aa B->σ1[j]?=aa B)/\(∀ k,ks[j]?=aa k->k=l)/\(j≥ks.length->l=σ.length+(j-ks.length))) ∨
   (l<σ.length/\l∉ks/\s.β[l]?=aa L/\(ef ks σ1 σ)[l]?=σ[l]?):=by
  intro l L c;have Z:l<(ef ks a.β s.β).length:=(cr.1 c).1;rcases cJ l σ.length with n|C
  .by_cases r:l∈ks
   .obtain⟨j,m,rfl⟩:=dH r;have N:=br m
    grind
   .exact .inr ⟨n,r,by rw[<-b4 l (by rw[q.len];exact n) r];exact c,a4 l n r⟩
  .rw[b1,t.len,q.len] at Z;refine .inl ⟨ks.length+(l-σ.length),by omega,?_,λB u=>?_,λk N=>?_,λ_=>by omega⟩
   .rw[<-b3,q.len,zu C];exact c
   .rw[<-a3,zu C];exact u
   grind
 have F:∀ L∈p,L∈s.β:=by
  intro L c;obtain⟨j,m,rfl⟩:=dH c;have E:j<ks.length:=by grind
  obtain⟨x,Q,W⟩:=d2 j _ (br E)
  grind
 have other:∀ l L,l∉ks->s.β[l]?=aa L->∀ b∈L.bs,b<s.w.heap.size/\∀ L'∈p,b∉L'.bs:=by
  intro l L z c b d;refine⟨q.lt L (bU c) b d,λL' gI oO=>?_⟩
  obtain⟨j,m,rfl⟩:=dH gI;have E:j<ks.length:=by grind
  obtain⟨x,Q,W⟩:=d2 j _ (br E);rw[br m] at Q;cases Q;have:=q.gg l ks[j] L _ c W b d oO
  grind
 have out:∀ b,b<s.w.heap.size->(∀ L∈s.β,b∉L.bs)->∀ L∈p,b∉L.bs:=λb _ h L c=>h L (F L c)
 have ex:Ext σ s (ef ks σ1 σ) ⟨ef ks a.β s.β,a.M,a.w,s.own⟩:=by
  refine⟨st.mem,λl B L u c=>?_⟩
  have n:l<σ.length:=(cr.1 u).1
  by_cases r:l∈ks
  .obtain⟨j,m,rfl⟩:=dH r;have N:=br m;obtain⟨x,Q,W⟩:=c2 j _ N;obtain⟨y,y1,y2⟩:=d2 j _ N;rw[u] at W;cases W;rw[c] at y2;cases y2;obtain⟨B',L',p1,p2,p3⟩:=st.box j B L Q y1
   grind
  .exact⟨B,L,by grind,by grind,.refl _ _⟩
 refine⟨⟨ef ks a.β s.β,a.M,a.w,s.own⟩,rfl,?_,⟨t.mem,?_,?_,?_,?_,?_⟩,⟨st.size,?_,st.mem,?_,?_,ex.box,st.os,st.tape,st.output,rfl⟩,rfl,rfl,?_⟩
 .refine dc.m7 (s:=a) (s2:=⟨ef ks a.β s.β,a.M,a.w,s.own⟩) (σ2:=ef ks σ1 σ) (ks:=K) rfl (λj B u=>?_) (λj L c=>?_) t.len hr
  .grind
  .obtain⟨k,k1,_,k3⟩:=T j (by rw[<-t.len];grind)
   grind
 .simp only;rw[a1,b1,t.len,q.len]
 .intro l B L u c;rcases f l L c with⟨j,m,g,U,_⟩|⟨z,r,gI,nD⟩
  .exact eP.plain (σ:=σ1) (s:=a) (s':=⟨ef ks a.β s.β,a.M,a.w,s.own⟩) rfl rfl (kM hp B (bU (U B u))) (t.box j B L (U B u) g)
  .rw[nD] at u;refine(q.box l B L u gI).carry ex q.len λb d=>?_
   obtain⟨o1,X⟩:=other l L r gI b d;exact⟨st.eN b (.inr ⟨⟨L,bU gI,d⟩,X⟩),st.jz b o1 X⟩
 .intro l l' L L' c gI b d oO;rcases f l L c with⟨j,m,g,_,hjk,hjn⟩|⟨z,r,i,_⟩ <;> rcases f l' L' gI with⟨j',E,I,_,ab3,ab4⟩|⟨Bl,hm',H,_⟩
  .have e:=t.gg j j' L L' g I b d oO
   grind
  .obtain⟨o1,X⟩:=other l' L' hm' H b oO;rcases st.xC L (bU g) b d with h|⟨L0,h0,S⟩
   .grind
   grind
  .obtain⟨o1,X⟩:=other l L r i b d;rcases st.xC L' (bU I) b oO with h|⟨L0,h0,S⟩
   .grind
   grind
  .exact q.gg l l' L L' i H b d oO
 .intro L c b d;obtain⟨l,z,rfl⟩:=dH c;rcases f l _ (br z) with⟨j,m,g,_⟩|⟨_,_,i,_⟩
  .exact t.lt _ (bU g) b d
  .have:=q.lt _ (bU i) b d;have:=st.size
   grind
 .intro b d;refine⟨?_,λL c R=>?_⟩
  .have:=(q.own b d).1;have:=st.size
   grind
  .obtain⟨l,z,rfl⟩:=dH c;rcases f l _ (br z) with⟨j,m,g,_⟩|⟨_,_,i,_⟩
   .have ho:a.own b:=by rw[st.own];exact .inl d
    exact(t.own b ho).2 _ (bU g) R
   .exact(q.own b d).2 _ (bU i) R
 .intro b d;exact st.eN b (.inl d)
 .intro b d WX o;exact st.jz b d (out b d WX) o
 .intro L c b d;obtain⟨l,z,rfl⟩:=dH c;rcases f l _ (br z) with⟨j,m,g,_⟩|⟨_,_,i,_⟩
  .rcases st.xC _ (bU g) b d with h|⟨L0,h0,S⟩
   .grind
   grind
  grind
 .intro L c;obtain⟨l,z,rfl⟩:=dH c;rcases f l _ (br z) with⟨j,m,g,_⟩|⟨_,r,i,_⟩
  .grind
  grind
def eQ:D->Option (aW×List C)
 |.e (.one (.c (.fn (.func f) [] cap)))=>aa (f,cap)
 |_=>af
def nR{σ:List aV}{s:St}{ρ:an->ak}{a:an->D}(b:∀ y,dc σ s (ρ y) (a y)):∀ l:List an,cz σ s (l.map ρ) (l.map a)
 |[]=>trivial
 |x::r=>⟨b x,nR b r⟩
def cz.append{σ:List aV}{s:St}:∀ {vs vF:List ak}{ds FG:List D},cz σ s vs ds->cz σ s vF FG->cz σ s (vs++vF) (ds++FG)
 |[],_,[],_,_,h=>h
 |[],_,_::_,_,h,_=>h.elim
 |_::_,_,[],_,h,_=>h.elim
 |_::_,_,_::_,_,h,a=>⟨h.1,cz.append h.2 a⟩
def QU:A->A
 |.vec _ k n es=>.c (.sl ae k n es)
 |.c (.sl _ k n es)=>.c (.sl ae k n es)
 |a=>a
def FJ{σ:List aV}{s:St}{v:ak}{a:A}(h:gw σ s v a):gw σ s v (QU a):=by
 cases a with
 |vec l k n es=>exact h.1
 |c x=>cases x <;> first|exact h|exact Rd.loose h
 |_=>exact h
def QV:List A->List A
 |[]=>[]
 |a::r=>QU a::QV r
def FK{σ:List aV}{s:St}:∀ {vs:List ak}{cs:List A},dW σ s vs cs->dW σ s vs (QV cs)
 |[],[],_=>trivial
 |[],_::_,h=>h.elim
 |_::_,[],h=>h.elim
 |_::_,_::_,h=>⟨FJ h.1,FK h.2⟩
def T1:D->D
 |.e (.one a)=>.e (.one (QU a))
 |.e (.agg cs)=>.e (.agg (QV cs))
 |d=>d
def NB{σ:List aV}{s:St}{v:ak}{d:D}(h:dc σ s v d):dc σ s v (T1 d):=by
 cases d with
 |e x=>cases x with
  |one a=>exact FJ h
  |agg cs=>obtain⟨vs,c,b⟩:=h;exact⟨vs,c,FK b⟩
 |eK xs=>exact h
 |any=>trivial
def ou:List D->List D
 |[]=>[]
 |a::r=>T1 a::ou r
def rK{σ:List aV}{s:St}:∀ {vs:List ak}{ds:List D},cz σ s vs ds->cz σ s vs (ou ds)
 |[],[],_=>trivial
 |[],_::_,h=>h.elim
 |_::_,[],h=>h.elim
 |_::_,_::_,h=>⟨NB h.1,rK h.2⟩
def fY:List C->List D
 |[]=>[]
 |c::r=>.e (.one (.c c))::fY r
def lP{σ:List aV}{s:St}:∀ {vs:List ak}{cs:List C},(∀ (j:Nat)(c:C),cs[j]?=aa c->∃ v,vs[j]?=aa v/\Rd s.M v c)->vs.length=cs.length->cz σ s vs (fY cs)
 |[],[],_,_=>trivial
 |[],_::_,_,h=>by grind
 |_::_,[],_,h=>by grind
 |v::vs,c::cs,h,e=>by
  obtain⟨u,a,b⟩:=h 0 c rfl;simp at a;subst a;exact⟨b,lP (λj c d=>by simpa using h (j+1) c (by grind)) (by grind)⟩
def zG{α:Type}{ks:List Nat}{l r:List α}(h:kL ks l=aa r):∀ x∈r,x∈l:=by
 intro x a;obtain⟨d,b⟩:=iC h;obtain⟨j,f,rfl⟩:=dH a;obtain⟨y,c,e⟩:=b j _ (br (by omega))
 grind
def aJ.sub{ks:List Nat}{σ d:List aV}{s:St}{a:List Loc}(hh:aJ σ s)(l:kL ks σ=aa d)(e:kL ks s.β=aa a)(u:cX d=ab)(hn:eg ks=ab) :
  aJ d { s with β:=a,own:=zF s a }/\eR s { s with β:=a,own:=zF s a }:=by
 obtain⟨c1,c2⟩:=iC l;obtain⟨d1,d2⟩:=iC e;have k:∀ L∈a,L∈s.β:=zG e;refine⟨⟨hh.mem,by grind,?_,?_,?_,?_⟩,⟨rfl,λ_ _ _ h=>h,λ_ _ _=>rfl,hh.mem,?_⟩⟩
 .intro j B L t c;have hj:j<ks.length:=by grind
  obtain⟨x,r,v⟩:=c2 j _ (br hj);obtain⟨y,i,q⟩:=d2 j _ (br hj);rw[t] at r;cases r;simp only at c;rw[c] at i;cases i;exact eP.plain (σ:=σ) (s:=s) (s':={ s with β:=a,own:=zF s a }) rfl rfl (kM u B (bU t)) (hh.box _ B L v q)
 .intro j m L L' c g b hb oO;simp only at c g;have hj:j<ks.length:=by grind
  have p:m<ks.length:=by grind
  obtain⟨y,i,q⟩:=d2 j _ (br hj);obtain⟨w,f,o⟩:=d2 m _ (br p);rw[c] at i;cases i;rw[g] at f;cases f;have:=hh.gg _ _ L L' q o b hb oO;exact vD hn j m ks[j] (br hj) (by grind)
 .intro L c b hb;exact hh.lt _ (k L c) b hb
 .rintro b (hb|⟨⟨L,c,hb⟩,n⟩)
  .exact⟨(hh.own b hb).1,λL c=>(hh.own b hb).2 L (k L c)⟩
  .exact⟨hh.lt L c b hb,n⟩
 .rintro b ((hb|⟨⟨L,c,hb⟩,_⟩)|⟨L,c,hb⟩)
  .grind
  .grind
  grind
def eR.back{σ d σ1:List aV}{s c s2:St}{a:List Loc}(hh:aJ σ s)(h1:aJ σ1 c)(st:cD d { s with β:=a,own:=zF s a } σ1 c)(g:s2.w=c.w)(f:s2.M=c.M)(k:s2.own=s.own)
  (e:∀ L∈s2.β,L∈c.β∨(L∈s.β/\∀ b∈L.bs,∀ L'∈a,b∉L'.bs)):eR c s2:=by
 refine⟨g,λb o v h=>by grind,λb _ o=>by rw[f],λb o v h=>by rw[f] at h;exact h1.mem b o v h,?_⟩
 rintro b (hb|⟨L,i,hb⟩)
 .left;rw[st.own];exact .inl (by grind)
 .rcases e L i with h|⟨h,j⟩
  .grind
  .left;rw[st.own];exact .inr ⟨⟨L,h,hb⟩,j b hb⟩
def sX{P:aq}{ι:Type}{X:Cx P}{S:au->St->Prop}{b:aR}{k:List Item}{cs:List aR}{a:Act}{s:St}{ops:Array aw}{i:Nat}{rest:List Nat}{o:aw}{ks:List Nat}{σ g:List aV}{σ1:ι->List aV}{f:aW}{d:List D}{res:ι->D}{vs:List ak}
  (hb:b.kind≠.early) (ho:ops[i]?=aa o) (hw:bj o (yielded ops a.tmps)=ab) (hh:aJ σ s) (E:∀ w,(ay a.eval o).run P w=.ok (.enter f vs.toArray) w) (z:∀ w,(ay a.eval o).events P w #[]=#[])
  (J:cM X f d g res σ1) (t:cz σ s vs (iX ks d)) (V:oF ks.length d=ab) (p:kL ks σ=aa g) (hp:cX g=ab) (K:∀ j,cX (σ1 j)=ab) (hn:eg ks=ab) (I:∀ j,ks.length<=(σ1 j).length)
  (h:∀ j v s',dc (ef ks (σ1 j) σ) s' v (jA (ks++mU σ.length ((σ1 j).length-ks.length)) (res j))->aJ (ef ks (σ1 j) σ) s'->cD σ s (ef ks (σ1 j) σ) s'->ft X S (G (b.aT (a.put o.dst v) (.inRegion ops rest::k)) cs) s') :
  ft X S (G (b.aT a (.inRegion ops (i::rest)::k)) cs) s:=by
 obtain⟨_,u⟩:=J;refine .next rfl λn R=>?_
 have W:=X.ik R;have e:=hh.rely W;obtain⟨m,r⟩:=zC (l':=n.β) p e.len;obtain⟨y,O⟩:=e.sub p r hp hn;have q:cz σ n vs (iX ks d):=t.mono W.stepW.ext hh.len;have H:cz g { n with β:=m,own:=zF n m } vs d:=(q.sub (s:=n) p r V).mono (σ:=g) (s:={ n with β:=m }) (σ':=g) (s':={ n with β:=m,own:=zF n m }) ⟨λ_ _ _ h=>h,λl B L hB hL=>⟨B,L,hB,hL,.refl _ _⟩⟩ y.len
 refine⟨_,n,_,oS ho hw hb (E n.w),?_,.ghost O (u _ vs H y S _ λj fr v s2 hl mQ Fx oB=>?_)⟩
 .refine⟨⟨σ,σ,e,e,.refl _ _⟩,eZ.seen ?_⟩;rw[z];exact .nil
 refine pM (cs:=cs) (c:=b.aT a (.inRegion ops (i::rest)::k)) Fx hl λs3 x=>?_
 have C:=Fx.rely x;have A:=oB.trans x.stepW;obtain⟨s4,Y,Z,N,T,U,Q,F⟩:=frame e p r hn (K j) C A (I j) (mQ.mono x.stepW.ext Fx.len);refine .ghost (eR.back e C A Y U Q F) ?_;have M:=kg (b:=b) (a:=a) (k:=k) ops i rest v;rw[ho] at M;simp only[nG] at M;rw[M];exact h j v s4 Z N (W.stepW.trans T)
def Jt{P:aq}{X:Cx P}{S:au->St->Prop}{b:aR}{k:List Item}{cs:List aR}{a:Act}{s:St}{ops:Array aw}{i:Nat}{rest:List Nat}{o:aw}{ks:List Nat}{σ d:List aV}{σ1:List aV}{f:aW}{c:List D}{res:D}{vs:List ak}
  (r:b.kind≠.early) (z:ops[i]?=aa o) (t:bj o (yielded ops a.tmps)=ab) (y:aJ σ s) (g:∀ w,(ay a.eval o).run P w=.ok (.enter f vs.toArray) w) (j:∀ w,(ay a.eval o).events P w #[]=#[])
  (n:Ev X f c d res σ1) (e:cz σ s vs (iX ks c)) (m:oF ks.length c=ab) (p:kL ks σ=aa d) (x:cX d=ab) (q:cX σ1=ab) (u:eg ks=ab) (l:ks.length<=σ1.length)
  (h:∀ v s',dc (ef ks σ1 σ) s' v (jA (ks++mU σ.length (σ1.length-ks.length)) res)->aJ (ef ks σ1 σ) s'->cD σ s (ef ks σ1 σ) s'->ft X S (G (b.aT (a.put o.dst v) (.inRegion ops rest::k)) cs) s') :
  ft X S (G (b.aT a (.inRegion ops (i::rest)::k)) cs) s :=
 sX r z t y g j n.Bm e m p x (λ_=>q) u (λ_=>l) (λ_=>h)
def gM{P:aq}{o:aw}{j:an}{xs:Array an}{h:Array ar}(l:o.op=.call { callee:=.value j,args:=xs,argTypes:=h }){f:aW}{fn:Func}(d:P.funcs[f]?=aa fn)(k:(fn.name== "runtime.NumGoroutine")=ae)(e:fn.body.isNone=ae)
  {a:Act} {cs:List ak} (i:a.eval j=.func (.func f) #[] cs.toArray) (w:az) :
  (ay a.eval o).run P w=.ok (.enter f (xs.toList.map a.eval++cs).toArray) w/\(ay a.eval o).events P w #[]=#[]:=by
 have g:(xs.map a.eval++cs.toArray)=(xs.toList.map a.eval++cs).toArray:=by grind
 have c:fn.name≠ "runtime.NumGoroutine":=by grind
 have b:fn.body≠af:=by grind
 constructor
 .simp[ay,l,resolve,i,Deferred.ofValue,invoke,callFunc,d,c,b,g]
 .simp[ay,l,resolve,i,Deferred.ofValue,invoke,callFunc,d,c,b]
def jB.PL{P:aq}{ι:Type}{X:Cx P}{N:Nat}{all rest:List aw}{Q:Fr->List aV->Prop}{φ:Fr}{σ:List aV}{o:aw}{B:an}{xs:Array an}{I:Array ar}
  (Y:∀ σ s a,cx N σ s φ a->bj o (yielded all.toArray a.tmps)=ab) (R:o.op=.call { callee:=.value B,args:=xs,argTypes:=I })
  {f:aW} {cap:List C} (A:eQ (b5 φ B)=aa (f,cap)) (ks:List Nat) {e:List D} {r:List aV} {σ1:ι->List aV} {res:ι->D} (u:cM X f e r res σ1)
  (p:∀ s vs,cz σ s vs (xs.toList.map (b5 φ)++fY cap)->cz σ s vs (iX ks e)) (O:oF ks.length e=ab) (F:kL ks σ=aa r) (V:cX r=ab) (G:∀ j,cX (σ1 j)=ab) (hn:eg ks=ab) (E:∀ j,ks.length<=(σ1 j).length)
  (d:Option Nat) (U:o.dst=d) (hN:∀ t,d=aa t->t<N)
  (k:∀ j,jB X N all rest Q (lC d (jA (ks++mU σ.length ((σ1 j).length-ks.length)) (res j)) φ) (ef ks (σ1 j) σ)):jB X N all (o::rest) Q φ σ:=by
 subst U;intro s a h hh b kk cs S idx hb jH hQ;cases idx with
 |nil=>exact jH.elim
 |cons i idx =>
 obtain⟨hi,jH⟩:=jH;have y:=dX h B;unfold eQ at A;split at A
 case h_2=>cases A
 case h_1 f' Je he =>
  cases A;rw[he] at y;have m:=fy y;generalize T:a.eval B=fv at m;cases m with
  |fn fs mc hl Bl f1 f2 h1 h2 r1 r2 =>
   have H:fs=[]:=hZ hl;subst H;have n:cz σ s mc (fY cap):=lP (λj c hj=>⟨f2 j,h2 j (by grind),r2 j c hj⟩) Bl
   have z:cz σ s (xs.toList.map a.eval++mc) (iX ks e):=by
    exact p _ _ ((nR (dX h) xs.toList).append n)
   obtain⟨fn,x,l,g⟩:=u.1;refine sX hb hi (Y _ _ _ h) hh (λw=>(gM R x l g T w).1) (λw=>(gM R x l g T w).2) u z O F V G hn E λj v s' hr lb st=>?_
   refine k j s' _ ?_ lb b kk cs S idx hb jH λJ L Z a3 q f3 W K=>hQ J L Z a3 q f3 W (st.trans K)
   cases M:o.dst with
   |none=>exact h.mono st hh.len
   |some t=>exact(h.mono st hh.len).put (hN t M) hr
def jB.PM{P:aq}{ι:Type}{X:Cx P}{N:Nat}{all rest:List aw}{Q:Fr->List aV->Prop}{φ:Fr}{σ:List aV}{o:aw}{q:an}{xs:Array an}{p:Array ar}
  (u:∀ σ s a,cx N σ s φ a->bj o (yielded all.toArray a.tmps)=ab) (y:o.op=.call { callee:=.value q,args:=xs,argTypes:=p })
  {f:aW} {cap:List C} (v:eQ (b5 φ q)=aa (f,cap)) (ks:List Nat) {b:List D} {c:List aV} {σ1:ι->List aV} {res:ι->D} (i:cM X f b c res σ1)
  (n:ou (xs.toList.map (b5 φ)++fY cap)=iX ks b) (g:oF ks.length b=ab) (l:kL ks σ=aa c) (x:cX c=ab) (m:∀ j,cX (σ1 j)=ab) (hn:eg ks=ab) (e:∀ j,ks.length<=(σ1 j).length)
  (d:Option Nat) (w:o.dst=d) (r:∀ t,d=aa t->t<N)
  (k:∀ j,jB X N all rest Q (lC d (jA (ks++mU σ.length ((σ1 j).length-ks.length)) (res j)) φ) (ef ks (σ1 j) σ)):jB X N all (o::rest) Q φ σ :=
 jB.PL u y v ks i (λs vs h=>by grind [rK]) g l x m hn e d w r k
def jB.call{P:aq}{X:Cx P}{N:Nat}{all rest:List aw}{Q:Fr->List aV->Prop}{φ:Fr}{σ:List aV}{o:aw}{n:an}{xs:Array an}{m:Array ar}
  (q:∀ σ s a,cx N σ s φ a->bj o (yielded all.toArray a.tmps)=ab) (w:o.op=.call { callee:=.value n,args:=xs,argTypes:=m })
  {f:aW} {cap:List C} (r:eQ (b5 φ n)=aa (f,cap)) (ks:List Nat) {b:List D} {c σ1:List aV} {res:D} (i:Ev X f b c res σ1)
  (e:ou (xs.toList.map (b5 φ)++fY cap)=iX ks b) (h:oF ks.length b=ab) (j:kL ks σ=aa c) (v:cX c=ab) (l:cX σ1=ab) (hn:eg ks=ab) (g:ks.length<=σ1.length)
  (d:Option Nat) (u:o.dst=d) (p:∀ t,d=aa t->t<N)
  (k:jB X N all rest Q (lC d (jA (ks++mU σ.length (σ1.length-ks.length)) res) φ) (ef ks σ1 σ)):jB X N all (o::rest) Q φ σ :=
 jB.PM q w r ks i.Bm e h j v (λ_=>l) hn (λ_=>g) d u p (λ_=>k)
def Names.range(all:List aw):Names all (bh all.toArray.size) all:=by
 have key:∀ (l:List aw) (n:Nat),(∀ j o,l[j]?=aa o->all[n+j]?=aa o)->Names all (List.range' n l.length) l:=by
  intro l
  induction l with
  |nil=>intro n _;trivial
  |cons o r b =>
   intro n h;rw[fa,List.range'_succ];refine⟨by simpa using h 0 o rfl,b (n+1) λj a hj=>?_⟩
   have:=h (j+1) a (by grind)
   grind
 grind [List.range_eq_range']
def AW.region{P:aq}{X:Cx P}{N:Nat}{Q:Post}{φ:Fr}{σ:List aV}{id:Nat}{ops:Array aw}(h:jB X N ops.toList ops.toList (λφ σ=>Q .normal φ σ) φ σ):AW X N (.region id ops ae) Q φ σ:=by
 intro s a f hh b k cs S hb hQ;refine .ctl hh rfl (λ_=>pQ) λg h1=>?_
 have:=h g a (f.rely h1 hh) (hh.rely h1) b k cs S (bh ops.size) hb (by simpa using Names.range ops.toList) λc σ' s' a' q e d st=>hQ .normal c σ' s' a' q e d (h1.stepW.trans st)
 simpa using this
def jB.nil{P:aq}{X:Cx P}{N:Nat}{all:List aw}{Q:Fr->List aV->Prop}{φ:Fr}{σ:List aV}(h:Q φ σ):jB X N all [] Q φ σ:=by
 intro s a f hh b k cs S idx _ c d;cases idx with
 |cons i idx=>exact c.elim
 |nil=>exact .ctl hh rfl (λ_=>iW) λe h1=>d φ σ e a h (f.rely h1 hh) (hh.rely h1) h1.stepW
def jB.mono{P:aq}{X:Cx P}{N:Nat}{all rest:List aw}{Q d:Fr->List aV->Prop}{φ:Fr}{σ:List aV}(h:jB X N all rest Q φ σ)(g:∀ φ σ,Q φ σ->d φ σ):jB X N all rest d φ σ :=
 λs a f hh b k cs S idx hb hi hQ=>h s a f hh b k cs S idx hb hi λc σ' s' a' q e i st=>hQ c σ' s' a' (g _ _ q) e i st
def js:Nat->List D->Fr
 |_,[]=>[]
 |i,d::r=>(i,d)::js (i+1) r
def nZ:∀ (ds:List D)(i t:Nat),look (js i ds) t=if i<=t then (ds[t-i]?).getD .any else .any
 |[],i,t=>by simp[js,look]
 |d::r,i,t=>by
  simp only[js,look]
  by_cases e:i=t
  .grind [iN]
  .have:aG i t=ae:=by
    grind [bX]
   rw[this];simp only[cond,nZ r (i+1) t]
   grind
def cz.get{σ:List aV}{s:St}:∀ {vs:List ak}{ds:List D},cz σ s vs ds->vs.length=ds.length/\∀ (j:Nat),dc σ s ((vs[j]?).getD aj) ((ds[j]?).getD .any)
 |[],[],_=>⟨rfl,λj=>by simp[dc]⟩
 |[],_::_,h=>h.elim
 |_::_,[],h=>h.elim
 |v::vs,d::ds,h=>by
  obtain⟨h1,h2⟩:=cz.get h.2;refine⟨by grind,λj=>?_⟩
  cases j with
  |zero=>simpa using h.1
  |succ j=>grind
def xH(φ:Fr):List ResultVar->Option (List D)
 |[]=>aa []
 |.tmp t::r=>match xH φ r with
  |some q=>aa (look φ t::q)
  |none=>af
 |.cell _ _::_=>af
def tO:List D->Option (List E1)
 |[]=>aa []
 |.e x::r=>match tO r with
  |some q=>aa (x::q)
  |none=>af
 |_::_=>af
def rL:List D->Option D
 |[d]=>aa d
 |ds=>match tO ds with
  |some es=>aa (.eK es)
  |none=>af
def fU(a:Act):ResultVar->Sem ak
 |ResultVar.tmp t=>pure (a.tmps.getD t aj)
 |ResultVar.cell ad t=>do loadVar t (<-asAddr (a.tmps.getD ad aj))
def FL(P:aq){N:Nat}{σ:List aV}{s:St}{φ:Fr}{a:Act}(f:cx N σ s φ a):∀ {rs:List ResultVar}{ds:List D},xH φ rs=aa ds ->
  ∃ vs,(∀ w,(rs.mapM (fU a)).run P w=Result.ok vs w)/\cz σ s vs ds/\cO P (rs.mapM (fU a))
 |[],ds,h=>by cases h;exact⟨[],by simp,av,by rw[List.mapM_nil];exact .pure⟩
 |.tmp t::r,ds,h=>by
  simp only[xH] at h;cases b:xH φ r with
  |none=>grind
  |some q =>
   simp[b] at h;subst h;obtain⟨vs,e,d,c⟩:=FL P f b;refine⟨a.tmps.getD t aj::vs,?_,⟨f.slot t,d⟩,?_⟩
   .intro w;simp only[lA,bY,fU,cY,b9,e]
   .rw[lA];exact .bind .pure λ_=>.bind c λ_=>.pure
 |.cell ad t::r,ds,h=>by simp[xH] at h
def Bz{σ:List aV}{s:St}:∀ {vs:List ak}{ds:List D}{es:List E1},tO ds=aa es->cz σ s vs ds->gJ σ s vs es
 |[],[],es,h,_=>by cases h;trivial
 |[],_::_,_,_,h=>h.elim
 |_::_,[],_,_,h=>h.elim
 |v::vs,.e x::r,es,h,b=>by
  simp only[tO] at h;cases a:tO r with
  |none=>grind
  |some q=>simp[a] at h;subst h;exact⟨b.1,Bz a b.2⟩
 |_::_,.eK _::_,es,h,_=>by simp[tO] at h
 |_::_,.any::_,es,h,_=>by simp[tO] at h
def BA{σ:List aV}{s:St}{vs:List ak}{ds:List D}{d:D}(h:rL ds=aa d)(a:cz σ s vs ds):dc σ s (if h:vs.length=1 then vs[0] else .tuple vs.toArray) d:=by
 unfold rL at h;split at h
 .rename_i g
  cases h
  match vs,a with
  |[v],a=>simpa using a.1
 .rename_i c
  cases b:tO ds with
  |none=>grind
  |some es =>
   simp[b] at h;subst h;have f:vs.length≠1:=by
    intro e;rw[(cz.get a).1] at e
    match ds,e with
    |[x],_=>grind
   rw[dif_neg f];exact⟨vs,rfl,Bz b a⟩
def BC(P:aq)(fn:Func)(φ:Fr)(d:D):Prop:=∀ {N:Nat}{σ:List aV}{s:St}{a:Act},cx N σ s φ a->∃ v,dc σ s v d/\∀ w,(∀ b o u,s.M b o=aa u->w.cell? ⟨b,o,af⟩=aa u)->(results fn a.tmps).run P w=.ok v w/\∀ e∈(results fn a.tmps).events P w #[],∃ b o u,e=⟨.cell ⟨b,o,af⟩,ae,ae⟩/\s.M b o=aa u
def tP{P:aq}{N:Nat}{σ:List aV}{s:St}{φ:Fr}{a:Act}(f:cx N σ s φ a){fn:Func}{ds:List D}{d:D}(h:xH φ fn.results.toList=aa ds)(c:rL ds=aa d) :
  ∃ v,(∀ w,(results fn a.tmps).run P w=.ok v w)/\dc σ s v d/\cO P (results fn a.tmps):=by
 obtain⟨vs,i,b,g⟩:=FL P f h;refine⟨_,λw=>?_,BA c b,?_⟩
 .have e:(fn.results.mapM (fU a)).run P w=Result.ok vs.toArray w:=by
   grind [qv,Sem.run_map,b9]
  unfold results;rw[bY];refine(du (λr=>Result.andThen r _) (Eq.trans ?_ e)).trans ?_
  .congr 2
  .simp
 .unfold results;have e:cO P (fn.results.mapM (fU a)):=by
   rw[qv];exact .map g
  exact .bind e λ_=>.pure
def BC.of{P:aq}{fn:Func}{φ:Fr}{ds:List D}{d:D}(h:xH φ fn.results.toList=aa ds)(hj:rL ds=aa d):BC P fn φ d:=by
 intro N σ s a f;obtain⟨v,h1,h2,b⟩:=tP (P:=P) f h hj;exact⟨v,h2,λw _=>⟨h1 w,λe c=>by rw[b w #[]] at c;grind⟩⟩
end
section
open Go.Conc (G)
def aJ.lE{σ:List aV}{s:St}(h:aJ σ s):aJ (σ.map λ_=>.dead) s:=by
 refine⟨h.mem,by simp[h.len],λl B L a c=>?_,h.gg,h.lt,h.own⟩
 simp only[nF] at a;cases b:σ[l]? with
 |none=>grind
 |some x=>rw[b] at a;cases a;trivial
structure PO (ls:List Nat)(s s':St):Prop where
 β:s'.β=s.β
 M:s'.M=s.M
 own:s'.own=s.own
 size:s.w.heap.size<=s'.w.heap.size
 eN:∀ b,(s.own b∨∃ (l:Nat) (L:Loc),s.β[l]?=aa L/\l∉ls/\b∈L.bs)->s'.w.heap[b]?=s.w.heap[b]?
 mem:∀ b o v,s.M b o=aa v->s'.w.cell? ⟨b,o,af⟩=aa v
 os:s'.w.os=s.w.os
 tape:s'.w.tape=s.w.tape
 output:s'.w.output=s.w.output
def cj.unR{s s':St}(h:cj s s')(ls:List Nat):PO ls s s' :=
 ⟨h.β,h.M,h.own,h.size,λb hb=>h.eN b (hb.imp id λ⟨l,L,h1,_,a⟩=>⟨L,bU h1,a⟩),h.mem,h.os,h.tape,h.output⟩
def PO.cat{l:Nat}{ls:List Nat}{s a s2:St}(h:PO [l] s a)(k:PO ls a s2):PO (l::ls) s s2:=by
 refine⟨k.β.trans h.β,k.M.trans h.M,k.own.trans h.own,eL h.size k.size,λb hb=>?_,λb o v d=>k.mem b o v (by rw[h.M];exact d),k.os.trans h.os,k.tape.trans h.tape,k.output.trans h.output⟩
 rw[k.eN b,h.eN b (hb.imp id λ⟨l',L,h1,h2,c⟩=>⟨l',L,h1,λe=>h2 (by grind),c⟩)]
 rw[h.own,h.β]
 grind
def Jy{P:aq}{w:az}{r:Nat}(a:w.heap[r]?=aa (.deferred (aa []))) :
  (Instr.takeDeferred r).run P w=.ok [] { w with heap:=w.heap.setIfInBounds r (.deferred af) }/\(Instr.takeDeferred r).events P w #[]=#[⟨.obj r,ae,ae⟩,⟨.obj r,ab,ae⟩]:=by
 have b:(getObj r).run P w=.ok (.deferred (aa [])) w:=by simp only[getObj,Sem.run,a]
 have c:(setObj r (.deferred af)).run P w=.ok () { w with heap:=w.heap.setIfInBounds r (.deferred af) }:=by simp only[setObj,Sem.run,a]
 have e:∀ es,(getObj r).events P w es=es.push ⟨.obj r,ae,ae⟩:=λes=>by simp only[getObj,Sem.events,Sem.runT,a];rfl
 have d:∀ es,(setObj r (.deferred af)).events P w es=es.push ⟨.obj r,ab,ae⟩:=λes=>by simp only[setObj,Sem.events,Sem.runT,a];rfl
 constructor
 .simp[Instr.takeDeferred,b,c]
 .simp[Instr.takeDeferred,b,e,d]
variable {P:aq}{X:Cx P}{S:au->St->Prop}{cs:List aR}{main:Bool}
def ND{a:aR}{r:Nat}{ds:List Deferred}{w:az}(f:a.mode=.returning)(d:a.defers={ target:=.collected r,args:=#[] }::ds)(c:w.heap[r]?=aa (.deferred (aa []))) :
  aK P main (G a cs) w=.go (G { a with defers:=ds } cs) { w with heap:=w.heap.setIfInBounds r (.deferred af) } (seen P a.fn #[⟨.obj r,ae,ae⟩,⟨.obj r,ab,ae⟩]):=by
 obtain⟨e,b⟩:=Jy (P:=P) c;simp[G,aK,unwind,f,d,e,b,GStep.after]
def vK(s:St):List Deferred->List Nat->Prop
 |[],[]=>True
 |d::ds,l::ls=>(∃ r:Nat,s.β[l]?=aa ⟨.int .i64 r,[r]⟩/\s.w.heap[r]?=aa (.deferred (aa []))/\(∀ o,s.M r o=af)/\d={ target:=.collected r,args:=#[] })/\l∉ls/\vK s ds ls
 |_,_=>False
def oI.taken{σ:List aV}{s:St}(hh:aJ σ s):∀ {ds:List Deferred}{ls:List Nat},oI σ s ds ls->vK s ds ls
 |[],[],_=>trivial
 |[],_::_,r=>r.elim
 |_::_,[],r=>r.elim
 |d::ds,l::ls,⟨⟨h1,L,r,h2,h,b⟩,g,c⟩=>by
  obtain⟨r',k1,a,f⟩:=hh.box l _ L h1 h2;subst k1;simp at h;have e:r'=r:=by omega
  subst e;exact⟨⟨r',h2,a,f,b⟩,g,oI.taken hh c⟩
def vK.mono{s s':St}{b:Nat}(h:PO [b] s s'):∀ {ds:List Deferred}{ls:List Nat},b∉ls->vK s ds ls->vK s' ds ls
 |[],[],_,_=>trivial
 |[],_::_,_,r=>r.elim
 |_::_,[],_,r=>r.elim
 |d::ds,l::ls,a,⟨⟨r,h1,h2,g,c⟩,f,e⟩=>by
  simp only[fb,not_or] at a;refine⟨⟨r,by rw[h.β];exact h1,by rw[h.eN r (.inr ⟨l,_,h1,by grind,by simp⟩)];exact h2,λo=>by rw[h.M];grind,c⟩,f,vK.mono h a.2 e⟩
def qD:∀ (ls:List Nat)(c:aR)(s:St)(σ:List aV),aJ σ s->(∀ B∈σ,B=.dead)->c.mode=.returning->vK s c.defers ls ->
  (∀ s',PO ls s s'->ft X S (G { c with defers:=[] } cs) s')->ft X S (G c cs) s
 |[],c,s,σ,t,m,C,n,k=>by
  have p:c.defers=[]:=by
   cases p:c.defers with
   |nil=>rfl
   |cons d ds=>rw[p] at n;exact n.elim
  have:=k s ((cj.refl t).unR _);have e:{ c with defers:=[] }=c:=by cases c;simp_all
  grind
 |l::ls,c,s,σ,t,m,C,n,k=>by
  cases p:c.defers with
  |nil=>rw[p] at n;exact n.elim
  |cons d ds =>
   rw[p] at n;obtain⟨⟨r,y,K,U,N⟩,Q,J⟩:=n;subst N;refine .next rfl λi D=>?_
   have g:=X.ik D;have a:=t.rely g;have E:i.β[l]?=aa ⟨.int .i64 r,[r]⟩:=by rw[g.β];exact y
   have A:i.w.heap[r]?=aa (.deferred (aa [])):=by rw[g.eN r (.inr ⟨_,bU y,by simp⟩)];exact K
   have O:∀ o,i.M r o=af:=λo=>by rw[g.M];grind
   let s2:St:={ i with w:={ i.w with heap:=i.w.heap.setIfInBounds r (.deferred af) } }
   have I:∀ b,b≠r->s2.w.heap[b]?=i.w.heap[b]?:=λb f=>by
    grind
   have j:∀ b o v,i.M b o=aa v->s2.w.cell? ⟨b,o,af⟩=aa v:=by
    intro b o v F;have x:b≠r:=by grind
    rw[<-a.mem b o v F];simp only[a9]
    grind
   have q:aJ σ s2:=by
    refine⟨j,a.len,λl' B L T z=>?_,a.gg,λL z b f=>?_,λb f=>⟨?_,(a.own b f).2⟩⟩
    .rw[m B (bU T)];trivial
    .have:=a.lt L z b f;grind
    .have:=(a.own b f).1;grind
   have u:∃ L∈i.β,r∈L.bs:=⟨_,bU E,by simp⟩
   have st:Step σ i σ s2:=by
    refine⟨by grind,λb _ f=>I b ?_,λ_ _ _ h=>h,λ_ _ _ _=>rfl,λL z b f=>.inr ⟨L,z,f⟩,λ_ B L h R=>⟨B,L,h,R,.refl _ _⟩,rfl,rfl,rfl,rfl⟩
    grind
   have un:PO [l] s s2:=by
    refine⟨g.β,g.M,g.own,eL g.size (by grind),λb f=>?_,λb o v F=>j b o v (by rw[g.M];exact F),g.os,g.tape,g.output⟩
    have x:b≠r:=by
     rintro rfl;rcases f with f|⟨l',L',H,p2,p3⟩
     .exact(t.own b f).2 _ (bU y) (by simp)
     .exact p2 (by simp;exact t.gg l' l L' _ H y b p3 (by simp))
    rw[I b x];exact g.eN b (f.imp id λ⟨l',L',H,_,p3⟩=>⟨L',bU H,p3⟩)
   refine⟨_,s2,_,ND C p A,⟨⟨σ,σ,a,q,st⟩,eZ.seen (.two ?_ ?_)⟩,?_⟩
   .exact⟨rfl,.inr u⟩
   .exact⟨rfl,.inr u⟩
   refine qD ls { c with defers:=ds } s2 σ q m C (J.mono un Q) λs' hu=>?_
   exact k s' (un.cat hu)
end
section
open Go.Conc (G)
def aP(n:Nat)(f g:Nat->List C):Prop:=∀ i,i<n->f i=g i
def Flat.DD{M:Mem}{k n:Nat}{es es':Nat->List C}{vs:List ak}(h:Flat M k n es vs)(a:aP n es es'):Flat M k n es' vs :=
 ⟨h.len,λi hi=>by rw[<-a i hi];exact h.width i hi,λi hi j c hj=>h.rd i hi j c (by rw[a i hi];exact hj)⟩
def XT:C->C->Option (List Prop)
 |.int k n,.int k' n'=>match Hh k k' with|true=>aa [n=n']|false=>af
 |.bool b,.bool b'=>aa [b=b']
 |.str s,.str s'=>aa [s=s']
 |.sl t k n es,.sl t' k' n' es'=>match aG k k' with
  |true=>match t,t' with
   |false,ab=>af
   |_,_=>aa [n=n',aP n es es']
  |false=>match t,t' with
   |true,_=>aa [n=0,n'=0]
   |_,_=>af
 |.val x,.val y=>aa [x=y]
 |x,y=>aa [x=y]
def Rr{M:Mem}{v:ak}{x y:C}{ps:List Prop}(h:XT x y=aa ps)(c:ag ps)(r:Rd M v x):Rd M v y:=by
 unfold XT at h;split at h
 .rename_i k n k' n'
  cases d:Hh k k' <;> simp[d] at h
  subst h;cases Ab d;cases (show n=n' from c)
  exact r
 .cases h;rename_i b f;cases (show b=f from c);exact r
 .cases h;rename_i b f;cases (show b=f from c);exact r
 .rename_i t k n es t' k' n' es'
  cases d:aG k k' with
  |true =>
   simp only[d] at h;have e:=bX d;subst e;cases t <;> cases t' <;> simp at h
   all_goals (subst h;obtain⟨rfl,g⟩:=(show n=n'/\aP n es es' from c);first|exact r.DD g|exact r.loose.DD g)
  |false =>
   simp only[d] at h;cases t <;> simp at h
   subst h;obtain⟨rfl,rfl⟩:=(show n=0/\n'=0 from c)
   obtain⟨a,cap,vs,rfl,_,_,i,_⟩:=r.flat
   grind [Rd.jJ]
 .cases h;rename_i x y;cases (show x=y from c);exact r
 .cases h;cases c;exact r
def Uo:A->A->Option (List Prop)
 |.c x,.c y=>XT x y
 |.vec _ k n es,.c (.sl ae k' n' es')=>match aG k k' with|true=>aa [n=n',aP n es es']|false=>af
 |.vec l k n es,.vec l' k' n' es'=>match aG l l' with
  |true=>match aG k k' with|true=>aa [n=n',aP n es es']|false=>af
  |false=>af
 |.ptr l o,.ptr l' o'=>match aG l l' with|true=>(match aG o o' with|true=>aa []|false=>af)|false=>af
 |.ref l,.ref l'=>match aG l l' with|true=>aa []|false=>af
 |.bp l w,.bp l' w'=>match aG l l' with|true=>aa [w=w']|false=>af
 |_,.any=>aa []
 |_,_=>af
def J9{σ:List aV}{s:St}{v:ak}{x y:A}{ps:List Prop}(h:Uo x y=aa ps)(c:ag ps)(r:gw σ s v x):gw σ s v y:=by
 unfold Uo at h;split at h
 .exact Rr h c r
 .rename_i k n es k' n' es'
  cases a:aG k k' <;> simp[a] at h
  subst h;have e:=bX a;subst e;obtain⟨rfl,f⟩:=(show n=n'/\aP n es es' from c)
  exact r.1.DD f
 .rename_i l k n es l' k' n' es'
  cases b:aG l l' <;> simp[b] at h
  cases a:aG k k' <;> simp[a] at h
  subst h;have e:=bX a;have d:=bX b;subst e d;obtain⟨rfl,f⟩:=(show n=n'/\aP n es es' from c)
  exact⟨r.1.DD f,r.2.1,r.2.2⟩
 .grind [bX]
 .grind [bX]
 .rename_i l w l' w'
  cases b:aG l l' <;> simp[b] at h
  have d:=bX b;subst d;subst h;cases (show w=w' from c)
  exact r
 .exact gw.cell r
 grind
def ko:List Prop->List Prop->List Prop
 |[],q=>q
 |p::r,q=>p::ko r q
def ag.cat{p q:List Prop}:ag (ko p q)↔ag p/\ag q:=by
 induction p with
 |nil=>simp[ko,ag]
 |cons x r a=>simp only[ko,ag.cons,a,and_assoc]
def P6:List A->List A->Option (List Prop)
 |[],[]=>aa []
 |a::al,b::bs=>match Uo a b with
  |some p=>match P6 al bs with
   |some q=>aa (ko p q)
   |none=>af
  |none=>af
 |_,_=>af
def Eb{σ:List aV}{s:St}:∀ {vs:List ak}{xs ys:List A}{ps:List Prop},P6 xs ys=aa ps->ag ps->dW σ s vs xs->dW σ s vs ys
 |[],[],[],_,_,_,_=>trivial
 |_::_,[],_,_,_,_,h=>h.elim
 |[],_::_,_,_,_,_,h=>h.elim
 |[],[],_::_,_,h,_,_=>by simp[P6] at h
 |_::_,_::_,[],_,h,_,_=>by simp[P6] at h
 |v::vs,a::al,b::bs,ps,h,c,e=>by
  simp only[P6] at h;cases f:Uo a b with
  |none=>grind
  |some p =>
   cases d:P6 al bs with
   |none=>grind
   |some q =>
    simp[f,d] at h;subst h;rw[ag.cat] at c;exact⟨J9 f c.1 e.1,Eb d c.2 e.2⟩
def Up:E1->E1->Option (List Prop)
 |.one a,.one b=>Uo a b
 |.agg al,.agg bs=>P6 al bs
 |_,_=>af
def Ka{σ:List aV}{s:St}{v:ak}{x y:E1}{ps:List Prop}(h:Up x y=aa ps)(a:ag ps)(r:mY σ s v x):mY σ s v y:=by
 cases x <;> cases y <;> simp only[Up,reduceCtorEq] at h
 .exact J9 h a r
 .obtain⟨vs,c,b⟩:=r;exact⟨vs,c,Eb h a b⟩
def Ec:List E1->List E1->Option (List Prop)
 |[],[]=>aa []
 |a::al,b::bs=>match Up a b with
  |some p=>match Ec al bs with
   |some q=>aa (ko p q)
   |none=>af
  |none=>af
 |_,_=>af
def F3{σ:List aV}{s:St}:∀ {vs:List ak}{xs ys:List E1}{ps:List Prop},Ec xs ys=aa ps->ag ps->gJ σ s vs xs->gJ σ s vs ys
 |[],[],[],_,_,_,_=>trivial
 |_::_,[],_,_,_,_,h=>h.elim
 |[],_::_,_,_,_,_,h=>h.elim
 |[],[],_::_,_,h,_,_=>by simp[Ec] at h
 |_::_,_::_,[],_,h,_,_=>by simp[Ec] at h
 |v::vs,a::al,b::bs,ps,h,c,e=>by
  simp only[Ec] at h;cases f:Up a b with
  |none=>grind
  |some p =>
   cases d:Ec al bs with
   |none=>grind
   |some q =>
    simp[f,d] at h;subst h;rw[ag.cat] at c;exact⟨Ka f c.1 e.1,F3 d c.2 e.2⟩
def Ds:D->D->Option (List Prop)
 |.e x,.e y=>Up x y
 |.eK xs,.eK ys=>Ec xs ys
 |_,.any=>aa []
 |_,_=>af
def qA{σ:List aV}{s:St}{v:ak}{x y:D}{ps:List Prop}(h:Ds x y=aa ps)(a:ag ps)(r:dc σ s v x):dc σ s v y:=by
 cases x <;> cases y <;> simp only[Ds,reduceCtorEq] at h
 .exact Ka h a r
 .trivial
 .obtain⟨vs,c,b⟩:=r;exact⟨vs,c,F3 h a b⟩
 .trivial
 .trivial
def qF(φ:Fr):Fr->Option (List Prop)
 |[]=>aa []
 |(i,d)::r=>match Ds (look φ i) d with
  |some p=>match qF φ r with
   |some q=>aa (ko p q)
   |none=>af
  |none=>af
def dh{φ:Fr}:∀ {a:Fr}{ps:List Prop},qF φ a=aa ps->ag ps->o8 φ a
 |[],_,_,_=>λ_ _ _ _ _=>trivial
 |(i,d)::r,ps,h,b=>by
  simp only[qF] at h;cases f:Ds (look φ i) d with
  |none=>grind
  |some p =>
   cases c:qF φ r with
   |none=>grind
   |some q =>
    simp[f,c] at h;subst h;rw[ag.cat] at b;intro σ s v t e;simp only[look];cases g:aG i t with
    |true =>
     grind [bX,qA]
    |false=>exact dh c b.2 σ s v t e
def lg(σ:List aV):Bool:=match cX σ with|true=>mv σ|false=>ae
def yo{σ:List aV}(h:lg σ=ab):cX σ=ab/\mv σ=ab:=by
 unfold lg at h
 grind
def oI.BW{σ:List aV}{s:St}:∀ {ds:List Deferred}{ls:List Nat},oI σ s ds ls->∀ l∈ls,σ[l]?=aa .qV
 |[],[],_,l,hl=>by grind
 |[],_::_,r,_,_=>r.elim
 |_::_,[],r,_,_=>r.elim
 |d::ds,b::ls,⟨⟨h1,_⟩,_,a⟩,l,hl=>by
  rcases fb.1 hl with rfl|hl
  .exact h1
  .exact oI.BW a l hl
def b6(fn:Func)(a:Nat)(res:D)(σ':List aV):Post:=λe φ σ1 =>
 (e=.ret∨e=.normal)/\∃ ks ds d ps,xH φ fn.results.toList=aa ds/\rL ds=aa d/\Ds d (jA ks res)=aa ps/\ag ps/\u7 ks.length res=ab /\
  kL ks σ1=aa σ'/\lg σ'=ab/\eg ks=ab/\(∀ j,j<a->ks[j]?=aa j)
def BD(P:aq)(fn:Func)(a:Nat)(res:D)(σ':List aV):Post:=λe φ σ1 =>
 (e=.ret∨e=.normal)/\∃ ks d ps,BC P fn φ d/\Ds d (jA ks res)=aa ps/\ag ps/\u7 ks.length res=ab /\
  kL ks σ1=aa σ'/\lg σ'=ab/\eg ks=ab/\(∀ j,j<a->ks[j]?=aa j)
def b6.toJ{P:aq}{fn:Func}{a:Nat}{res:D}{σ':List aV}{e:Exit}{φ:Fr}{σ1:List aV}(h:b6 fn a res σ' e φ σ1):BD P fn a res σ' e φ σ1:=by
 obtain⟨c,ks,ds,d,ps,h1,h2,b⟩:=h;exact⟨c,ks,d,ps,BC.of h1 h2,b⟩
def cM.Kb{P:aq}{ι:Type}{X:Cx P}{f:aW}{fn:Func}{c:Code}{args:List D}{σ:List aV}{σ':ι->List aV}{res:ι->D}(Z:P.funcs[f]?=aa fn)(E:(fn.name== "runtime.NumGoroutine")=ae)(hb:fn.body=aa c)(hlen:args.length<=fn.ntmps)
  (h:∀ s a,cx fn.ntmps σ s (js 0 args) a->aJ σ s->∀ (b:aR) (k:List Item) (cs:List aR) (S:au->St->Prop),b.kind≠.early->b.roundOf=af ->
  (∀ e A σ1 s' a',(∃ j,BD P fn σ.length (res j) (σ' j) e A σ1)->cx fn.ntmps σ1 s' A a'->aJ σ1 s'->cD σ s σ1 s'->ends X S b k cs e a' s')->ft X S (G (b.aT a (.code c::k)) cs) s):cM X f args σ res σ':=by
 refine⟨⟨fn,Z,E,by grind⟩,λs vs hr hh S cs hS=>?_⟩
 obtain⟨hl,hg⟩:=cz.get hr
 let b:aR:={ fn:=f,tmps:=#[],todo:=[],defers:=[],mode:=.run,kind:=.normal,roundOf:=af }
 have z:Frame.enter P f vs.toArray .normal=b.aT { tmps:=vs.toArray++Array.replicate (fn.ntmps-vs.toArray.size) aj,defers:=[] } [.code c]:=by
  simp[Frame.enter,Frame.aT,Z,hb,b]
 rw[z];refine h s { tmps:=vs.toArray++Array.replicate (fn.ntmps-vs.toArray.size) aj,defers:=[] } ⟨by grind,⟨[],av⟩,λt=>?_⟩ hh b [] cs S (by simp[b]) rfl ?_
 .rw[nZ];simp only[gC,cu,mh];have:=hg t;rcases cJ t vs.length with tN|QI
  .have e:(vs.toArray++Array.replicate (fn.ntmps-vs.toArray.size) aj).getD t aj=(vs[t]?).getD aj:=by
    simp only[dG]
    grind
   grind
  .rw[q8 (by omega)]
   trivial
 .rintro e A σ1 s1 a1 ⟨T,V,ks,d,ps,h1,h3,h4,h5,Q,Y,h8,h9⟩ f' R st;obtain⟨h7,U⟩:=yo Y;have fin:∀ (fr:aR) s2,cj s1 s2->fr.fn=f->fr.tmps=a1.tmps->fr.defers=a1.defers->fr.mode=.returning->fr.kind=.normal->ft X S (G fr cs) s2:=by
   intro fr s2 sO e1 e2 e3 e4 e5;have f2:=f'.rely sO R;have m:=R.rely sO;have g:=st.trans sO.stepW;obtain⟨v,r2,r1⟩:=h1 f2;obtain⟨i,r⟩:=zC (l':=s2.β) Q m.len;have r4:=(qA h3 h4 r2).sub Q r h5;obtain⟨c1,c2⟩:=iC Q;obtain⟨d1,d2⟩:=iC r;have K:∀ L∈i,L∈s2.β:=zG r;have F:aJ (σ' T) { s2 with β:=i }:=by
    obtain⟨H,_⟩:=m.sub Q r h7 h8;refine⟨H.mem,H.len,λj B L J q=>?_,H.gg,H.lt,λb hb=>⟨(m.own b hb).1,λL q=>(m.own b hb).2 L (K L q)⟩⟩
    exact eP.plain (σ:=σ' T) (s:={ s2 with β:=i,own:=zF s2 i }) (s':={ s2 with β:=i }) rfl rfl (kM h7 B (bU J)) (H.box j B L J q)
   have W:cD σ s (σ' T) { s2 with β:=i }:=by
    refine⟨g.size,g.eN,g.mem,g.jz,λL q b hb=>g.xC _ (K L q) b hb,λl B L J q=>?_,g.os,g.tape,g.output,g.own⟩
    have hl:l<σ.length:=(cr.1 J).1;obtain⟨B',L',p1,p2,p3⟩:=g.box l B L J q
    grind
   obtain⟨ls,C⟩:=f2.defers;refine qD ls fr s2 _ m.lE (by simp) e4 (by rw[e3];exact C.taken m) λO n=>?_
   have p:cj { s2 with β:=i } { O with β:=i }:=by
    refine⟨rfl,n.M,n.own,n.size,λb hb=>n.eN b (hb.imp id ?_),n.mem,n.os,n.tape,n.output⟩
    rintro⟨L,q,hb⟩;obtain⟨j,hj,rfl⟩:=dH q;have N:j<ks.length:=by grind
    obtain⟨y,y1,y2⟩:=d2 j _ (br N);obtain⟨x,x1,x2⟩:=c2 j _ (br N);rw[br hj] at y1;cases y1;refine⟨_,_,y2,λhc=>?_,hb⟩
    rw[C.BW _ hc] at x2;cases x2;exact na U _ (bU x1) rfl
   have hG:eR O { O with β:=i }:=⟨rfl,λ_ _ _ h=>h,λ_ _ _=>rfl,λb o v hv=>n.mem b o v (by rw[<-n.M];exact hv),λb hb=>hb.imp id λ⟨L,q,hb⟩=>⟨L,by rw[n.β];grind,hb⟩⟩
   refine .ghost hG (hS T _ v _ ⟨e1,e4,rfl,e5,fn,by grind,λw hw=>?_⟩ (r4.mono p.stepW.ext F.len) (F.rely p) (W.trans p.stepW))
   show (results fn fr.tmps).run P w=_/\∀ e∈(results fn fr.tmps).events P w #[],_;rw[e2];have I:∀ b o u,s2.M b o=aa u->w.cell? ⟨b,o,af⟩=aa u:=λb o u h=>hw b o u (by show O.M b o=aa u;rw[n.M];exact h)
   refine⟨(r1 w I).1,λe V=>?_⟩
   obtain⟨b,o,u,q1,q2⟩:=(r1 w I).2 e V;exact⟨b,o,u,q1,by show O.M b o=aa u;rw[n.M];exact q2⟩
  rcases V with rfl|rfl
  .intro pre;exact .ctl R rfl (λ_=>DH rfl) λs2 sO=>fin _ s2 sO rfl rfl (k7 _) rfl rfl
  .exact .ctl R rfl (λ_=>DI rfl) λs2 sO=>fin _ s2 sO rfl rfl (k7 _) rfl rfl
def cM.P5{P:aq}{ι:Type}{X:Cx P}{f:aW}{fn:Func}{c:Code}{args:List D}{σ:List aV}{σ':ι->List aV}{res:ι->D}(l:P.funcs[f]?=aa fn)(g:(fn.name== "runtime.NumGoroutine")=ae)(hb:fn.body=aa c)(i:args.length<=fn.ntmps)
  (h:∀ s a,cx fn.ntmps σ s (js 0 args) a->aJ σ s->∀ (b:aR) (k:List Item) (cs:List aR) (S:au->St->Prop),b.kind≠.early->b.roundOf=af ->
  (∀ e d σ1 s' a',(∃ j,b6 fn σ.length (res j) (σ' j) e d σ1)->cx fn.ntmps σ1 s' d a'->aJ σ1 s'->cD σ s σ1 s'->ends X S b k cs e a' s')->ft X S (G (b.aT a (.code c::k)) cs) s):cM X f args σ res σ' :=
 cM.Kb l g hb i λs a f hh b k cs S h1 h2 hQ=>h s a f hh b k cs S h1 h2 λe d σ1 s' a' ⟨j,q⟩=>hQ e d σ1 s' a' ⟨j,q.toJ⟩
def cM.Ju{P:aq}{ι:Type}{X:Cx P}{f:aW}{fn:Func}{c:Code}{args:List D}{σ:List aV}{σ':ι->List aV}{res:ι->D}(l:P.funcs[f]?=aa fn)(g:(fn.name== "runtime.NumGoroutine")=ae)(hb:fn.body=aa c)(d:args.length<=fn.ntmps)
  (h:AW X fn.ntmps c (λe φ σ1=>∃ j,BD P fn σ.length (res j) (σ' j) e φ σ1) (js 0 args) σ):cM X f args σ res σ' :=
 cM.Kb l g hb d λs a f hh b k cs S m _ i=>h s a f hh b k cs S m i
def cM.intro{P:aq}{ι:Type}{X:Cx P}{f:aW}{fn:Func}{c:Code}{args:List D}{σ:List aV}{σ':ι->List aV}{res:ι->D}(l:P.funcs[f]?=aa fn)(g:(fn.name== "runtime.NumGoroutine")=ae)(hb:fn.body=aa c)(d:args.length<=fn.ntmps)
  (h:AW X fn.ntmps c (λe φ σ1=>∃ j,b6 fn σ.length (res j) (σ' j) e φ σ1) (js 0 args) σ):cM X f args σ res σ' :=
 cM.P5 l g hb d λs a f hh b k cs S m _ i=>h s a f hh b k cs S m i
def Ev.intro{P:aq}{X:Cx P}{f:aW}{fn:Func}{c:Code}{args:List D}{σ σ':List aV}{res:D}(d:P.funcs[f]?=aa fn)(a:(fn.name== "runtime.NumGoroutine")=ae)(hb:fn.body=aa c)(b:args.length<=fn.ntmps)
  (h:AW X fn.ntmps c (b6 fn σ.length res σ') (js 0 args) σ):Ev X f args σ res σ' :=
 (cM.intro d a hb b (AW.mono h λ_ _ _ q=>⟨(),q⟩)).uA
end
inductive It where
 |code (c:Code)
 |blk (id:Nat)
 |ops (all rest:List aw)
def AK{P:aq}(X:Cx P)(N:Nat)(Qf:Post):List It->Post
 |[],e,φ,σ=>Qf e φ σ
 |.code c::K,.normal,φ,σ=>AW X N c (AK X N Qf K) φ σ
 |.code _::K,e,φ,σ=>AK X N Qf K e φ σ
 |.blk id::K,.exit I9,φ,σ=>if I9=id then AK X N Qf K .normal φ σ else AK X N Qf K (.exit I9) φ σ
 |.blk _::K,e,φ,σ=>AK X N Qf K e φ σ
 |.ops all rest::K,.normal,φ,σ=>jB X N all rest (AK X N Qf K .normal) φ σ
 |.ops _ _::K,e,φ,σ=>AK X N Qf K e φ σ
section
variable {P:aq}{X:Cx P}{N:Nat}{Qf:Post}{K:List It}{φ:Fr}{σ:List aV}
def AK.of_code{c:Code}(h:AK X N Qf [.code c] .normal φ σ):AW X N c Qf φ σ:=h
def AK.skip(h:AK X N Qf K .normal φ σ):AK X N Qf (.code .skip::K) .normal φ σ:=AW.skip h
def AK.seq{x y:Code}(h:AK X N Qf (.code x::.code y::K) .normal φ σ):AK X N Qf (.code (.seq x y)::K) .normal φ σ:=by
 refine AW.seq (AW.mono h ?_);intro e a σ' q;cases e <;> exact q
def AK.block{id:Nat}{c:Code}(h:AK X N Qf (.code c::.blk id::K) .normal φ σ):AK X N Qf (.code (.block id c)::K) .normal φ σ:=by
 refine AW.block (AW.mono h ?_);intro e a σ' q;cases e <;> exact q
def AK.RA{id:Nat}(h:AK X N Qf K .normal φ σ):AK X N Qf (.blk id::K) .normal φ σ:=h
def AK.region{id:Nat}{ops:Array aw}(h:AK X N Qf (.ops ops.toList ops.toList::K) .normal φ σ):AK X N Qf (.code (.region id ops ae)::K) .normal φ σ:=AW.region h
def AK.RB{all:List aw}(h:AK X N Qf K .normal φ σ):AK X N Qf (.ops all []::K) .normal φ σ:=jB.nil h
def AK.r8:∀ {K:List It},Qf .ret φ σ->AK X N Qf K .ret φ σ
 |[],h=>h
 |.code _::K,h=>AK.r8 (K:=K) h
 |.blk _::K,h=>AK.r8 (K:=K) h
 |.ops _ _::K,h=>AK.r8 (K:=K) h
def AK.ret(h:Qf .ret φ σ):AK X N Qf (.code .ret::K) .normal φ σ:=AW.ret (AK.r8 h)
def kP(id:Nat):List It->Option (List It)
 |[]=>af
 |.blk i::K=>match aG id i with|true=>aa K|false=>kP id K
 |_::K=>kP id K
def AK.wh{id:Nat}:∀ {K a:List It},kP id K=aa a->AK X N Qf a .normal φ σ->AK X N Qf K (.exit id) φ σ
 |[],_,h,_=>by cases h
 |.blk i::K,a,h,q=>by
  simp only[kP] at h;cases hb:aG id i with
  |true =>
   simp[hb] at h;subst h;have e:=bX hb;simp only[AK,e,cu];exact q
  |false =>
   simp[hb] at h;have b:id≠i:=λe=>by grind [iN]
   simp only[AK,b,cd];exact AK.wh h q
 |.code _::K,a,h,q=>AK.wh (K:=K) h q
 |.ops _ _::K,a,h,q=>AK.wh (K:=K) h q
def AK.exit{id:Nat}{a:List It}(b:kP id K=aa a)(h:AK X N Qf a .normal φ σ):AK X N Qf (.code (.exit id)::K) .normal φ σ:=AW.exit (AK.wh b h)
def AK.cond{c:an}{x y:Code}{b:Bool}{t:Nat}(d:c=.tmp t)(hl:look φ t=.e (.one (.c (.bool b))))
  (a:b=ab->AK X N Qf (.code x::K) .normal φ σ) (f:b=ae->AK X N Qf (.code y::K) .normal φ σ):AK X N Qf (.code (.cond c x y)::K) .normal φ σ:=AW.cond d hl a f
def AK.loop{S:Type}{c:Code}(I:S->Prop)(fr:S->Fr)(st:S->List aV)(d:S->Nat)(x:S)(g:I x)(b:o8 φ (fr x))(f:st x=σ)
  (round:∀ x,I x->AK X N (λe a σ'=>match e with
   |.normal=>∃ y,I y/\d y<d x/\o8 a (fr y)/\σ'=st y
   |e=>AK X N Qf K e a σ') [.code c] .normal (fr x) (st x)):AK X N Qf (.code (.loop c)::K) .normal φ σ:=by
 refine AW.loop I fr st d x g b f λy h=>AW.mono (round y h) ?_
 intro e a σ' q;cases e <;> exact q
end
def de{α a:Type}:List α->(List α->Option a)->Option a
 |[],k=>k []
 |x::r,k=>de r λq=>k (x::q)
def cV{α a:Type}(l:List α)(k:List α->Option a):de l k=k l:=by
 induction l generalizing k with
 |nil=>rfl
 |cons x r b=>simp[de,b]
def zR(φ:Fr)(all:List aw)(j:Nat):Option (Option Bool) :=
 match fw j all with
 |some oj=>match oj.dst with
  |some d=>match look φ d with
   |.e (.one (.c (.bool ab)))=>aa (aa ab)
   |.e (.one (.c (.bool ae)))=>aa (aa ae)
   |.eK []=>aa af
   |_=>af
  |none=>af
 |none=>af
def pW{N:Nat}{φ:Fr}{all:List aw}{j:Nat}{r:Option Bool}(h:zR φ all j=aa r){σ:List aV}{s:St}{a:Act}(f:cx N σ s φ a):yielded all.toArray a.tmps j=r:=by
 unfold zR at h;rw[e9] at h;unfold yielded;cases k:all[j]? with
 |none=>grind
 |some oj =>
  simp only[k] at h;simp only[iJ,k,nG];cases o:oj.dst with
  |none=>grind
  |some d =>
   simp only[o] at h;simp only[nG];have c:=f.slot d;have key:∀ v,a.tmps.getD d aj=v->v≠aj->a.tmps[d]?=aa v:=by
    intro v e m;simp only[dG] at e
    grind
   split at h
   .rename_i g
    cases h;rw[g] at c;have b:=fy c;generalize e:a.tmps.getD d aj=v at b;cases b;rw[key _ e (by simp[aj])]
   .rename_i g
    cases h;rw[g] at c;have b:=fy c;generalize e:a.tmps.getD d aj=v at b;cases b;rw[key _ e (by simp[aj])]
   .rename_i g
    cases h;rw[g] at c;obtain⟨vs,n,l⟩:=c;have i:vs=[]:=by cases vs with
     |nil=>rfl
     |cons _ _=>exact l.elim
    subst i;simp only[dG] at n
    grind
   grind
def V7(T:List (Nat×TI))(φ:Fr)(σ:List aV)(o:aw):Option (D×List aV×List Prop) :=
 match o.op with
 |.move x|.assign x=>aa (b5 φ x,σ,[])
 |.pick c a b=>match b5 φ c with
  |.e (.one (.c (.bool ab)))=>aa (b5 φ a,σ,[])
  |.e (.one (.c (.bool ae)))=>aa (b5 φ b,σ,[])
  |_=>af
 |.binOp op _ x y _=>match b5 φ x,b5 φ y with
  |.e (.one (.c a)),.e (.one (.c b))=>match NJ op a b with
   |some (c,obs)=>aa (.e (.one (.c c)),σ,obs)
   |none=>af
  |_,_=>af
 |.unOp op _ x=>match b5 φ x with
  |.e (.one (.c a))=>match V6 op a with
   |some c=>aa (.e (.one (.c c)),σ,[])
   |none=>af
  |_=>af
 |.extract x j=>match b5 φ x with
  |.eK xs=>match fw j xs with
   |some e=>aa (.e e,σ,[])
   |none=>af
  |_=>af
 |.alloc E=>match bF T E with
  |some i=>de (σ++[.cells E (i.zero.map A.c)]) λσ'=>aa (.e (.one (.ptr σ.length 0)),σ',[])
  |none=>af
 |.box E x=>match mT (b5 φ x) with
  |some cs=>de (σ++[.cells E cs]) λσ'=>aa (.e (.one (.ptr σ.length 0)),σ',[])
  |none=>af
 |.load t x=>match bF T t with
  |some i=>match b5 φ x with
   |.e (.one (.ptr l off))=>match fw l σ with
    |some (.cells _ cs)=>match m8 i (hJ off cs) with
     |some e=>aa (.e e,σ,[])
     |none=>af
    |_=>af
   |.e (.one (.c (.rp cs)))=>match m8 i (cs.map A.c) with
    |some e=>aa (.e e,σ,[])
    |none=>af
   |_=>af
  |none=>af
 |.store t x y=>match bF T t with
  |some i=>match b5 φ x with
   |.e (.one (.ptr l off))=>match fw l σ with
    |some (.cells E cs)=>match mT (b5 φ y) with
     |some new=>match aG new.length i.size with
      |true=>match eX off new cs with
       |some mc=>de (ef.rJ l (.cells E mc) σ) λσ'=>aa (.any,σ',[])
       |none=>af
      |false=>af
     |none=>af
    |_=>af
   |_=>af
  |none=>af
 |.fieldAddr t x f=>match jM T t f with
  |some (k,_)=>match b5 φ x with
   |.e (.one (.ptr l off))=>aa (.e (.one (.ptr l (off+k))),σ,[])
   |.e (.one (.c (.rp cs)))=>aa (.e (.one (.c (.rp (hJ k cs)))),σ,[])
   |_=>af
  |none=>af
 |.field t x f=>match jM T t f with
  |some (k,j)=>match b5 φ x with
   |.e (.agg cs)=>match m8 j (hJ k cs) with
    |some e=>aa (.e e,σ,[])
    |none=>af
   |_=>af
  |none=>af
 |.nilCheck x=>match b5 φ x with
  |.e (.one (.ptr l off))=>aa (.e (.one (.ptr l off)),σ,[])
  |.e (.one (.c (.rp cs)))=>aa (.e (.one (.c (.rp cs))),σ,[])
  |_=>af
 |.build t parts=>match zP T (b5 φ) t parts.toList with
  |some cs=>aa (.e (.agg cs),σ,[])
  |none=>af
 |.buildSlice t n parts=>match DM T (b5 φ) t n parts.toList with
  |some (k,es)=>aa (.e (.one (.c (.sl ab k n λi=>es.getD i []))),σ,[])
  |none=>af
 |_=>af
def D5{P:aq}{T:List (Nat×TI)}(m:dg P T){φ:Fr}{σ σ':List aV}{o:aw}{x:D}{obs:List Prop}(h:V7 T φ σ o=aa (x,σ',obs))(n:ag obs):bH P o (b5 φ) σ x σ':=by
 unfold V7 at h;split at h
 .grind [bH.move]
 .grind [bH.assign]
 .rename_i c a b d
  split at h
  .rename_i e;cases h;exact bH.pick d e
  .rename_i e;cases h;exact bH.pick d e
  grind
 .grind [bH.binOp]
 .grind [bH.unOp]
 .grind [bH.extract,dz]
 .grind [cV,bH.alloc]
 .grind [cV,bH.box]
 .rename_i t y d
  split at h
  .grind [bH.FR,dz,bH.JQ]
  grind
 .rename_i t y z d
  split at h
  .rename_i i hi
   split at h
   .rename_i l off hx
    split at h
    .grind [cV,kC,bH.store,dz,bX]
    grind
   grind
  grind
 .rename_i t y f d
  split at h
  .rename_i k j g
   split at h
   .rename_i l off hx;cases h;exact bH.rW m d hx g
   .grind [bH.tR]
   grind
  grind
 .grind [bH.field]
 .grind [bH.tS,bH.vV]
 .grind [bH.build]
 .grind [bH.buildSlice]
 grind
def gx(N:Nat):Option Nat->Bool
 |some d=>bo (d+1) N
 |none=>ab
def il{N:Nat}{d:Option Nat}(h:gx N d=ab):∀ t,d=aa t->t<N:=by
 intro t a;subst a;exact db h
def dv{all:List aw}{o:aw}(h:o.guard=af){a:Act}:bj o (yielded all.toArray a.tmps)=ab:=by simp[bj,h]
section
variable {P:aq}{T:List (Nat×TI)}{o:aw}{g:an->D}{σ:List aV}
def uE(g:an->D):Option an->Option (Option Int)
 |none=>aa af
 |some x=>match g x with
  |.e (.one (.c (.int _ j)))=>aa (aa j)
  |_=>af
def je{s:St}{ρ:an->ak}(c:∀ y,dc σ s (ρ y) (g y)){x:Option an}{b:Option Int}(h:uE g x=aa b):(x.map ρ=af/\b=af)∨∃ k j,x.map ρ=aa (.int k j)/\b=aa j:=by
 cases x with
 |none=>cases h;grind
 |some y =>
  right
  simp only[uE] at h;split at h
  .rename_i k j a
   cases h;have:=c y;rw[a] at this;have:=fy this;generalize d:ρ y=v at this;cases this
   grind
  grind
def cv(d:Nat):Option Int->Nat
 |none=>d
 |some j=>j.toNat
def iQ(n:Nat):Option Int->Option Int->List Prop
 |none,af=>[]
 |some l,af=>[0<=l,l<=n]
 |none,aa h=>[0<=h,h<=n]
 |some l,aa h=>[0<=l,l<=h,h<=n]
def nU{isS:Bool}{n cap:Nat}(p:n<=cap){lo hi:Option ak}{l h:Option Int}(i:(lo=af/\l=af)∨∃ k j,lo=aa (.int k j)/\l=aa j)(m:(hi=af/\h=af)∨∃ k j,hi=aa (.int k j)/\h=aa j)
  (c:ag (iQ n l h)) (w:az):(Instr.sliceBounds isS n cap lo hi af).run P w=.ok (cv 0 l,cv n h,cap) w/\cv 0 l<=cv n h/\cv n h<=n:=by
 rcases i with⟨rfl,rfl⟩|⟨f,l,rfl,rfl⟩ <;> rcases m with⟨rfl,rfl⟩|⟨d,h,rfl,rfl⟩
 .exact⟨by simp[Instr.sliceBounds,cv],by simp[cv],by simp[cv]⟩
 .obtain⟨a,b⟩:0<=h/\h<=(n:Int):=c;refine⟨?_,by simp[cv],by simp only[cv];omega⟩
  simp[Instr.sliceBounds,cv,run_sliceBound (P:=P) w d h cap _ a (by omega)]
 .obtain⟨a,b⟩:0<=l/\l<=(n:Int):=c;refine⟨?_,by simp only[cv];omega,by simp[cv]⟩
  simp[Instr.sliceBounds,cv,run_sliceBound (P:=P) w f l n _ a b]
 .obtain⟨a,b,q⟩:0<=l/\l<=h/\h<=(n:Int):=c;have e:((h.toNat:Nat):Int)=h:=rf (by omega)
  refine⟨?_,by simp only[cv];omega,by simp only[cv];omega⟩
  simp[Instr.sliceBounds,cv,run_sliceBound (P:=P) w d h cap _ (by omega) (by omega),run_sliceBound (P:=P) w f l h.toNat _ a (by omega)]
def eF(w:az)(k:IntKind) (i:Int)(y:Nat)(code:BoundsCode)(b:0<=i)(a:i<=(y:Int))(es:Array Event):(Instr.sliceBound (.int k i) y code).events P w es=es:=by
 simp[Instr.sliceBound,asIntOf,b,a]
def pR{isS:Bool}{n cap:Nat}{lo hi:Option ak}{l h:Option Int}(r:n<=cap)(m:(lo=af/\l=af)∨∃ k j,lo=aa (.int k j)/\l=aa j)(p:(hi=af/\h=af)∨∃ k j,hi=aa (.int k j)/\h=aa j)
  (f:ag (iQ n l h)) (w:az) (es:Array Event):(Instr.sliceBounds isS n cap lo hi af).events P w es=es:=by
 have q:∀ (isS:Bool) (v:Option ak) (d:Nat) (w:az) (es:Array Event),v=af->(Instr.sliceBounds isS n cap af af af).events P w es=es:=λisS v d w es _=>by simp[Instr.sliceBounds]
 rcases m with⟨rfl,rfl⟩|⟨i,l,rfl,rfl⟩ <;> rcases p with⟨rfl,rfl⟩|⟨c,h,rfl,rfl⟩
 .simp[Instr.sliceBounds]
 .obtain⟨a,b⟩:0<=h/\h<=(n:Int):=f;simp[Instr.sliceBounds,eF (P:=P) w c h cap _ a (by omega)]
 .obtain⟨a,b⟩:0<=l/\l<=(n:Int):=f;simp[Instr.sliceBounds,eF (P:=P) w i l n _ a b]
 .obtain⟨a,b,s⟩:0<=l/\l<=h/\h<=(n:Int):=f;have e:((h.toNat:Nat):Int)=h:=rf (by omega)
  simp[Instr.sliceBounds,run_sliceBound (P:=P) w c h cap _ (by omega) (by omega),eF (P:=P) w c h cap _ (by omega) (by omega),eF (P:=P) w i l h.toNat _ a (by omega)]
def rT(s:List UInt8):Option Int->Option Int->List UInt8
 |none,af=>s
 |some l,af=>s.drop l.toNat
 |none,aa h=>s.take h.toNat
 |some l,aa h=>(s.take h.toNat).drop l.toNat
def bH.JN(z:dg P T){t:ar}{x:an}{lo hi:Option an}(h:o.op=.slice t x lo hi af){i:TI}(m:bF T t=aa i)(y:i.desc=.string){s:List UInt8}{l u:Option Int}
  (v:g x=.e (.one (.c (.str s)))) (hl:uE g lo=aa l) (p:uE g hi=aa u) (A:ag (iQ s.length l u)):bH P o g σ (.e (.one (.c (.str (rT s l u))))) σ:=by
 refine .quiet λst ρ hh hr=>?_
 have h1:=hr x;rw[v] at h1
 replace h1:=fy h1
 generalize j:ρ x=vx at h1;cases h1 with
 |@str sb _ q r =>
 have f:sb.size=s.length:=by rw[<-q];exact jg.symm
 obtain⟨hb,d,b⟩:=nU (P:=P) (isS:=ae) (n:=sb.size) (cap:=sb.size) (bg _) (je hr hl) (je hr p) (by grind) st.w
 have a:=(z t i m).run_underlying (w:=st.w);rw[y] at a;have k:=pR (P:=P) (isS:=ae) (n:=sb.size) (cap:=sb.size) (bg _) (je hr hl) (je hr p) (by grind) st.w
 refine⟨.string (sb.extract (cv 0 l) (cv sb.size u)),?_,Rd.str ?_ ?_,by simp[ay,h,j,Instr.sliceAt,a,Instr.slice,k]⟩
 .simp[ay,h,j,Instr.sliceAt,a,Instr.slice,hb]
 .rw[Lib.extract_data,q,f];rw[f] at d b;cases l <;> cases u <;> simp only[rT,cv] at d b ⊢
  .simp
  .simp
  .grind [uP]
  .rw[List.drop_take]
 .cases l <;> cases u <;> simp only[rT,me,List.length_take] <;> omega
def jL(l:Nat)(f:Nat->List C):Nat->List C:=λi=>f (l+i)
def NI(tt:Bool):Option Int->Bool
 |none=>tt
 |some _=>ae
def bH.NS(B:dg P T){t:ar}{x:an}{lo hi:Option an}(h:o.op=.slice t x lo hi af){i p:TI}{E:ar}(r:bF T t=aa i)(F:i.desc=.slice E)(L:bF T E=aa p){tt:Bool}{n:Nat}{es:Nat->List C}{l u:Option Int}
  (H:∀ s v,dc σ s v (g x)->Rd s.M v (.sl tt p.size n es)) (hl:uE g lo=aa l) (z:uE g hi=aa u) (y:ag (iQ n l u)) :
  bH P o g σ (.e (.one (.c (.sl (NI tt u) p.size (cv n u-cv 0 l) (jL (cv 0 l) es))))) σ:=by
 refine .quiet λst ρ hh hr=>?_
 have h1:=H st _ (hr x);obtain⟨a,cap,vs,q,k,K,J,R,Q⟩:=h1.flat;rw[q] at h1;obtain⟨hb,N,G⟩:=nU (P:=P) (isS:=ab) k (je hr hl) (je hr z) y st.w;have d:=(B t i r).run_underlying (w:=st.w);rw[F] at d;refine⟨.slice (if cap=cv 0 l then a else a.map (·.add (cv 0 l*p.size))) (cv n u-cv 0 l) (cap-cv 0 l),?_,?_,by simp[ay,h,q,Instr.sliceAt,d,Instr.slice,hb,pR (P:=P) (isS:=ab) k (je hr hl) (je hr z) y st.w]⟩
 .simp[ay,h,q,Instr.sliceAt,d,Instr.slice,hb,(B E p L).run_sizeOf]
 .cases h1 with
  |sl b off f _ _ _ O I hm' PN =>
   refine Rd.sl b (off+cv 0 l*p.size) (λi j=>f (cv 0 l+i) j) (by omega) (by omega) ?_ (λi hi=>O _ (by omega)) (λA=>?_) (λi hi j c hj=>?_) (λi hi j c hj=>PN _ (by omega) j c hj)
   .intro m;cases u with
    |none=>simp only[NI] at m;have:=J m;simp only[cv];omega
    |some u=>cases m
   .rw[aY (by omega),I (by omega)]
    simp[dj]
   .have:=hm' (cv 0 l+i) (by omega) j c hj
    grind
def bH.NP(m:dg P T){b dst:ar}{x:an}(h:o.op=.convert b dst x){i i2:TI}{k k':IntKind}{j:Int}(hi:bF T b=aa i)(l:bF T dst=aa i2)(q:i2.desc=.int k')(p:g x=.e (.one (.c (.int k j))))(n:bx k' j) :
  bH P o g σ (.e (.one (.c (.int k' j)))) σ:=by
 refine .quiet λst ρ hh hr=>?_
 have h1:=hr x;rw[p] at h1
 replace h1:=fy h1
 generalize f:ρ x=vx at h1;cases h1;have d:=(m b i hi).run_underlying (w:=st.w);have a:=(m dst i2 l).run_underlying (w:=st.w);rw[q] at a;exact⟨.int k' j,by simp[ay,h,f,convert,d,a,Conv.intToInt,mq n],Rd.int n,by simp[ay,h,f,convert,d,a,Conv.intToInt]⟩
def bH.NR(l:dg P T){b dst:ar}{x:an}(h:o.op=.convert b dst x){i i2:TI}{s:List UInt8}(hi:bF T b=aa i)(k:bF T dst=aa i2)(n:i2.desc=.string)(m:g x=.e (.one (.c (.str s)))) :
  bH P o g σ (.e (.one (.c (.str s)))) σ:=by
 refine .quiet λst ρ hh hr=>?_
 have h1:=hr x;rw[m] at h1;have d:=fy h1;generalize j:ρ x=vx at d;cases d;have f:=(l b i hi).run_underlying (w:=st.w);have a:=(l dst i2 k).run_underlying (w:=st.w);rw[n] at a;exact⟨_,by simp[ay,h,j,convert,f,a];rfl,by grind,by simp[ay,h,j,convert,f,a]⟩
def vR(f:Nat->List C):Nat->Nat->Option (List UInt8)
 |_,0=>aa []
 |i,n+1=>match f i with
  |[.int .u8 v]=>match vR f (i+1) n with
   |some r=>aa (UInt8.ofNat v.toNat::r)
   |none=>af
  |_=>af
def yw{M:Mem}{f:Nat->List C}:∀ {n i:Nat}{r:List UInt8}{vs:List ak},vR f i n=aa r->vs.length=n->(∀ j,j<n->∀ c,(f (i+j))[0]?=aa c->∃ v,vs[j]?=aa v/\Rd M v c) ->
  ∃ xs:List Int,vs=xs.map (Value.int .u8)/\r=xs.map (λx=>UInt8.ofNat x.toNat)
 |0,i,r,vs,h,b,_=>by cases h;exact⟨[],by grind,rfl⟩
 |n+1,i,r,[],h,b,_=>by grind
 |n+1,i,r,v::vs,h,b,a=>by
  simp only[vR] at h;split at h
  .rename_i x l
   split at h
   .rename_i q k
    cases h;obtain⟨u,d,e⟩:=a 0 (by omega) (.int .u8 x) (by grind)
    simp at d;subst d;cases e;obtain⟨xs,p,m⟩:=yw (vs:=vs) k (by grind) (λj t c s=>by
     have:=a (j+1) (by omega) c (by grind)
     simpa using this)
    exact⟨x::xs,by grind,by grind⟩
   grind
  grind
def ow{P:aq}(w:az){F:ak->ByteArray->Sem (ForInStep ByteArray)}(a:∀ x s,F (.int .u8 x) s=pure (.yield (s.push (UInt8.ofNat x.toNat)))):∀ (xs:List Int)(s:ByteArray),
  (forIn (m:=Sem) (xs.map (Value.int .u8)) s F).run P w=.ok ⟨s.data++(xs.map λx=>UInt8.ofNat x.toNat).toArray⟩ w
 |[],s=>by simp
 |x::xs,s=>by
  simp only[ru,List.forIn_cons,a,bY,cY,b9];rw[ow w a xs]
  congr 2
  apply Array.ext'
  simp[ByteArray.push]
end
section
open Go.Conc (G)
def OA{P:aq}(X:Cx P)(N:Nat)(all:List aw)(o:aw)(φ:Fr)(σ:List aV)(x:D)(σ':List aV):Prop :=
 ∀ s a,cx N σ s φ a->aJ σ s->∀ (b:aR) (k:List Item) (cs:List aR) (S:au->St->Prop) (i:Nat) (rest:List Nat),b.kind≠.early->all.toArray[i]?=aa o ->
  (∀ v s',dc σ' s' v x->aJ σ' s'->cD σ s σ' s'->ft X S (G (b.aT (a.put o.dst v) (.inRegion all.toArray rest::k)) cs) s')->ft X S (G (b.aT a (.inRegion all.toArray (i::rest)::k)) cs) s
section
variable {P:aq}{X:Cx P}{N:Nat}{all rest:List aw}{φ m:Fr}{σ σ':List aV}{o:aw}{x:D}
def OA.md(q:∀ σ s a,cx N σ s φ a->bj o (yielded all.toArray a.tmps)=ab)(h:bH P o (b5 φ) σ x σ'):OA X N all o φ σ x σ':=by
 intro s a f hh b k cs S i rest hb hi hK;refine zV hb hi (q _ _ _ f) λg c=>?_
 have d:=hh.rely c;obtain⟨p,s',h1,h2,e,l,r⟩:=h g a.eval d (dX (f.rely c hh));have j:=c.stepW.trans (l.oG d);have n:qx g s' ((ay a.eval o).events P g.w #[]):=⟨⟨σ,σ',d,e,l⟩,r⟩;cases p with
 |value v=>exact⟨_,s',v,h1,.inl rfl,n,hK v s' h2 e j⟩
 |skip=>simp only[Rs] at h2;subst h2;exact⟨_,s',aj,h1,.inr ⟨rfl,rfl⟩,n,hK aj s' av e j⟩
 |_=>exact h2.elim
def OA.pass(d:∀ σ s a,cx N σ s φ a->bj o (yielded all.toArray a.tmps)=ae):OA X N all o φ σ (.eK []) σ:=by
 intro s a f hh b k cs S i rest hb hi hK;exact .ctl hh rfl (λ_=>Nq hi (d _ _ _ f)) λe c=>hK aj e ⟨[],rfl,av⟩ (hh.rely c) c.stepW
def jB.tf{Q:Fr->List aV->Prop}(h:OA X N all o φ σ x σ')(e:∀ t,o.dst=aa t->t<N)(k:jB X N all rest Q (lC o.dst x φ) σ'):jB X N all (o::rest) Q φ σ:=by
 intro s a f hh b kk cs S idx hb jH hQ;cases idx with
 |nil=>exact jH.elim
 |cons i idx =>
 refine h s a f hh b kk cs S i idx hb jH.1 λv s' hv lb st=>k s' _ ?_ lb b kk cs S idx hb jH.2 λc σ2 s2 a2 q g h2 oB=>hQ c σ2 s2 a2 q g h2 (st.trans oB)
 cases d:o.dst with
 |none=>exact f.mono st hh.len
 |some t=>exact(f.mono st hh.len).put (e t d) hv
end
abbrev dk:=List D->List aV->Option (D×List aV×List Prop)
def yq:List (Nat×dk)->Nat->Option dk
 |[],_=>af
 |(i,g)::r,f=>cond (aG i f) (aa g) (yq r f)
def dM{P:aq}(X:Cx P)(f:aW)(g:dk):Prop:=∀ args σ res σ' obs,g args σ=aa (res,σ',obs)->ag obs->Ev X f args σ res σ'
def bD{P:aq}(X:Cx P)(CT:List (Nat×dk)):Prop:=∀ f g,yq CT f=aa g->dM X f g
def bD.nil{P:aq}{X:Cx P}:bD X []:=λ_ _ h=>by cases h
def bD.cons{P:aq}{X:Cx P}{f:aW}{g:dk}{CT:List (Nat×dk)}(h:dM X f g)(r:bD X CT):bD X ((f,g)::CT):=by
 intro a g2 h2;simp only[yq] at h2;cases hb:aG f a with
 |true=>grind [bX]
 |false=>rw[hb] at h2;exact r a g2 h2
def bxA:A->List Nat->List Nat
 |.ptr l _,ks=>cond (fK l ks) ks (ks++[l])
 |.vec l _ _ _,ks=>cond (fK l ks) ks (ks++[l])
 |.ref l,ks=>cond (fK l ks) ks (ks++[l])
 |.bp l _,ks=>cond (fK l ks) ks (ks++[l])
 |_,ks=>ks
def bxL:List A->List Nat->List Nat
 |[],ks=>ks
 |a::r,ks=>bxL r (bxA a ks)
def bxD:D->List Nat->List Nat
 |.e (.one a),ks=>bxA a ks
 |.e (.agg cs),ks=>bxL cs ks
 |_,ks=>ks
def Uq:List D->List Nat->List Nat
 |[],ks=>ks
 |a::r,ks=>Uq r (bxD a ks)
def BJ(l:Nat):List Nat->Nat->Option Nat
 |[],_=>af
 |k::r,i=>match aG k l with|true=>aa i|false=>BJ l r (i+1)
def r9{l:Nat}:∀ {ks:List Nat}{i j:Nat},BJ l ks i=aa j->i<=j/\ks[j-i]?=aa l
 |[],_,_,h=>by cases h
 |k::r,i,j,h=>by
  simp only[BJ] at h;cases a:aG k l with
  |true=>rw[a] at h;cases h;exact⟨bg _,by grind [bX]⟩
  |false =>
   rw[a] at h;obtain⟨c,b⟩:=r9 h
   grind
def Tm(ks:List Nat):A->Option A
 |.ptr l o=>match BJ l ks 0 with|some i=>aa (.ptr i o)|none=>af
 |.ref l=>match BJ l ks 0 with|some i=>aa (.ref i)|none=>af
 |.bp l w=>match BJ l ks 0 with|some i=>aa (.bp i w)|none=>af
 |.vec _ _ _ _=>af
 |.c x=>aa (.c x)
 |.any=>aa .any
def Wh(ks:List Nat):List A->Option (List A)
 |[]=>aa []
 |a::r=>match Tm ks a with
  |some b=>match Wh ks r with
   |some q=>aa (b::q)
   |none=>af
  |none=>af
def XV(ks:List Nat):D->Option D
 |.e (.one a)=>match Tm ks a with|some b=>aa (.e (.one b))|none=>af
 |.e (.agg cs)=>match Wh ks cs with|some b=>aa (.e (.agg b))|none=>af
 |.eK _=>af
 |.any=>aa .any
def Hi(ks:List Nat):List D->Option (List D)
 |[]=>aa []
 |a::r=>match XV ks a with
  |some b=>match Hi ks r with
   |some q=>aa (b::q)
   |none=>af
  |none=>af
def Ke{ks:List Nat}{a b:A}(h:Tm ks a=aa b):oH ks b=a/\G1 ks.length b=ab:=by
 cases a with
 |ptr l o =>
  simp only[Tm] at h;split at h
  .rename_i i hi
   cases h;obtain⟨_,d⟩:=r9 hi;simp only[mh] at d;have e:i<ks.length:=(cr.1 d).1;exact⟨by simp[oH,e9,d],qZ e⟩
  grind
 |ref l =>
  simp only[Tm] at h;split at h
  .rename_i i hi
   cases h;obtain⟨_,d⟩:=r9 hi;simp only[mh] at d;have e:i<ks.length:=(cr.1 d).1;exact⟨by simp[oH,e9,d],qZ e⟩
  grind
 |bp l w =>
  simp only[Tm] at h;split at h
  .rename_i i hi
   cases h;obtain⟨_,d⟩:=r9 hi;simp only[mh] at d;have e:i<ks.length:=(cr.1 d).1;exact⟨by simp[oH,e9,d],qZ e⟩
  grind
 |vec l k n es=>cases h
 |c x=>cases h;exact⟨rfl,rfl⟩
 |any=>cases h;exact⟨rfl,rfl⟩
def Kf{ks:List Nat}:∀ {a b:List A},Wh ks a=aa b->Bx ks b=a/\DU ks.length b=ab
 |[],b,h=>by cases h;exact⟨rfl,rfl⟩
 |a::r,b,h=>by
  simp only[Wh] at h;split at h
  .rename_i x c
   split at h
   .rename_i q i
    cases h;obtain⟨g,d⟩:=Ke c;obtain⟨f,e⟩:=Kf i;exact⟨by simp[Bx,g,f],by simp[DU,d,e]⟩
   grind
  grind
def Rt{ks:List Nat}{a b:D}(h:XV ks a=aa b):jA ks b=a/\u7 ks.length b=ab:=by
 unfold XV at h;split at h
 .rename_i a
  split at h
  .rename_i x e;cases h;obtain⟨d,c⟩:=Ke e;exact⟨by simp[jA,zD,d],by simp[u7,Js,c]⟩
  grind
 .rename_i cs
  split at h
  .rename_i x e;cases h;obtain⟨d,c⟩:=Kf e;exact⟨by simp[jA,zD,d],by simp[u7,Js,c]⟩
  grind
 .cases h
 .cases h;exact⟨rfl,rfl⟩
def F5{ks:List Nat}:∀ {a b:List D},Hi ks a=aa b->iX ks b=a/\oF ks.length b=ab
 |[],b,h=>by cases h;exact⟨rfl,rfl⟩
 |a::r,b,h=>by
  simp only[Hi] at h;split at h
  .rename_i x c
   split at h
   .rename_i q i
    cases h;obtain⟨g,d⟩:=Rt c;obtain⟨f,e⟩:=F5 i;exact⟨by simp[iX,g,f],by simp[oF,d,e]⟩
   grind
  grind
def JL(CT:List (Nat×dk))(φ:Fr)(σ:List aV)(a:an)(xs:List an):Option (D×List aV×List Prop) :=
 match eQ (b5 φ a) with
 |none=>af
 |some (f,cap)=>match yq CT f with
  |none=>af
  |some g =>
   let args:=ou (xs.map (b5 φ)++fY cap)
   let ks:=Uq args []
   match Hi ks args with
   |none=>af
   |some Kg=>match kL ks σ with
    |none=>af
    |some σs=>match g Kg σs with
     |none=>af
     |some (res,σ1,obs)=>match cX σs,cX σ1,eg ks,bo ks.length σ1.length with
      |true,ab,ab,ab=>aa (jA (ks++mU σ.length (σ1.length-ks.length)) res,ef ks σ1 σ,obs)
      |_,_,_,_=>af
def OA.P7{P:aq}{X:Cx P}{N:Nat}{all:List aw}{φ:Fr}{σ:List aV}{o:aw}{CT:List (Nat×dk)}(hC:bD X CT){B:an}{xs:Array an}{I:Array ar}
  (R:∀ σ s a,cx N σ s φ a->bj o (yielded all.toArray a.tmps)=ab) (M:o.op=.call { callee:=.value B,args:=xs,argTypes:=I }) {f:aW} {cap:List C} (A:eQ (b5 φ B)=aa (f,cap)) {g:dk} (J:yq CT f=aa g)
  {ks:List Nat} {d:List D} {q σ1:List aV} {res:D} {obs:List Prop} (L:Hi ks (ou (xs.toList.map (b5 φ)++fY cap))=aa d) (F:kL ks σ=aa q) (y:g d q=aa (res,σ1,obs))
  (Q:cX q=ab) (G:cX σ1=ab) (hn:eg ks=ab) (E:ks.length<=σ1.length) (v:ag obs):OA X N all o φ σ (jA (ks++mU σ.length (σ1.length-ks.length)) res) (ef ks σ1 σ):=by
 obtain⟨n,K⟩:=F5 L;intro s a p hh b kk cs S i rest hb hi hK;have r:=hC f g J _ _ _ _ _ y v;have u:=dX p B;unfold eQ at A;split at A
 case h_2=>cases A
 case h_1 f' Je he =>
  cases A;rw[he] at u;have k:=fy u;generalize O:a.eval B=fv at k;cases k with
  |fn fs mc hl Bl f1 f2 h1 h2 r1 r2 =>
   have H:fs=[]:=hZ hl;subst H;have l:cz σ s mc (fY cap):=lP (λj c hj=>⟨f2 j,h2 j (by grind),r2 j c hj⟩) Bl
   have z:cz σ s (xs.toList.map a.eval++mc) (iX ks d):=by
    rw[n];exact rK ((nR (dX p) xs.toList).append l)
   obtain⟨fn,t,h,e⟩:=r.1;exact Jt hb hi (R _ _ _ p) hh (λw=>(gM M t h e O w).1) (λw=>(gM M t h e O w).2) r z K F Q G hn E hK
def OA.call{P:aq}{X:Cx P}{N:Nat}{all:List aw}{φ:Fr}{σ σ':List aV}{o:aw}{CT:List (Nat×dk)}(hC:bD X CT){e:an}{xs:Array an}{c:Array ar}{x:D}{obs:List Prop}
  (i:∀ σ s a,cx N σ s φ a->bj o (yielded all.toArray a.tmps)=ab) (j:o.op=.call { callee:=.value e,args:=xs,argTypes:=c })
  (b:JL CT φ σ e xs.toList=aa (x,σ',obs)) (d:ag obs):OA X N all o φ σ x σ':=by
 unfold JL at b;split at b
 .cases b
 rename_i f cap hf
 split at b
 .cases b
 rename_i g h
 simp only at b;split at b
 .cases b
 grind [OA.P7,db]
def BY{d:D}(h:u7 0 d=ab):jA [] d=d:=by
 have i:∀ {a:A},G1 0 a=ab->oH [] a=a:=by
  intro a b;cases a <;> simp only[G1] at b <;> first|rfl|(simp at b)
 have j:∀ {l:List A},DU 0 l=ab->Bx [] l=l:=by
  intro l
  induction l with
  |nil=>intro _;rfl
  |cons a r c =>
   intro h;simp only[DU] at h;cases b:G1 0 a with
   |false=>grind
   |true=>simp only[b] at h;simp[Bx,i b,c h]
 have g:∀ {a:E1},Js 0 a=ab->zD [] a=a:=by
  intro a b;cases a with
  |one a=>simp[zD,i b]
  |agg cs=>simp[zD,j b]
 have f:∀ {l:List E1},xG 0 l=ab->yi [] l=l:=by
  intro l
  induction l with
  |nil=>intro _;rfl
  |cons a r c =>
   intro h;simp only[xG] at h;cases b:Js 0 a with
   |false=>grind
   |true=>simp only[b] at h;simp[yi,g b,c h]
 cases d with
 |e x=>simp[jA,g h]
 |eK xs=>simp[jA,f h]
 |any=>rfl
def BH(CT:List (Nat×dk))(φ:Fr)(a:an)(xs:List an):Option (D×List Prop) :=
 match eQ (b5 φ a) with
 |none=>af
 |some (f,cap)=>match yq CT f with
  |none=>af
  |some g=>match Hi [] (ou (xs.map (b5 φ)++fY cap)) with
   |none=>af
   |some Kg=>match g Kg [] with
    |some (res,[],obs)=>match u7 0 res with
     |true=>aa (res,obs)
     |false=>af
    |_=>af
def OA.BH{P:aq}{X:Cx P}{N:Nat}{all:List aw}{φ:Fr}{σ:List aV}{o:aw}{CT:List (Nat×dk)}(hC:bD X CT){k:an}{xs:Array an}{j:Array ar}{x:D}{obs:List Prop}
  (l:∀ σ s a,cx N σ s φ a->bj o (yielded all.toArray a.tmps)=ab) (n:o.op=.call { callee:=.value k,args:=xs,argTypes:=j })
  (b:AM.BH CT φ k xs.toList=aa (x,obs)) (c:ag obs):OA X N all o φ σ x σ:=by
 unfold AM.BH at b;split at b
 .cases b
 rename_i f cap hf
 split at b
 .cases b
 rename_i g d
 split at b
 .cases b
 rename_i e i
 split at b
 case h_2=>cases b
 rename_i res ac0 XW
 split at b
 case h_2=>cases b
 rename_i h
 cases b;have:=OA.P7 (σ:=σ) hC l n hf d i rfl XW rfl rfl rfl (bg _) c;simpa[mU,BY h,ef] using this
structure I4 (N:Nat)(σ:List aV)(s:St)(V:Nat->D)(a:Act):Prop where
 size:a.tmps.size=N
 defers:∃ ls,oI σ s a.defers ls
 slot:∀ t,dc σ s (a.tmps.getD t aj) (V t)
def I4.Jz{N:Nat}{σ:List aV}{s:St}{V:Nat->D}{φ:Fr}{a:Act}(f:I4 N σ s V a)(h:∀ t σ s v,dc σ s v (V t)->dc σ s v (look φ t)):cx N σ s φ a :=
 ⟨f.size,f.defers,λt=>h t _ _ _ (f.slot t)⟩
def c7(e:Edge):Bool:=Region.binds .any e
structure vL {P:aq}(X:Cx P)(N:Nat)(ops:Array aw)(φ:Fr)(S:Nat->List aV)(x:Nat->D)(q:Nat->Fr)(free c:Nat->Bool)(p:Nat->Nat->Prop)(idx:Nat->Option Nat)(m:Fr):Prop where
 ei:P.follows Departure.mixedOrders=ab
 back:∀ i o,ops[i]?=aa o->∀ e∈o.after,c7 e=ab->e.on<i
 JA:∀ i o d,ops[i]?=aa o->o.dst=aa d->idx d=aa i/\d<N
 xI:∀ d i,idx d=aa i->∃ o,ops[i]?=aa o/\o.dst=aa d
 quiet:∀ i,c i=ae->S (i+1)=S i
 one:∀ i o,ops[i]?=aa o->free i=ae->OA X N ops.toList o (q i) (S i) (x i) (S (i+1))
 all:∀ i o,ops[i]?=aa o->free i=ab->c i=ae/\∀ k,OA X N ops.toList o (q i) (S k) (x i) (S k)
 cl:∀ L:Nat->Prop,(∀ i o,ops[i]?=aa o->L i->∀ e∈o.after,c7 e=ab->L e.on)->∀ i j,p i j->(L i->L j)/\∃ o,ops[i]?=aa o/\((∀ e∈o.after,c7 e=ab->L e.on)->L j)
 comp:∀ i f,i<ops.size->f<ops.size->c f=ab->i≠f->free i=ae->(f<i/\p i f)∨(i<f/\p f i)
 Ti:∀ i o,ops[i]?=aa o->∀ t σ s v,dc σ s v (match idx t with|some j=>(if ∃ e∈o.after,c7 e=ab/\e.on=j then x j else if ∃ oj,ops[j]?=aa oj/\∃ e∈oj.after,c7 e=ab/\e.on=i then look φ t else .any)|none=>look φ t)->dc σ s v (look (q i) t)
 fin:∀ t σ s v,dc σ s v (match idx t with|some j=>x j|none=>look φ t)->dc σ s v (look m t)
open Classical in
noncomputable def gb(φ:Fr)(x:Nat->D)(idx:Nat->Option Nat)(L:Array Bool)(t:Nat):D :=
 match idx t with
 |some j=>if L.getD j ae=ab then x j else look φ t
 |none=>look φ t
def mem_ready{ops:Array aw}{L:Array Bool}{i:Nat}:i∈bc .any ops L↔∃ o,ops[i]?=aa o/\L.getD i ab=ae/\∀ e∈o.after,c7 e=ab->L.getD e.on ae=ab:=by
 unfold bc;simp only[mO,rq,bL,jh]
 constructor
 .rintro⟨a,g,b⟩;rw[fR a] at b;simp only[j9,fJ,Array.all_eq_true',mP,jh] at b;refine⟨ops[i],fR a,g,λe j d=>?_⟩
  rcases b e j with h|h
  .unfold c7 at d;grind
  grind
 .rintro⟨o,a,g,b⟩;have f:i<ops.size:=(ia.1 a).1;refine⟨f,g,?_⟩;rw[a];simp only[j9,fJ,Array.all_eq_true',mP,jh];intro e j;cases d:Region.binds .any e with
  |false=>grind
  |true=>exact .inr (b e j d)
section
variable {P:aq}{X:Cx P}{N:Nat}{ops:Array aw}{φ m:Fr}{S:Nat->List aV}{x:Nat->D}{q:Nat->Fr}{free c:Nat->Bool}{p:Nat->Nat->Prop}{idx:Nat->Option Nat}
def vL.chain(h:vL X N ops φ S x q free c p idx m){i:Nat}:∀ {k:Nat},i<=k->(∀ g,i<=g->g<k->c g=ae)->S k=S i
 |0,b,_=>by grind
 |k+1,b,a=>by
  rcases cJ k i with hl|hl
  .grind
  .rw[h.quiet k (a k hl (by omega)),h.chain (k:=k) hl (λg h1 h2=>a g h1 (by omega))]
def vL.last(h:vL X N ops φ S x q free c p idx m){L:Array Bool}(e:∀ i,i<ops.size->L.getD i ae=ab){k:Nat}{s0 s:St}{a:Act}(n:k<=ops.size)
  (r:∀ f,f<ops.size->c f=ab->(L.getD f ae=ab↔f<k)) (b:I4 N (S k) s (gb φ x idx L) a) (hh:aJ (S k) s) (st:cD (S 0) s0 (S k) s) :
  cx N (S ops.size) s m a/\aJ (S ops.size) s/\cD (S 0) s0 (S ops.size) s:=by
 have d:S ops.size=S k:=h.chain n (λg h1 h2=>by
  grind)
 rw[<-d] at b hh st;refine⟨b.Jz λt σ s v l=>h.fin t σ s v ?_,hh,st⟩
 unfold gb at l;cases hi:idx t with
 |none=>grind
 |some j =>
  simp only[hi] at l ⊢;obtain⟨o,u,_⟩:=h.xI _ _ hi
  grind
def ez{L:Array Bool}{i j:Nat}(hi:i<L.size):(L.setIfInBounds i ab).getD j ae=ab↔j=i∨L.getD j ae=ab:=by
 simp only[dG]
 grind
def count_set:∀ {l:List Bool}{i:Nat},l[i]?=aa ae->((l.set i ab).filter (λb=>!b)).length+1=(l.filter (λb=>!b)).length
 |[],_,h=>by grind
 |b::r,0,h=>by grind
 |b::r,i+1,h=>by
  simp at h;have:=count_set (l:=r) h;cases b <;> simp[List.set_cons_succ] <;> omega
def vM(t:Nat)(L:Array Bool):Region.linearise.go .any ops 0 t L []=[]:=by simp[Region.linearise.go]
def oZ(n t:Nat)(L:Array Bool):Region.linearise.go .any ops (n+1) t L []=match (bc .any ops L)[t % (bc .any ops L).length]? with
  |some i=>i::Region.linearise.go .any ops n (t / (bc .any ops L).length) (L.setIfInBounds i ab) []
  |none=>[]:=by
 simp only[Region.linearise.go]
 change (match (bc .any ops L)[t % (bc .any ops L).length]? with
   |some i=>Region.linearise.go .any ops n (t / (bc .any ops L).length) (L.setIfInBounds i ab) [i]
   |none=>[].reverse)=_
 grind [linearise_go_acc]
def vL.arr(h:vL X N ops φ S x q free c p idx m){Z:au->St->Prop}{b:aR}{kk:List Item}{cs:List aR}(hb:b.kind≠.early){s0:St}
  (hQ:∀ s a,cx N (S ops.size) s m a->aJ (S ops.size) s->cD (S 0) s0 (S ops.size) s->ft X Z (G (b.aT a kk) cs) s) :
  ∀ (l:Nat) (L:Array Bool),L.size=ops.size->(L.toList.filter (λb=>!b)).length<=l ->
   (∀ i o,ops[i]?=aa o->L.getD i ae=ab->∀ e∈o.after,c7 e=ab->L.getD e.on ae=ab) ->
   ∀ (k:Nat) (s:St) (a:Act),k<=ops.size->(∀ f,f<ops.size->c f=ab->(L.getD f ae=ab↔f<k))->I4 N (S k) s (gb φ x idx L) a->aJ (S k) s->cD (S 0) s0 (S k) s ->
   ∀ t,ft X Z (G (b.aT a (.inRegion ops (Region.linearise.go .any ops l t L [])::kk)) cs) s:=by
 have fin:∀ (s:St) (a:Act),cx N (S ops.size) s m a->aJ (S ops.size) s->cD (S 0) s0 (S ops.size) s->ft X Z (G (b.aT a (.inRegion ops []::kk)) cs) s :=
  λs a a1 a2 a3=>.ctl a2 rfl (λ_=>iW) λs1 R=>hQ s1 a (a1.rely R a2) (a2.rely R) (a3.trans R.stepW)
 intro l
 induction l with
 |zero =>
  intro L hs hf Dr k s a hk H r hh st;have C:∀ i,i<ops.size->L.getD i ae=ab:=by
   intro i hi;have hm:L[i]'(by omega)∈L.toList:=by simp
   cases hb:L[i]'(by omega) with
   |true=>simp[dG,fR (by omega:i<L.size),hb]
   |false =>
    have:L[i]'(by omega)∈L.toList.filter (λb=>!b):=mO.2 ⟨hm,by grind⟩
    grind
  intro t;rw[vM];obtain⟨a1,a2,a3⟩:=h.last C hk H r hh st
  grind
 |succ l ih =>
  intro L hs hf Dr k s a hk H r hh st;intro t;rw[oZ];cases W:(bc .any ops L)[t % (bc .any ops L).length]? with
  |none =>
   have hr:bc .any ops L=[]:=by
    cases hr:bc .any ops L with
    |nil=>rfl
    |cons y ys =>
     grind [jG]
   have C:∀ i,i<ops.size->L.getD i ae=ab:=by
    intro i
    induction i using Nat.strongRecOn with
    |_ i ihi =>
     intro hi;cases hb:L.getD i ae with
     |true=>rfl
     |false =>
      have hm:i∈bc .any ops L:=mem_ready.2 ⟨ops[i],fR hi,by
       grind,λe U hbe=>by
       have:=h.back i _ (fR hi) e U hbe
       grind⟩
      grind
   obtain⟨a1,a2,a3⟩:=h.last C hk H r hh st
   grind
  |some i =>
   have hi:=bU W;obtain⟨o,ho,ZU,QX⟩:=mem_ready.1 hi;have Q:i<ops.size:=(ia.1 ho).1;have J:¬L.getD i ae=ab:=by
    grind
   have W1:=h.cl (λj=>L.getD j ae=ab) Dr
   have ZV:∀ g,p g i->¬L.getD g ae=ab:=λg hg hL=>J ((W1 g i hg).1 hL)
   have hup:∀ g,p i g->L.getD g ae=ab:=λg hg=>by
    grind
   have F:(L.setIfInBounds i ab).size=ops.size:=by grind
   have E:((L.setIfInBounds i ab).toList.filter (λb=>!b)).length<=l:=by
    have h1:L.toList[i]?=aa ae:=by
     rw[zq,fR (by omega:i<L.size)]
     simpa[dG,fR (by omega:i<L.size)] using J
    grind [count_set]
   have W2:∀ j o',ops[j]?=aa o'->(L.setIfInBounds i ab).getD j ae=ab->∀ e∈o'.after,c7 e=ab->(L.setIfInBounds i ab).getD e.on ae=ab:=by
    grind [ez]
   have hfi:cx N (S k) s (q i) a:=r.Jz λt σ s v V=>h.Ti i o ho t σ s v (by
    unfold gb at V;cases w:idx t with
    |none=>grind
    |some j =>
     simp only[w] at V ⊢;split
     .grind
     .split
      .grind
      .trivial)
   have T:∀ (σ':List aV) (s':St) (v:ak),cD (S k) s σ' s'->dc σ' s' v (x i)->I4 N σ' s' (gb φ x idx (L.setIfInBounds i ab)) (a.put o.dst v):=by
    intro σ' s' v u V;cases hd:o.dst with
    |none =>
     refine⟨r.size,r.defers.imp λ_ h1=>h1.mono u.ext,λt=>?_⟩
     have A:=(r.slot t).mono u.ext hh.len;simp only[Act.put];unfold gb at A ⊢;cases w:idx t with
     |none=>grind
     |some j =>
      simp only[w] at A ⊢;obtain⟨oj,W3,W4⟩:=h.xI _ _ w
      grind [ez]
    |some d =>
     obtain⟨hid,hdN⟩:=h.JA i o d ho hd;refine⟨by simp[Act.put,r.size],r.defers.imp λ_ h1=>h1.mono u.ext,λt=>?_⟩
     simp only[Act.put]
     by_cases e:d=t
     .subst e;have hs2:d<a.tmps.size:=by rw[r.size];exact hdN
      simp only[dG,vn hs2,fJ];unfold gb;simp only[hid];rw[bd ((ez (by omega)).2 (.inl rfl))]
      exact V
     .have A:=(r.slot t).mono u.ext hh.len;simp only[dG] at A ⊢;rw[sR e];unfold gb at A ⊢;cases w:idx t with
      |none=>grind
      |some j =>
       simp only[w] at A ⊢;obtain⟨oj,W3,W4⟩:=h.xI _ _ w
       grind [ez]
   have B:∀ (k':Nat),k'<=ops.size->OA X N ops.toList o (q i) (S k) (x i) (S k')->(∀ f,f<ops.size->c f=ab->((L.setIfInBounds i ab).getD f ae=ab↔f<k')) ->
     ft X Z (G (b.aT a (.inRegion ops (i::Region.linearise.go .any ops l (t / (bc .any ops L).length) (L.setIfInBounds i ab) [])::kk)) cs) s:=by
    intro k' ZS hoa W5;have:=hoa s a hfi hh b kk cs Z i (Region.linearise.go .any ops l (t / (bc .any ops L).length) (L.setIfInBounds i ab) []) hb (by grind)
    simp only[oP] at this;exact this λv s' V lb u=>ih _ F E W2 k' s' _ ZS W5 (T _ _ _ u V) lb (st.trans u) _
   have same:c i=ae->∀ f,f<ops.size->c f=ab->((L.setIfInBounds i ab).getD f ae=ab↔f<k):=by
    grind [ez]
   cases n:free i with
   |true =>
    obtain⟨hq,W6⟩:=h.all i o ho n;exact B k hk (W6 k) (same hq)
   |false =>
    have z:=h.one i o ho n;have M:S i=S k:=by
     rcases Nat.le_total k i with O|O
     .refine h.chain O λg h1 h2=>?_
      cases U:c g with
      |false=>rfl
      |true =>
       exfalso;rcases h.comp i g Q (by omega) U (by omega) n with⟨_,Y⟩|⟨Y,_⟩
       .grind
       .omega
     .refine(h.chain O λg h1 h2=>?_).symm
      cases U:c g with
      |false=>rfl
      |true =>
       exfalso;have hLg:=(H g (by omega) U).2 h2
       by_cases QY:g=i
       .grind
       .rcases h.comp i g Q (by omega) U (λe=>QY e.symm) n with⟨Y,_⟩|⟨_,Y⟩
        .omega
        grind
    rw[M] at z;cases I:c i with
    |false =>
     rw[h.quiet i I,M] at z;exact B k hk z (same I)
    |true =>
     refine B (i+1) (by omega) z λf Tj V2=>?_
     rw[ez (by omega)]
     by_cases K:f=i
     .grind
     .simp only[K,false_or];rcases h.comp i f Q Tj V2 (λe=>K e.symm) n with⟨h1,Y⟩|⟨h1,Y⟩
      .grind
      grind
end
end
def Kp(P:aq):List TypeDesc->List Field->Nat->Prop
 |[],[],_=>True
 |d::ds,f::fs,i=>f.name≠ "_"/\f.offset=i/\P.underlying f.type=aa d/\(match d with|.int _|.string|.bool=>True|_=>False)/\Kp P ds fs (i+1)
 |_,_,_=>False
def Ut(d:Nat)(xs ys:Array ak)(f:Field)(_:Option Bool×Unit):Sem (ForInStep (Option Bool×Unit)) :=
 if f.name= "_" then pure (ForInStep.yield (af,()))
 else do
  let a<-part f.type xs f.offset
  let b<-part f.type ys f.offset
  let r<-Op.equalIn d f.type a b
  if r=ae then pure (ForInStep.done (aa ae,())) else pure (ForInStep.yield (af,()))
def se{P:aq}(w:az)(d:Nat)(xs ys:Array ak):∀ {ds:List TypeDesc}{fs:List Field}{i:Nat}{vs ws:List ak}{b:Bool},Kp P ds fs i->jQ ds vs ws=aa b->(∀ j v,vs[j]?=aa v->xs[i+j]?=aa v)->(∀ j v,ws[j]?=aa v->ys[i+j]?=aa v) ->
  (Op.eqFields (d+1) xs ys fs).run P w=.ok b w/\∀ es,(forIn fs (af,()) (Ut (d+1) xs ys)).events P w es=es
 |[],[],i,[],[],b,_,h,_,_=>by cases h;simp[Op.eqFields]
 |[],[],i,_::_,_,b,_,h,_,_=>by cases h
 |[],[],i,[],_::_,b,_,h,_,_=>by cases h
 |[],_::_,i,_,_,b,q,_,_,_=>q.elim
 |_::_,[],i,_,_,b,q,_,_,_=>q.elim
 |t::ds,f::fs,i,[],_,b,_,h,_,_=>by cases h
 |t::ds,f::fs,i,_::_,[],b,_,h,_,_=>by cases h
 |t::ds,f::fs,i,v::vs,u::us,b,⟨E,C,s,I,J⟩,h,B,F=>by
  simp only[jQ] at h;cases n:qJ t v u with
  |none=>grind
  |some a =>
   cases G:jQ ds vs us with
   |none=>grind
   |some b' =>
    simp[n,G] at h;subst h;obtain⟨K,x⟩:=se w d xs ys J G (λj v H=>by have:=B (j+1) v (by grind);grind) (λj v H=>by have:=F (j+1) v (by grind);grind)
    have k:xs[i]?=aa v:=by simpa using B 0 v rfl
    have c:ys[i]?=aa u:=by simpa using F 0 u rfl
    have m:(isAgg f.type).run P w=.ok ae w:=by
     unfold isAgg underlying;cases t <;> simp at I <;> simp[s]
    have p:∀ (e:Array ak) (z:ak),e[i]?=aa z->(part f.type e f.offset).run P w=.ok z w:=by
     intro e z y;unfold part;simp[m,C,y]
    have l:∀ (e:Array ak) (z:ak),e[i]?=aa z->∀ es,(part f.type e f.offset).events P w es=es:=by
     intro e z y es;unfold part;simp[m,C,y]
    have r:∀ es,(Op.equalIn (d+1) f.type v u).events P w es=es:=by
     intro es;unfold qJ at n;split at n <;> first
      |(cases n;done)
      |(unfold Op.equalIn;simp[underlying,s];done)
      |(unfold Op.equalIn;simp[underlying,s];split <;> rfl)
    have A:(Op.equalIn (d+1) f.type v u).run P w=.ok a w:=by
     unfold qJ at n
     grind [run_equalIn_int,run_equalIn_string,run_equalIn_bool]
    refine⟨?_,λes=>?_⟩
    .rw[Op.eqFields.eq_2,bd E];simp only[bY,p xs v k,p ys u c,A,b9];cases a
     .simp
     grind
    .rw[List.forIn_cons];simp only[Ut,E,cd,aO,bY,p xs v k,p ys u c,A,b9,aU,l xs v k,l ys u c,r];cases a
     .simp
     .simpa using x es
def jR{P:aq}{t:ar}{fs:List Field}{ds:List TypeDesc}(d:P.underlying t=aa (.struct fs.toArray))(c:P.stoodInHeld t=ae)(i:P.eqGuardType P.depth t=ae)(k:Kp P ds fs 0) :
  P.eqGuardType P.depth t=ae/\∀ (w:az) (vs ws:List ak) (b:Bool),jQ ds vs ws=aa b->(Op.equal t (.agg vs.toArray) (.agg ws.toArray)).run P w=.ok b w/\∀ es,(Op.equal t (.agg vs.toArray) (.agg ws.toArray)).events P w es=es:=by
 refine⟨i,λw vs ws b h=>?_⟩
 have f:P.fieldsOf t=fs.toArray:=by unfold Program.fieldsOf;rw[d]
 have key:=se w 9998 vs.toArray ws.toArray k h (λj v l=>by grind) (λj v l=>by grind)
 refine⟨?_,λes=>?_⟩
 rotate_left
 .show (Op.equalIn (9999+1) t _ _).events P w es=es;have e:=key.2 es;unfold Op.equalIn;simp[underlying,d,c];show Result.evThen ((forIn fs (af,()) (Ut 9999 vs.toArray ws.toArray)).run P w) ((forIn fs (af,()) (Ut (9998+1) vs.toArray ws.toArray)).events P w es) _=es;rw[e];cases (forIn fs (af,()) (Ut 9999 vs.toArray ws.toArray)).run P w with
  |ok a w'=>obtain⟨o,_⟩:=a;cases o <;> rfl
  |halt x w'=>rfl
 show (Op.equalIn (9999+1) t _ _).run P w=_
 grind [run_equalIn_agg]
def PW:List TypeDesc->List A->List A->Option Bool
 |[],[],[]=>aa ab
 |.int _::ds,.c (.int k a)::cs,.c (.int k' b)::es=>match Hh k k' with
  |true=>match PW ds cs es with
   |some r=>aa ((a==b)&&r)
   |none=>af
  |false=>af
 |.string::ds,.c (.str a)::cs,.c (.str b)::es=>match PW ds cs es with
  |some r=>aa ((a==b)&&r)
  |none=>af
 |.bool::ds,.c (.bool a)::cs,.c (.bool b)::es=>match PW ds cs es with
  |some r=>aa ((a==b)&&r)
  |none=>af
 |_,_,_=>af
def Ef{σ:List aV}{s:St}:∀ {ds:List TypeDesc}{cs es:List A}{b:Bool}{vs ws:List ak},PW ds cs es=aa b->dW σ s vs cs->dW σ s ws es->jQ ds vs ws=aa b:=by
 intro ds
 induction ds with
 |nil =>
  intro cs es b vs ws h e c;cases cs <;> cases es <;> simp only[PW,reduceCtorEq] at h
  cases vs <;> cases ws <;> first|exact e.elim|exact c.elim|(simpa[jQ] using h)
 |cons d ds ih =>
  intro cs es b vs ws h e c;unfold PW at h;split at h
  .grind
  .rename_i n i k a f k' b' es' heq
   cases heq;split at h
   .rename_i m
    cases Ab m;split at h
    .rename_i r l
     cases h;cases vs with
     |nil=>exact e.elim
     |cons v vs=>cases ws with
      |nil=>exact c.elim
      |cons w ws =>
       obtain⟨v1,j⟩:=e;obtain⟨w1,w2⟩:=c;cases (show Rd s.M v (.int k a) from v1)
       cases (show Rd s.M w (.int k b') from w1)
       simp[jQ,qJ,ih l j w2]
    grind
   grind
  .rename_i i a f b' es' heq
   cases heq;split at h
   .rename_i r l
    cases h;cases vs with
    |nil=>exact e.elim
    |cons v vs=>cases ws with
     |nil=>exact c.elim
     |cons w ws =>
      obtain⟨v1,j⟩:=e;obtain⟨w1,w2⟩:=c;cases (show Rd s.M v (.str a) from v1) with
      |str hx _ =>
      cases (show Rd s.M w (.str b') from w1) with
      |str hy _ =>
      simp only[jQ,qJ,ih l j w2]
      grind [ByteArray.toList_eq]
   grind
  .rename_i i a f b' es' heq
   cases heq;split at h
   .rename_i r l
    cases h;cases vs with
    |nil=>exact e.elim
    |cons v vs=>cases ws with
     |nil=>exact c.elim
     |cons w ws =>
      obtain⟨v1,j⟩:=e;obtain⟨w1,w2⟩:=c;cases (show Rd s.M v (.bool a) from v1)
      cases (show Rd s.M w (.bool b') from w1)
      simp[jQ,qJ,ih l j w2]
   grind
  grind
section
variable {P:aq}{T:List (Nat×TI)}{o:aw}{g:an->D}{σ:List aV}
def lr:BinOp->Bool->Option Bool
 |.eql,b=>aa b
 |.neq,b=>aa (!b)
 |_,_=>af
def tY{op:BinOp}{t:ar}{x y:ak}{w:az}{b c:Bool}(d:match x,y with|.agg _,.agg _=>True|.bool _,.bool _=>True|_,_=>False)(a:(Op.equal t x y).run P w=.ok b w)(h:lr op b=aa c) :
  (binOp op t x y).run P w=.ok (.bool c) w:=by
 cases op <;> simp only[lr,reduceCtorEq,di] at h
 .subst h;cases x <;> cases y <;> simp only at d <;> simp[binOp,a]
 .subst h;cases x <;> cases y <;> simp only at d <;> simp[binOp,a]
def pf{op:BinOp}{t:ar}{x y:ak}{w:az}{b c:Bool}(d:match x,y with|.agg _,.agg _=>True|.bool _,.bool _=>True|_,_=>False)(e:(Op.equal t x y).run P w=.ok b w)(a:∀ es,(Op.equal t x y).events P w es=es)(h:lr op b=aa c)(es:Array Event) :
  (binOp op t x y).events P w es=es:=by
 cases op <;> simp only[lr,reduceCtorEq,di] at h <;> (cases x <;> cases y <;> simp only at d <;> simp[binOp,a])
def wy(op:BinOp)(t:ar)(x y:an)(xs ys:Array ak)(w:az)(a:P.eqGuardType P.depth t=ae)(es:Array Event):(eqGuard op t x y (.agg xs) (.agg ys)).events P w es=es:=by
 cases op <;> simp[eqGuard,a]
def bH.structEq(v:dg P T){op:BinOp}{t ty:ar}{x y:an}(h:o.op=.binOp op t x y ty){i:TI}(hi:bF T t=aa i)(l:i.eq≠[]){cs es:List A}{b c:Bool}(u:g x=.e (.agg cs))(z:g y=.e (.agg es))
  (n:PW i.eq cs es=aa b) (q:lr op b=aa c):bH P o g σ (.e (.one (.c (.bool c)))) σ:=by
 refine .quiet λs ρ hh hr=>?_
 have h1:=hr x;have h2:=hr y;rw[u] at h1;rw[z] at h2;obtain⟨vs,r,f⟩:=h1;obtain⟨k,p,d⟩:=h2;obtain⟨m,heq⟩:=(v t i hi).eqs l;have a:=tY (x:=.agg vs.toArray) (y:=.agg k.toArray) av (heq s.w vs k b (Ef n f d)).1 q;have j:=pf (x:=.agg vs.toArray) (y:=.agg k.toArray) av (heq s.w vs k b (Ef n f d)).1 (heq s.w vs k b (Ef n f d)).2 q;refine⟨.bool c,?_,Rd.bool,by simp only[ay,h,r,p,aO,run_eqGuard_agg s.w op t x y _ _ m,wy op t x y _ _ s.w m,aU,bY,b9,a,j,Sem.events_pure]⟩
 simp only[ay,h,r,p,bY,run_eqGuard_agg s.w op t x y _ _ m,b9,a,cY]
def bH.Q6(r:dg P T){op:BinOp}{t ty:ar}{x y:an}(h:o.op=.binOp op t x y ty){i:TI}(hi:bF T t=aa i)(q:i.desc=.bool){a b c:Bool}(p:g x=.e (.one (.c (.bool a))))(u:g y=.e (.one (.c (.bool b))))
  (n:lr op (a==b)=aa c):bH P o g σ (.e (.one (.c (.bool c)))) σ:=by
 refine .quiet λs ρ hh hr=>?_
 have h1:=hr x;have h2:=hr y;rw[p] at h1;rw[u] at h2
 replace h1:=fy h1
 replace h2:=fy h2
 generalize k:ρ x=vx at h1;generalize j:ρ y=vy at h2;cases h1;cases h2;have l:P.underlying t=aa .bool:=by rw[(r t i hi).Th,q]
 have d:=tY (P:=P) (w:=s.w) (x:=.bool a) (y:=.bool b) av (run_equal_bool s.w t a b l) n;have m:∀ es,(Op.equal t (.bool a) (.bool b)).events P s.w es=es:=λes=>by
  show (Op.equalIn (9999+1) t _ _).events P s.w es=es;unfold Op.equalIn;simp[underlying,l]
 have f:=pf (P:=P) (w:=s.w) (x:=.bool a) (y:=.bool b) av (run_equal_bool s.w t a b l) m n;refine⟨.bool c,?_,Rd.bool,by simp only[ay,h,k,j,aO,eqGuard_at_bool,Sem.events_pure,cY,aU,bY,b9,d,f]⟩
 simp only[ay,h,k,j,bY,eqGuard_at_bool,cY,b9,d]
def bH.Ua{t ty:ar}{x y:an}(h:o.op=.binOp .xor t x y ty){a b:Int}(n:g x=.e (.one (.c (.int .i64 a))))(p:g y=.e (.one (.c (.int .i64 b))))(q:0<=a)(h1:0<=b) :
  bH P o g σ (.e (.one (.c (.int .i64 ((a.toNat ^^^ b.toNat:Nat):Int))))) σ:=by
 refine .quiet λs ρ hh hr=>?_
 have e1:=hr x;have e2:=hr y;rw[n] at e1;rw[p] at e2
 replace e1:=fy e1
 replace e2:=fy e2
 generalize i:ρ x=vx at e1;generalize f:ρ y=vy at e2;cases e1 with|int ha =>
 cases e2 with|int hb =>
 have m:a.toNat ^^^ b.toNat<2 ^ 63:=by
  apply Nat.xor_lt_two_pow <;> simp only[bx] at ha hb <;> omega
 have l:bx .i64 ((a.toNat ^^^ b.toNat:Nat):Int):=by simp only[bx];omega
 refine⟨.int .i64 ((a.toNat ^^^ b.toNat:Nat):Int),?_,.int l,?_⟩
 rotate_left
 .simp only[ay,h,i,f,aO,gz,jK,aU,Go.binOp,cW,fu,cd,Op.intBits,bY,b9,cY,Sem.events_pure]
 have d:((BitVec.ofInt 64 a) ^^^ (BitVec.ofInt 64 b)).toNat=a.toNat ^^^ b.toNat:=by
  rw[BitVec.toNat_xor,BitVec.toNat_ofInt,BitVec.toNat_ofInt];simp only[bx] at ha hb
  congr 1 <;> omega
 have j:(BitVec.ofInt IntKind.i64.bits a ^^^ BitVec.ofInt IntKind.i64.bits b).toNat=a.toNat ^^^ b.toNat:=d;have k:(Go.binOp .xor t (.int .i64 a) (.int .i64 b)).run P s.w=.ok (.int .i64 ((a.toNat ^^^ b.toNat:Nat):Int)) s.w:=by
  simp only[Go.binOp,cW,fu,cd,Op.intBits,cY]
  grind [mq]
 simp only[ay,h,i,f,bY,gz,b9,k,cY]
def bH.G3(J:dg P T){m dst:ar}{x:an}(h:o.op=.convert m dst x){i i2 ie:TI}{E:ar}(hi:bF T m=aa i)(H:bF T dst=aa i2)(O:i.desc=.slice E)(A:i2.desc=.string)(U:bF T E=aa ie)(I:ie.desc=.int .u8)
  {tt:Bool} {n:Nat} {es:Nat->List C} {r:List UInt8} (R:∀ s v,dc σ s v (g x)->Rd s.M v (.sl tt 1 n es)) (hb:vR es 0 n=aa r):bH P o g σ (.e (.one (.c (.str r)))) σ:=by
 refine .nT λs ρ hh hr=>?_
 have h1:=R s _ (hr x);obtain⟨vs,N,b⟩:=dO (P:=P) hh h1;obtain⟨a,cap,Q,t,K,S,_⟩:=h1.flat;have L:n<=9223372036854775807:=by omega
 have F:vs.length=n:=by rw[N.len];omega
 obtain⟨xs,e1,e2⟩:=yw (M:=s.M) (vs:=vs) hb F (λj hj c V=>by
  obtain⟨v,W,p2⟩:=N.rd j hj 0 c (by grind)
  grind)
 have G:=(J m i hi).run_underlying (w:=s.w);have k:=(J dst i2 H).run_underlying (w:=s.w);have l:=(J E ie U).run_underlying (w:=s.w);rw[O] at G;rw[A] at k;rw[I] at l;have B:r.length<=9223372036854775807:=by
  grind
 have f:∃ y:ByteArray,(Conv.bytesToString (.slice a n cap)).run P s.w=.ok (.string y) s.w/\y.data.toList=r:=by
  cases a with
  |none =>
   have u:r=[]:=by
    have:vs=[]:=by
     rw[t] at b;have h2:=b.1;simp[Builtin.firstCells] at h2
     grind
    grind
   exact⟨ByteArray.empty,by simp[Conv.bytesToString],by rw[u];rfl⟩
  |some ad =>
   rw[t] at b;have h2:=b.1;simp only[Builtin.firstCells,Nat.mul_one] at h2;refine⟨⟨#[]++(xs.map λx=>UInt8.ofNat x.toNat).toArray⟩,?_,by grind⟩
   simp only[Conv.bytesToString,bY,h2,b9,e1];rw[List.forIn_toArray,ow (P:=P) s.w (λ_ _=>rfl) xs ByteArray.empty]
   rfl
 obtain⟨y,p,z⟩:=f;refine⟨.string y,?_,Rd.str z B,?_⟩
 rotate_left
 .intro e d;simp only[ay,h,t,aO,convert,G,k,aU,b9,l,p,bY,events_underlying,Sem.events_pure] at d;cases a with
  |none=>simp[Conv.bytesToString] at d
  |some ad =>
   have q:=gN (P:=P) hh (h1.DD (λ_ _=>rfl)) (w:=s.w) rfl
   rw[t] at b q;have h2:=b.1;simp only[Builtin.firstCells,Nat.mul_one] at h2 q;unfold Conv.bytesToString at d;simp only at d;rw[aO,h2,aU,cO.bind (P:=P) ?_ λ_=>.pure] at d
   .grind [sU]
   .rw[List.forIn_toArray];refine cO.JI (λx s=>?_) _ _
    split
    .exact .pure
    .exact .bind .stuck λ_=>.pure
 simp only[ay,h,t,bY,convert,G,k,b9,l,p,cY]
end
def vS(g:an->D):List an->Option (List C)
 |[]=>aa []
 |x::r=>match g x with
  |.e (.one (.c c))=>match vS g r with
   |some q=>aa (c::q)
   |none=>af
  |_=>af
def wz{σ:List aV}{s:St}{ρ:an->ak}{g:an->D}(a:∀ y,dc σ s (ρ y) (g y)):∀ {xs:List an}{cs:List C},vS g xs=aa cs->xs.length=cs.length/\∀ (j:Nat)(c:C),cs[j]?=aa c->∃ v,(xs.map ρ)[j]?=aa v/\Rd s.M v c
 |[],cs,h=>by cases h;grind
 |x::r,cs,h=>by
  simp only[vS] at h;split at h
  .rename_i c d
   split at h
   .rename_i q e
    cases h;obtain⟨k,i⟩:=wz a e;refine⟨by grind,λj f b=>?_⟩
    cases j with
    |zero =>
     simp at b;subst b;have:=a x;rw[d] at this;exact⟨ρ x,by simp,fy this⟩
    |succ j=>grind
   grind
  grind
section
variable {P:aq}{T:List (Nat×TI)}{o:aw}{g:an->D}{σ:List aV}
def bH.makeFunc{fn:Fn}{a b:Array an}(h:o.op=.makeFunc fn a b){f d:List C}(l:vS g a.toList=aa f)(hb:vS g b.toList=aa d):bH P o g σ (.e (.one (.c (.fn fn f d)))) σ:=by
 refine .quiet λs ρ hh hr=>?_
 obtain⟨a1,a2⟩:=wz hr l;obtain⟨m,n⟩:=wz hr hb;have i:a.map ρ=(a.toList.map ρ).toArray:=by grind
 have k:b.map ρ=(b.toList.map ρ).toArray:=by grind
 refine⟨.func fn (a.toList.map ρ).toArray (b.toList.map ρ).toArray,?_,?_,by simp only[ay,h,Instr.makeFunc];rfl⟩
 .simp only[ay,h,Instr.makeFunc,i,k];rfl
 .refine Rd.fn _ _ (by grind) (by grind) (λj=>((a.toList.map ρ)[j]?).getD aj) (λj=>((b.toList.map ρ)[j]?).getD aj) ?_ ?_ ?_ ?_
  .grind
  .grind
  .grind
  grind
def rV:TypeDesc->Bool
 |.interface _=>ab
 |_=>ae
def vd(t:ar):D->Option C
 |.e (.one (.c c))=>aa (.ifs t c)
 |.e (.agg cs)=>match gn cs with
  |some q=>aa (.Jx t q)
  |none=>af
 |_=>af
def Eg{s:St}{v:ak}{t:ar}{d:D}{c:C}(h:vd t d=aa c)(r:dc σ s v d):Rd s.M (.iface t v) c:=by
 unfold vd at h;split at h
 .cases h;exact Rd.ifs (fy r) (fy r).cell
 .split at h
  .rename_i q k
   cases h;obtain⟨vs,rfl,f⟩:=r;have b:=kn k f;refine Rd.Jx (by have:=b.length;grind) (λj=>(vs[j]?).getD aj) (λj l=>by grind) λj c l=>?_
   obtain⟨v,i,e⟩:=b.get (j:=j) (a:=.c c) (by grind)
   rw[i];exact e
  grind
 grind
def bH.makeInterface(j:dg P T){t:ar}{x:an}(h:o.op=.makeInterface t x){i:TI}(hi:bF T t=aa i)(b:rV i.desc=ae){c:C}(f:vd t (g x)=aa c):bH P o g σ (.e (.one (.c c))) σ:=by
 refine .quiet λs ρ hh hr=>?_
 have d:=(j t i hi).run_underlying (w:=s.w);refine⟨.iface t (ρ x),?_,Eg f (hr x),?_⟩
 rotate_left
 .simp only[ay,h,Instr.makeInterface,aO,bY,d,aU,b9,events_underlying];cases a:i.desc <;> rw[a] at b <;> first|(cases b;done)|simp
 simp only[ay,h,Instr.makeInterface,bY,d,b9];cases a:i.desc <;> rw[a] at b <;> first|(cases b;done)|simp
def yx(i:TI):Option E1:=match i.agg with
 |true=>aa (.agg (i.zero.map A.c))
 |false=>af
def Kq{i:TI}{t:ar}(f:bJ P t i){s:St}{e:E1}(d:yx i=aa e):∃ z,(zeroValue t).run P s.w=.ok z s.w/\mY σ s z e:=by
 obtain⟨z,n,a⟩:=f.B6 σ s;refine⟨z,n,?_⟩;obtain⟨j,h,m,p,u,k,r,⟨cs,b⟩,q⟩:=f.info;have c:h=z:=by
  have:(zeroValue t).run P s.w=.ok h s.w:=by simp[zeroValue,typeInfo,m,k]
  grind
 subst c;unfold yx at d;cases l:i.agg with
 |true =>
  rw[l] at d b;simp only[cu] at b;cases d;rw[b] at a ⊢;exact⟨cs.toList,by simp,by simpa[Value.cells] using a⟩
 |false=>grind
def pV(t:ar)(i:TI):C->Option (E1×Bool)
 |.ifs t' c=>match aG t' t with
  |true=>aa (.one (.c c),ab)
  |false=>match yx i with
   |some e=>aa (e,ae)
   |none=>af
 |.Jx t' cs=>match aG t' t with
  |true=>aa (.agg (cs.map A.c),ab)
  |false=>match yx i with
   |some e=>aa (e,ae)
   |none=>af
 |.nW=>match yx i with
  |some e=>aa (e,ae)
  |none=>af
 |_=>af
def bH.typeAssert(H:dg P T){x:an}{r t:ar}(h:o.op=.typeAssert x r t ab){i:TI}(hi:bF T t=aa i)(F:rV i.desc=ae){c:C}(J:g x=.e (.one (.c c))){e:E1}{b:Bool}(k:pV t i c=aa (e,b)) :
  bH P o g σ (.eK [e,.one (.c (.bool b))]) σ:=by
 refine .quiet λs ρ hh hr=>?_
 have h1:=hr x;rw[J] at h1
 replace h1:=fy h1
 generalize y:ρ x=vx at h1;have p:=(H t i hi).run_underlying (w:=s.w);have key:∀ (v:ak) (b:Bool),(Instr.typeAssert vx r t ab).run P s.w=.ok (.tuple #[v,.bool b]) s.w->mY σ s v e->(Instr.typeAssert vx r t ab).events P s.w #[]=#[]->∃ v,(ay ρ o).run P s.w=.ok (.value v) s.w/\dc σ s v (.eK [e,.one (.c (.bool b))])/\(ay ρ o).events P s.w #[]=#[]:=by
  intro v b h1 h2 h3;refine⟨.tuple #[v,.bool b],?_,⟨[v,.bool b],rfl,h2,Rd.bool,av⟩,by simp only[ay,h,y,aO,h1,h3,aU,Sem.events_pure]⟩
  simp only[ay,h,y,bY,h1,b9,cY]
 have fail:∀ q,yx i=aa q->(∀ z,(zeroValue t).run P s.w=.ok z s.w->(Instr.typeAssert vx r t ab).run P s.w=.ok (.tuple #[z,.bool ae]) s.w/\(Instr.typeAssert vx r t ab).events P s.w #[]=#[])->e=q->b=ae->∃ v,(ay ρ o).run P s.w=.ok (.value v) s.w/\dc σ s v (.eK [e,.one (.c (.bool b))])/\(ay ρ o).events P s.w #[]=#[]:=by
  intro q n G E hb;subst E hb;obtain⟨z,h3,N⟩:=Kq (σ:=σ) (H t i hi) (s:=s) n
  grind
 have d:∀ m,i.desc≠.interface m:=by intro m e;rw[e] at F;cases F
 cases h1 with
 |@ifs t' v c h2 hc =>
  simp only[pV] at k;cases hb:aG t' t with
  |true =>
   rw[hb] at k;cases k;have B:=bX hb;subst B;refine key v ab ?_ h2 ?_ <;>
   .unfold Instr.typeAssert;simp only[bY,p,b9,aO,aU,events_underlying];cases a:i.desc <;> first|(exact absurd a (d _))|simp
  |false =>
   rw[hb] at k;have l:t'≠t:=λe=>by grind [iN]
   simp only at k;split at k
   .rename_i q n
    cases k;refine fail _ n (λz h3=>⟨?_,?_⟩) rfl rfl <;>
    .unfold Instr.typeAssert;simp only[bY,p,b9,aO,aU,events_underlying];cases a:i.desc <;> first|(exact absurd a (d _))|simp[l,h3]
   grind
 |@Jx t' vs cs hl f L K =>
  simp only[pV] at k;cases hb:aG t' t with
  |true =>
   rw[hb] at k;cases k;have B:=bX hb;subst B;refine key (.agg vs.toArray) ab ?_ ⟨vs,rfl,?_⟩ ?_
   rotate_left 2
   .unfold Instr.typeAssert;simp only[p,aO,aU,events_underlying];cases a:i.desc <;> first|(exact absurd a (d _))|simp
   .unfold Instr.typeAssert;simp only[bY,p,b9];cases a:i.desc <;> first|(exact absurd a (d _))|simp
   .have go:∀ (vs:List ak) (cs:List C),vs.length=cs.length->(∀ (j:Nat) (c:C),cs[j]?=aa c->∃ v,vs[j]?=aa v/\Rd s.M v c)->dW σ s vs (cs.map A.c):=by
     intro vs
     induction vs with
     |nil=>intro cs hl _;cases cs with|nil=>trivial|cons _ _=>grind
     |cons v vs ih =>
      intro cs hl hg;cases cs with
      |nil=>grind
      |cons c cs =>
       obtain⟨u,I,p2⟩:=hg 0 c rfl;simp at I;subst I;exact⟨p2,ih cs (by grind) (λj c hj=>by simpa using hg (j+1) c (by grind))⟩
    grind
  |false =>
   rw[hb] at k;have l:t'≠t:=λe=>by grind [iN]
   simp only at k;split at k
   .rename_i q n
    cases k;refine fail _ n (λz h3=>⟨?_,?_⟩) rfl rfl <;>
    .unfold Instr.typeAssert;simp only[bY,p,b9,aO,aU,events_underlying];cases a:i.desc <;> first|(exact absurd a (d _))|simp[l,h3]
   grind
 |nW =>
  simp only[pV] at k;split at k
  .rename_i q n
   cases k;refine fail _ n (λz h3=>⟨?_,?_⟩) rfl rfl <;>
   .unfold Instr.typeAssert;simp only[bY,p,b9,aO,aU,events_underlying];cases a:i.desc <;> first|(exact absurd a (d _))|simp[h3]
  grind
 |_=>simp[pV] at k
end
def Br(op:BinOp)(k:IntKind) (a:Int)(k':IntKind) (b:Int):Option (Int×List Prop) :=
 match k with
 |.u64=>match op with
  |.shl=>aa (((a.toNat*2 ^ b.toNat % 18446744073709551616:Nat):Int),[0<=b,b<=64])
  |.shr=>aa (((a.toNat / 2 ^ b.toNat:Nat):Int),[0<=b,b<=64])
  |.and=>match k' with|.u64=>aa (((a.toNat &&& b.toNat:Nat):Int),[])|_=>af
  |.xor=>match k' with|.u64=>aa (((a.toNat ^^^ b.toNat:Nat):Int),[])|_=>af
  |_=>af
 |_=>af
section
variable {P:aq}{T:List (Nat×TI)}{o:aw}{d:an->D}{σ:List aV}
def bits_nat{a:Int}(h:bx .u64 a):(BitVec.ofInt IntKind.u64.bits a).toNat=a.toNat:=by
 rw[BitVec.toNat_ofInt];simp only[bx] at h;simp only[IntKind.bits];omega
def GX{op:BinOp}{k k':IntKind}{a b c:Int}{obs:List Prop}(t:ar)(f:Br op k a k' b=aa (c,obs))(n:ag obs)(h:bx k a)(i:bx k' b)(w:az) :
  bx k c/\(Go.binOp op t (.int k a) (.int k' b)).run P w=.ok (.int k c) w/\(Go.binOp op t (.int k a) (.int k' b)).events P w #[]=#[]:=by
 unfold Br at f;split at f
 .split at f
  .cases f;obtain⟨q,l⟩:0<=b/\b<=64:=n;have s:a.toNat*2 ^ b.toNat % 18446744073709551616<18446744073709551616:=jG _ (by decide)
   simp only[bx] at h;refine⟨by simp only[bx];omega,?_⟩
   have j:IntKind.wrap .u64 (a*2 ^ (min b.toNat IntKind.u64.bits))=((a.toNat*2 ^ b.toNat % 18446744073709551616:Nat):Int):=by
    have m:min b.toNat IntKind.u64.bits=b.toNat:=by rw[show IntKind.u64.bits=64 from rfl];omega
    have p:a=(a.toNat:Int):=by omega
    rw[m,p];simp only[IntKind.wrap,IntKind.bits,IntKind.signed,bA]
    grind
   simp only[Go.binOp,Op.shift,aY (show ¬b<0 by omega),j]
   exact⟨rfl,rfl⟩
  .cases f;obtain⟨q,l⟩:0<=b/\b<=64:=n;simp only[bx] at h;have r:a.toNat / 2 ^ b.toNat<=a.toNat:=Nat.div_le_self _ _;refine⟨by simp only[bx];grind,?_⟩
   have j:a.fdiv (2 ^ (min b.toNat IntKind.u64.bits))=((a.toNat / 2 ^ b.toNat:Nat):Int):=by
    have m:min b.toNat IntKind.u64.bits=b.toNat:=by rw[show IntKind.u64.bits=64 from rfl];omega
    grind
   simp only[Go.binOp,Op.shift,aY (show ¬b<0 by omega),j]
   exact⟨rfl,rfl⟩
  .split at f
   .cases f;have l:a.toNat &&& b.toNat<=a.toNat:=Nat.and_le_left;have g:bx .u64 ((a.toNat &&& b.toNat:Nat):Int):=by simp only[bx] at h ⊢;omega
    refine⟨g,?_⟩;have e:(BitVec.ofInt IntKind.u64.bits a &&& BitVec.ofInt IntKind.u64.bits b).toNat=a.toNat &&& b.toNat:=by rw[BitVec.toNat_and,bits_nat h,bits_nat i]
    simp only[Go.binOp,cW,fu,cd,Op.intBits,e,mq g];exact⟨rfl,rfl⟩
   .cases f
  .split at f
   .cases f;have g:bx .u64 ((a.toNat ^^^ b.toNat:Nat):Int):=by
     simp only[bx] at h i ⊢;have:a.toNat ^^^ b.toNat<2 ^ 64:=Nat.xor_lt_two_pow (by omega) (by omega)
     omega
    refine⟨g,?_⟩;have e:(BitVec.ofInt IntKind.u64.bits a ^^^ BitVec.ofInt IntKind.u64.bits b).toNat=a.toNat ^^^ b.toNat:=by rw[BitVec.toNat_xor,bits_nat h,bits_nat i]
    simp only[Go.binOp,cW,fu,cd,Op.intBits,e,mq g];exact⟨rfl,rfl⟩
   .cases f
  .cases f
 .cases f
def bH.bits{op:BinOp}{t ty:ar}{x y:an}{k k':IntKind}{a b c:Int}{obs:List Prop}(h:o.op=.binOp op t x y ty)(l:d x=.e (.one (.c (.int k a))))(q:d y=.e (.one (.c (.int k' b))))(n:Br op k a k' b=aa (c,obs))(p:ag obs) :
  bH P o d σ (.e (.one (.c (.int k c)))) σ:=by
 refine .quiet λs ρ hh hr=>?_
 have h1:=hr x;have h2:=hr y;rw[l] at h1;rw[q] at h2
 replace h1:=fy h1
 replace h2:=fy h2
 generalize g:ρ x=vx at h1;generalize f:ρ y=vy at h2;cases h1 with|int ha =>
 cases h2 with|int hb =>
 obtain⟨m,i,j⟩:=GX (P:=P) t n p ha hb s.w;exact⟨.int k c,by simp only[ay,h,bY,g,f,gz,b9,i,cY],.int m,by simp[ay,h,g,f,gz,jK,i,j]⟩
end
section
open Go.Conc (G)
def ni(i:Nat)(ci:List C)(es:Nat->List C):Nat->List C:=λj=>if j=i then ci else es j
def oY(lo hi:Nat)(z:List C)(es:Nat->List C):Nat->List C:=λj=>if lo<=j/\j<hi then z else es j
section
variable {P:aq}{T:List (Nat×TI)}{o:aw}{B:an->D}{σ:List aV}{s:St}{l g:Nat}{E:ar}{k n:Nat}{es:Nat->List C}
def Kw(A:aJ σ s)(h:σ[l]?=aa (.buf E k n es)){k' i f:Nat}{v:ak}(x:gw σ s v (.bp l (.el g k' i f)))(t:g=n) :
  ∃ b c vs zs,s.β[l]?=aa ⟨.slice (aa ⟨b,0,af⟩) 0 c,[b]⟩/\v=.pointer (aa ⟨b,i*k'+f,af⟩)/\s.w.heap[b]?=aa (.cells (vs++zs).toArray E (0,0))/\(vs++zs).length=c*k/\n<=c/\c<=9223372036854775807/\Flat s.M k n es vs/\∀ o,s.M b o=af:=by
 obtain⟨G,⟨b,c,d,p⟩,_,m⟩:=x;obtain⟨L,e,a⟩:=(m _ _ _ _ h).2 t;rw[d] at a;rcases A.box l _ L h e with⟨_,rfl⟩|⟨F,c1,vs,zs,rfl,z,r,y,u,q,j⟩
 .cases a
 .cases a;exact⟨b,c,vs,zs,e,p,z,r,y,u,q,j⟩
def Kx{g:Nat->ak}:∀ {ds:List C}{m:Nat},(∀ j c,ds[j]?=aa c->Rd s.M (g (m+j)) c)->dW σ s ((bh ds.length).map λj=>g (m+j)) (ds.map A.c)
 |[],m,_=>trivial
 |d::ds,m,h=>by
  rw[fa,zn];refine⟨h 0 d rfl,?_⟩;have:=Kx (ds:=ds) (m:=m+1) (λj c a=>by have:=h (j+1) c (by grind);rwa [show m+1+j=m+(j+1) by omega])
  grind [Function.comp_def]
def bH.Xk(I:dg P T){t:ar}{x y:an}(h:o.op=.indexAddr t x y){i f:TI}{E:ar}(hi:bF T t=aa i)(L:i.desc=.slice E)(S:bF T E=aa f)
  {q m:Nat} {j:Int} {kk:IntKind} (O:B x=.e (.one (.bp l (.sl g f.size q m)))) (Q:B y=.e (.one (.c (.int kk j)))) (U:0<=j) (h1:j<m):bH P o B σ (.e (.one (.bp l (.el g f.size (q+j.toNat) 0)))) σ:=by
 refine .quiet λs ρ hh hr=>?_
 have p:=hr x;rw[O] at p;have h2:=hr y;rw[Q] at h2
 replace h2:=fy h2
 generalize G:ρ y=vy at h2;cases h2;have d:=p
 change gw σ s (ρ x) (.bp l _) at d
 obtain⟨lv,⟨a,a0,cap,K,R,N,M,J,u,F⟩,A,v⟩:=d;obtain⟨b,rfl,rfl⟩:=F (by omega)
 have H:=(I t i hi).run_underlying (w:=s.w);rw[L] at H;obtain⟨r,rfl⟩:∃ r:Nat,j=r:=⟨j.toNat,by omega⟩
 have z:r<m:=by omega
 refine⟨.pointer (aa ⟨b,(q+r)*f.size,af⟩),?_,⟨lv,⟨b,K,u,by simp⟩,A,v⟩,?_⟩ <;>
 simp[ay,h,R,G,Instr.indexAt,asIntOf,H,(I E f S).run_sizeOf,dj,z,gR]
def bH.Q8(v:dg P T){t:ar}{x:an}{f:Nat}(h:o.op=.fieldAddr t x f){p i q off:Nat}{j:TI}(w:B x=.e (.one (.bp l (.el g p i q))))(r:jM T t f=aa (off,j)):bH P o B σ (.e (.one (.bp l (.el g p i (q+off))))) σ:=by
 refine .quiet λs ρ hh hr=>?_
 have h1:=hr x;rw[w] at h1;have a:=h1
 change gw σ s (ρ x) (.bp l _) at a
 obtain⟨lv,⟨b,y,c,u⟩,d,m⟩:=a;exact⟨.pointer (aa ⟨b,i*p+q+off,af⟩),by simp[ay,h,u,mF v r],⟨lv,⟨b,y,c,by grind⟩,d,m⟩,by simp[ay,h,u,n9 v r]⟩
def bH.Xl{x:an}(h:o.op=.nilCheck x){f i q:Nat}(p:B x=.e (.one (.bp l (.el g f i q)))):bH P o B σ (.e (.one (.bp l (.el g f i q)))) σ:=by
 refine .quiet λs ρ hh hr=>?_
 have h1:=hr x;rw[p] at h1;have c:=h1;have a:=h1
 change gw σ s (ρ x) (.bp l _) at a
 obtain⟨lv,⟨b,t,j,d⟩,m,r⟩:=a;exact⟨ρ x,by simp[ay,h,d],c,by simp[ay,h,d]⟩
def bH.Xm(G:dg P T){x:an}{b:Array ar}{t:ar}(h:o.op=.call { callee:=.builtin .len,args:=#[x],argTypes:=b })(I:b[0]?=aa t){i:TI}{E:ar}(hi:bF T t=aa i)(y:i.desc=.slice E)
  {J q m:Nat} (v:B x=.e (.one (.bp l (.sl g J q m)))):bH P o B σ (.e (.one (.c (.int .i64 m)))) σ:=by
 refine .quiet λs ρ hh hr=>?_
 have h1:=hr x;rw[v] at h1;have d:=h1
 change gw σ s (ρ x) (.bp l _) at d
 obtain⟨lv,⟨a,a0,cap,K,z,p,A,u,j,F⟩,r,H⟩:=d;have f:=(G t i hi).run_underlying (w:=s.w);rw[y] at f;refine⟨.int .i64 m,?_,Rd.int (by simp only[bx];omega),?_⟩ <;>
 simp[ay,h,resolve,invoke,builtin,Builtin.len_,z,f,goInt,I]
def bH.sliceB(K:dg P T){t:ar}{x:an}{lo hi:Option an}(h:o.op=.slice t x lo hi af){i j:TI}{E:ar}(F:bF T t=aa i)(M:i.desc=.slice E)(R:bF T E=aa j){q m:Nat}{d u:Option Int}
  (Q:B x=.e (.one (.bp l (.sl g j.size q m)))) (hl:uE B lo=aa d) (H:uE B hi=aa u) (G:ag (iQ m d u)):bH P o B σ (.e (.one (.bp l (.sl g j.size (q+cv 0 d) (cv m u-cv 0 d))))) σ:=by
 refine .quiet λst ρ hh hr=>?_
 have h1:=hr x;rw[Q] at h1;have p:=h1
 change gw σ st (ρ x) (.bp l _) at p
 obtain⟨lv,⟨a,a0,cap,L,I,f,N,v,r,A⟩,z,y⟩:=p;obtain⟨hb,S,O⟩:=nU (P:=P) (isS:=ab) f (je hr hl) (je hr H) G st.w;have c:=(K t i F).run_underlying (w:=st.w);rw[M] at c;refine⟨.slice (if cap=cv 0 d then a else a.map (·.add (cv 0 d*j.size))) (cv m u-cv 0 d) (cap-cv 0 d),?_,⟨lv,⟨_,a0,_,L,rfl,by omega,by omega,v,r,λJ=>?_⟩,z,y⟩,by simp[ay,h,I,Instr.sliceAt,c,Instr.slice,hb,pR (P:=P) (isS:=ab) f (je hr hl) (je hr H) G st.w]⟩
 .simp[ay,h,I,Instr.sliceAt,c,Instr.slice,hb,(K E j R).run_sizeOf]
 .obtain⟨b,rfl,rfl⟩:=A (by omega)
  refine⟨b,rfl,?_⟩;rw[aY (by omega)]
  simp[dj,gR]
def bH.BK(N:dg P T){t:ar}{x:an}(h:o.op=.load t x){i f:Nat}{F:TI}{e:E1}(O:B x=.e (.one (.bp l (.el g k i f))))(z:g=n)(hl:σ[l]?=aa (.buf E k n es))(hi:bF T t=aa F)(I:m8 F ((hJ f (es i)).map A.c)=aa e)(u:i<n):bH P o B σ (.e e) σ:=by
 refine .nT λs ρ hh hr=>?_
 have h1:=hr x;rw[O] at h1;obtain⟨b,V,vs,Y,R,L,d,S,Q,U,K,W⟩:=Kw hh hl h1 z;have X:=K.width i u
 let g:Nat->ak:=λj=>vs.getD (i*k+j) aj
 have z:∀ j c,(hJ f (es i))[j]?=aa c->vs[i*k+(f+j)]?=aa (g (f+j))/\Rd s.M (g (f+j)) c:=by
  intro j c hj;rw[nk,nI] at hj;obtain⟨v,v1,Z⟩:=K.rd i u (f+j) c hj
  grind
 have H:=Kx (σ:=σ) (s:=s) (g:=g) (ds:=hJ f (es i)) (m:=f) (λj c hj=>(z j c hj).2)
 have a:∀ (j:Nat) (v:ak),((bh (hJ f (es i)).length).map λj=>g (f+j))[j]?=aa v->s.w.cell? ⟨b,i*k+f+j,af⟩=aa v:=by
  intro j v hj;simp only[nF] at hj
  by_cases q:j<(hJ f (es i)).length
  .simp[q] at hj;subst hj;have h2:=(z j _ (br q)).1;simp only[a9,d]
   grind
  grind
 obtain⟨v,y,G⟩:=pe (s:=s) (σ:=σ) (P:=P) (N t F hi) (b:=b) (off:=i*k+f) (e:=e) a H I;refine⟨v,by simp[ay,h,L,Instr.loadAt,Instr.sureAddr,y],G,λJ p=>?_⟩
 have r:J∈(loadVar t ⟨b,i*k+f,af⟩).events P s.w #[]:=by
  have e:ay ρ o=(do pure (.value (<-loadVar t ⟨b,i*k+f,af⟩))):=by simp[ay,h,L,Instr.loadAt,Instr.sureAddr]
  rw[e] at p;simpa[y] using p
 obtain⟨j,hj,rfl⟩:=kl (N t F hi) (n:=(hJ f (es i)).length) (λj hj=>⟨_,a j (g (f+j)) (by grind)⟩) (by have:=rM I;grind) J r
 exact rE (bU R) (by simp)
def Flat.put{M:Mem}{vs oC:List ak}{i f:Nat}{cc ci:List C}(h:Flat M k n es vs)(hi:i<n)(r:eX f cc (es i)=aa ci)(hl:oC.length=cc.length)(w:∀ (j:Nat)(c:C),cc[j]?=aa c->∃ v,oC[j]?=aa v/\Rd M v c) :
  i*k+f+oC.length<=vs.length/\Flat M k n (ni i ci es) (vs.take (i*k+f)++oC++vs.drop (i*k+f+oC.length)):=by
 obtain⟨h1,h2⟩:=pZ r;have z:=h.width i hi;have hb:i*k+k<=n*k:=by
  have:=et k (show i+1<=n by omega)
  grind
 have t:=h.len;have q:i*k+f+oC.length<=vs.length:=by omega
 have d:∀ p,(vs.take (i*k+f)++oC++vs.drop (i*k+f+oC.length))[p]?=if p<i*k+f then vs[p]? else if p<i*k+f+oC.length then oC[p-(i*k+f)]? else vs[p]?:=by
  intro p;have A:(vs.take (i*k+f)).length=i*k+f:=by grind
  by_cases c1:p<i*k+f
  .grind
  .rw[aY c1]
   by_cases c2:p<i*k+f+oC.length
   .grind
   .rw[aY c2,gk (by grind),nI]
    grind
 refine⟨q,⟨by grind,λb a=>?_,λb a j c hj=>?_⟩⟩
 .simp only[ni];split
  .grind
  .exact h.width b a
 .simp only[ni] at hj;rw[d];split at hj
  .rename_i e
   subst e;rw[h2] at hj
   by_cases c1:j<f
   .rw[j8,jD (by grind),gQ,bd c1] at hj
    rw[bd (by omega)]
    exact h.rd b hi j c hj
   .by_cases c2:j<f+cc.length
    .rw[j8,gk (by grind),jD (by grind)] at hj
     obtain⟨v,v1,x⟩:=w _ c hj;refine⟨v,?_,x⟩;rw[aY (by omega),bd (by omega),<-v1]
     congr 1
     grind
    .rw[gk (by grind),nI] at hj
     rw[aY (by omega),aY (by omega)]
     refine h.rd b hi j c ?_
     grind
  .rename_i e
   have u:j<k:=by have:=(cr.1 hj).1;have:=h.width b a;omega
   rcases cJ b i with m|y
   .have:(b+1)*k<=i*k:=et k m;rw[gR,Nat.one_mul] at this;rw[bd (by omega)]
    exact h.rd b a j c hj
   .have:(i+1)*k<=b*k:=et k (by omega)
    rw[gR,Nat.one_mul] at this;rw[aY (by omega),aY (by omega)]
    exact h.rd b a j c hj
def aJ.ef(hh:aJ σ s)(hl:σ[l]?=aa (.buf E k n es)){b:Nat}{vs zs vF:List ak}{d:Nat}(u:s.β[l]?=aa ⟨.slice (aa ⟨b,0,af⟩) 0 d,[b]⟩)(y:(vs++zs).length=d*k)(j:n<=d)(m:d<=9223372036854775807){es':Nat->List C}(e:s.w.heap[b]?=aa (.cells (vs++zs).toArray E (0,0)))(A:Flat s.M k n es' vF)(t:vF.length=vs.length)(q:∀ o,s.M b o=af) :
  aJ (σ.set l (.buf E k n es')) { s with w:=s.w.setRow b (vF++zs).toArray }/\Step σ s (σ.set l (.buf E k n es')) { s with w:=s.w.setRow b (vF++zs).toArray }:=by
 have i:(s.w.setRow b (vF++zs).toArray).heap[b]?=aa (.cells (vF++zs).toArray E (0,0)):=setRow_heap s.w b _ _ E _ e;have f:∀ a,a≠b->(s.w.setRow b (vF++zs).toArray).heap[a]?=s.w.heap[a]?:=λa c=>setRow_other s.w b a _ c
 have p:s.β.set l ⟨.slice (aa ⟨b,0,af⟩) 0 d,[b]⟩=s.β:=by
  apply iM
  grind
 obtain⟨G,F⟩:=hh.iP (M':=s.M) (w':=s.w.setRow b (vF++zs).toArray) (B':=.buf E k n es') (L':=⟨.slice (aa ⟨b,0,af⟩) 0 d,[b]⟩) hl u ⟨λ_=>rfl,bg _⟩ (by simp[World.setRow])
  (λa c hn=>f a (by grind)) (λ_ _ _ _=>rfl) (λ_ _ _ h=>h) (λa r v z=>by
   have x:a≠b:=by grind
   have:=hh.mem a r v z;rw[<-this];simp only[a9]
   grind) (λa c=>⟨.inl c,by grind⟩) rfl rfl rfl
  (.inr ⟨b,d,vF,zs,rfl,i,by grind,j,m,A,q⟩)
 grind
def rX{α:Type}:∀ {new l:List α},new.length=l.length->eX 0 new l=aa new
 |[],[],_=>rfl
 |[],_::_,h=>by grind
 |_::_,[],h=>by grind
 |n::ns,c::cs,h=>by simp only[eX,rX (new:=ns) (l:=cs) (by grind)]
def bH.JP(W:dg P T){t:ar}{x y:an}(h:o.op=.store t x y){i f:Nat}{H:TI}{new:List A}{cc ci:List C}(Y:B x=.e (.one (.bp l (.el g k i f))))(Z:g=n)(hl:σ[l]?=aa (.buf E k n es))(hi:bF T t=aa H)(hy:mT (B y)=aa new)(hn:new.length=H.size)(N:gn new=aa cc)(L:(es i).length=k->eX f cc (es i)=aa ci)(I:i<n) :
  bH P o B σ .any (σ.set l (.buf E k n (ni i ci es))):=by
 intro s ρ hh hr;have h1:=hr x;rw[Y] at h1;obtain⟨b,c0,vs,z,S,U,a,K,J,O,V,Q⟩:=Kw hh hl h1 Z;have d:=m6 hy (hr y);have m:=kn N d;have M:=dW.closed m;have u:(ρ y).cells.toList.length=cc.length:=by have:=m.length;grind
 replace L:=L (V.width i I)
 obtain⟨q1,q2⟩:=V.put I L u M;have p:(ρ y).cells.size=H.size:=by rw[<-hn,<-d.length,jg]
 obtain⟨t1,X⟩:=hh.ef hl S K J O a q2 (by grind) Q
 have F:=run_storeCells_at P b (i*k+f) E (ρ y).cells.toList 0 (vs++z).toArray s.w a (by grind) d.cell
 have q:((vs++z).toArray.toList.take (i*k+f+0)++(ρ y).cells.toList++(vs++z).toArray.toList.drop (i*k+f+0+(ρ y).cells.toList.length))=vs.take (i*k+f)++(ρ y).cells.toList++vs.drop (i*k+f+(ρ y).cells.toList.length)++z:=by
  grind
 rw[q] at F;refine⟨.skip,_,?_,rfl,t1,X,?_⟩
 .simp[ay,h,U,Instr.storeAt,Instr.sureAddr,storeVar,(W t H hi).run_sizeOf,p,F]
 .intro R c;have e:ay ρ o=(do storeVar t ⟨b,i*k+f,af⟩ (ρ y);pure .skip):=by simp[ay,h,U,Instr.storeAt,Instr.sureAddr]
  rw[e] at c;have G:R∈(storeCells ⟨b,i*k+f,af⟩ (ρ y).cells.toList).events P s.w #[]:=by
   simp only[storeVar,aO,(W t H hi).run_sizeOf,p,aU,events_sizeOf,cW,fu,cd,bY,b9,Sem.events_pure] at c;generalize (storeCells ⟨b,i*k+f,af⟩ (ρ y).cells.toList).run P s.w=r at c;cases r with
   |ok v w'=>simpa using c
   |halt x w'=>simpa using c
  rcases eE (ρ y).cells.toList 0 (vs++z).toArray s.w #[] a (by grind) d.cell R G with PK|⟨j,_,_,rfl⟩
  .grind
  .exact mn (bU S) (by simp) (Q _)
end
section
variable {σ:List aV}
def aJ.zv{s:St}(hh:aJ σ s){b:Nat}{vs:List ak}(j:∀ o,s.M b o=af)(i:∀ o v,vs[o]?=aa v->s.w.cell? ⟨b,o,af⟩=aa v) :
  aJ (σ.map λ_=>.dead) { s with M:=λa o=>if a=b then vs[o]? else s.M a o }/\∀ a o v,s.M a o=aa v->(if a=b then vs[o]? else s.M a o)=aa v:=by
 have c:=hh.lE;refine⟨⟨λa o v f=>?_,c.len,λl B L g h=>?_,c.gg,c.lt,c.own⟩,λa o v f=>?_⟩
 .by_cases e:a=b
  .grind
  .simp only[e,cd] at f;exact c.mem a o v f
 .have:=bU g;simp at this;rw[<-this.2];trivial
 grind
def eZ.vp{s:St}{M':Mem}{b:Nat}{es:Array Event}(h:eZ { s with M:=M' } es){L:Loc}(j:L∈s.β)(hb:b∈L.bs)(k:∀ c o v,s.M c o=aa v->M' c o=aa v)(i:∀ c o v,M' c o=aa v->c=b∨s.M c o=aa v):eZ s es:=by
 intro e g;have h1:=h e g;unfold oE at h1 ⊢;split at h1
 .obtain⟨a1,a2,a3⟩:=h1;refine⟨a1,a2,?_⟩;rcases a3 with a3|⟨a3,a4⟩|⟨a3,v,a4⟩
  .grind
  .refine .inr (.inl ⟨a3,λf=>?_⟩)
   have:=a4 f
   rename_i a _
   cases l:s.M a.block a.off with
   |none=>rfl
   |some v=>grind
  grind
 all_goals exact h1
end
def I2(k:Nat)(f:Nat->Nat->ak):Nat->List C:=λi=>(bh k).map λj=>.val (f i j)
def pO{k:Nat}{f:Nat->Nat->ak}{i j:Nat}{c:C}(h:(I2 k f i)[j]?=aa c):j<k/\c=.val (f i j):=by
 have a:j<k:=by
  have:=(cr.1 h).1;simpa[I2] using this
 simp[I2,a] at h
 grind
def DF{k:Nat}{f:Nat->Nat->ak}{i j:Nat}(h:j<k):(I2 k f i)[j]?=aa (.val (f i j)):=by simp[I2,h]
def Rd.exact{M:Mem}{v:ak}{t:Bool}{k n:Nat}{es:Nat->List C}(h:Rd M v (.sl t k n es)) :
  ∃ f:Nat->Nat->ak,Rd M v (.sl t k n (I2 k f))/\(∀ i,i<n->(es i).length=k)/\∀ i,i<n->∀ j c,(es i)[j]?=aa c->Rd M (f i j) c:=by
 cases h with
 |sl b off f a hb ht hk ha hm hr =>
  have e:∀ i,i<n->∀ j,j<k->∃ c,(es i)[j]?=aa c:=λi hi j hj=>⟨_,br (by grind)⟩
  refine⟨f,.sl b off f a hb ht (λi _=>by simp[I2]) ha (λi hi j c hj=>?_) (λi hi j c hj=>?_),hk,hr⟩
  .grind [pO]
  .obtain⟨h1,rfl⟩:=pO hj;obtain⟨g,h2⟩:=e i hi j h1;exact .val (hr i hi j g h2).cell
def Ai{σ:List aV}{s:St}{l:Nat}{E:ar}{k n:Nat}{es:Nat->List C}{L:Loc}{a c:Option Addr}{cap:Nat}(e:σ[l]?=aa (.buf E k n es))(f:s.β[l]?=aa L)(i:L.v=.slice c 0 cap)(g:n<=cap)(j:cap<=9223372036854775807)
  (p:0<cap->∃ b,c=aa ⟨b,0,af⟩/\a=aa ⟨b,0,af⟩):gw σ s (.slice a n cap) (.bp l (.sl n k 0 n)) :=
 ⟨L.v,⟨a,c,cap,cap,rfl,g,by omega,j,i,λh=>by grind⟩,(cr.1 e).1,λm k' n' es' he=>by
  rw[e] at he;cases he;exact⟨bg _,λ_=>⟨L,f,rfl⟩⟩⟩
def ry{P:aq}{o:aw}{σ:List aV}{x y:an}{E:ar}{g:TI}(h:mj P o x y E g){l n q:Nat}{tx:Bool}{es es':Nat->List C}{s:St}{ρ:an->ak}(r:aJ σ s)
  (h1:gw σ s (ρ x) (.bp l (.sl n g.size 0 n))) (hl:σ[l]?=aa (.buf E g.size n es)) (h2:Rd s.M (ρ y) (.sl tx g.size q es')) (K:(n+q)*g.bytes<=140737488355328) :
  ∃ nx s',(ay ρ o).run P s.w=.ok nx s'.w/\Rs (σ.set l (.buf E g.size (n+q) (cR n es es'))) s' nx (.e (.one (.bp l (.sl (n+q) g.size 0 (n+q)))))/\aJ (σ.set l (.buf E g.size (n+q) (cR n es es'))) s'/\Step σ s (σ.set l (.buf E g.size (n+q) (cR n es es'))) s'/\eZ s ((ay ρ o).events P s.w #[]):=by
 obtain⟨t,t2,i,i2,ho,hi,hd,A,z⟩:=h.op;have H:l<σ.length:=(cr.1 hl).1;obtain⟨lv,⟨a,a0,cap,u,hv,Q,Td,N,GU,Wz⟩,_,VR⟩:=h1;obtain⟨L,hL,Wj⟩:=(VR _ _ _ _ hl).2 rfl;rw[GU] at Wj;have PH:u=cap:=by omega
 subst PH;have V:0<u->∃ b,a0=aa ⟨b,0,af⟩/\a=aa ⟨b,0,af⟩:=λh=>by grind
 have U:l<s.β.length:=(cr.1 hL).1;have X:=bU hL;have R:=r.box l _ L hl hL;rw[c6 ho,hv];have row:0<u->∃ b vs zs,a=aa ⟨b,0,af⟩/\L=⟨.slice (aa ⟨b,0,af⟩) 0 u,[b]⟩/\s.w.heap[b]?=aa (.cells (vs++zs).toArray E (0,0))/\(vs++zs).length=u*g.size/\Flat s.M g.size n es vs/\∀ o,s.M b o=af:=by
  intro G;obtain⟨b,e1,e2⟩:=V G;rcases R with⟨_,rfl⟩|⟨p,c1,vs,zs,rfl,h3,h4,h5,h6,h7,h8⟩
  .grind
  grind
 by_cases h0:q=0
 .subst h0;have m:=jc (P:=P) (ty:=o.type) hi hd A z h.elem r (a:=a) Q h2;simp only[iO];have ha:aP n es (cR n es es'):=λi hi=>by simp[cR,hi]
  have VV:eP (σ.set l (.buf E g.size n (cR n es es'))) ⟨s.β.set l L,s.M,s.w,s.own⟩ (.buf E g.size n (cR n es es')) L:=by
   rcases R with h3|⟨p,c1,vs,zs,h2,h3,h4,h5,h6,h7,h8⟩
   .exact .inl h3
   .exact .inr ⟨p,c1,vs,zs,h2,h3,h4,h5,h6,h7.DD ha,h8⟩
  have FX:=r.iP (M':=s.M) (w':=s.w) (B':=.buf E g.size n (cR n es es')) (L':=L) hl hL ⟨λ_=>rfl,bg _⟩ (bg _) (λ_ _ _=>rfl) (λ_ _ _ _=>rfl) (λ_ _ _ h=>h) r.mem
   (λb K=>⟨.inl K,r.lt L X b K⟩) rfl rfl rfl VV
  refine⟨.value (.slice a n u),_,?_,?_,FX.1,FX.2,ey (jI hi hd A z h.elem r Q h2)⟩
  .simp[m]
  .exact Ai (E:=E) (by rw[fI H]) (by grind) Wj Q N V
 .by_cases k:n+q<=u
  .obtain⟨b,vs,zs,rfl,rfl,hw,J,hF,hM⟩:=row (by omega)
   obtain⟨f,M6,m⟩:=kh (P:=P) (ty:=o.type) hi hd A z h.elem r hw J h2 k;have PI:vs.length=n*g.size:=hF.len;have TC:f.length=q*g.size:=M6.len;have WK:n*g.size+q*g.size<=u*g.size:=by rw[<-gR];exact et _ k
   have Y:((vs++zs).take (n*g.size)++f++(vs++zs).drop (n*g.size+f.length))=(vs++f)++zs.drop f.length:=by
    rw[<-PI];simp[List.drop_append]
   rw[Y] at m;have Nv:=setRow_heap s.w b _ ((vs++f)++zs.drop f.length).toArray E _ hw;have DQ:∀ p,p≠b->(s.w.setRow b ((vs++f)++zs.drop f.length).toArray).heap[p]?=s.w.heap[p]?:=λp O=>setRow_other s.w b p _ O
   obtain⟨t1,W⟩:=r.iP (M':=s.M) (w':=s.w.setRow b ((vs++f)++zs.drop f.length).toArray) (B':=.buf E g.size (n+q) (cR n es es')) (L':=⟨.slice (aa ⟨b,0,af⟩) 0 u,[b]⟩) hl hL ⟨λ_=>rfl,by omega⟩ (by simp[World.setRow])
    (λp O hn=>DQ p (by grind)) (λ_ _ _ _=>rfl) (λ_ _ _ h=>h) (λp o' v hmv=>by
     have Bq:p≠b:=by grind
     have:=r.mem p o' v hmv;rw[<-this];simp only[a9]
     grind) (λp O=>⟨.inl O,by grind⟩) rfl rfl rfl
    (.inr ⟨b,u,vs++f,zs.drop f.length,rfl,Nv,by grind,k,N,hF.append M6,hM⟩)
   refine⟨.value (.slice (aa ⟨b,0,af⟩) (n+q) u),_,?_,?_,t1,W,ey (lQ hi hd A z h.elem r hw J h2 k X (by simp) (λo _=>hM o))⟩
   .simp[m]
   .exact Ai (E:=E) (by rw[fI H]) (by simp only;rw[fI U]) rfl k N λ_=>⟨b,rfl,rfl⟩
  .have hg:u<n+q:=by omega
   obtain⟨f2,h2x,XG,sO⟩:=h2.exact;have gd:∃ (M':Mem) (f0:Nat->Nat->ak),aJ (σ.map λ_=>.dead) { s with M:=M' }/\(∀ p o v,s.M p o=aa v->M' p o=aa v)/\Rd M' (.slice a n u) (.sl ae g.size n (I2 g.size f0))/\(∀ {es},eZ { s with M:=M' } es->eZ s es) /\
     (∀ i,i<n->(es i).length=g.size)/\∀ i,i<n->∀ j c,(es i)[j]?=aa c->Rd s.M (f0 i j) c:=by
    by_cases G:0<u
    .obtain⟨b,vs,zs,rfl,rfl,hw,J,hF,hM⟩:=row G;obtain⟨c1,c2⟩:=r.zv (b:=b) (vs:=vs) hM (λo v ho=>by
      simp only[a9,hw]
      grind)
     have S:∀ i,i<n->∀ j c,(es i)[j]?=aa c->vs[i*g.size+j]?=aa (vs.getD (i*g.size+j) aj)/\Rd s.M (vs.getD (i*g.size+j) aj) c:=by
      intro i hi j c F;obtain⟨v,v1,v2⟩:=hF.rd i hi j c F
      grind
     have Tg:∀ i,i<n->∀ j,j<g.size->∃ c,(es i)[j]?=aa c:=λi hi j F=>⟨_,br (by rw[hF.width i hi];exact F)⟩
     refine⟨_,λi j=>vs.getD (i*g.size+j) aj,c1,c2,.sl b 0 (λi j=>vs.getD (i*g.size+j) aj) Q N (by simp) (λi _=>by simp[I2]) (λ_=>rfl) (λi hi j c F=>?_) (λi hi j c F=>?_),λhe=>?_,hF.width,λi hi j c F=>(S i hi j c F).2⟩
     .obtain⟨e1,_⟩:=pO F
      grind
     .obtain⟨e1,rfl⟩:=pO F;obtain⟨c',e2⟩:=Tg i hi j e1;exact .val (S i hi j c' e2).2.cell
     .exact he.vp (b:=b) X (by simp) c2 λp o v hv=>by
       grind
    .have e1:u=0:=by omega
     have e2:n=0:=by omega
     subst e1 e2;have B:=r.lE;exact⟨s.M,λ_ _=>aj,⟨B.mem,B.len,B.box,B.gg,B.lt,B.own⟩,λ_ _ _ h=>h,Rd.jJ,λh=>h,λi hi=>by omega,λi hi=>by omega⟩
   obtain⟨M',f0,c1,c2,hR,VZ,hw0,hr0⟩:=gd;have WZ:Rd ({ s with M:=M' }:St).M (ρ y) (.sl tx g.size q (I2 g.size f2)):=h2x.mono c2;obtain⟨vF,zs,I,Nn,VW,VX,hlen,m⟩:=im (P:=P) (s:={ s with M:=M' }) (ty:=o.type) hi hd A z h.elem c1 hR WZ hg K h.bytes;have No:=iV (P:=P) (s:={ s with M:=M' }) (ty:=o.type) hi hd A z h.elem c1 hR WZ hg K h.bytes;have hFs:Flat s.M g.size (n+q) (cR n es es') vF:=by
    refine⟨Nn.len,λi hi=>?_,λi hi j c F=>?_⟩
    .by_cases e:i<n
     .simp only[cR,e,cu];grind
     .simp only[cR,e,cd];grind
    .by_cases e:i<n
     .simp only[cR,e,cu] at F;have Z:j<g.size:=by grind
      obtain⟨v,v1,v2⟩:=Nn.rd i hi j (.val (f0 i j)) (by simp only[cR,e,cu];exact DF Z)
      grind [Rd.fZ]
     .simp only[cR,e,cd] at F;have Z:j<g.size:=by grind
      obtain⟨v,v1,v2⟩:=Nn.rd i hi j (.val (f2 (i-n) j)) (by simp only[cR,e,cd];exact DF Z)
      grind [Rd.fZ]
   have nM:∀ o,s.M s.w.heap.size o=af:=λo=>by
    cases hm:s.M s.w.heap.size o with
    |none=>rfl
    |some v=>have:=r.block hm;omega
   obtain⟨t1,W⟩:=r.iP (M':=s.M) (w':=s.w.drew.alloc (.cells (vF++zs).toArray E)) (B':=.buf E g.size (n+q) (cR n es es')) (L':=⟨.slice (aa ⟨s.w.heap.size,0,af⟩) 0 I,[s.w.heap.size]⟩) hl hL
    ⟨λe=>absurd e (by omega),by omega⟩ (by simp) (λb K _=>cK s.w.drew _ K) (λ_ _ _ _=>rfl) (λ_ _ _ h=>h) (λb o v hm=>by
     have tN:=r.block hm;rw[<-r.mem b o v hm];simp only[a9];rw[cK s.w.drew _ tN];rfl) (λb K=>by
     simp at K;subst K;exact⟨.inr (bg _),by simp⟩) rfl rfl rfl (.inr ⟨s.w.heap.size,I,vF,zs,rfl,dx s.w.drew _,hlen,VW,VX,hFs,nM⟩)
   refine⟨.value (.slice (aa ⟨s.w.heap.size,0,af⟩) (n+q) I),_,?_,?_,t1,W,ey (VZ No)⟩
   .simp only at m;simp[m]
   .exact Ai (E:=E) (by rw[fI H]) (by simp only;rw[fI U]) rfl VW VX λ_=>⟨_,rfl,rfl⟩
def bH.NN{P:aq}{o:aw}{d:an->D}{σ:List aV}{x y:an}{E:ar}{a:TI}(h:mj P o x y E a){l n b:Nat}{tx:Bool}{es es':Nat->List C}
  (f:d x=.e (.one (.bp l (.sl n a.size 0 n)))) (hl:σ[l]?=aa (.buf E a.size n es)) (c:∀ s v,dc σ s v (d y)->Rd s.M v (.sl tx a.size b es')) (hb:(n+b)*a.bytes<=140737488355328) :
  bH P o d σ (.e (.one (.bp l (.sl (n+b) a.size 0 (n+b))))) (σ.set l (.buf E a.size (n+b) (cR n es es'))) :=
 λs ρ hh hr=>ry h hh (by have:=hr x;rw[f] at this;exact this) hl (c s _ (hr y)) hb
section
variable {P:aq}{T:List (Nat×TI)}{o:aw}{d:an->D}{σ:List aV}
def bH.Xn(l:dg P T){x:an}{b:Array ar}{t:ar}(h:o.op=.call { callee:=.builtin .len,args:=#[x],argTypes:=b })(m:b[0]?=aa t){i:TI}{E:ar}(hi:bF T t=aa i)(j:i.desc=.slice E)
  {a:Option Addr} {n cap:Nat} (g:d x=.e (.one (.c (.val (.slice a n cap))))) (hn:n<=9223372036854775807):bH P o d σ (.e (.one (.c (.int .i64 n)))) σ:=by
 refine .quiet λs ρ hh hr=>?_
 have h1:=hr x;rw[g] at h1;have k:=Rd.fZ (fy h1);have f:=(l t i hi).run_underlying (w:=s.w);rw[j] at f;refine⟨.int .i64 n,?_,Rd.int (by simp only[bx];omega),?_⟩ <;>
 simp[ay,h,resolve,invoke,builtin,Builtin.len_,k,f,goInt,m]
def bH.BJ(p:dg P T){t:ar}{x y:an}(h:o.op=.indexAddr t x y){i g:TI}{E:ar}(hi:bF T t=aa i)(u:i.desc=.slice E)(q:bF T E=aa g)
  {b off n cap:Nat} {j:Int} {kk:IntKind} (r:d x=.e (.one (.c (.val (.slice (aa ⟨b,off,af⟩) n cap))))) (z:d y=.e (.one (.c (.int kk j)))) (A:0<=j) (h1:j<n):bH P o d σ (.e (.one (.c (.val (.pointer (aa ⟨b,off+j.toNat*g.size,af⟩)))))) σ:=by
 refine .quiet λs ρ hh hr=>?_
 have a:=hr x;rw[r] at a;have v:=Rd.fZ (fy a);have h2:=hr y;rw[z] at h2
 replace h2:=fy h2
 generalize k:ρ y=vy at h2;cases h2;have m:=(p t i hi).run_underlying (w:=s.w);rw[u] at m;obtain⟨f,rfl⟩:∃ f:Nat,j=f:=⟨j.toNat,by omega⟩
 have l:f<n:=by omega
 refine⟨.pointer (aa ⟨b,off+f*g.size,af⟩),?_,Rd.val rfl,?_⟩ <;>
 simp[ay,h,v,k,Instr.indexAt,asIntOf,m,(p E g q).run_sizeOf,dj,l]
def bH.Q9(a:dg P T){t:ar}{x:an}{f:Nat}(h:o.op=.fieldAddr t x f){b off k:Nat}{j:TI}(l:d x=.e (.one (.c (.val (.pointer (aa ⟨b,off,af⟩))))))(i:jM T t f=aa (k,j)):bH P o d σ (.e (.one (.c (.val (.pointer (aa ⟨b,off+k,af⟩)))))) σ:=by
 refine .quiet λs ρ hh hr=>?_
 have h1:=hr x;rw[l] at h1;have g:=Rd.fZ (fy h1);exact⟨.pointer (aa ⟨b,off+k,af⟩),by simp[ay,h,g,mF a i],Rd.val rfl,by simp[ay,h,g,n9 a i]⟩
def bH.slice3(L:dg P T){t:ar}{x y z:an}(h:o.op=.slice t x af (aa y) (aa z)){i I:TI}{E:ar}(H:bF T t=aa i)(N:i.desc=.slice E)(W:bF T E=aa I){tt:Bool}{k n:Nat}{es:Nat->List C}{r u:IntKind}{j m:Int}
  (Q:∀ s v,dc σ s v (d x)->Rd s.M v (.sl tt k n es)) (S:d y=.e (.one (.c (.int r j)))) (U:d z=.e (.one (.c (.int u m)))) (F:0<=j) (h1:j<=m) (h2:m<=n):bH P o d σ (.e (.one (.c (.sl ae k j.toNat es)))) σ:=by
 refine .quiet λst ρ hh hr=>?_
 have q:=Q st _ (hr x);have g:=hr y;rw[S] at g
 replace g:=fy g
 generalize A:ρ y=vy at g;cases g;have p:=hr z;rw[U] at p
 replace p:=fy p
 generalize B:ρ z=vz at p;cases p;obtain⟨a,cap,vs,G,J,V,Z,hF,Y⟩:=q.flat;rw[G] at q;have l:=(L t i H).run_underlying (w:=st.w);rw[N] at l;have em:((m.toNat:Nat):Int)=m:=rf (by omega)
 have hb:(Instr.sliceBounds ab n cap af (aa (.int r j)) (aa (.int u m))).run P st.w=.ok (0,j.toNat,m.toNat) st.w:=by
  simp[Instr.sliceBounds,run_sliceBound (P:=P) st.w u m cap _ (by omega) (by omega),run_sliceBound (P:=P) st.w r j m.toNat _ F (by omega)]
 have O:(Instr.sliceBounds ab n cap af (aa (.int r j)) (aa (.int u m))).events P st.w #[]=#[]:=by
  simp[Instr.sliceBounds,run_sliceBound (P:=P) st.w u m cap _ (by omega) (by omega),run_sliceBound (P:=P) st.w r j m.toNat _ F (by omega),eF (P:=P) st.w u m cap _ (by omega) (by omega),eF (P:=P) st.w r j m.toNat _ F (by omega)]
 refine⟨.slice a j.toNat m.toNat,?_,?_,by simp[ay,h,G,A,B,Instr.sliceAt,l,Instr.slice,hb,O]⟩
 .simp[ay,h,G,A,B,Instr.sliceAt,l,Instr.slice,hb,(L E I W).run_sizeOf];intro _;rcases a with _|⟨b,off,sp⟩ <;> simp[Addr.add]
 .cases q with
  |sl b off f _ _ _ X R hm' PN =>
   exact Rd.sl b off f (by omega) (by omega) (by simp) (λi hi=>X i (by omega)) (λK=>R (by omega)) (λi hi j c hj=>hm' i (by omega) j c hj) (λi hi j c hj=>PN i (by omega) j c hj)
end
def Flat.Tz{M:Mem}{k n q m:Nat}{es Nm:Nat->List C}{vs oC:List ak}(h:Flat M k n es vs)(b:Flat M k m Nm oC)(f:q+m<=n) :
  Flat M k n (λi=>if q<=i/\i<q+m then Nm (i-q) else es i) (vs.take (q*k)++oC++vs.drop (q*k+oC.length)):=by
 have hl:=h.len;have l:=b.len;have hb:q*k+m*k<=n*k:=by rw[<-gR];exact et k f
 have r:(vs.take (q*k)).length=q*k:=by grind
 have a:∀ p,(vs.take (q*k)++oC++vs.drop (q*k+oC.length))[p]?=if p<q*k then vs[p]? else if p<q*k+m*k then oC[p-q*k]? else vs[p]?:=by
  intro p
  by_cases c1:p<q*k
  .grind
  .rw[aY c1]
   by_cases c2:p<q*k+m*k
   .grind
   .rw[aY c2,gk (by grind),nI]
    grind
 refine⟨by grind,λi hi=>?_,λi hi j c hj=>?_⟩
 .by_cases e:q<=i/\i<q+m
  .rw[bd e];exact b.width _ (by omega)
  .rw[aY e];exact h.width i hi
 .rw[a]
  by_cases e:q<=i/\i<q+m
  .rw[bd e] at hj;have g:j<k:=by have:=(cr.1 hj).1;rw[b.width _ (by omega)] at this;exact this
   have e1:q*k<=i*k:=et k e.1;have e2:i*k+k<=q*k+m*k:=by rw[<-gR,<-k9];exact et k e.2
   rw[aY (by omega),bd (by omega)]
   obtain⟨v,v1,s⟩:=b.rd (i-q) (by omega) j c hj
   grind [Nat.sub_mul]
  .rw[aY e] at hj;have g:j<k:=by have:=(cr.1 hj).1;rw[h.width i hi] at this;exact this
   have:i*k+j<q*k∨q*k+m*k<=i*k+j:=by
    by_cases c1:i<q
    .left
     have:i*k+k<=q*k:=by rw[<-k9];exact et k c1
     omega
    .right
     have:(q+m)*k<=i*k:=et k (by omega)
     grind
   rcases this with c1|c1
   .rw[bd c1];exact h.rd i hi j _ hj
   .rw[aY (by omega),aY (by omega)];exact h.rd i hi j _ hj
def uZ{s:St}{E k k':Nat}{es VQ:Nat->List C}{v:ak}{σ':List aV}{β:List Loc}{l:Nat}(f:Rd s.M v (.sl ab k' 0 VQ))(e:σ'[l]?=aa (.buf E k 0 es))(c:β[l]?=aa ⟨.slice af 0 0,[]⟩):gw σ' { s with β:=β } v (.bp l (.sl 0 k 0 0)):=by
 obtain⟨a,cap,vs,g,_,_,b,_,_⟩:=f.flat;have:=b rfl;subst this;refine⟨.slice af 0 0,⟨a,af,0,0,g,by omega,rfl,by omega,rfl,λh=>absurd h (by omega)⟩,(cr.1 e).1,λE2 k2 n2 Nm h=>?_⟩
 rw[e] at h;cases h;exact⟨bg _,λ_=>⟨_,c,rfl⟩⟩
def eZ.TB{s:St}{β:List Loc}{v:ak}{es:Array Event}(h:eZ { s with β:=β++[⟨v,[]⟩] } es)(a:s.β=β):eZ s es:=by
 intro e c;have h1:=h e c;have key:∀ b,(∃ L∈β++[(⟨v,[]⟩:Loc)],b∈L.bs)->∃ L∈s.β,b∈L.bs:=λb ⟨L,f,hb⟩=>by
  grind
 unfold oE at h1 ⊢
 grind
def bH.GR{P:aq}{o:aw}{d:an->D}{σ:List aV}{x y:an}{E:ar}{a:TI}(h:mj P o x y E a){k m:Nat}{tx:Bool}{es es':Nat->List C}
  (n:d x=.e (.one (.c (.sl ab k 0 es)))) (u:∀ s v,dc σ s v (d y)->Rd s.M v (.sl tx a.size m es')) (hb:(0+m)*a.bytes<=140737488355328) :
  bH P o d σ (.e (.one (.bp σ.length (.sl (0+m) a.size 0 (0+m))))) (σ++[.buf E a.size (0+m) (cR 0 es es')]):=by
 intro s ρ hh hr;have h1:=hr x;rw[n] at h1;have h2:=u s _ (hr y);obtain⟨r,g2⟩:=hh.gT (B:=.buf E a.size 0 es) (L:=⟨.slice af 0 0,[]⟩) (.refl _ _) rfl hh (.inl ⟨rfl,rfl⟩) (by simp)
 have f:gw (σ++[.buf E a.size 0 es]) { s with β:=s.β++[⟨.slice af 0 0,[]⟩] } (ρ x) (.bp σ.length (.sl 0 a.size 0 0)):=uZ (E:=E) (es:=es) (fy h1) (by simp) (by simp[<-hh.len])
 obtain⟨p,s',q,j,g,i,t⟩:=ry (P:=P) (σ:=σ++[.buf E a.size 0 es]) (s:={ s with β:=s.β++[⟨.slice af 0 0,[]⟩] }) (l:=σ.length) (es:=es) h r f (by simp) h2 hb
 have b:(σ++[aV.buf E a.size 0 es]).set σ.length (.buf E a.size (0+m) (cR 0 es es'))=σ++[.buf E a.size (0+m) (cR 0 es es')]:=by simp
 rw[b] at j g i;exact⟨p,s',q,j,g,g2.trans i,t.TB rfl⟩
def GS(i j m:Nat)(es:Nat->List C):Nat->List C:=λq=>if i<=q/\q<i+m then es (j+(q-i)) else es q
def bH.Jf{P:aq}{o:aw}{d:an->D}{σ:List aV}{x y:an}{E:ar}{f:TI}(h:mj P o x y E f){l n i j m:Nat}{es:Nat->List C}
  (hx:d x=.e (.one (.bp l (.sl n f.size 0 i)))) (hy:d y=.e (.one (.bp l (.sl n f.size j m)))) (hl:σ[l]?=aa (.buf E f.size n es)) (ZG:i+m<=n) (hjm:j+m<=n) :
  bH P o d σ (.e (.one (.bp l (.sl n f.size 0 (i+m))))) (σ.set l (.buf E f.size n (GS i j m es))):=by
 intro s ρ hh hr;obtain⟨t,t2,ti,ti2,ho,hi,hd,U,S⟩:=h.op;have h1:=hr x;rw[hx] at h1
 change gw σ s (ρ x) (.bp l _) at h1
 have h2:=hr y;rw[hy] at h2
 change gw σ s (ρ y) (.bp l _) at h2
 obtain⟨lv,⟨a,a0,cap,H,hv,PG,Td,Wy,GU,Wz⟩,_,VR⟩:=h1;obtain⟨L,hL,Y⟩:=(VR _ _ _ _ hl).2 rfl;rw[GU] at Y;obtain⟨lv',⟨a',a0',k,c0',VS,WA,aa5,aa6,WB,aa7⟩,_,WC⟩:=h2;obtain⟨L',gI,O⟩:=(WC _ _ _ _ hl).2 rfl;rw[hL] at gI;cases gI;rw[WB,Y] at O;cases O;have hLm:=bU hL;have hu:=hi.run_underlying (w:=s.w);have W:=U.run_underlying (w:=s.w);rw[hd] at hu;rw[S] at W;rw[c6 ho,hv,VS]
 by_cases WE:n=0
 .have e1:i=0:=by omega
  have e2:m=0:=by omega
  subst WE e1 e2;have QF:σ.set l (.buf E f.size 0 (GS 0 j 0 es))=σ:=by
   have:GS 0 j 0 es=es:=by funext q;simp only[GS];grind
   rw[this]
   apply iM
   grind
  have hz:Rd s.M (.slice a' 0 k) (.sl ae f.size 0 λ_=>[]):=.sl 0 0 (λ_ _=>aj) (by omega) (by omega) (by simp) (λi hi=>by omega) (λh=>by omega) (λi hi=>by omega) (λi hi=>by omega)
  have K:=jc (P:=P) (ty:=o.type) hi hd U S h.elem hh (a:=a) PG hz;rw[QF];refine⟨.value (.slice a 0 cap),s,?_,?_,hh,.refl _ _,ey (jI hi hd U S h.elem hh PG hz)⟩
  .simp[K]
  .exact⟨lv,⟨a,a0,cap,H,rfl,PG,Td,Wy,GU,Wz⟩,(cr.1 hl).1,VR⟩
 rcases hh.box l _ L hl hL with⟨e,_⟩|⟨b,c1,vs,X,rfl,r,hz1,hz2,hz3,V,hM⟩
 .grind
 cases Y;have R:0<cap:=by omega
 obtain⟨b1,e1,rfl⟩:=Wz R;cases e1;have PH:H=cap:=by omega
 subst PH;rw[show b=b from rfl]
 have PI:vs.length=n*f.size:=V.len;have u:i+m<=H:=by omega
 have hik:i*f.size+m*f.size<=n*f.size:=by rw[<-gR];exact et _ ZG
 have hjk:j*f.size+m*f.size<=n*f.size:=by rw[<-gR];exact et _ hjm
 obtain⟨c1,c2⟩:=hh.zv (b:=b) (vs:=vs) hM (λq v J=>by
  simp only[a9,r]
  grind)
 let g:=(vs.drop (j*f.size)).take (m*f.size)
 have TC:g.length=m*f.size:=by grind
 have hng:∀ p,p<m*f.size->g[p]?=vs[j*f.size+p]?:=λp G=>by grind
 have M6:Flat s.M f.size m (λq=>es (j+q)) g:=by
  refine⟨TC,λq J=>V.width _ (by omega),λq J p c G=>?_⟩
  have hpk:p<f.size:=by have:=(cr.1 G).1;rw[V.width _ (by omega)] at this;exact this
  obtain⟨v,v1,v2⟩:=V.rd (j+q) (by omega) p c G
  refine⟨v,?_,v2⟩;have hq2:q*f.size+f.size<=m*f.size:=by rw[<-k9];exact et _ J
  grind
 have z:∀ v∈g,v.oneCell'=ab:=M6.cell;have VT:Rd (λA q=>if A=b then vs[q]? else s.M A q) (.slice a' m k) (.sl ae f.size m (I2 f.size λq p=>vs.getD ((j+q)*f.size+p) aj)):=by
  refine .sl b (j*f.size) (λq p=>vs.getD ((j+q)*f.size+p) aj) WA (by omega) (by simp) (λq _=>by simp[I2]) (λG=>?_) (λq J p c G=>?_) (λq J p c G=>?_)
  .grind
  .obtain⟨p1,_⟩:=pO G;have hq2:q*f.size+f.size<=m*f.size:=by rw[<-k9];exact et _ J
   grind
  .obtain⟨p1,rfl⟩:=pO G;obtain⟨c',WG⟩:∃ c',(es (j+q))[p]?=aa c':=⟨_,br (by rw[V.width _ (by omega)];exact p1)⟩
   obtain⟨v,v1,v2⟩:=V.rd (j+q) (by omega) p c' WG
   have e:vs.getD ((j+q)*f.size+p) aj=v:=by grind
   rw[e];exact .val v2.cell
 obtain⟨F,Nn,hf,N⟩:=dO (P:=P) (s:={ s with M:=λA q=>if A=b then vs[q]? else s.M A q }) c1 VT
 have hnn:F=g:=by
  apply iM
  intro p;have Bl:F.length=m*f.size:=Nn.len
  by_cases G:p<m*f.size
  .have hk:0<f.size:=by
    grind
   have J:p / f.size<m:=pE (by grind)
   have WH:p / f.size*f.size+p % f.size=p:=pG p f.size;obtain⟨v,v1,v2⟩:=Nn.rd _ J (p % f.size) _ (DF (jG _ hk));rw[WH] at v1;rw[v1,hng p G,Rd.fZ v2];rw[gR,uW,WH,ai,br (by omega)]
   rfl
  grind
 subst hnn;have No:=gN (P:=P) (s:={ s with M:=λA q=>if A=b then vs[q]? else s.M A q }) c1 VT (w:=s.w) rfl
 replace hf:(Builtin.firstCells f.size m (.slice a' m k)).run P s.w=.ok g.toArray s.w:=hf
 have abg:i*f.size+g.length<=(vs++X).length:=by grind
 have I:=run_storeCells_at P b (i*f.size) E g 0 (vs++X).toArray s.w r (by grind) z
 simp only[iO] at I;have QG:((vs++X).toArray.toList.take (i*f.size)++g++(vs++X).toArray.toList.drop (i*f.size+g.length))=vs.take (i*f.size)++g++vs.drop (i*f.size+g.length)++X:=by
  grind
 rw[QG] at I;have q2:=V.Tz M6 ZG;have he:(λq=>if i<=q/\q<i+m then (λq=>es (j+q)) (q-i) else es q)=GS i j m es:=rfl
 rw[he] at q2;obtain⟨t1,t2'⟩:=hh.ef hl hL hz1 hz2 hz3 r q2 (by grind) hM
 have B:(Builtin.lenOf (.slice a' m k)).run P s.w=.ok m s.w:=by rw[N];rfl
 have Z:(Builtin.lenOf (.slice a' m k)).events P s.w #[]=#[]:=by rw[N];rfl
 refine⟨.value (.slice (aa ⟨b,0*f.size,af⟩) (i+m) H),_,?_,?_,t1,t2',ey ?_⟩
 .have K:(Builtin.append_ #[t,t2] o.type #[.slice (aa ⟨b,0*f.size,af⟩) i H,.slice a' m k]).run P s.w=.ok (.slice (aa ⟨b,0*f.size,af⟩) (i+m) H) (s.w.setRow b (vs.take (i*f.size)++g++vs.drop (i*f.size+g.length)++X).toArray):=by
   unfold Builtin.append_;simp only[iJ,kX,mN,bY,hu,W,b9,h.elem.run_sizeOf,cY,jE,cd,B,u,cu,ic,hf,dj,Nat.zero_mul,bt,I]
  grind [bY,b9,cY]
 .exact⟨.slice (aa ⟨b,0,af⟩) 0 H,⟨_,_,H,H,rfl,u,by omega,Wy,rfl,λ_=>⟨b,rfl,rfl⟩⟩,by grind,λE2 k2 n2 Nm VU=>by
   rw[fI (cr.1 hl).1] at VU;cases VU;exact⟨bg _,λ_=>⟨_,hL,rfl⟩⟩⟩
 .intro e Q;unfold Builtin.append_ at Q;simp only[iJ,kX,mN,aO,bY,hu,W,aU,h.elem.run_sizeOf,cY,jE,cd,B,Z,u,cu,ic,hf,dj,Nat.zero_mul,bt,I,
   pL,Sem.events_ite,events_underlying,events_sizeOf,Sem.events_pure] at Q
  rcases eE g 0 (vs++X).toArray s.w _ r (by grind) z e Q with h3|⟨p,_,_,rfl⟩
  .have h4:eZ { s with M:=λA q=>if A=b then vs[q]? else s.M A q } #[e]:=eZ.one (sU (No e h3))
   exact h4.vp (b:=b) hLm (by simp) c2 (λA q v hv=>by
    grind) e (by simp)
  grind [mn]
section
variable {P:aq}{T:List (Nat×TI)}{o:aw}{d:an->D}{σ:List aV}
def bH.slice3B(K:dg P T){t:ar}{x w y z:an}(h:o.op=.slice t x (aa w) (aa y) (aa z)){H G:TI}{E:ar}(I:bF T t=aa H)(N:H.desc=.slice E)(Y:bF T E=aa G){l g k q n:Nat}{v u A:IntKind}{i j m:Int}
  (S:d x=.e (.one (.bp l (.sl g k q n)))) (V:d w=.e (.one (.c (.int v i)))) (U:d y=.e (.one (.c (.int u j)))) (X:d z=.e (.one (.c (.int A m)))) (Z:0<=i) (h1:i<=j) (h2:j<=m) (h3:m<=n):bH P o d σ (.e (.one .any)) σ:=by
 refine .quiet λst ρ hh hr=>?_
 have s:=hr x;rw[S] at s
 change gw σ st (ρ x) (.bp l _) at s
 obtain⟨lv,⟨a,a0,cap,c0,J,R,O,M,L,W⟩,_,_⟩:=s;have r:=hr w;rw[V] at r
 replace r:=fy r
 generalize C:ρ w=vw at r;cases r;have b:=hr y;rw[U] at b
 replace b:=fy b
 generalize B:ρ y=vy at b;cases b;have p:=hr z;rw[X] at p
 replace p:=fy p
 generalize F:ρ z=vz at p;cases p;have f:=(K t H I).run_underlying (w:=st.w);rw[N] at f;have hb:(Instr.sliceBounds ab n cap (aa (.int v i)) (aa (.int u j)) (aa (.int A m))).run P st.w=.ok (i.toNat,j.toNat,m.toNat) st.w:=by
  simp[Instr.sliceBounds,run_sliceBound (P:=P) st.w A m cap _ (by omega) (by omega),run_sliceBound (P:=P) st.w u j m.toNat _ (by omega) (by omega),run_sliceBound (P:=P) st.w v i j.toNat _ (by omega) (by omega)]
 have Q:(Instr.sliceBounds ab n cap (aa (.int v i)) (aa (.int u j)) (aa (.int A m))).events P st.w #[]=#[]:=by
  simp[Instr.sliceBounds,run_sliceBound (P:=P) st.w A m cap _ (by omega) (by omega),run_sliceBound (P:=P) st.w u j m.toNat _ (by omega) (by omega),run_sliceBound (P:=P) st.w v i j.toNat _ (by omega) (by omega),
   eF (P:=P) st.w A m cap _ (by omega) (by omega),eF (P:=P) st.w u j m.toNat _ (by omega) (by omega),eF (P:=P) st.w v i j.toNat _ (by omega) (by omega)]
 refine⟨.slice (if m.toNat=i.toNat then a else a.map (·.add (i.toNat*G.size))) (j.toNat-i.toNat) (m.toNat-i.toNat),?_,rfl,by simp[ay,h,J,C,B,F,Instr.sliceAt,f,Instr.slice,hb,Q]⟩
 simp[ay,h,J,C,B,F,Instr.sliceAt,f,Instr.slice,hb,(K E G Y).run_sizeOf]
end
section drop
variable {σ1 rest:List aV}{s:St}
def St.cut(s:St)(n:Nat):St:={ s with β:=s.β.take n }
def gw.drop{v:ak}{a:A}(r:gw (σ1++rest) s v a)(d:G1 σ1.length a=ab):gw σ1 (s.cut σ1.length) v a:=by
 have lt:∀ {l:Nat},bo (l+1) σ1.length=ab->l<σ1.length:=λh=>db h
 cases a with
 |c x=>exact r
 |any=>exact r
 |ptr l o =>
  have hl:=lt d;obtain⟨g,L,b,p,f⟩:=r;refine⟨λB j=>g B (by grind),L,b,?_,f⟩
  simp only[St.cut,gQ,hl,cu];exact p
 |ref l =>
  have hl:=lt d;obtain⟨g,L,p,f⟩:=r;refine⟨λB j=>g B (by grind),L,?_,f⟩
  simp only[St.cut,gQ,hl,cu];exact p
 |bp l w =>
  have hl:=lt d;obtain⟨lv,g,_,f⟩:=r;refine⟨lv,g,hl,λE k' n' es' j=>?_⟩
  obtain⟨h1,h2⟩:=f E k' n' es' (by grind)
  refine⟨h1,λe=>?_⟩
  obtain⟨L,m,i⟩:=h2 e;refine⟨L,?_,i⟩;simp only[St.cut,gQ,hl,cu];exact m
 |vec l k n es =>
  have hl:=lt d;obtain⟨g,_,f⟩:=r;refine⟨g,hl,λE k' n' es' j=>?_⟩
  obtain⟨h1,h2⟩:=f E k' n' es' (by grind)
  refine⟨h1,λe=>?_⟩
  obtain⟨L,m,i⟩:=h2 e;refine⟨L,?_,i⟩;simp only[St.cut,gQ,hl,cu];exact m
def dW.uD:∀ {vs:List ak}{cs:List A},dW (σ1++rest) s vs cs->DU σ1.length cs=ab->dW σ1 (s.cut σ1.length) vs cs
 |[],[],_,_=>trivial
 |[],_::_,r,_=>r.elim
 |_::_,[],r,_=>r.elim
 |v::vs,c::cs,r,h=>by
  simp only[DU] at h;cases a:G1 σ1.length c with
  |false=>grind
  |true=>simp only[a] at h;exact⟨r.1.drop a,dW.uD r.2 h⟩
def mY.uD{v:ak}{e:E1}(r:mY (σ1++rest) s v e)(h:Js σ1.length e=ab):mY σ1 (s.cut σ1.length) v e:=by
 cases e with
 |one a=>exact gw.drop r h
 |agg cs=>obtain⟨vs,h1,h2⟩:=r;exact⟨vs,h1,dW.uD h2 h⟩
def gJ.uD:∀ {vs:List ak}{cs:List E1},gJ (σ1++rest) s vs cs->xG σ1.length cs=ab->gJ σ1 (s.cut σ1.length) vs cs
 |[],[],_,_=>trivial
 |[],_::_,r,_=>r.elim
 |_::_,[],r,_=>r.elim
 |v::vs,c::cs,r,h=>by
  simp only[xG] at h;cases a:Js σ1.length c with
  |false=>grind
  |true=>simp only[a] at h;exact⟨mY.uD r.1 a,gJ.uD r.2 h⟩
def dc.drop{v:ak}{d:D}(r:dc (σ1++rest) s v d)(h:u7 σ1.length d=ab):dc σ1 (s.cut σ1.length) v d:=by
 cases d with
 |e x=>exact mY.uD r h
 |eK xs=>obtain⟨vs,h1,h2⟩:=r;exact⟨vs,h1,gJ.uD h2 h⟩
 |any=>trivial
def cD.drop{σ0:List aV}{s0:St}(st:cD σ0 s0 (σ1++rest) s)(a:σ0.length<=σ1.length):cD σ0 s0 σ1 (s.cut σ1.length):=by
 refine⟨st.size,st.eN,st.mem,st.jz,λL c b hb=>st.xC L (iK c) b hb,?_,st.os,st.tape,st.output,st.own⟩
 intro l B L d c;obtain⟨B',L',h1,h2,e⟩:=st.box l B L d c;have hl:l<σ1.length:=cG (cr.1 d).1 a;rw[jD hl] at h1;exact⟨B',L',h1,by simp only[St.cut,gQ,hl,cu];exact h2,e⟩
def gw.rS{σ:List aV}{v:ak}{a:A}(hl:s.β.length=σ.length)(r:gw σ s v a):G1 σ.length a=ab:=by
 have ok:∀ {l:Nat},l<σ.length->bo (l+1) σ.length=ab:=λh=>qZ h
 have lt:∀ {l:Nat} {L:Loc},s.β[l]?=aa L->l<σ.length:=λh=>by grind
 cases a with
 |c x=>rfl
 |any=>rfl
 |ptr l o=>obtain⟨_,L,b,d,_⟩:=r;exact ok (lt d)
 |ref l=>obtain⟨_,L,d,_⟩:=r;exact ok (lt d)
 |bp l w=>obtain⟨lv,_,h,_⟩:=r;exact ok h
 |vec l k n es=>exact ok r.2.1
def dW.rS{σ:List aV}(hl:s.β.length=σ.length):∀ {vs:List ak}{cs:List A},dW σ s vs cs->DU σ.length cs=ab
 |[],[],_=>rfl
 |[],_::_,r=>r.elim
 |_::_,[],r=>r.elim
 |v::vs,c::cs,r=>by simp only[DU,r.1.rS hl];exact dW.rS hl r.2
def mY.rS{σ:List aV}(hl:s.β.length=σ.length){v:ak}{e:E1}(r:mY σ s v e):Js σ.length e=ab:=by
 cases e with
 |one a=>exact gw.rS hl r
 |agg cs=>obtain⟨vs,_,h⟩:=r;exact dW.rS hl h
def gJ.rS{σ:List aV}(hl:s.β.length=σ.length):∀ {vs:List ak}{cs:List E1},gJ σ s vs cs->xG σ.length cs=ab
 |[],[],_=>rfl
 |[],_::_,r=>r.elim
 |_::_,[],r=>r.elim
 |v::vs,c::cs,r=>by simp only[xG,mY.rS hl r.1];exact gJ.rS hl r.2
def dc.rS{σ:List aV}(hl:s.β.length=σ.length){v:ak}{d:D}(r:dc σ s v d):u7 σ.length d=ab:=by
 cases d with
 |e x=>exact mY.rS hl r
 |eK xs=>obtain⟨vs,_,h⟩:=r;exact gJ.rS hl h
 |any=>rfl
def aJ.PT{s0:St}{σ0:List aV}(j:aJ σ0 s0)(a:σ0.length=σ1.length)(v:∀ (l:Nat)(B:aV),σ1[l]?=aa B->(∃ E cs,B=.cells E cs/\DU σ1.length cs=ab)∨σ0[l]?=aa B)(h:aJ (σ1++rest) s):aJ σ1 (s.cut σ1.length):=by
 have hl:σ1.length<=s.β.length:=by rw[h.len];simp
 refine⟨h.mem,by simp[St.cut,hl],?_,?_,?_,λb hb=>⟨(h.own b hb).1,λL d=>(h.own b hb).2 L (iK d)⟩⟩
 .intro l B L u d;have m:l<σ1.length:=(cr.1 u).1;simp only[St.cut,gQ,m,cu] at d;have c:=h.box l B L (by grind) d
  have i:∃ q,s0.β[l]?=aa q:=⟨_,br (by rw[j.len,a];exact m)⟩
  obtain⟨q,i⟩:=i;have f:=(v l B u).imp_right λh=>j.box l B q h i
  have y:=j.len.trans a;cases B with
  |cells E cs =>
   obtain⟨b,vs,h1,h2,p,o⟩:=c;refine⟨b,vs,h1,h2,dW.uD p ?_,o⟩;rcases f with⟨_,_,e,f⟩|⟨_,_,_,_,g3,_⟩
   .grind
   .exact a▸g3.rS j.len
  |vec E k n es=>exact c
  |dD H=>exact c
  |dead=>trivial
  |loop N φ r =>
   obtain⟨l',tmps,fn,w,h1,h2,p,o,x⟩:=c;rcases f with⟨_,_,e,_⟩|⟨_,_,_,_,_,_,_,g4,_⟩
   .cases e
   .exact⟨l',tmps,fn,w,h1,h2,p,λt=>(o t).drop (a▸(g4 t).rS j.len),x⟩
  |qV=>exact c
  |buf E k n es=>exact c
 .intro l l' L L' d g b hb oO;simp only[St.cut,gQ] at d g;split at d <;> split at g <;> first|exact h.gg l l' L L' d g b hb oO|grind|grind
 .intro L d b hb;exact h.lt L (iK d) b hb
def aJ.T6{s0:St}(a:aJ σ1 s0)(h:aJ (σ1++rest) s):aJ σ1 (s.cut σ1.length):=a.PT rfl (λ_ _ h=>.inr h) h
def OA.BE{P:aq}{X:Cx P}{N:Nat}{all:List aw}{o:aw}{φ:Fr}{σ:List aV}{E:ar}{k n:Nat}{es:Nat->List C}(h:OA X N all o φ σ (.e (.one (.vec σ.length k n es))) (σ++[.vec E k n es])):OA X N all o φ σ (.e (.one (.c (.sl ae k n es)))) σ:=by
 intro s a f hh b kk cs S i rest hb hi hK;refine h s a f hh b kk cs S i rest hb hi λv s' hv lb st=>?_
 have d:eR s' (s'.cut σ.length):=⟨rfl,λ_ _ _ h=>h,λ_ _ _=>rfl,lb.mem,λb hb=>hb.imp id λ⟨L,g,hb⟩=>⟨L,iK g,hb⟩⟩
 exact .ghost d (hK v (s'.cut σ.length) hv.1 (hh.T6 lb) (st.drop (bg _)))
end drop
end
end Go.AM
