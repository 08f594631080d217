/- Part 1. No condition. -/
import Derived.Tactics2
import Derived.LaidSub
import Derived.LaidLaws
import Derived.LaidHandle
import Derived.Conc.Own
import Derived.Conc.Events
import Derived.Conc.Listed
import Derived.Laws.CopyRow
import Derived.Laws.AppendOwn
import Derived.Laws.Rows
import Derived.Laws.Strings
import Derived.Laws.Cells
import Derived.Lib.Strings
import Derived.Laws.Slices
import Derived.Laws.StructEq
import Derived.Orders
set_option linter.all false
set_option maxHeartbeats 8000000
open Go.Conc (G)
open Go renaming Value → ai, TypeId → av, undef → ah, Operand → aB, execOp → aq, World → ay, Program → aJ, Oper → aC, Goroutine → ar, stepG → aG, Frame → aX, FuncId → aH
open Option renaming some → aa, none → ae
open Bool renaming true → ab, false → af
open Go.World renaming cell? → aP
open List renaming getD_eq_getElem?_getD → aj, range → bc
open Go.Sem renaming events_bind → aR
open Go.Result renaming evThen_ok → aV
open Go.Instr renaming sliceBounds → bk, sureAddr → bt
open Go.Region renaming wanted → bl, ready → ba
open Nat renaming beq → aw, ble → bD
open Go.Op renaming equalIn → aZ, bytesLess → bq
set_option linter.defProp false
set_option linter.deprecated false
namespace Go
def ak:=@_root_.trivial
def bn:=@_root_.List.getElem?_eq_getElem
def a9:=@_root_.decide_eq_true_eq
def aD:=@_root_.and_true
def bR:=@_root_.decide_eq_false_iff_not
def bX:=@_root_.List.getElem?_eq_some_iff
def aF:=@_root_.true_and
def bP:=@_root_.List.mem_of_getElem?
def bY:=@_root_.Nat.eq_of_beq_eq_true
def b9:=@_root_.Int.toNat_natCast
def bh:=@_root_.Nat.le_refl
def bM:=@_root_.Bool.and_eq_true
def bF:=@_root_.Nat.zero_add
def cu:=@_root_.Go.Result.andThen_ok
def ef:=@_root_.Array.getD_eq_getD_getElem?
def cW:=@_root_.List.length_append
def dr:=@_root_.Nat.le_of_ble_eq_true
def c9:=@_root_.Nat.lt_of_lt_of_le
def bT:=@_root_.Go.Sem.run_bind
def dD:=@_root_.List.getElem_of_mem
def dn:=@_root_.Option.some.injEq
def aY:=@_root_.if_neg
def dt:=@_root_.List.take_length
def de:=@_root_.decide_eq_true
def bo:=@_root_.if_pos
def eP:=@_root_.Nat.mul_le_mul_right
def cN:=@_root_.Nat.lt_or_ge
def gp:=@_root_.List.getElem?_append_right
def eF:=@_root_.beq_eq_false_iff_ne
def gq:=@_root_.Array.getElem?_eq_getElem
def gu:=@_root_.List.getElem?_set_self
def fN:=@_root_.List.mem_of_mem_take
def iJ:=@_root_.Array.getElem?_eq_some_iff
def jF:=@_root_.List.eq_nil_of_length_eq_zero
def dE:=@_root_.Go.Sem.run_pure
def eb:=@_root_.List.mem_cons
def fx:=@_root_.not_true_eq_false
def cg:=@_root_.if_false
def fO:=@_root_.List.mem_singleton
def fb:=@_root_.List.length_cons
def jG:=@_root_.List.pairwise_iff_getElem
def jH:=@_root_.List.getElem?_append_left
def fy:=@_root_.Nat.not_lt_zero
def fz:=@_root_.List.mem_append
def b6:=@_root_.if_true
def iK:=@_root_.List.length_singleton
def iL:=@_root_.List.getElem?_toArray
def gL:=@_root_.List.getElem?_take
def jI:=@_root_.List.getElem?_cons_zero
def gM:=@_root_.of_decide_eq_true
def gv:=@_root_.Option.getD_some
def jJ:=@_root_.List.take_append_drop
def gN:=@_root_.List.mem_filter
def gO:=@_root_.List.length_nil
def fP:=@_root_.Bool.true_and
def jK:=@_root_.Array.length_toList
def ji:=@_root_.List.ext_getElem?
def jL:=@_root_.List.pairwise_cons
def iw:=@_root_.List.append_nil
def dH:=@_root_.congrArg
def kL:=@_root_.List.getElem?_set_ne
def iM:=@_root_.decide_eq_false
def jZ:=@_root_.Bool.false_eq_true
def nw:=@_root_.Array.getElem?_replicate
def j0:=@_root_.Bool.not_eq_true'
def gQ:=@_root_.List.mem_map
def rQ:=@_root_.List.findIdx?_eq_some_iff_getElem
def j1:=@_root_.beq_self_eq_true
def jM:=@_root_.List.length_map
def jN:=@_root_.List.foldl_cons
def lM:=@_root_.List.mem_cons_self
def j3:=@_root_.Bool.or_eq_true
def ox:=@_root_.List.getElem?_cons_succ
def lN:=@_root_.List.take_add_one
def gw:=@_root_.beq_iff_eq
def iN:=@_root_.Nat.le_trans
def iO:=@_root_.Nat.add_zero
def mm:=@_root_.List.append_assoc
def wS:=@_root_.Array.getElem?_setIfInBounds_self_of_lt
def ny:=@_root_.Nat.eq_zero_or_pos
def iP:=@_root_.Nat.add_mul
def oy:=@_root_.List.mem_iff_getElem
def rR:=@_root_.Array.mapM_eq_mapM_toList
def nA:=@_root_.List.getElem?_map
def rS:=@_root_.Option.isSome_iff_exists
def kM:=@_root_.Bool.not_true
def j4:=@_root_.Nat.beq_refl
def pH:=@_root_.List.mem_cons_of_mem
def pJ:=@_root_.Array.toArray_toList
def oz:=@_root_.not_false_eq_true
def oA:=@_root_.bne_self_eq_false
def rU:=@_root_.Option.map_eq_some_iff
def wT:=@_root_.Array.getElem?_setIfInBounds_ne
def dz:=@_root_.ne_eq
def rV:=@_root_.List.getElem?_eq_none
def oB:=@_root_.Option.bind_some
def oC:=@_root_.List.getElem_mem
def pK:=@_root_.List.getElem?_drop
def mn:=@_root_.Prod.mk.injEq
def lO:=@_root_.Nat.succ_mul
def jc:=@_root_.Nat.zero_le
def oE:=@_root_.List.mem_of_mem_drop
def l4:=@_root_.Option.some.inj
def l5:=@_root_.Option.map_some
def jd:=@_root_.Nat.mod_lt
def l6:=@_root_.List.mapM_cons
def qx:=@_root_.Bool.and_eq_false_iff
def qy:=@_root_.Array.mem_of_getElem?
def sK:=@_root_.List.mem_of_find?_eq_some
def mV:=@_root_.List.nil_append
def j5:=@_root_.decide_true
def k9:=@_root_.decide_false
def qz:=@_root_.Nat.div_lt_of_lt_mul
def qA:=@_root_.List.pairwise_append
def qB:=@_root_.Bool.or_eq_false_iff
def qC:=@_root_.List.map_congr_left
def oF:=@_root_.List.not_mem_nil
def mW:=@_root_.List.mem_range
def oG:=@_root_.Bool.not_eq_true
def l7:=@_root_.Nat.sub_zero
def qD:=@_root_.Nat.add_sub_cancel
def qE:=@_root_.List.find?_eq_none
def qF:=@_root_.Int.emod_lt_of_pos
def qG:=@_root_.Bool.not_eq_false'
def oH:=@_root_.UInt8.toNat_inj
def sL:=@_root_.Nat.ble_eq_true_of_le
def oI:=@_root_.Bool.not_false
def qH:=@_root_.Nat.div_add_mod'
def qI:=@_root_.List.mem_nil_iff
def qJ:=@_root_.List.mem_flatMap
def sM:=@_root_.Int.toNat_of_nonneg
def jy:=@_root_.or_false
def wa:=@_root_.Nat.lt_succ_iff_lt_or_eq
def qK:=@_root_.Int.emod_nonneg
def qL:=@_root_.Bool.eq_iff_iff
def l8:=@_root_.bne_iff_ne
def wc:=@_root_.Nat.le_mul_of_pos_right
def we:=@_root_.List.range_succ_eq_map
def sO:=@_root_.List.flatMap_cons
def wh:=@_root_.List.drop_eq_nil_of_le
def mX:=@_root_.Nat.not_lt
def sQ:=@_root_.List.length_drop
def AA:=@_root_.List.find?_eq_some_iff_getElem
def sR:=@_root_.List.ext_getElem
def sS:=@_root_.List.cons_append
def qM:=@_root_.List.map_cons
def wi:=@_root_.Nat.mul_le_mul_left
def wj:=@_root_.Option.isSome_some
def sT:=@_root_.Bool.false_and
def AB:=@_root_.List.findIdx?_eq_none_iff
def AD:=@_root_.List.drop_eq_getElem_cons
def AE:=@_root_.Nat.add_sub_cancel_left
def wm:=@_root_.List.drop_length
def AF:=@_root_.Array.getElem?_eq_none
def AG:=@_root_.Array.getElem?_toList
def AH:=@_root_.List.getElem?_of_mem
def sU:=@_root_.Int.le_refl
def AI:=@_root_.Nat.add_sub_cancel'
def AJ:=@_root_.List.filter_eq_self
def sV:=@_root_.Go.Sem.run_ite
end Go
namespace Go.AM
inductive C where
  | int (k:IntKind) (n:Int)
  | bool (b:Bool)
  | str (s:List UInt8)
  | sl (tight:Bool) (k n:Nat) (es:Nat->List C)
  | rp (cs:List C)
  | iD
  | ifs (t:av) (c:C)
  | J0 (t:av) (cs:List C)
  | jk
  | fn (f:Fn) (first cap:List C)
  | za
  | val (x:ai)
inductive BP where
  | sl (g k o n:Nat)
  | el (g k i f:Nat)
def BP.g:BP->Nat
  | .sl g _ _ _=>g
  | .el g _ _ _=>g
def BP.K:BP->ai->ai->Prop
  | .sl _ k o n,lv,v=>∃a a0 cap c0,v=.slice a n cap/\n<=cap/\o+cap=c0/\c0<=9223372036854775807/\lv=.slice a0 0 c0/\(0<cap->∃b,a0=aa ⟨b,0,ae⟩/\a=aa ⟨b,o*k,ae⟩)
  | .el _ k i f,lv,v=>∃b c0,lv=.slice (aa ⟨b,0,ae⟩) 0 c0/\v=.pointer (aa ⟨b,i*k+f,ae⟩)
inductive A where
  | c (x:C)
  | ptr (l off:Nat)
  | vec (l k n:Nat) (es:Nat->List C)
  | ref (l:Nat)
  | bp (l:Nat) (w:BP)
  | any
abbrev A.v(x:ai):A:=.c (.val x)
inductive E1 where
  | one (a:A)
  | agg (cs:List A)
inductive D where
  | e (x:E1)
  | fD (xs:List E1)
  | any
abbrev Fr:=List (Nat×D)
def look:Fr->Nat->D
  | [],_=>.any
  | (i,d)::r,t=>cond (aw i t) d (look r t)
inductive bg where
  | cells (E:av) (cs:List A)
  | vec (E:av) (k n:Nat) (es:Nat->List C)
  | cj (H:ai->(Nat->Option Obj)->Prop)
  | dead
  | loop (N:Nat) (φ:Fr) (r:Loop)
  | rX
  | buf (E:av) (k n:Nat) (es:Nat->List C)
@[simp] def bg.gr:bg->Bool
  | .vec _ _ _ _=>ab
  | .buf _ _ _ _=>ab
  | _=>af
structure Loc where
  v:ai
  bs:List Nat
abbrev Mem:=Nat->Nat->Option ai
structure St where
  β:List Loc
  M:Mem
  w:ay
  own:Nat->Prop
def bE:IntKind->Int->Prop
  | .i8,n=>-128<=n/\n<=127
  | .i16,n=>-32768<=n/\n<=32767
  | .i32,n=>-2147483648<=n/\n<=2147483647
  | .i64,n=>-9223372036854775808<=n/\n<=9223372036854775807
  | .u8,n=>0<=n/\n<=255
  | .u16,n=>0<=n/\n<=65535
  | .u32,n=>0<=n/\n<=4294967295
  | .u64,n=>0<=n/\n<=18446744073709551615
def cO:ai->Bool
  | .agg _|.tuple _=>af
  | _=>ab
def BP.K.cell{w:BP}{lv v:ai}(h:w.K lv v):cO v=ab:=by
  cases w with
  | sl=>obtain⟨_,_,_,_,rfl,_⟩:=h;rfl
  | el=>obtain⟨_,_,_,rfl⟩:=h;rfl
inductive Rd (M:Mem):ai->C->Prop
  | int {k:IntKind} {n:Int} (h:bE k n):Rd M (.int k n) (.int k n)
  | bool {b:Bool}:Rd M (.bool b) (.bool b)
  | str {s:ByteArray} {l:List UInt8} (h:s.data.toList=l) (hl:l.length<=9223372036854775807):Rd M (.string s) (.str l)
  | sl {a:Option Addr} {n cap:Nat} {tight:Bool} {k:Nat} {es:Nat->List C} (b off:Nat) (f:Nat->Nat->ai)
      (E6:n<=cap) (hb:cap<=9223372036854775807) (ht:tight=ab->cap=n) (hk:∀i,i<n->(es i).length=k)
      (ha:0<n->a=aa ⟨b,off,ae⟩)
      (hm:∀i,i<n->∀j c,(es i)[j]?=aa c->M b (off+i*k+j)=aa (f i j))
      (hr:∀i,i<n->∀j c,(es i)[j]?=aa c->Rd M (f i j) c):Rd M (.slice a n cap) (.sl tight k n es)
  | rp {cs:List C} (b off:Nat) (f:Nat->ai)
      (hm:∀j c,cs[j]?=aa c->M b (off+j)=aa (f j))
      (hr:∀j c,cs[j]?=aa c->Rd M (f j) c):Rd M (.pointer (aa ⟨b,off,ae⟩)) (.rp cs)
  | iD:Rd M (.pointer ae) .iD
  | ifs {t:av} {v:ai} {c:C} (h:Rd M v c) (hc:cO v=ab):Rd M (.iface t v) (.ifs t c)
  | J0 {t:av} {vs:List ai} {cs:List C} (hl:vs.length=cs.length)
      (f:Nat->ai) (hf:∀j,j<vs.length->vs[j]?=aa (f j)) (hr:∀j c,cs[j]?=aa c->Rd M (f j) c):Rd M (.iface t (.agg vs.toArray)) (.J0 t cs)
  | jk:Rd M .nilIface .jk
  | fn {g:Fn} {first cap:List C} (fs cs:List ai) (hl:fs.length=first.length) (ES:cs.length=cap.length) (f1 f2:Nat->ai)
      (h1:∀j,j<fs.length->fs[j]?=aa (f1 j)) (h2:∀j,j<cs.length->cs[j]?=aa (f2 j))
      (r1:∀j c,first[j]?=aa c->Rd M (f1 j) c) (r2:∀j c,cap[j]?=aa c->Rd M (f2 j) c):Rd M (.func g fs.toArray cs.toArray) (.fn g first cap)
  | za:Rd M .nilFunc .za
  | val {x:ai} (h:cO x=ab):Rd M x (.val x)
theorem Rd.eu{M:Mem}{v x:ai}(h:Rd M v (.val x)):v=x:=by cases h;rfl
def Rd.cell{M:Mem}{v:ai}{c:C}(h:Rd M v c):cO v=ab:=by cases h<;>first|rfl|assumption
def Rd.mono{M M':Mem}(d:∀b o v,M b o=aa v->M' b o=aa v){v:ai}{c:C}(h:Rd M v c):Rd M' v c:=by
  induction h with
  | int h=>exact .int h
  | bool=>exact .bool
  | str h hl=>exact .str h hl
  | sl b off f a g l hk ha hm hr ih =>
    exact .sl b off f a g l hk ha (λi hi j c hj=>d _ _ _ (hm i hi j c hj)) (λi hi j c hj=>ih i hi j c hj)
  | rp b off f hm hr ih=>exact .rp b off f (λj c hj=>d _ _ _ (hm j c hj)) (λj c hj=>ih j c hj)
  | iD=>exact .iD
  | ifs h k ih=>exact .ifs ih k
  | J0 hl f e hr ih=>exact .J0 hl f e (λj c hj=>ih j c hj)
  | jk=>exact .jk
  | fn fs cs hl ES f1 f2 h1 h2 r1 r2 ih1 ih2=>exact .fn fs cs hl ES f1 f2 h1 h2 (λj c hj=>ih1 j c hj) (λj c hj=>ih2 j c hj)
  | za=>exact .za
  | val h=>exact .val h
def gH(σ:List bg)(s:St)(v:ai):A->Prop
  | .c x=>Rd s.M v x
  | .ptr l off=>(∀B,σ[l]?=aa B->B.gr=af)/\∃L b,s.β[l]?=aa L/\L.v=.pointer (aa ⟨b,0,ae⟩)/\v=.pointer (aa ⟨b,off,ae⟩)
  | .vec l k n es=>Rd s.M v (.sl af k n es)/\l<σ.length/\∀E k' n' es',σ[l]?=aa (bg.vec E k' n' es')->n<=n'/\(n'=n->∃L,s.β[l]?=aa L/\v=L.v)
  | .ref l=>(∀B,σ[l]?=aa B->B.gr=af)/\∃L,s.β[l]?=aa L/\v=L.v/\cO v=ab
  | .bp l w=>∃a,w.K a v/\l<σ.length/\∀E k n es,σ[l]?=aa (bg.buf E k n es)->w.g<=n/\(w.g=n->∃L,s.β[l]?=aa L/\L.v=a)
  | .any=>cO v=ab
def er(σ:List bg)(s:St):List ai->List A->Prop
  | [],[]=>True
  | v::vs,a::al=>gH σ s v a/\er σ s vs al
  | _,_=>False
def ow(σ:List bg)(s:St)(v:ai):E1->Prop
  | .one a=>gH σ s v a
  | .agg cs=>∃vs:List ai,v=.agg vs.toArray/\er σ s vs cs
def im(σ:List bg)(s:St):List ai->List E1->Prop
  | [],[]=>True
  | v::vs,a::al=>ow σ s v a/\im σ s vs al
  | _,_=>False
def du(σ:List bg)(s:St)(v:ai):D->Prop
  | .e x=>ow σ s v x
  | .fD xs=>∃vs:List ai,v=.tuple vs.toArray/\im σ s vs xs
  | .any=>True
def cp(σ:List bg)(s:St):List ai->List D->Prop
  | [],[]=>True
  | v::vs,a::al=>du σ s v a/\cp σ s vs al
  | _,_=>False
structure Flat(M:Mem)(k n:Nat)(es:Nat->List C)(vs:List ai):Prop where
  len:vs.length=n*k
  width:∀i,i<n->(es i).length=k
  rd:∀i,i<n->∀(j:Nat) (c:C),(es i)[j]?=aa c->∃v,vs[i*k+j]?=aa v/\Rd M v c
def Flat.mono{M M':Mem}(a:∀b o v,M b o=aa v->M' b o=aa v){k n:Nat}{es:Nat->List C}{vs:List ai}(h:Flat M k n es vs):Flat M' k n es vs :=
  ⟨h.len,h.width,λi hi j c hj=>let ⟨v,h1,h2⟩:=h.rd i hi j c hj;⟨v,h1,h2.mono a⟩⟩
def eG(σ:List bg)(s:St):bg->Loc->Prop
  | .cells E cs,L=>∃b vs,L=⟨.pointer (aa ⟨b,0,ae⟩),[b]⟩/\s.w.heap[b]?=aa (.cells (List.toArray vs) E (0,0))/\er σ s vs cs/\∀o,s.M b o=ae
  | .vec E k n es,L=>Rd s.M L.v (.sl af k n es) /\
      (((L.bs=[]/\n=0)/\Rd s.M L.v (.sl ab k n es)) ∨
       ∃b cap vs,L=⟨.slice (aa ⟨b,0,ae⟩) n cap,[b]⟩/\s.w.heap[b]?=aa (.cells (List.toArray vs) E (0,0))/\vs.length=cap*k/\∀o,n*k<=o->s.M b o=ae)
  | .cj H,L=>∃c,H L.v c/\(∀(b:Nat) (o:Obj),c b=aa o->s.w.heap[b]?=aa o)/\(∀b,b∈L.bs↔(c b).isSome=ab)/\∀b∈L.bs,∀o,s.M b o=ae
  | .dead,_=>True
  | .loop N φ r,L=>∃l tmps fn df,L=⟨.func (.yield l) #[] #[],[l]⟩/\s.w.heap[l]?=aa (.loop {r with tmps:=tmps,fn:=fn,defers:=df})/\tmps.size=N/\(∀t,du σ s (tmps.getD t ah) (look φ t))/\∀o,s.M l o=ae
  | .rX,L=>∃r:Nat,L=⟨.int .i64 r,[r]⟩/\s.w.heap[r]?=aa (.deferred (aa []))/\∀o,s.M r o=ae
  | .buf E k n es,L=>(n=0/\L=⟨.slice ae 0 0,[]⟩)∨∃b a vs zs,L=⟨.slice (aa ⟨b,0,ae⟩) 0 a,[b]⟩/\s.w.heap[b]?=aa (.cells (List.toArray (vs++zs)) E (0,0))/\(vs++zs).length=a*k/\n<=a/\a<=9223372036854775807/\Flat s.M k n es vs/\∀o,s.M b o=ae
structure aE(σ:List bg)(s:St):Prop where
  mem:∀b o v,s.M b o=aa v->s.w.cell? ⟨b,o,ae⟩=aa v
  len:s.β.length=σ.length
  box:∀(l:Nat) (B:bg) (L:Loc),σ[l]?=aa B->s.β[l]?=aa L->eG σ s B L
  eO:∀(l l':Nat) (L L':Loc),s.β[l]?=aa L->s.β[l']?=aa L'->∀b∈L.bs,b∈L'.bs->l=l'
  lt:∀L∈s.β,∀b∈L.bs,b<s.w.heap.size
  own:∀b,s.own b->b<s.w.heap.size/\∀L∈s.β,b∉L.bs
def gR:bg->Loc->bg->Loc->Prop
  | .vec _ _ n _,L,.vec _ _ a _,L'=>(a=n->L'.v=L.v)/\n<=a
  | .vec _ _ _ _,_,.dead,_=>True
  | .vec _ _ _ _,_,_,_=>False
  | .buf _ _ n _,L,.buf _ _ a _,L'=>(a=n->L'.v=L.v)/\n<=a
  | .buf _ _ _ _,_,.dead,_=>True
  | .buf _ _ _ _,_,_,_=>False
  | _,_,.vec _ _ _ _,_=>False
  | _,_,.buf _ _ _ _,_=>False
  | .dead,L,.dead,L'=>L'.v=L.v
  | .dead,_,_,_=>False
  | .rX,L,.rX,L'=>L'.v=L.v
  | .rX,_,_,_=>False
  | _,_,.rX,_=>False
  | _,L,_,L'=>L'.v=L.v
structure Ext(σ:List bg)(s:St)(σ':List bg)(s':St):Prop where
  mem:∀b o v,s.M b o=aa v->s'.M b o=aa v
  box:∀(l:Nat) (B:bg) (L:Loc),σ[l]?=aa B->s.β[l]?=aa L->∃B' L',σ'[l]?=aa B'/\s'.β[l]?=aa L'/\gR B L B' L'
structure Step(σ:List bg)(s:St)(σ':List bg)(s':St):Prop where
  size:s.w.heap.size<=s'.w.heap.size
  fA:∀b,b<s.w.heap.size->(∀L∈s.β,b∉L.bs)->s'.w.heap[b]?=s.w.heap[b]?
  mem:∀b o v,s.M b o=aa v->s'.M b o=aa v
  jo:∀b,b<s.w.heap.size->(∀L∈s.β,b∉L.bs)->∀o,s'.M b o=s.M b o
  wu:∀L'∈s'.β,∀b∈L'.bs,s.w.heap.size<=b∨∃L∈s.β,b∈L.bs
  box:∀(l:Nat) (B:bg) (L:Loc),σ[l]?=aa B->s.β[l]?=aa L->∃B' L',σ'[l]?=aa B'/\s'.β[l]?=aa L'/\gR B L B' L'
  os:s'.w.os=s.w.os
  tape:s'.w.tape=s.w.tape
  output:s'.w.output=s.w.output
  own:s'.own=s.own
structure c6(σ:List bg)(s:St)(σ':List bg)(s':St):Prop where
  size:s.w.heap.size<=s'.w.heap.size
  fA:∀b,s.own b->s'.w.heap[b]?=s.w.heap[b]?
  mem:∀b o v,s.M b o=aa v->s'.M b o=aa v
  jo:∀b,b<s.w.heap.size->(∀L∈s.β,b∉L.bs)->∀o,s'.M b o=s.M b o
  wu:∀L'∈s'.β,∀b∈L'.bs,s.w.heap.size<=b∨∃L∈s.β,b∈L.bs
  box:∀(l:Nat) (B:bg) (L:Loc),σ[l]?=aa B->s.β[l]?=aa L->∃B' L',σ'[l]?=aa B'/\s'.β[l]?=aa L'/\gR B L B' L'
  os:s'.w.os=s.w.os
  tape:s'.w.tape=s.w.tape
  output:s'.w.output=s.w.output
  own:s'.own=s.own
structure cw(s s':St):Prop where
  β:s'.β=s.β
  M:s'.M=s.M
  own:s'.own=s.own
  size:s.w.heap.size<=s'.w.heap.size
  fA:∀b,(s.own b∨∃L∈s.β,b∈L.bs)->s'.w.heap[b]?=s.w.heap[b]?
  mem:∀b o v,s.M b o=aa v->s'.w.cell? ⟨b,o,ae⟩=aa v
  os:s'.w.os=s.w.os
  tape:s'.w.tape=s.w.tape
  output:s'.w.output=s.w.output
def oJ(s:St)(e:Event):Prop :=
  match e.loc with
  | .cell a=>e.sync=af/\a.spot=ae/\(False∨((∃L∈s.β,a.block∈L.bs)/\(e.write=ab->s.M a.block a.off=ae))∨(e.write=af/\∃v,s.M a.block a.off=aa v))
  | .obj r=>e.sync=af/\(False∨∃L∈s.β,r∈L.bs)
  | .mark m=>m=.noRoom∨∃f,m=.extern f
  | _=>False
def fj(s:St)(es:Array Event):Prop:=∀e∈es,oJ s e
def fj.nil{s:St}:fj s #[]:=by intro e h;grind
def gR.refl(B:bg)(L:Loc):gR B L B L:=by cases B<;>simp[gR]
def gR.trans{B B' YF:bg}{L L' L'':Loc}(h:gR B L B' L')(a:gR B' L' YF L''):gR B L YF L'':=by
  cases B<;>cases B'<;>cases YF<;>simp_all[gR]
  all_goals
    grind
def Step.refl(σ:List bg)(s:St):Step σ s σ s :=
  ⟨bh _,λ_ _ _=>rfl,λ_ _ _ h=>h,λ_ _ _ _=>rfl,λL h b a=>.inr ⟨L,h,a⟩,λ_ B L h c=>⟨B,L,h,c,.refl _ _⟩,rfl,rfl,rfl,rfl⟩
def Step.trans{σ σ1 σ2:List bg}{s e s2:St}(h:Step σ s σ1 e)(k:Step σ1 e σ2 s2):Step σ s σ2 s2:=by
  have out:∀b,b<s.w.heap.size->(∀L∈s.β,b∉L.bs)->∀L∈e.β,b∉L.bs:=by
    intro b a c L d f;rcases h.wu L d b f with h1|⟨x,n,u⟩
    · omega
    grind
  refine⟨iN h.size k.size,?_,λb o v t=>k.mem _ _ _ (h.mem _ _ _ t),?_,?_,?_,k.os.trans h.os,k.tape.trans h.tape,k.output.trans h.output,k.own.trans h.own⟩
  · intro b a c
    rw[k.fA b (c9 a h.size) (out b a c),h.fA b a c]
  · intro b a c o
    rw[k.jo b (c9 a h.size) (out b a c),h.jo b a c]
  · intro L d b a
    rcases k.wu L d b a with h1|⟨L1,i,m⟩
    · exact .inl (iN h.size h1)
    grind
  · intro l B L hB d
    obtain⟨B1,L1,h1,h2,p⟩:=h.box l B L hB d;obtain⟨g,q,k1,j,r⟩:=k.box l B1 L1 h1 h2;exact⟨g,q,k1,j,p.trans r⟩
def c6.refl(σ:List bg)(s:St):c6 σ s σ s :=
  ⟨bh _,λ_ _=>rfl,λ_ _ _ h=>h,λ_ _ _ _=>rfl,λL h b a=>.inr ⟨L,h,a⟩,λ_ B L h c=>⟨B,L,h,c,.refl _ _⟩,rfl,rfl,rfl,rfl⟩
def c6.trans{σ σ1 σ2:List bg}{s e s2:St}(h:c6 σ s σ1 e)(k:c6 σ1 e σ2 s2):c6 σ s σ2 s2:=by
  have out:∀b,b<s.w.heap.size->(∀L∈s.β,b∉L.bs)->∀L∈e.β,b∉L.bs:=by
    intro b a d L c f;rcases h.wu L c b f with h1|⟨x,n,u⟩
    · omega
    grind
  refine⟨iN h.size k.size,?_,λb o v t=>k.mem _ _ _ (h.mem _ _ _ t),?_,?_,?_,k.os.trans h.os,k.tape.trans h.tape,k.output.trans h.output,k.own.trans h.own⟩
  · intro b a
    rw[k.fA b (by rw[h.own];exact a),h.fA b a]
  · intro b a d o
    rw[k.jo b (c9 a h.size) (out b a d),h.jo b a d]
  · intro L c b a
    rcases k.wu L c b a with h1|⟨L1,i,m⟩
    · exact .inl (iN h.size h1)
    grind
  · intro l B L hB c
    obtain⟨B1,L1,h1,h2,p⟩:=h.box l B L hB c;obtain⟨g,q,k1,j,r⟩:=k.box l B1 L1 h1 h2;exact⟨g,q,k1,j,p.trans r⟩
def Step.nN{σ σ':List bg}{s s':St}(hh:aE σ s)(h:Step σ s σ' s'):c6 σ s σ' s' :=
  ⟨h.size,λb a=>h.fA b (hh.own b a).1 (hh.own b a).2,h.mem,h.jo,h.wu,h.box,h.os,h.tape,h.output,h.own⟩
def c6.ext{σ σ':List bg}{s s':St}(h:c6 σ s σ' s'):Ext σ s σ' s':=⟨h.mem,h.box⟩
def cw.refl{σ:List bg}{s:St}(hh:aE σ s):cw s s:=⟨rfl,rfl,rfl,bh _,λ_ _=>rfl,hh.mem,rfl,rfl,rfl⟩
def cw.stepW{σ:List bg}{s s':St}(h:cw s s'):c6 σ s σ s' :=
  ⟨h.size,λb c=>h.fA b (.inl c),λb o v d=>by rw[h.M];exact d,λ_ _ _ _=>by rw[h.M],λL a b c=>.inr ⟨L,by rw[<-h.β];exact a,c⟩,
    λl B L hB a=>⟨B,L,hB,by rw[h.β];exact a,.refl _ _⟩,h.os,h.tape,h.output,h.own⟩
def Step.ext{σ σ':List bg}{s s':St}(h:Step σ s σ' s'):Ext σ s σ' s':=⟨h.mem,h.box⟩
section mono
variable {σ σ':List bg}{s s':St}
def Ext.OJ(h:Ext σ s σ' s'){l:Nat}{L:Loc}(d:s.β[l]?=aa L)(hl:s.β.length=σ.length)(b:∀B,σ[l]?=aa B->B.gr=af):
    (∀B,σ'[l]?=aa B->B.gr=af)/\∃L',s'.β[l]?=aa L'/\L'.v=L.v:=by
  have a:l<σ.length:=by grind
  obtain⟨B',L',k1,e,f⟩:=h.box l (σ[l]) L (bn a) d;have c:=b _ (bn a);generalize σ[l]=B at *;rw[k1];cases B<;>cases B'<;>simp_all[gR,bg.gr]
def gH.mono(h:Ext σ s σ' s')(hl:s.β.length=σ.length){v:ai}{a:A}(r:gH σ s v a):gH σ' s' v a:=by
  cases a with
  | c x=>exact Rd.mono h.mem r
  | any=>exact r
  | ptr l off =>
    obtain⟨i,L,b,h1,h2,o⟩:=r;obtain⟨g,L',k1,j⟩:=h.OJ h1 hl i;exact⟨g,L',b,k1,by grind,o⟩
  | vec l k n es =>
    obtain⟨m,e,p⟩:=r;obtain⟨B',L',k1,j,f⟩:=h.box l (σ[l]) (s.β[l]'(by omega)) (bn e) (bn (by omega));have d:l<σ'.length:=(bX.1 k1).1;refine⟨Rd.mono h.mem m,d,λE k' g es' he=>?_⟩;rw[he]at k1;cases k1;have hB:=bn e;generalize σ[l]=B at *;cases B with
    | vec E0 k0 n0 es0 =>
      obtain⟨q,q2⟩:=f;grind
    | _=>simp[gR]at f
  | ref l =>
    obtain⟨i,L,h1,h2,o⟩:=r;obtain⟨g,L',k1,j⟩:=h.OJ h1 hl i;exact⟨g,L',k1,by grind,o⟩
  | bp l w =>
    obtain⟨lv,m,e,p⟩:=r;obtain⟨B',L',k1,j,f⟩:=h.box l (σ[l]) (s.β[l]'(by omega)) (bn e) (bn (by omega));have d:l<σ'.length:=(bX.1 k1).1;refine⟨lv,m,d,λE k' g es' he=>?_⟩;rw[he]at k1;cases k1;have hB:=bn e;generalize σ[l]=B at *;cases B with
    | buf E0 k0 n0 es0 =>
      obtain⟨q,q2⟩:=f;grind
    | _=>simp[gR]at f
def er.mono(h:Ext σ s σ' s')(hl:s.β.length=σ.length){vs:List ai}{cs:List A}(r:er σ s vs cs):er σ' s' vs cs:=by
  induction vs generalizing cs with
  | nil=>cases cs<;>simp_all[er]
  | cons v vs ih =>
    cases cs with
    | nil=>simp[er]at r
    | cons a cs=>exact⟨r.1.mono h hl,ih r.2⟩
def ow.mono(h:Ext σ s σ' s')(hl:s.β.length=σ.length){v:ai}{x:E1}(r:ow σ s v x):ow σ' s' v x:=by
  cases x with
  | one a=>exact gH.mono h hl r
  | agg cs=>obtain⟨vs,h1,h2⟩:=r;exact⟨vs,h1,h2.mono h hl⟩
def im.mono(h:Ext σ s σ' s')(hl:s.β.length=σ.length){vs:List ai}{xs:List E1}(r:im σ s vs xs):im σ' s' vs xs:=by
  induction vs generalizing xs with
  | nil=>cases xs<;>simp_all[im]
  | cons v vs ih =>
    cases xs with
    | nil=>simp[im]at r
    | cons a cs=>exact⟨r.1.mono h hl,ih r.2⟩
def du.mono(h:Ext σ s σ' s')(hl:s.β.length=σ.length){v:ai}{d:D}(r:du σ s v d):du σ' s' v d:=by
  cases d with
  | e x=>exact ow.mono h hl r
  | fD xs=>obtain⟨vs,h1,h2⟩:=r;exact⟨vs,h1,h2.mono h hl⟩
  | any=>trivial
def cp.mono(h:Ext σ s σ' s')(hl:s.β.length=σ.length){vs:List ai}{xs:List D}(r:cp σ s vs xs):cp σ' s' vs xs:=by
  induction vs generalizing xs with
  | nil=>cases xs<;>simp_all[cp]
  | cons v vs ih =>
    cases xs with
    | nil=>simp[cp]at r
    | cons a cs=>exact⟨r.1.mono h hl,ih r.2⟩
end mono
def pA(σ:List bg)(s:St):List Deferred->List Nat->Prop
  | [],[]=>True
  | d::ds,l::ls=>(σ[l]?=aa .rX/\∃(L:Loc) (r:Nat),s.β[l]?=aa L/\L.v=.int .i64 r/\d={target:=.collected r,args:=#[]})/\l∉ls/\pA σ s ds ls
  | _,_=>False
def pA.mono{σ σ':List bg}{s s':St}(h:Ext σ s σ' s'):∀{ds:List Deferred} {ls:List Nat},pA σ s ds ls->pA σ' s' ds ls
  | [],[],_=>trivial
  | [],_::_,r=>r.elim
  | _::_,[],r=>r.elim
  | d::ds,l::ls,⟨⟨h1,L,r,h2,g,f⟩,c,b⟩=>by
    obtain⟨B',L',k1,a,e⟩:=h.box l _ L h1 h2;cases B'<;>simp[gR]at e
    exact⟨⟨k1,L',r,a,by grind,f⟩,c,pA.mono h b⟩
def lX:List bg->Bool
  | []=>ab
  | .rX::_=>af
  | _::r=>lX r
def nW:∀{l:List bg},lX l=ab->∀B∈l,B≠.rX
  | [],_,B,hB=>by grind
  | b::r,h,B,hB=>by
    have a:b≠.rX/\lX r=ab:=by cases b<;>simp_all[lX]
    rcases eb.1 hB with rfl|hB
    · exact a.1
    · exact nW a.2 B hB
def pR{s:St}{r:Nat}{wr:Bool}{L:Loc}(a:L∈s.β)(b:r∈L.bs):oJ s ⟨.obj r,wr,af⟩:=⟨rfl,.inr ⟨L,a,b⟩⟩
def fj.one{s:St}{e:Event}(h:oJ s e):fj s #[e]:=by intro x a;grind
def fj.two{s:St}{e a:Event}(h:oJ s e)(b:oJ s a):fj s #[e,a]:=by intro x c;grind
variable {n:Nat}{k:Int}{l b i j:Nat}{E:av}{H:ai->(Nat->Option Obj)->Prop}{L:Array Bool}{M:Mem}{N:Nat}{P:aJ}{S:ar->St->Prop}{c:Code}{g:ar}{o:aC}{s:St}{t:av}{v:ai}{w:ay}{x y:aB}{α:Type}{η:aB->D}{ι:Type}{σ:List bg}{φ:Fr}{all:List aC}{jU:Array av}{cap:List C}{cv:List D}{cs:List aX}{ds:List (Nat×Bool)}{es:Nat->List C}{fo:aB}{ks:List Nat}{obs:List Prop}{off:Nat}{op:BinOp}{ops:Array aC}{ps:List Prop}{rest:List aC}{s':St}{ty:av}{val:Nat->Nat->ai}{vs:List ai}{w':ay}{xs:Array aB}{σ' σs:List bg}{res:ι->D}{σ1:ι->List bg}
def tD{P:aJ}{w:ay}:∀{l:List (String×DataW Unit)}{ps:List MemPlace},DataW.LaidVars P w l ps->∀{n:String}{d:DataW Unit},(n,d)∈l ->
  ∃g t cs fuel p,P.globalNamed n=aa g/\(P.globals[g]?).map (·.type)=aa t/\w.var? P n=aa cs/\DataW.trod (λ_=>()) P w 0 (λ_=>ab) af fuel t cs.toList=aa (d,p)
 |[],_,_,_,_,a=>by cases a
 |(f,k)::r,ps,h,n,d,a=>by
  obtain⟨g,t,cs,fuel,p,q,m,c,j,i,b,_⟩:=h;rcases eb.1 a with e|e
  .grind
  .exact tD b e
theorem xX{P:aJ}{W:ay}(a:W.ShapedOpen P){g:Nat}{zero:Array ai}{t:av}(c:g<P.globals.size)(b:(((begin P (λ_ _=>0) default).world.heap[g]?).bind Obj.row?)=aa (zero,t)){n:String}(e:P.globalNamed n=aa g){cs:Array ai}(d:W.var? P n=aa cs):
  W.heap[g]?=aa (.cells cs t (0,0)):=by obtain⟨c2,f,_⟩:=a.1 g zero t c b;unfold World.var? at d;grind
def kU{P:aJ}{W:ay}{l:List (String×DataW Unit)}(h:laidMetH P l W)(a:W.ShapedOpen P){n i:String}{d:DataW Unit}(m:(n,.iface i d)∈l.filter λx=>x.2.handleName?.isNone){g t c:Nat}{s:Array (String×av)}{zero:Array ai}(b:P.globalNamed n=aa g)(z:(P.globals[g]?).map (·.type)=aa t)(r:P.underlying t=aa (.interface s))(w:g<P.globals.size)(j:(((begin P (λ_ _=>0) default).world.heap[g]?).bind Obj.row?)=aa (zero,c)):∃e:av×ai,W.heap[g]?=aa (.cells #[.iface e.1 e.2] c (0,0)):=by obtain⟨ps,A,_⟩:=(laidMetH_iff.1 h).1;obtain⟨C,B,cs,f,p,y,k,q,o⟩:=tD A m;cases b.symm.trans y;cases z.symm.trans k;obtain⟨_,u,v,e,_⟩:=iface_of_trod r o;have:=xX a w j b q;rw[Array.eq_one_of_toList e]at this;exact⟨(u,v),this⟩
def qg{P:aJ}{W:ay}{l:List (String×DataW Unit)}(h:laidMetH P l W)(c:W.ShapedOpen P){n:String}{d:DataW Unit}{s:List UInt8}(e:(n,d)∈l.filter λx=>x.2.handleName?.isSome)(j:d.funcsIn?=ae)(o:d.handleName?=aa s){g b u ty:Nat}{zero:Array ai}(q:P.globalNamed n=aa g)(p:(P.cutTypes.find? (·.1== "internal/reflectlite.rtype")).map (·.2)=aa u)(A:((bc P.types.size).filter λt=>P.rowNamed t s)=[ty])(z:g<P.globals.size)(r:(((begin P (λ_ _=>0) default).world.heap[g]?).bind Obj.row?)=aa (zero,b)):W.heap[g]?=aa (.cells #[.iface u (.agg #[typeHandle P ty])] b (0,0)):=by have:=(laidMetH_iff.1 h).2 _ e;rw[j]at this;obtain⟨name,v,a,f,i,k,m,w⟩:=this;cases o.symm.trans f;cases p.symm.trans i;have y:a∈(bc P.types.size).filter λt=>P.rowNamed t s:=gN.2 ⟨mW.2 k,m⟩;grind[xX]
section
open Go.Conc (G listed)
def rW(s s':St)(es:Array Event):Prop:=(∃σ σ',aE σ s/\aE σ' s'/\Step σ s σ' s')/\fj s es
structure Cx(P:aJ) where
 main:Bool
 rely:St->St->Prop
 y9:ar->St->(ar->St->Prop)->Prop
 iS:∀{s s'},rely s s'->cw s s'
 CC:Prop
class Cx.ik {P:aJ} (X:Cx P):Prop where
 ok:X.CC
structure eH(s s':St):Prop where
 w:s'.w=s.w
 mem:∀b o v,s.M b o=aa v->s'.M b o=aa v
 jo:∀b,(∀L∈s.β,b∉L.bs)->∀o,s'.M b o=s.M b o
 cell:∀b o v,s'.M b o=aa v->s.w.cell? ⟨b,o,ae⟩=aa v
 blk:∀b,(s'.own b∨∃L∈s'.β,b∈L.bs)->s.own b∨∃L∈s.β,b∈L.bs
structure nB(s s':St):Prop where
 w:s'.w=s.w
 β:s'.β=s.β
 own:s'.own=s.own
 less:∀b o v,s'.M b o=aa v->s.M b o=aa v
 mem:∀b o v,s.M b o=aa v->s'.M b o=aa v∨s.own b
inductive fL {P:aJ} (X:Cx P) (S:ar->St->Prop):ar->St->Prop
 |stop {g:ar} {s:St}:S g s->fL X S g s
 |step {g:ar} {s:St} (ng:St->ar) (ns:St->St) (ne:St->Array Event):g.status=.running ->
   (∀s1,X.rely s s1->aG P X.main g s1.w=.go (ng s1) (ns s1).w (ne s1))->(∀s1,X.rely s s1->rW s1 (ns s1) (ne s1))->(∀s1,X.rely s s1->fL X S (ng s1) (ns s1))->fL X S g s
 |ghost {g:ar} {s s':St}:eH s s'->fL X S g s'->fL X S g s
 |forget {g:ar} {s s':St}:X.CC->nB s s'->fL X S g s'->fL X S g s
 |y9 {g:ar} {s:St} {T:ar->St->Prop}:X.y9 g s T->(∀g' s',T g' s'->fL X S g' s')->fL X S g s
section
variable {X:Cx P}
def fL.next(f:g.status=.running)(h:∀c,X.rely s c->∃g' s' es,aG P X.main g c.w=.go g' s'.w es/\rW c s' es/\fL X S g' s'):fL X S g s:=by
 classical
 have hh:∀c,∃r:ar×St×Array Event,X.rely s c->aG P X.main g c.w=.go r.1 r.2.1.w r.2.2/\rW c r.2.1 r.2.2/\fL X S r.1 r.2.1:=by
  intro c;by_cases e:X.rely s c
  .obtain⟨g',s',es,h1⟩:=h c e;exact⟨(g',s',es),λ_=>h1⟩
  .exact⟨(g,c,#[]),λd=>absurd d e⟩
 refine .step (λc=>(Classical.choose (hh c)).1) (λc=>(Classical.choose (hh c)).2.1) (λc=>(Classical.choose (hh c)).2.2) f ?_ ?_ ?_
 .grind
 .grind
 grind
theorem eH.of(hh:aE σ s)(d:aE σ' s')(f:s'.w=s.w)(st:c6 σ s σ' s'):eH s s':=by
 have j:∀b o v,s'.M b o=aa v->s.w.cell? ⟨b,o,ae⟩=aa v:=λb o v h=>by rw[<-f];exact d.mem b o v h
 have e:∀b o v,s.w.cell? ⟨b,o,ae⟩=aa v->b<s.w.heap.size:=by
  intro b o v h;rcases cN b s.w.heap.size with h1|h1
  .exact h1
  .simp[aP,AF h1]at h
 refine⟨f,st.mem,λb c o=>?_,j,λb c=>?_⟩
 .rcases cN b s.w.heap.size with h1|h1
  .exact st.jo b h1 c o
  .cases h2:s'.M b o with
   |some v=>grind
   |none=>cases i:s.M b o with
    |none=>rfl
    |some v=>have:=e _ _ _ (hh.mem _ _ _ i);omega
 .rcases c with c|⟨L,g,c⟩
  .exact .inl (by rw[<-st.own];exact c)
  .rcases st.wu L g b c with h1|h1
   .have:=d.lt L g b c;grind
   grind
def aE.rely(hh:aE σ s)(h:cw s s'):aE σ s':=by
 have ex:Ext σ s σ s':=h.stepW.ext;have z:∀v a,gH σ s v a->gH σ s' v a:=λv a r=>r.mono ex hh.len;refine⟨λb o v i=>h.mem b o v (by rw[<-h.M];exact i),by rw[h.β];exact hh.len,?_,by rw[h.β];exact hh.eO,?_,?_⟩
 .intro l B L hB hL;rw[h.β]at hL;have c:=hh.box l B L hB hL;have hk:∀b∈L.bs,s'.w.heap[b]?=s.w.heap[b]?:=λb c=>h.fA b (.inr ⟨L,bP hL,c⟩);cases B with
  |cells E cs =>
   obtain⟨b,vs,h1,h2,d,e⟩:=c;subst h1;exact⟨b,vs,rfl,by grind,d.mono ex hh.len,λo=>by rw[h.M,e]⟩
  |vec E k n es =>
   obtain⟨h1,h2⟩:=c;refine⟨by rw[h.M];exact h1,?_⟩;rcases h2 with⟨h2,d⟩|⟨b,cap,vs,h2,d,e,f⟩
   .exact .inl ⟨h2,by rw[h.M];exact d⟩
   .subst h2;exact .inr ⟨b,cap,vs,rfl,by grind,e,λo q=>by rw[h.M,f o q]⟩
  |cj H =>
   obtain⟨ch,h1,h2,d,e⟩:=c;refine⟨ch,h1,λb o p=>?_,d,λb g o=>by rw[h.M,e b g]⟩;grind
  |dead=>trivial
  |loop N φ r =>
   obtain⟨l,tmps,fn,x,h1,h2,d,e,f⟩:=c;subst h1;exact⟨l,tmps,fn,x,rfl,by grind,d,λt=>(e t).mono ex hh.len,λo=>by rw[h.M,f]⟩
  |rX =>
   obtain⟨r,h1,h2,d⟩:=c;subst h1;exact⟨r,rfl,by grind,λo=>by rw[h.M,d]⟩
  |buf E k n es =>
   rcases c with c|⟨b,j,vs,u,h1,h2,d,e,f,m,y⟩
   .exact .inl c
   .subst h1;exact .inr ⟨b,j,vs,u,rfl,by grind,d,e,f,by rw[h.M];exact m,λo=>by rw[h.M,y]⟩
 .intro L hL b c;rw[h.β]at hL;exact c9 (hh.lt L hL b c) h.size
 .intro b c;rw[h.own]at c;rw[h.β];exact⟨c9 (hh.own b c).1 h.size,(hh.own b c).2⟩
def rW.quiet(hh:aE σ s):rW s s #[]:=⟨⟨σ,σ,hh,hh,.refl _ _⟩,.nil⟩
def _root_.Go.Frame.aT(b:aX)(a:Act)(todo:List Item):aX:={b with tmps:=a.tmps,todo:=todo,defers:=a.defers++b.defers,mode:=.run}
variable {b:aX}{a:Act}{k:List Item}{main:Bool}
def GY(b:aX)(a:Act)(c:List Item):(b.aT a c).eval=a.eval:=by funext x;cases x<;>rfl
def GZ:aG P main (G (b.aT a (.code .skip::k)) cs) w=.go (G (b.aT a k) cs) w:=by simp[G,aG,stepG.exec,Frame.aT]
def rY{id:Nat}:aG P main (G (b.aT a (.inBlock id::k)) cs) w=.go (G (b.aT a k) cs) w:=by simp[G,aG,stepG.exec,Frame.aT]
theorem oL{x y:Code}:aG P main (G (b.aT a (.code (.seq x y)::k)) cs) w=.go (G (b.aT a (.code x::.code y::k)) cs) w:=by simp[G,aG,stepG.exec,Frame.aT]
def wv{c:aB}{x y:Code}{t:Bool}(h:a.eval c=.bool t):
  aG P main (G (b.aT a (.code (.cond c x y)::k)) cs) w=.go (G (b.aT a (.code (if t then x else y)::k)) cs) w:=by
 have d:(b.aT a (.code (.cond c x y)::k)).eval c=.bool t:=by rw[GY];exact h
 simp only[Frame.aT]at d;simp[G,aG,stepG.exec,Frame.aT,d]
def sZ{id:Nat}:aG P main (G (b.aT a (.code (.block id c)::k)) cs) w=.go (G (b.aT a (.code c::.inBlock id::k)) cs) w:=by simp[G,aG,stepG.exec,Frame.aT]
def G0:aG P main (G (b.aT a (.code (.loop c)::k)) cs) w=.go (G (b.aT a (.code c::.inLoop c::k)) cs) w:=by simp[G,aG,stepG.exec,Frame.aT]
def zw:aG P main (G (b.aT a (.inLoop c::k)) cs) w=.go (G (b.aT a (.code c::.inLoop c::k)) cs) w:=by simp[G,aG,stepG.exec,Frame.aT]
def AP{id:Nat}{k':List Item}(h:exitTo id k=aa k'):aG P main (G (b.aT a (.code (.exit id)::k)) cs) w=.go (G (b.aT a k') cs) w:=by simp[G,aG,stepG.exec,Frame.aT,h]
def qP{id:Nat}:aG P main (G (b.aT a (.code (.region id ops af)::k)) cs) w=.go (G (b.aT a (.inRegion ops (bc ops.size)::k)) cs) w:=by simp[G,aG,stepG.exec,Frame.aT]
def mq{id:Nat}:aG P main (G (b.aT a (.code (.region id ops ab)::k)) cs) w =
  .go (G (b.aT a (.inRegion ops (Region.schedule (P.follows .mixedOrders) ops (w.tape w.drawn (.order b.fn id)))::k)) cs) {w with drawn:=w.drawn+1}:=by simp[G,aG,stepG.exec,Frame.aT,choose,Sem.run,Question.forced,Question.cut]
def jr:aG P main (G (b.aT a (.inRegion ops []::k)) cs) w=.go (G (b.aT a k) cs) w:=by simp[G,aG,stepG.exec,Frame.aT]
def E3(h:b.roundOf=ae):aG P main (G (b.aT a (.code .ret::k)) cs) w=.go (G {b.aT a (.code .ret::k)with mode:=.returning} cs) w:=by simp[G,aG,stepG.exec,Frame.aT,h]
def E4(h:b.roundOf=ae):aG P main (G (b.aT a []) cs) w=.go (G {b.aT a []with mode:=.returning} cs) w:=by simp[G,aG,stepG.exec,Frame.aT,h]
def kO(ops:Array aC)(i:Nat)(rest:List Nat)(v:ai):
  (b.aT a (.inRegion ops (i::rest)::k)).finish v=b.aT (a.put ((ops[i]?).bind (·.dst)) v) (.inRegion ops rest::k):=by cases h:(ops[i]?).bind (·.dst)<;>simp[Frame.finish,Frame.aT,Act.put,h]
def OH{rest:List Nat}(d:ops[i]?=aa o)(e:bl o (yielded ops a.tmps)=af):
  aG P main (G (b.aT a (.inRegion ops (i::rest)::k)) cs) w=.go (G (b.aT (a.put o.dst ah) (.inRegion ops rest::k)) cs) w:=by have c:=kO (b:=b) (a:=a) (k:=k) ops i rest ah;rw[d]at c;simp only[oB]at c;rw[<-c];simp[G,aG,stepG.exec,Frame.aT,d,e]
theorem s8{g:aB->ai}{c:Call}(h:o.op=.defer c){f:Next}(e:(aq g o).run P w=.ok f w'):∃d,f=.defer d:=by
 simp only[aq,h,bT]at e;cases i:(resolve g c o.type).run P w with
 |ok d w2=>rw[i]at e;simp at e;grind
 |halt x w2=>rw[i]at e;simp at e
def wx{rest:List Nat}(e:ops[i]?=aa o)(f:bl o (yielded ops a.tmps)=ab)(g:∀c,o.op≠.defer c):
  aG P main (G (b.aT a (.inRegion ops (i::rest)::k)) cs) w=stepG.apply P ab (b.aT a (.inRegion ops (i::rest)::k)) cs ae (aq a.eval o) w:=by have d:=GY b a (.inRegion ops (i::rest)::k);simp only[Frame.aT]at d;simp[G,aG,stepG.exec,stepG.oper,Frame.oper?,Frame.aT,e,f,d];grind
theorem Kf{rest:List Nat}(f:ops[i]?=aa o)(g:bl o (yielded ops a.tmps)=ab)(hk:b.kind≠.early)(h:(aq a.eval o).run P w=.ok (.value v) w'):
  aG P main (G (b.aT a (.inRegion ops (i::rest)::k)) cs) w=.go (G (b.aT (a.put o.dst v) (.inRegion ops rest::k)) cs) w' (listed P b.fn a o w):=by
 have d:=kO (b:=b) (a:=a) (k:=k) ops i rest v;rw[f]at d;simp only[oB]at d;have e:(b.kind==CallKind.early)=af:=by grind
 rw[wx f g (λc j=>by grind[s8]),<-d];simp[stepG.apply,h,G,Frame.aT,e,GStep.after,listed]
theorem G1{rest:List Nat}(f:ops[i]?=aa o)(g:bl o (yielded ops a.tmps)=ab)(hk:b.kind≠.early)(h:(aq a.eval o).run P w=.ok .skip w'):
  aG P main (G (b.aT a (.inRegion ops (i::rest)::k)) cs) w=.go (G (b.aT (a.put o.dst ah) (.inRegion ops rest::k)) cs) w' (listed P b.fn a o w):=by
 have d:=kO (b:=b) (a:=a) (k:=k) ops i rest ah;rw[f]at d;simp only[oB]at d;have e:(b.kind==CallKind.early)=af:=by grind
 rw[wx f g (λc j=>by grind[s8]),<-d];simp[stepG.apply,h,G,Frame.aT,e,GStep.after,listed]
def pM{rest:List Nat}{f:aH}{args:Array ai}(g:ops[i]?=aa o)(e:bl o (yielded ops a.tmps)=ab)(hk:b.kind≠.early)(h:(aq a.eval o).run P w=.ok (.enter f args) w'):
  aG P main (G (b.aT a (.inRegion ops (i::rest)::k)) cs) w=.go (G (Frame.enter P f args .normal) (b.aT a (.inRegion ops (i::rest)::k)::cs)) w' (listed P b.fn a o w):=by
 have d:(b.kind==CallKind.early)=af:=by grind
 rw[wx g e (λc j=>by grind[s8])];simp[stepG.apply,h,G,Frame.aT,d,GStep.after,listed]
structure vN(P:aJ)(f:aH)(fr:aX)(v:ai)(s:St):Prop where
 isF:fr.fn=f
 mode:fr.mode=.returning
 defers:fr.defers=[]
 kind:fr.kind=.normal
 fn:∃fn,P.funcs[fr.fn]?=aa fn/\∀w,(∀b o u,s.M b o=aa u->w.cell? ⟨b,o,ae⟩=aa u)->(results fn fr.tmps).run P w=.ok v w/\∀e∈(results fn fr.tmps).events P w #[],∃b o u,e=⟨.cell ⟨b,o,ae⟩,af,af⟩/\s.M b o=aa u
def vN.mono{f:aH}{fr:aX}(h:vN P f fr v s)(g:∀b o u,s.M b o=aa u->s'.M b o=aa u):vN P f fr v s':=by obtain⟨h1,h2,c,e,fn,d,j⟩:=h;refine⟨h1,h2,c,e,fn,d,λw i=>?_⟩;grind
def fj.seen{s:St}{es:Array Event}{fn:aH}(h:fj s es):fj s (seen P fn es):=λe c=>h e (Go.Conc.mem_seen c)
def Kg{f:aH}{g c:aX}(h:vN P f g v s)(w:ay)(j:∀b o u,s.M b o=aa u->w.cell? ⟨b,o,ae⟩=aa u):∃es,aG P main (G g (c::cs)) w=.go (G (c.finish v) cs) w es/\∀e∈es,∃b o u,e=⟨.cell ⟨b,o,ae⟩,af,af⟩/\s.M b o=aa u:=by obtain⟨fn,l,d⟩:=h.fn;obtain⟨n,i⟩:=d w j;refine⟨seen P g.fn ((results fn g.tmps).events P w #[]),?_,λe m=>i e (Go.Conc.mem_seen m)⟩;simp[G,aG,unwind,doReturn,h.mode,h.defers,h.kind,l,n,GStep.after]
end
end
structure cx(N:Nat)(σ:List bg)(s:St)(φ:Fr)(a:Act):Prop where
 size:a.tmps.size=N
 defers:∃ls,pA σ s a.defers ls
 slot:∀t,du σ s (a.tmps.getD t ah) (look φ t)
def cx.mono{N:Nat}{σ σ':List bg}{s s':St}{φ:Fr}{a:Act}(h:c6 σ s σ' s')(hl:s.β.length=σ.length)(f:cx N σ s φ a):cx N σ' s' φ a :=
 ⟨f.size,f.defers.imp λ_ h1=>h1.mono h.ext,λt=>(f.slot t).mono h.ext hl⟩
def cx.rely{a:Act}(h:cw s s')(hh:aE σ s)(f:cx N σ s φ a):cx N σ s' φ a:=f.mono h.stepW hh.len
def cx.put{N:Nat}{σ:List bg}{s:St}{φ:Fr}{a:Act}(f:cx N σ s φ a){d:Nat}(c:d<N){v:ai}{x:D}(r:du σ s v x):cx N σ s ((d,x)::φ) (a.put (aa d) v):=by
 refine⟨by simp[Act.put,f.size],f.defers,λt=>?_⟩;simp only[Act.put,look];by_cases e:d=t
 .subst e;rw[show aw d d=ab from j4 d];have g:d<a.tmps.size:=by rw[f.size];exact c
  simp only[ef,wS g,gv,cond];exact r
 .have:aw d t=af:=by grind[Nat.eq_of_beq_eq_true]
  rw[this];have h:=f.slot t;simp only[ef]at h⊢;grind
def oO(φ φ':Fr):Prop:=∀σ s v t,du σ s v (look φ t)->du σ s v (look φ' t)
def cx.le{φ':Fr}{a:Act}(h:oO φ φ')(f:cx N σ s φ a):cx N σ s φ' a :=
 ⟨f.size,f.defers,λt=>h _ _ _ _ (f.slot t)⟩
abbrev Post:=Exit->Fr->List bg->Prop
def ends(X:Cx P)(S:ar->St->Prop)(b:aX)(k:List Item)(cs:List aX):Exit->Act->St->Prop
 |.normal,a,s=>fL X S (G (b.aT a k) cs) s
 |.exit id,a,s=>∀pre,(∀k',exitTo id (pre++k')=exitTo id k')->fL X S (G (b.aT a (.code (.exit id)::(pre++k))) cs) s
 |.ret,a,s=>∀pre,fL X S (G (b.aT a (.code .ret::pre)) cs) s
 |.panic ch,a,s=>∀c,fL X S (G {b.aT a c with mode:=.panicking ch} cs) s
 |_,_,_=>False
section
variable {X:Cx P}{b:aX}{k:List Item}{a:Act}
def ends.cons{x:Item}(d:∀id k',exitTo id (x::k')=exitTo id k'){e:Exit}(c:e≠.normal)(h:ends X S b k cs e a s):ends X S b (x::k) cs e a s:=by
 cases e with
 |normal=>grind
 |exit id =>
  intro pre hp;have:=h (pre++[x]) (λk'=>by grind);grind
 |ret=>exact h
 |panic ch=>exact h
 |goto l=>exact h
 |outgrown=>exact h
def fL.ctl{g':ar}(hh:aE σ s)(d:g.status=.running)(e:∀w,aG P X.main g w=.go g' w #[])(h:∀c,cw s c->fL X S g' c):fL X S g s :=
 .next d λc h1=>⟨g',c,#[],e c.w,.quiet (hh.rely (X.iS h1)),h c (X.iS h1)⟩
def qR{f:aH}{j c:aX}(l:aE σ s)(h:vN P f j v s)(k:∀d,cw s d->fL X S (G (c.finish v) cs) d):fL X S (G j (c::cs)) s:=by refine .next rfl λd r=>?_;have i:=X.iS r;have g:=l.rely i;obtain⟨es,m,n⟩:=Kg (main:=X.main) (c:=c) (cs:=cs) h d.w i.mem;refine⟨_,d,es,m,⟨⟨σ,σ,g,g,.refl _ _⟩,λe p=>?_⟩,k d i⟩;obtain⟨b,o,u,rfl,q⟩:=n e p;exact⟨rfl,rfl,.inr (.inr ⟨rfl,u,by rw[i.M];exact q⟩)⟩
def tz(I:Nat->Act->St->Prop)(i:∀n a s,I n a s->∃σ,aE σ s/\∀d,cw s d->I n a d)(round:∀n a s,I n a s->(∀a' s' m,m<n->I m a' s'->fL X S (G (b.aT a' (.inLoop c::k)) cs) s')->fL X S (G (b.aT a (.code c::.inLoop c::k)) cs) s)(l:I n a s):
  fL X S (G (b.aT a (.code (.loop c)::k)) cs) s:=by
 have key:∀n a s,I n a s->fL X S (G (b.aT a (.inLoop c::k)) cs) s:=by
  intro n;induction n using Nat.strongRecOn with
  |_ n o =>
   intro a s hi;obtain⟨σ,f,g⟩:=i n a s hi;exact .ctl f rfl (λw=>zw) λd h=>round n a d (g d h) λa' s' m j e=>o m j a' s' e
 obtain⟨σ,f,g⟩:=i n a s l;exact .ctl f rfl (λw=>G0) λd h=>round n a d (g d h) λa' s' m _ e=>key m a' s' e
end
def AW(X:Cx P)(N:Nat)(c:Code)(Q:Post)(φ:Fr)(σ:List bg):Prop :=
 ∀s a,cx N σ s φ a->aE σ s->∀(b:aX) (k:List Item) (cs:List aX) (S:ar->St->Prop),b.kind≠.early ->
  (∀e φ' σ' s' a',Q e φ' σ'->cx N σ' s' φ' a'->aE σ' s'->c6 σ s σ' s'->ends X S b k cs e a' s')->fL X S (G (b.aT a (.code c::k)) cs) s
def Names(all:List aC):List Nat->List aC->Prop
 |[],[]=>True
 |i::idx,o::rest=>all.toArray[i]?=aa o/\Names all idx rest
 |_,_=>False
def iG(X:Cx P)(N:Nat)(all rest:List aC)(Q:Fr->List bg->Prop)(φ:Fr)(σ:List bg):Prop :=
 ∀s a,cx N σ s φ a->aE σ s->∀(b:aX) (k:List Item) (cs:List aX) (S:ar->St->Prop) (idx:List Nat),b.kind≠.early->Names all idx rest ->
  (∀φ' σ' s' a',Q φ' σ'->cx N σ' s' φ' a'->aE σ' s'->c6 σ s σ' s'->fL X S (G (b.aT a' k) cs) s')->fL X S (G (b.aT a (.inRegion all.toArray idx::k)) cs) s
section rules
variable {X:Cx P}{Q:Post}
def AW.mono{d:Post}(h:AW X N c Q φ σ)(f:∀e φ σ,Q e φ σ->d e φ σ):AW X N c d φ σ :=
 λs a i hh b k cs S l m=>h s a i hh b k cs S l λe φ' σ' s' a' q g j st=>m e φ' σ' s' a' (f _ _ _ q) g j st
def AW.le{c:Code}{φ':Fr}(h:AW X N c Q φ' σ)(hl:oO φ φ'):AW X N c Q φ σ :=
 λs a d hh b k cs S e f=>h s a (d.le hl) hh b k cs S e f
theorem AW.skip(h:Q .normal φ σ):AW X N .skip Q φ σ:=λs a c hh b k cs S _ e =>
 .ctl hh rfl (λ_=>GZ) λd h1=>e .normal φ σ d a h (c.rely h1 hh) (hh.rely h1) h1.stepW
def AW.ret(h:Q .ret φ σ):AW X N .ret Q φ σ:=λs a c hh b k cs S _ d=>d .ret φ σ s a h c hh (.refl _ _) k
theorem AW.exit{id:Nat}(h:Q (.exit id) φ σ):AW X N (.exit id) Q φ σ:=λs a c hh b k cs S _ d=>by have:=d (.exit id) φ σ s a h c hh (.refl _ _) [] (λ_=>rfl);grind
def C9(next:Fr->List bg->Prop)(Q:Post):Post
 |.normal,φ,σ=>next φ σ
 |e,φ,σ=>Q e φ σ
theorem AW.seq{x y:Code}(h:AW X N x (C9 (AW X N y Q) Q) φ σ):AW X N (.seq x y) Q φ σ:=by
 intro s a l hh b k cs S i j;refine .ctl hh rfl (λ_=>oL) λm h1=>?_;refine h m a (l.rely h1 hh) (hh.rely h1) b (.code y::k) cs S i ?_;intro e φ' σ' s' a' q f g st;have c:=h1.stepW.trans st;cases e with
 |normal=>exact q s' a' f g b k cs S i λe d σ2 s2 a2 q2 f2 h2 m0=>j e d σ2 s2 a2 q2 f2 h2 (c.trans m0)
 |_=>exact ends.cons (λ_ _=>rfl) (by simp) (j _ _ _ _ _ q f g c)
theorem AW.cond{c:aB}{x y:Code}{t:Bool}{u:Nat}(o:c=.tmp u)(hl:look φ u=.e (.one (.c (.bool t))))(p:t=ab->AW X N x Q φ σ)(m:t=af->AW X N y Q φ σ):AW X N (.cond c x y) Q φ σ:=by
 intro s a f hh b k cs S j r;have g:=f.slot u;rw[hl]at g;have i:a.eval c=.bool t:=by subst o;generalize i:a.tmps.getD u ah=v at g;simp only[du,ow,gH]at g;cases g;exact i
 refine .ctl hh rfl (λ_=>wv i) λh h1=>?_;have d:∀e φ' σ' s' a',Q e φ' σ'->cx N σ' s' φ' a'->aE σ' s'->c6 σ h σ' s'->ends X S b k cs e a' s':=λe φ' σ' s' a' q l n st=>r e φ' σ' s' a' q l n (h1.stepW.trans st);cases t
 .exact m rfl h a (f.rely h1 hh) (hh.rely h1) b k cs S j d
 .exact p rfl h a (f.rely h1 hh) (hh.rely h1) b k cs S j d
def xH(id:Nat)(Q:Post):Post
 |.exit J7,φ,σ=>if J7=id then Q .normal φ σ else Q (.exit J7) φ σ
 |e,φ,σ=>Q e φ σ
theorem AW.block{id:Nat}(h:AW X N c (xH id Q) φ σ):AW X N (.block id c) Q φ σ:=by
 intro s a j hh b k cs S m i;refine .ctl hh rfl (λ_=>sZ) λn h1=>?_;refine h n a (j.rely h1 hh) (hh.rely h1) b (.inBlock id::k) cs S m ?_;intro e φ' σ' s' a' q g f st;have d:=h1.stepW.trans st;cases e with
 |normal =>
  exact .ctl f rfl (λ_=>rY) λs2 h2=>i .normal φ' σ' s2 a' q (g.rely h2 f) (f.rely h2) (d.trans h2.stepW)
 |exit J7 =>
  simp only[xH]at q;split at q
  .rename_i e;subst e;intro pre hp;refine .ctl f rfl (λ_=>AP (k':=k) (by rw[hp];simp[exitTo])) λs2 h2=>?_;exact i .normal φ' σ' s2 a' q (g.rely h2 f) (f.rely h2) (d.trans h2.stepW)
  .rename_i o
   intro pre hp;have:=i (.exit J7) φ' σ' s' a' q g f d (pre++[.inBlock id]) (λk'=>by
    rw[mm,hp];have:(id==J7)=af:=by grind
    simp[exitTo,this])
   grind
 |ret=>exact i _ _ _ _ _ q g f d
 |panic ch=>exact i _ _ _ _ _ q g f d
 |goto l=>exact i _ _ _ _ _ q g f d
 |outgrown=>exact i _ _ _ _ _ q g f d
def AW.loop{S:Type}(I:S->Prop)(fr:S->Fr)(st:S->List bg)(h:S->Nat)(x:S)(w:I x)(j:oO φ (fr x))(o:st x=σ)(round:∀x,I x->AW X N c (C9 (λφ' σ'=>∃y,I y/\h y<h x/\oO φ' (fr y)/\σ'=st y) Q) (fr x) (st x)):AW X N (.loop c) Q φ σ:=by
 intro s a u hh b k cs S v t;subst o;refine tz (λn a' s'=>∃y,I y/\cx N (st y) s' (fr y) a'/\aE (st y) s'/\c6 (st x) s (st y) s'/\h y=n) ?_ ?_ ⟨x,w,u.le j,hh,.refl _ _,rfl⟩
 .rintro n a' s' ⟨y,l,i,g,d,e⟩;exact⟨st y,g,λC h1=>⟨y,l,i.rely h1 g,g.rely h1,d.trans h1.stepW,e⟩⟩
 rintro n a' s' ⟨y,l,i,g,d,rfl⟩ A;refine round y l s' a' i g b (.inLoop c::k) cs S v ?_;intro e B σ2 s2 a2 q p h2 m0;cases e with
 |normal =>
  obtain⟨z,r,m,f,rfl⟩:=q;exact A a2 s2 (h z) m ⟨z,r,p.le f,h2,d.trans m0,rfl⟩
 |_=>exact ends.cons (λ_ _=>rfl) (by simp) (t _ _ _ _ _ q p h2 (d.trans m0))
end rules
def er.length{σ:List bg}{s:St}{vs:List ai}{cs:List A}(r:er σ s vs cs):vs.length=cs.length:=by
 induction vs generalizing cs with
 |nil=>cases cs<;>simp_all[er]
 |cons v vs ih =>
  cases cs with
  |nil=>simp[er]at r
  |cons a cs=>simp[ih r.2]
def gH.cell{σ:List bg}{s:St}{v:ai}{a:A}(r:gH σ s v a):cO v=ab:=by
 cases a with
 |c x=>exact Rd.cell r
 |ptr l off=>obtain⟨_,_,_,_,_,rfl⟩:=r;rfl
 |vec l k n es=>exact Rd.cell r.1
 |ref l=>obtain⟨_,_,_,_,h⟩:=r;exact h
 |bp l w=>obtain⟨_,h,_⟩:=r;exact h.cell
 |any=>exact r
theorem er.get{cs:List A}(r:er σ s vs cs){a:A}(h:cs[j]?=aa a):∃v,vs[j]?=aa v/\gH σ s v a:=by
 induction vs generalizing cs j with
 |nil=>cases cs<;>simp_all[er]
 |cons v vs ih =>
  cases cs with
  |nil=>grind
  |cons b cs =>
   cases j with
   |zero=>simp at h;subst h;exact⟨v,rfl,r.1⟩
   |succ j=>simp at h;obtain⟨u,c,d⟩:=ih r.2 h;grind
def er.cell{σ:List bg}{s:St}{vs:List ai}{cs:List A}(r:er σ s vs cs):∀v∈vs,v.oneCell'=ab:=by
 induction vs generalizing cs with
 |nil=>simp
 |cons v vs ih =>
  cases cs with
  |nil=>simp[er]at r
  |cons a cs =>
   intro u b;rcases eb.1 b with rfl|b
   .have:=gH.cell r.1;cases u<;>simp_all[cO,Value.oneCell']
   .exact ih r.2 u b
def er.append{b:List ai}{cs nO:List A}(r:er σ s vs cs)(r':er σ s b nO):er σ s (vs++b) (cs++nO):=by
 induction vs generalizing cs with
 |nil=>cases cs<;>simp_all[er]
 |cons v vs ih =>
  cases cs with
  |nil=>simp[er]at r
  |cons a cs=>exact⟨r.1,ih r.2⟩
def er.take{σ:List bg}{s:St}{vs:List ai}{cs:List A}(r:er σ s vs cs)(k:Nat):er σ s (vs.take k) (cs.take k):=by
 induction vs generalizing cs k with
 |nil=>cases cs<;>simp_all[er]
 |cons v vs ih =>
  cases cs with
  |nil=>simp[er]at r
  |cons a cs=>cases k with
   |zero=>simp[er]
   |succ k=>exact⟨r.1,ih r.2 k⟩
def er.drop{σ:List bg}{s:St}{vs:List ai}{cs:List A}(r:er σ s vs cs)(k:Nat):er σ s (vs.drop k) (cs.drop k):=by
 induction vs generalizing cs k with
 |nil=>cases cs<;>simp_all[er]
 |cons v vs ih =>
  cases cs with
  |nil=>simp[er]at r
  |cons a cs=>cases k with
   |zero=>exact r
   |succ k=>simpa using ih r.2 k
theorem aE.block(h:aE σ s){o:Nat}(a:s.M b o=aa v):b<s.w.heap.size:=by
 have:=h.mem b o v a;rcases cN b s.w.heap.size with h|h
 .exact h
 .simp[aP,AF h]at this
theorem aE.same(h:aE σ s)(f:w'.heap=s.w.heap):aE σ {s with w:=w'}:=by
 have u:∀a,w'.cell? a=s.w.cell? a:=λa=>by simp[aP,f]
 have y:∀v a,gH σ s v a->gH σ {s with w:=w'} v a:=λv a r=>by cases a<;>exact r
 have g:∀vs al,er σ s vs al->er σ {s with w:=w'} vs al:=by
  intro vs;induction vs with
  |nil=>intro al r;cases al<;>simp_all[er]
  |cons v vs ih=>intro al r;cases al with
   |nil=>simp[er]at r
   |cons a al=>exact⟨y _ _ r.1,ih _ r.2⟩
 refine⟨λb o v i=>by rw[u];exact h.mem b o v i,h.len,?_,h.eO,λL g b e=>by show b<w'.heap.size;rw[f];exact h.lt L g b e,λb e=>⟨by show b<w'.heap.size;rw[f];exact(h.own b e).1,(h.own b e).2⟩⟩;intro l B L hB fC;have:=h.box l B L hB fC;cases B with
 |cells E cs =>
  obtain⟨b,vs,h1,h2,c,d⟩:=this;exact⟨b,vs,h1,by grind,g _ _ c,d⟩
 |vec E k n es =>
  obtain⟨h1,h2⟩:=this;refine⟨h1,?_⟩;grind
 |cj H =>
  obtain⟨ch,h1,h2,c,d⟩:=this;exact⟨ch,h1,λb o e=>by grind,c,d⟩
 |dead=>trivial
 |loop N φ r =>
  obtain⟨l,tmps,fn,x,h1,h2,c,d,p⟩:=this;exact⟨l,tmps,fn,x,h1,by grind,c,λt=>du.mono (s:=s) (σ':=σ) (s':={s with w:=w'}) ⟨λ_ _ _ h=>h,λ_ B L h j=>⟨B,L,h,j,.refl _ _⟩⟩ h.len (d t),p⟩
 |rX =>
  obtain⟨r,h1,h2,c⟩:=this;exact⟨r,h1,by grind,c⟩
 |buf E k n es =>
  rcases this with h1|⟨b,m,vs,q,h1,h2,c⟩
  .exact .inl h1
  .exact .inr ⟨b,m,vs,q,h1,by grind,c⟩
theorem Step.same(g:w'.heap=s.w.heap)(c:w'.os=s.w.os)(f:w'.tape=s.w.tape)(e:w'.output=s.w.output):Step σ s σ {s with w:=w'} :=
 ⟨by grind,λb _ _=>by grind,λ_ _ _ h=>h,λ_ _ _ _=>rfl,λL h b d=>.inr ⟨L,h,d⟩,λ_ B L h a=>⟨B,L,h,a,.refl _ _⟩,c,f,e,rfl⟩
def eG.carry{B:bg}{L:Loc}(d:Ext σ s σ' s')(hl:s.β.length=σ.length)(e:∀b∈L.bs,s'.w.heap[b]?=s.w.heap[b]?/\∀o,s'.M b o=s.M b o)(h:eG σ s B L):eG σ' s' B L:=by
 cases B with
 |cells E cs =>
  obtain⟨b,vs,h1,h2,a,c⟩:=h;subst h1;obtain⟨k1,f⟩:=e b (by simp);exact⟨b,vs,rfl,by grind,a.mono d hl,λo=>by grind⟩
 |vec E k n es =>
  obtain⟨h1,h2⟩:=h;refine⟨h1.mono d.mem,?_⟩;rcases h2 with⟨h2,a⟩|⟨b,cap,vs,h2,a,c,g⟩
  .exact .inl ⟨h2,a.mono d.mem⟩
  grind
 |cj H =>
  obtain⟨ch,h1,h2,a,c⟩:=h;refine⟨ch,h1,λb o m=>?_,a,λb q o=>by grind⟩;grind
 |dead=>trivial
 |loop N φ r =>
  obtain⟨l,tmps,fn,u,h1,h2,a,c,g⟩:=h;subst h1;obtain⟨k1,f⟩:=e l (by simp);exact⟨l,tmps,fn,u,rfl,by grind,a,λt=>(c t).mono d hl,λo=>by grind⟩
 |rX =>
  obtain⟨r,h1,h2,a⟩:=h;subst h1;obtain⟨k1,f⟩:=e r (by simp);exact⟨r,rfl,by grind,λo=>by grind⟩
 |buf E k n es =>
  rcases h with h1|⟨b,i,vs,p,h1,h2,a,c,g,j,v⟩
  .exact .inl h1
  .subst h1;obtain⟨k1,f⟩:=e b (by simp);exact .inr ⟨b,i,vs,p,rfl,by grind,a,c,g,j.mono d.mem,λo=>by grind⟩
def St.gf(s:St)(E:av)(vs:List ai):St :=
 {β:=s.β++[⟨.pointer (aa ⟨s.w.heap.size,0,ae⟩),[s.w.heap.size]⟩],M:=s.M,w:=s.w.alloc (.cells vs.toArray E),own:=s.own}
theorem cT(w:ay)(o:Obj)(h:b<w.heap.size):(w.alloc o).heap[b]?=w.heap[b]?:=by show(w.heap.push o)[b]?=w.heap[b]?;grind
theorem dX(w:ay)(o:Obj):(w.alloc o).heap[w.heap.size]?=aa o:=by show(w.heap.push o)[w.heap.size]?=aa o;simp
def Step.gf{σ:List bg}(s:St)(E:av)(vs:List ai)(B:bg):Step σ s (σ++[B]) (s.gf E vs):=by
 refine⟨by simp[St.gf],?_,λ_ _ _ h=>h,λ_ _ _ _=>rfl,?_,?_,rfl,rfl,rfl,rfl⟩
 .intro b d _;exact cT _ _ d
 .intro L a b d;simp only[St.gf,fz,fO]at a;grind
 .intro l B' L c a;have hl:l<s.β.length:=(bX.1 a).1;have e:l<σ.length:=(bX.1 c).1;exact⟨B',L,by grind,by simp only[St.gf];grind,.refl _ _⟩
def aE.gf{σ:List bg}{s:St}(h:aE σ s){E:av}{vs:List ai}{cs:List A}(r:er σ s vs cs):aE (σ++[.cells E cs]) (s.gf E vs):=by
 have st:=Step.gf (σ:=σ) s E vs (.cells E cs);have g:(s.gf E vs).w.heap.size=s.w.heap.size+1:=by simp[St.gf]
 refine⟨?_,by simp[St.gf,h.len],?_,?_,?_,?_⟩
 .intro b o v c;have a:=h.block c;have:=h.mem b o v c;rw[<-this];simp only[aP,St.gf];grind[cT]
 .intro l B L hB hL;rcases Nat.lt_trichotomy l σ.length with e|rfl|i
  .rw[jH e]at hB;simp only[St.gf]at hL;rw[jH (by rw[h.len];exact e)]at hL;refine(h.box l B L hB hL).carry st.ext h.len λb a=>⟨?_,λ_=>rfl⟩
   have:=h.lt L (bP hL) b a;exact cT _ _ this
  .simp at hB;subst hB;simp only[St.gf]at hL;rw[gp (by rw[h.len];grind)]at hL;simp[h.len]at hL;subst hL;refine⟨s.w.heap.size,vs,rfl,dX _ _,r.mono st.ext h.len,λo=>?_⟩;cases c:s.M s.w.heap.size o with
   |none=>exact c
   |some v=>have:=h.block c;omega
  grind
 .intro l l' L L' hL fC b a f;simp only[St.gf]at hL fC;have d:∀l L,(s.β++[⟨.pointer (aa ⟨s.w.heap.size,0,ae⟩),[s.w.heap.size]⟩])[l]?=aa L->(s.β[l]?=aa L)∨(l=s.β.length/\L.bs=[s.w.heap.size]):=by grind
  rcases d l L hL with h1|⟨rfl,h1⟩<;>rcases d l' L' fC with h2|⟨rfl,h2⟩
  .exact h.eO l l' L L' h1 h2 b a f
  .have:=h.lt L (bP h1) b a;grind
  .have:=h.lt L' (bP h2) b f;grind
  .rfl
 .intro L hL b a;rw[g];simp only[St.gf,fz,fO]at hL;rcases hL with hL|rfl
  .have:=h.lt L hL b a;omega
  grind
 .intro b a;obtain⟨k,j⟩:=h.own b a;refine⟨by grind,λL hL=>?_⟩;simp only[St.gf,fz,fO]at hL;grind
def aE.grow(h:aE σ s){M':Mem}(c:s.w.heap.size<=w'.heap.size)(hk:∀b,b<s.w.heap.size->w'.heap[b]?=s.w.heap[b]?)(e:∀b,b<s.w.heap.size->∀o,M' b o=s.M b o)(m:∀b,s.w.heap.size<=b->∀o v,M' b o=aa v->w'.cell? ⟨b,o,ae⟩=aa v)(i:w'.os=s.w.os)(k:w'.tape=s.w.tape)(j:w'.output=s.w.output):aE σ ⟨s.β,M',w',s.own⟩/\Step σ s σ ⟨s.β,M',w',s.own⟩:=by
 have st:Step σ s σ ⟨s.β,M',w',s.own⟩ :=
  ⟨c,λb a _=>hk b a,λb o v f=>by rw[<-f];exact e b (h.block f) o,λb a _ o=>e b a o,λL h b a=>.inr ⟨L,h,a⟩,λ_ B L h g=>⟨B,L,h,g,.refl _ _⟩,i,k,j,rfl⟩
 refine⟨⟨?_,h.len,?_,h.eO,λL d b a=>c9 (h.lt L d b a) c,λb a=>⟨c9 (h.own b a).1 c,(h.own b a).2⟩⟩,st⟩
 .intro b o v f;rcases cN b s.w.heap.size with a|a
  .have hm':s.M b o=aa v:=by grind
   rw[<-h.mem b o v hm'];simp only[aP];grind
  grind
 .intro l B L hB d;exact(h.box l B L hB d).carry st.ext h.len λb a=>⟨hk b (h.lt L (bP d) b a),λo=>e b (h.lt L (bP d) b a) o⟩
def aE.write(h:aE σ s){L:Loc}{cs nO:List A}{a:List ai}(hB:σ[l]?=aa (.cells E cs))(d:s.β[l]?=aa L)(f:L.bs=[b])(r:er σ s a nO):aE (σ.set l (.cells E nO)) {s with w:=s.w.setRow b a.toArray}/\Step σ s (σ.set l (.cells E nO)) {s with w:=s.w.setRow b a.toArray}:=by
 have g:l<σ.length:=(bX.1 hB).1;obtain⟨i,vs,h1,h2,q,m⟩:=h.box l _ L hB d;subst h1;simp at f;subst f;have st:Step σ s (σ.set l (.cells E nO)) {s with w:=s.w.setRow i a.toArray}:=by
  refine⟨by simp,?_,λ_ _ _ h=>h,λ_ _ _ _=>rfl,λL h b c=>.inr ⟨L,h,c⟩,?_,rfl,rfl,rfl,rfl⟩
  .intro b c k;exact setRow_other _ _ _ _ (λe=>k _ (bP d) (by simp[e]))
  .intro l' B L' kG fC;by_cases e:l=l'
   .subst e;rw[hB]at kG;cases kG;exact⟨_,L',by rw[gu g],fC,by simp[gR]⟩
   .exact⟨B,L',by grind,fC,.refl _ _⟩
 refine⟨⟨?_,by simp[h.len],?_,h.eO,λL d b c=>by simpa using h.lt L d b c,λb c=>by simpa using h.own b c⟩,st⟩
 .intro b o v n;have p:b≠i:=λe=>by grind
  rw[<-h.mem b o v n];simp only[aP];grind[setRow_other]
 .intro l' B L' kG fC;by_cases e:l=l'
  .subst e;rw[gu g]at kG;cases kG;rw[d]at fC;cases fC;exact⟨i,a,rfl,setRow_heap _ _ _ _ _ _ h2,r.mono st.ext h.len,m⟩
  .rw[kL e]at kG;refine(h.box l' B L' kG fC).carry st.ext h.len λb c=>⟨setRow_other _ _ _ _ λj=>?_,λ_=>rfl⟩
   subst j;exact e (h.eO l l' _ L' d fC b (by simp) c)
def Tg(σ:List bg)(s:St):Next->D->Prop
 |.value v,x=>du σ s v x
 |.skip,x=>x=.any
 |_,_=>False
def bL(P:aJ)(o:aC)(η:aB->D)(σ:List bg)(x:D)(σ':List bg):Prop :=
 ∀s a,aE σ s->(∀y,du σ s (a y) (η y))->∃b s',(aq a o).run P s.w=.ok b s'.w/\Tg σ' s' b x/\aE σ' s'/\Step σ s σ' s'/\fj s ((aq a o).events P s.w #[])
def bL.oM{x:D}(h:∀s a,aE σ s->(∀y,du σ s (a y) (η y))->∃v,(aq a o).run P s.w=.ok (.value v) s.w/\du σ s v x/\fj s ((aq a o).events P s.w #[])):bL P o η σ x σ :=
 λs a hh hr=>let ⟨v,h1,h2,b⟩:=h s a hh hr;⟨.value v,s,h1,h2,hh,.refl _ _,b⟩
def bL.quiet{x:D}(h:∀s a,aE σ s->(∀y,du σ s (a y) (η y))->∃v,(aq a o).run P s.w=.ok (.value v) s.w/\du σ s v x/\(aq a o).events P s.w #[]=#[]):bL P o η σ x σ :=
 λs a hh hr=>let ⟨v,h1,h2,b⟩:=h s a hh hr;⟨.value v,s,h1,h2,hh,.refl _ _,by rw[b];exact .nil⟩
def Pu:IntKind->Int->Bool
 |.i64,.ofNat m=>bD m 9223372036854775807
 |.i64,.negSucc m=>bD m 9223372036854775807
 |.u8,.ofNat m=>bD m 255
 |.i32,.ofNat m=>bD m 2147483647
 |.i32,.negSucc m=>bD m 2147483647
 |.u64,.ofNat m=>bD m 18446744073709551615
 |.u32,.ofNat m=>bD m 4294967295
 |_,_=>af
def Ti{k:IntKind}{n:Int}(h:Pu k n=ab):bE k n:=by cases k<;>cases n<;>simp only[Pu,bE]at h⊢<;>first|(cases h;done)|(have:=dr h;grind)
def r5:ai->Option C
 |.int k n=>cond (Pu k n) (aa (.int k n)) ae
 |.bool b=>aa (.bool b)
 |.string s=>cond (bD s.size 9223372036854775807) (aa (.str s.data.toList)) ae
 |.slice ae 0 0=>aa (.sl ab 0 0 (λ_=>[]))
 |.pointer ae=>aa .iD
 |.nilIface=>aa .jk
 |.nilFunc=>aa .za
 |.map m=>aa (.val (.map m))
 |_=>ae
theorem Rd.iR{t:Bool}{k:Nat}{a:Option Addr}:Rd M (.slice a 0 0) (.sl t k 0 es) :=
 Rd.sl 0 0 (λ_ _=>ah) (bh _) (by omega) (λ_=>rfl) (by omega) (by omega) (by omega) (by omega)
def Rd.r5{M:Mem}{v:ai}{c:C}(h:r5 v=aa c):Rd M v c:=by
 unfold AM.r5 at h;split at h<;>first
  |(rename_i k n;cases a:Pu k n<;>rw[a]at h<;>cases h;exact .int (Ti a))
  |(rename_i s;cases a:bD s.size 9223372036854775807<;>rw[a]at h<;>cases h;exact .str rfl (by rw[jK];exact dr a))
  |(cases h;done)
  |(cases h;exact .bool)
  |(cases h;exact Rd.iR)
  |(cases h;exact .iD)
  |(cases h;exact .jk)
  |(cases h;exact .za)
  |(cases h;exact .val rfl)
def dOf:Option C->D
 |some c=>.e (.one (.c c))
 |none=>.any
def bS(φ:Fr):aB->D
 |.tmp t=>look φ t
 |.const v=>dOf (r5 v)
 |.func f=>.e (.one (.c (.fn (.func f) [] [])))
 |.global _=>.any
theorem dh{a:Act}(f:cx N σ s φ a)(y:aB):du σ s (a.eval y) (bS φ y):=by
 cases y with
 |tmp t=>exact f.slot t
 |const v =>
  simp only[bS,Act.eval];cases h:r5 v with
  |none=>trivial
  |some c=>exact Rd.r5 h
 |func g =>
  exact Rd.fn [] [] rfl rfl (λ_=>ah) (λ_=>ah) (by simp) (by simp) (by simp) (by simp)
 |global g=>trivial
def kQ:Option Nat->D->Fr->Fr
 |some t,x,φ=>(t,x)::φ
 |none,_,φ=>φ
def se{X:Cx P}{b:aX}{k:List Item}{a:Act}{rest:List Nat}(n:b.kind≠.early)(m:ops[i]?=aa o)(l:bl o (yielded ops a.tmps)=ab)(h:∀c,cw s c->∃d s' v,(aq a.eval o).run P c.w=.ok d s'.w/\(d=.value v∨(d=.skip/\v=ah))/\rW c s' ((aq a.eval o).events P c.w #[])/\fL X S (G (b.aT (a.put o.dst v) (.inRegion ops rest::k)) cs) s'):
  fL X S (G (b.aT a (.inRegion ops (i::rest)::k)) cs) s:=by refine .next rfl λc g=>?_;obtain⟨d,s',v,p,j,e,f⟩:=h c (X.iS g);refine⟨_,s',Go.Conc.listed P b.fn a o c.w,?_,⟨e.1,e.2.seen⟩,f⟩;grind[Kf,G1]
theorem bL.move(h:o.op=.move x):bL P o η σ (η x) σ :=
 .quiet λs b _ a=>⟨b x,by simp[aq,h,pure],a x,by simp[aq,h]⟩
theorem bL.assign(h:o.op=.assign x):bL P o η σ (η x) σ :=
 .quiet λs b _ a=>⟨b x,by simp[aq,h,pure],a x,by simp[aq,h]⟩
def fe{c:C}(h:du σ s v (.e (.one (.c c)))):Rd s.M v c:=h
def bL.pick{c a b:aB}(h:o.op=.pick c a b){t:Bool}(i:η c=.e (.one (.c (.bool t)))):
  bL P o η σ (match t with|true=>η a|false=>η b) σ:=by
 refine .quiet λs g _ f=>?_;have h1:=f c;rw[i]at h1;have h2:=fe h1;generalize d:g c=v at h2;cases h2;cases t
 .exact⟨g b,by simp[aq,h,d,asBool],f b,by simp[aq,h,d,asBool]⟩
 .exact⟨g a,by simp[aq,h,d,asBool],f a,by simp[aq,h,d,asBool]⟩
def Ln(op:BinOp)(k:IntKind)(x y:Int):Option (C×List Prop) :=
 match op with
 |.add=>aa (.int k (x+y),[bE k (x+y)])
 |.sub=>aa (.int k (x-y),[bE k (x-y)])
 |.mul=>aa (.int k (x*y),[bE k (x*y)])
 |.quo=>aa (.int k (x / y),[0<=x,0<y])
 |.rem=>aa (.int k (x % y),[0<=x,0<y])
 |.eql=>aa (.bool (x==y),[])
 |.neq=>aa (.bool (x != y),[])
 |.lss=>aa (.bool (decide (x<y)),[])
 |.leq=>aa (.bool (decide (x<=y)),[])
 |.gtr=>aa (.bool (decide (y<x)),[])
 |.geq=>aa (.bool (decide (y<=x)),[])
 |_=>ae
def Lo(op:BinOp)(x y:List UInt8):Option (C×List Prop) :=
 match op with
 |.add=>aa (.str (x++y),[x.length+y.length<=9223372036854775807])
 |.eql=>aa (.bool (x==y),[])
 |.neq=>aa (.bool (!(x==y)),[])
 |.lss=>aa (.bool (bq x y),[])
 |.leq=>aa (.bool (bq x y||x==y),[])
 |.gtr=>aa (.bool (!(bq x y||x==y)),[])
 |.geq=>aa (.bool (!(bq x y)),[])
 |_=>ae
@[simp] def au:List Prop->Prop
 |[]=>True
 |[p]=>p
 |p::q::r=>p/\au (q::r)
def au.cons{p:Prop}{r:List Prop}:au (p::r)↔p/\au r:=by cases r<;>simp
theorem mZ{k:IntKind}{n:Int}(h:bE k n):k.wrap n=n:=by cases k<;>simp only[bE,IntKind.wrap,IntKind.bits,IntKind.signed]at h⊢<;>simp<;>(try split)<;>omega
def Lp{k:IntKind}{x y:Int}{c:C}(h:Ln op k x y=aa (c,obs))(a:au obs)(i:bE k x)(l:bE k y)(t:av)(M:Mem):
  ∃v,(binOp op t (.int k x) (.int k y)).run P w=.ok v w/\Rd M v c:=by
 cases op<;>simp only[Ln,dn,mn,reduceCtorEq]at h
 case add=>obtain⟨rfl,rfl⟩:=h;exact⟨_,by simp only[binOp,dz,fx,cg,Op.intArith,mZ a];rfl,.int a⟩
 case sub=>obtain⟨rfl,rfl⟩:=h;exact⟨_,by simp only[binOp,dz,fx,cg,Op.intArith,mZ a];rfl,.int a⟩
 case mul=>obtain⟨rfl,rfl⟩:=h;exact⟨_,by simp only[binOp,dz,fx,cg,Op.intArith,mZ a];rfl,.int a⟩
 case quo =>
  obtain⟨rfl,rfl⟩:=h;obtain⟨d,b⟩:=a;replace b:0<y:=b;have e:x.tdiv y=x / y:=Int.tdiv_eq_ediv_of_nonneg d;have f:bE k (x / y):=by have g:0<=x / y:=Int.ediv_nonneg d (by omega);have j:x / y<=x:=Int.ediv_le_self _ d;cases k<;>simp only[bE]at i⊢<;>omega
  exact⟨_,by simp only[binOp,dz,fx,cg,Op.intDiv,show y≠0 by omega,e,mZ f];rfl,.int f⟩
 case rem =>
  obtain⟨rfl,rfl⟩:=h;obtain⟨d,b⟩:=a;replace b:0<y:=b;have e:x.tmod y=x % y:=Int.tmod_eq_emod_of_nonneg d;have f:bE k (x % y):=by have g:0<=x % y:=qK _ (by omega);have j:x % y<y:=qF _ b;cases k<;>simp only[bE]at l⊢<;>omega
  exact⟨_,by simp only[binOp,dz,fx,cg,Op.intDiv,show y≠0 by omega,e];rfl,.int f⟩
 all_goals (obtain⟨rfl,rfl⟩:=h;exact⟨_,by simp only[binOp,dz,fx,cg,Op.intCmp,gt_iff_lt,ge_iff_le];rfl,.bool⟩)
def Lq{x y:ByteArray}{a b:List UInt8}{c:C}(h:Lo op a b=aa (c,obs))(d:au obs)(g:x.data.toList=a)(i:y.data.toList=b)(t:av)(M:Mem):
  ∃v,(binOp op t (.string x) (.string y)).run P w=.ok v w/\Rd M v c:=by
 subst g i;cases op<;>simp only[Lo,dn,mn,reduceCtorEq]at h
 case add =>
  obtain⟨rfl,rfl⟩:=h;have j:¬((x.size+y.size:Nat):Int)>IntKind.i64.max:=by have l:x.data.toList.length=x.size:=jK;have k:y.data.toList.length=y.size:=jK;have e:IntKind.i64.max=9223372036854775807:=rfl;have f:x.data.toList.length+y.data.toList.length<=9223372036854775807:=d;grind
  refine⟨_,by simp only[binOp,Op.stringOp,j,cg];rfl,.str (by simp) (by simpa using d)⟩
 all_goals (obtain⟨rfl,rfl⟩:=h;exact⟨_,by simp only[binOp,Op.stringOp,ByteArray.toList_eq];rfl,.bool⟩)
def Pv{k:IntKind}{x y:Int}{c:C}(h:Ln op k x y=aa (c,obs))(b:au obs)(t:av):
  (binOp op t (.int k x) (.int k y)).events P w #[]=#[]:=by
 cases op<;>simp only[Ln,dn,mn,reduceCtorEq]at h
 case quo =>
  obtain⟨rfl,rfl⟩:=h;obtain⟨d,a⟩:=b;replace a:0<y:=a;simp only[binOp,dz,fx,cg,Op.intDiv,show y≠0 by omega];rfl
 case rem =>
  obtain⟨rfl,rfl⟩:=h;obtain⟨d,a⟩:=b;replace a:0<y:=a;simp only[binOp,dz,fx,cg,Op.intDiv,show y≠0 by omega];rfl
 all_goals (simp only[binOp,dz,fx,cg,Op.intCmp,Op.intArith];rfl)
def Pw{x y:ByteArray}{a b:List UInt8}{c:C}(h:Lo op a b=aa (c,obs))(i:au obs)(f:x.data.toList=a)(g:y.data.toList=b)(t:av):
  (binOp op t (.string x) (.string y)).events P w #[]=#[]:=by
 subst f g;cases op<;>simp only[Lo,dn,mn,reduceCtorEq]at h
 case add =>
  obtain⟨rfl,rfl⟩:=h;have j:¬((x.size+y.size:Nat):Int)>IntKind.i64.max:=by have l:x.data.toList.length=x.size:=jK;have k:y.data.toList.length=y.size:=jK;have e:IntKind.i64.max=9223372036854775807:=rfl;have d:x.data.toList.length+y.data.toList.length<=9223372036854775807:=i;grind
  simp only[binOp,Op.stringOp,j,cg];rfl
 all_goals (simp only[binOp,Op.stringOp];rfl)
def IP:IntKind->IntKind->Bool
 |.i8,.i8|.i16,.i16|.i32,.i32|.i64,.i64|.u8,.u8|.u16,.u16|.u32,.u32|.u64,.u64=>ab
 |_,_=>af
def Bj{k k':IntKind}(h:IP k k'=ab):k=k':=by cases k<;>cases k'<;>first|rfl|(cases h;done)
def O0(op:BinOp):C->C->Option (C×List Prop)
 |.int k x,.int k' y=>cond (IP k k') (Ln op k x y) ae
 |.str a,.str b=>Lo op a b
 |_,_=>ae
def hO(op:BinOp)(t:av)(x y:aB)(k k':IntKind)(n a:Int)(u:ay):(eqGuard op t x y (.int k n) (.int k' a)).run P u=.ok () u:=by cases op<;>rfl
def vm(op:BinOp)(t:av)(x y:aB)(a b:ByteArray)(u:ay):(eqGuard op t x y (.string a) (.string b)).run P u=.ok () u:=by cases op<;>rfl
def j8(op:BinOp)(t:av)(x y:aB)(k k':IntKind)(n a:Int)(u:ay)(es:Array Event):(eqGuard op t x y (.int k n) (.int k' a)).events P u es=es:=by cases op<;>rfl
def xP(op:BinOp)(t:av)(x y:aB)(a b:ByteArray)(u:ay)(es:Array Event):(eqGuard op t x y (.string a) (.string b)).events P u es=es:=by cases op<;>rfl
theorem bL.binOp(h:o.op=.binOp op t x y ty){a b c:C}(z:η x=.e (.one (.c a)))(A:η y=.e (.one (.c b)))(g:O0 op a b=aa (c,obs))(i:au obs):bL P o η σ (.e (.one (.c c))) σ:=by
 refine .quiet λs r _ q=>?_;have h1:=q x;have h2:=q y;rw[z]at h1;rw[A]at h2;replace h1:=fe h1;replace h2:=fe h2;generalize d:r x=vx at h1;generalize f:r y=vy at h2;cases h1<;>cases h2<;>simp only[O0,reduceCtorEq]at g
 case int.int k n u k' n' hn' =>
  cases hk:IP k k'<;>simp only[hk,cond,reduceCtorEq]at g
  cases Bj hk;obtain⟨v,m,j⟩:=Lp (P:=P) (w:=s.w) g i u hn' t s.M;exact⟨v,by simp only[aq,h,bT,d,f,hO,cu,m,dE],j,by simp[aq,h,d,f,hO,j8,Pv g i]⟩
 case str.str =>
  rename_i B l p hl y' l' hy ES;obtain⟨v,m,j⟩:=Lq (P:=P) (w:=s.w) g i p hy t s.M;exact⟨v,by simp only[aq,h,bT,d,f,vm,cu,m,dE],j,by simp[aq,h,d,f,vm,xP,Pw g i p hy]⟩
def X6(op:UnOp):C->Option C
 |.bool b=>match op with|.not=>aa (.bool (!b))|_=>ae
 |_=>ae
theorem bL.unOp{op:UnOp}(h:o.op=.unOp op t x){a c:C}(f:η x=.e (.one (.c a)))(d:X6 op a=aa c):bL P o η σ (.e (.one (.c c))) σ:=by
 refine .quiet λs i _ g=>?_;have h1:=g x;rw[f]at h1;replace h1:=fe h1;generalize b:i x=vx at h1;cases h1<;>simp only[X6,reduceCtorEq]at d
 cases op<;>simp only[reduceCtorEq,dn]at d
 subst d;exact⟨_,by simp only[aq,h,b,Op.unary,bT,dE,cu],Rd.bool,by simp[aq,h,b,Op.unary]⟩
theorem im.get{xs:List E1}(r:im σ s vs xs){x:E1}(h:xs[j]?=aa x):∃v,vs[j]?=aa v/\ow σ s v x:=by
 induction vs generalizing xs j with
 |nil=>cases xs<;>simp_all[im]
 |cons v vs ih =>
  cases xs with
  |nil=>grind
  |cons b cs =>
   cases j with
   |zero=>simp at h;subst h;exact⟨v,rfl,r.1⟩
   |succ j=>simp at h;obtain⟨u,a,c⟩:=ih r.2 h;grind
theorem bL.extract{P:aJ}{o:aC}{η:aB->D}{σ:List bg}{x:aB}{j:Nat}(h:o.op=.extract x j){xs:List E1}{e:E1}(f:η x=.fD xs)(c:xs[j]?=aa e):bL P o η σ (.e e) σ:=by refine .quiet λs k _ g=>?_;have h1:=g x;rw[f]at h1;obtain⟨vs,i,d⟩:=h1;obtain⟨v,a,b⟩:=d.get c;refine⟨v,?_,b,?_⟩<;>simp[aq,h,i,Instr.extract,a]
def AO(b o:Nat):Event:=⟨.cell ⟨b,o,ae⟩,af,af⟩
def Ix(b o:Nat):Event:=⟨.cell ⟨b,o,ae⟩,ab,af⟩
theorem dw(b o n:Nat):(⟨b,o,ae⟩:Addr).add n=⟨b,o+n,ae⟩:=by unfold Addr.add;split<;>simp_all
section
def AR{o:Nat}(h:w.cell? ⟨b,o,ae⟩=aa v)(es:Array Event):(load ⟨b,o,ae⟩).events P w es=es.push (AO b o):=by rw[events_load,h];rfl
def n3{w:ay}{b o:Nat}:∀(n i:Nat) (acc:Array ai) (es:Array Event),(∀j,j<n->∃v,w.cell? ⟨b,o+(i+j),ae⟩=aa v) ->
    ∀e∈(loadCellsFrom ⟨b,o,ae⟩ i n acc).events P w es,e∈es∨∃j,j<i+n/\e=AO b (o+j)
  | 0,i,acc,es,_=>λe h=>.inl (by simpa[loadCellsFrom]using h)
  | n+1,i,acc,es,c=>λe h=>by
    obtain⟨v,a⟩:=c 0 (by omega);simp only[iO]at a;simp only[loadCellsFrom,aR,dw,run_load,a,aV,AR a]at h;rcases n3 n (i+1) (acc.push v) _ (λj d=>by grind) e h with f|⟨j,d,rfl⟩
    · grind
    grind
def sY{o:Nat}{es:Array Event}(h:∀j,j<n->∃v,w.cell? ⟨b,o+j,ae⟩=aa v):∀e∈(loadCells ⟨b,o,ae⟩ n).events P w es,e∈es∨∃j,j<n/\e=AO b (o+j):=by intro e a;have:=n3 (P:=P) n 0 #[] es (by grind) e a;grind
def dT{b o:Nat}{t:av}:∀(vs:List ai) (i:Nat) (a:Array ai) (w:ay) (es:Array Event),w.heap[b]?=aa (.cells a t (0,0))->o+i+vs.length<=a.size->(∀v∈vs,v.oneCell'=ab) ->
    ∀e∈(storeCells ⟨b,o,ae⟩ vs i).events P w es,e∈es∨∃j,i<=j/\j<i+vs.length/\e=Ix b (o+j)
  | [],_,_,_,_,_,_,_=>λe h=>.inl (by simpa[storeCells]using h)
  | v::rest,i,a,w,es,k,r,l=>λe h=>by
    have hi:o+i<a.size:=by grind
    have c:w.cell? ⟨b,o+i,ae⟩=aa a[o+i]:=by simp[aP,k,hi]
    have d:w.frozen? ⟨b,o+i,ae⟩=af:=by simp[World.frozen?,k]
    have g:(store (⟨b,o+i,ae⟩:Addr) v).run P w=.ok () (w.setRow b (a.setIfInBounds (o+i) v)):=by grind[run_store,setCell_eq_setRow]
    have f:(store (⟨b,o+i,ae⟩:Addr) v).events P w es=es.push (Ix b (o+i)):=by rw[events_store P w es _ v _ (l v (by simp)),c];simp only[d,jZ,cg];rfl
    simp only[storeCells,aR,dw,g,f,aV]at h;rcases dT rest (i+1) (a.setIfInBounds (o+i) v) _ _ (setRow_heap _ _ _ _ _ _ k) (by grind) (λu q=>l u (by grind)) e h with m|⟨j,p,n,rfl⟩
    · grind
    grind
def dj(P:aJ)(m:Sem α):Prop:=∀w es,m.events P w es=es
def dj.bind{β:Type}{m:Sem α}{f:α->Sem β}(h:dj P m)(k:∀a,dj P (f a)):dj P (m >>= f):=by
  intro w es;rw[aR,h w es];cases m.run P w with
  | ok a w'=>exact k a w' es
  | halt x w'=>rfl
def dj.pure{α:Type}{a:α}:dj P (Pure.pure a:Sem α):=λ_ _=>rfl
def dj.stuck{α:Type}{a:String}:dj P (Go.stuck a:Sem α):=λ_ _=>rfl
def dj.unsupported{α:Type}{u:Unsupported}:dj P (Go.unsupported u:Sem α):=λ_ _=>rfl
def dj.sizeOf{t:av}:dj P (sizeOf t):=λ_ _=>events_sizeOf ..
def dj.underlying{t:av}:dj P (underlying t):=λ_ _=>events_underlying ..
def dj.zeroValue{t:av}:dj P (zeroValue t):=λ_ _=>events_zeroValue ..
def dj.newObj{o:Obj}:dj P (newObj o):=λ_ _=>rfl
def dj.newRow{t:av}{c:Array ai}:dj P (newRow t c):=.bind .newObj λ_=>.pure
def dj.Rl{α β:Type}{f:α->Sem β}(h:∀a,dj P (f a)):∀l:List α,dj P (l.mapM f)
  | []=>by rw[List.mapM_nil];exact .pure
  | a::l=>by rw[l6];exact .bind (h a) λ_=>.bind (dj.Rl h l) λ_=>.pure
def dj.map{α β:Type}{f:α->β}{m:Sem α}(h:dj P m):dj P (Functor.map f m):=λw es=>by rw[Sem.events_map];exact h w es
def dj.VN{β:Type}{f:α->Sem β}(h:∀a,dj P (f a))(l:Array α):dj P (l.mapM f):=by rw[rR];exact .map (.Rl h _)
def dj.KF{α β:Type}{F:α->β->Sem (ForInStep β)}(h:∀a b,dj P (F a b)):∀(l:List α) (b:β),dj P (forIn l b F)
  | [],b=>by rw[List.forIn_nil];exact .pure
  | a::l,b=>by
    rw[List.forIn_cons];refine .bind (h a b) λr=>?_;cases r with
    | done b=>exact .pure
    | yield b=>exact dj.KF h l b
theorem dj.build{t:av}{parts:Array (Nat×ai)}:dj P (Instr.build t parts):=by
  unfold Instr.build;refine .bind .zeroValue λz=>.bind .underlying λd=>?_;cases d<;>first
    | exact .stuck
    | (refine .bind (.VN (λ_=>.bind .sizeOf λ_=>.pure) _) λpl=>?_
       split
       · exact .pure
       · exact .stuck)
    | (refine .bind .sizeOf λn=>?_
       split
       · exact .pure
       · exact .stuck)
theorem dj.buildSlice{t:av}{n:Nat}{parts:Array (Nat×ai)}:dj P (Instr.buildSlice t n parts):=by
  unfold Instr.buildSlice;refine .bind .underlying λd=>?_;cases d<;>first
    | exact .stuck
    | (refine .bind .sizeOf λm=>?_
       dsimp only
       have hj:∀(elem:av) (zero:Array ai),dj P (match Instr.fill (λi=>aa (i*m,m)) (Array.map (λx=>zero[x % zero.size]!) (Array.range (n*m))) parts.toList with
          | some cells=>do
            let a<-Go.newRow elem cells
            Pure.pure (Value.slice (aa a) n n)
          | _=>Go.stuck "buildSlice: a part of the wrong size"):=by
         intro elem zero;split
         · exact .bind .newRow λ_=>.pure
         · exact .stuck
       by_cases b:n*m=0
       · simp only[b,b6]
         rw[b]at hj;split
         · grind
         · exact .bind .pure λz=>hj _ z
       · simp only[b,cg]
         split
         · exact .bind .unsupported λ_=>.bind .zeroValue λz=>.bind .pure λz=>hj _ z
         · exact .bind .zeroValue λz=>.bind .pure λz=>hj _ z)
def j9{o:Nat}{L:Loc}(a:L∈s.β)(c:b∈L.bs):oJ s (AO b o):=⟨rfl,rfl,.inr (.inl ⟨⟨L,a,c⟩,λh=>by cases h⟩)⟩
def CB{o:Nat}(h:s.M b o=aa v):oJ s (AO b o):=⟨rfl,rfl,.inr (.inr ⟨rfl,v,h⟩)⟩
theorem j7{o:Nat}{L:Loc}(a:L∈s.β)(c:b∈L.bs)(d:s.M b o=ae):oJ s (Ix b o):=⟨rfl,rfl,.inr (.inl ⟨⟨L,a,c⟩,λ_=>d⟩)⟩
end
structure TI where
 size:Nat
 bytes:Nat
 agg:Bool
 desc:TypeDesc
 zero:List C
 eq:List TypeDesc:=[]
def sk:TypeDesc->ai->ai->Option Bool
 |.int _,.int k a,.int k' b=>if k=k' then aa (a==b)else ae
 |.string,.string a,.string b=>aa (a.toList==b.toList)
 |.bool,.bool a,.bool b=>aa (a==b)
 |_,_,_=>ae
def kr:List TypeDesc->List ai->List ai->Option Bool
 |[],[],[]=>aa ab
 |d::ds,v::vs,w::ws=>match sk d v w with
  |some a=>match kr ds vs ws with
   |some b=>aa (a&&b)
   |none=>ae
  |none=>ae
 |_,_,_=>ae
def Bt:TypeDesc->Bool
 |.struct _|.array _ _=>ab
 |_=>af
structure dL(P:aJ)(t:av)(i:TI):Prop where
 UY:P.underlying t=aa i.desc
 agg:Bt i.desc=i.agg
 info:∃inf z,P.info? t=aa inf/\inf.size=i.size/\inf.bytes=i.bytes/\inf.zero=aa z/\z.cells.toList.map r5=i.zero.map aa/\(∃cs,z=if i.agg then .agg cs else z)/\i.zero.length=i.size
 eqs:i.eq≠[]->P.eqGuardType P.depth t=af/\∀(w:ay) (vs ws:List ai) (b:Bool),kr i.eq vs ws=aa b->(Op.equal t (.agg vs.toArray) (.agg ws.toArray)).run P w=.ok b w/\∀es,(Op.equal t (.agg vs.toArray) (.agg ws.toArray)).events P w es=es
def bJ:List (Nat×TI)->Nat->Option TI
 |[],_=>ae
 |(i,d)::r,t=>cond (aw i t) (aa d) (bJ r t)
def cV(P:aJ)(T:List (Nat×TI)):Prop:=∀t i,bJ T t=aa i->dL P t i
section
variable {i:TI}
def dL.run_underlying(h:dL P t i):(underlying t).run P w=.ok i.desc w:=by simp[underlying,h.UY]
def dL.kP(h:dL P t i):(isAgg t).run P w=.ok i.agg w:=by have:=h.agg;unfold Go.isAgg;rw[bT,h.run_underlying];cases a:i.desc<;>rw[a]at this<;>simp[Bt]at this<;>simp[this]
def dL.run_sizeOf(h:dL P t i):(sizeOf t).run P w=.ok i.size w:=by obtain⟨a,z,h1,h2,_⟩:=h.info;simp[sizeOf,typeInfo,h1,h2]
def lk{σ:List bg}{s:St}:∀{vs:List ai}{cs:List C},vs.map r5=cs.map aa->er σ s vs (cs.map A.c)
 |[],[],_=>trivial
 |[],_::_,h=>by grind
 |_::_,[],h=>by grind
 |v::vs,c::cs,h=>by simp only[qM,List.cons.injEq]at h;exact⟨Rd.r5 h.1,lk h.2⟩
def dL.Lr(h:dL P t i)(σ:List bg)(s:St):∃z,(zeroValue t).run P w=.ok z w/\er σ s z.cells.toList (i.zero.map A.c):=by obtain⟨a,z,h1,h2,e,b,d,_⟩:=h.info;exact⟨z,by simp[zeroValue,typeInfo,h1,b],lk d⟩
end
def kR:D->Option (List A)
 |.e (.one a)=>aa [a]
 |.e (.agg cs)=>aa cs
 |_=>ae
theorem mf{d:D}{cs:List A}(h:kR d=aa cs)(r:du σ s v d):er σ s v.cells.toList cs:=by
 cases d with
 |e x =>
  cases x with
  |one a =>
   cases h;have:=gH.cell r;cases v<;>first|exact⟨r,ak⟩|cases this
  |agg c =>
   cases h;obtain⟨vs,rfl,b⟩:=r;simpa[Value.cells]using b
 |fD xs=>cases h
 |any=>cases h
def bL.newVar{P:aJ}{o:aC}{η:aB->D}{σ:List bg}{E:av}{cs:List A}(h:∀s a,aE σ s->(∀y,du σ s (a y) (η y))->∃v:ai,(aq a o).run P s.w=((do pure (.value (.pointer (aa (<-newVar E v))))):Sem Next).run P s.w/\er σ s v.cells.toList cs/\(aq a o).events P s.w #[]=#[]):
  bL P o η σ (.e (.one (.ptr σ.length 0))) (σ++[.cells E cs]):=by
 intro s a hh hr;obtain⟨v,h1,h2,b⟩:=h s a hh hr;refine⟨.value (.pointer (aa ⟨s.w.heap.size,0,ae⟩)),s.gf E v.cells.toList,?_,?_,hh.gf h2,.gf s E _ _,by rw[b];exact .nil⟩
 .rw[h1];simp[Go.newVar,newRow,St.gf]
 .refine⟨by simp,⟨.pointer (aa ⟨s.w.heap.size,0,ae⟩),[s.w.heap.size]⟩,s.w.heap.size,?_,rfl,rfl⟩;simp[St.gf,<-hh.len]
theorem bL.alloc{P:aJ}{T:List (Nat×TI)}(hT:cV P T){o:aC}{η:aB->D}{σ:List bg}{E:av}(h:o.op=.alloc E){i:TI}(hi:bJ T E=aa i):
  bL P o η σ (.e (.one (.ptr σ.length 0))) (σ++[.cells E (i.zero.map A.c)]):=by refine .newVar λs d _ _=>?_;obtain⟨z,a,b⟩:=(hT E i hi).Lr (w:=s.w) σ s;exact⟨z,by simp[aq,h,Instr.alloc,a],b,by simp[aq,h,Instr.alloc,a,Go.newVar,newRow]⟩
theorem bL.box{P:aJ}{o:aC}{η:aB->D}{σ:List bg}{E:av}{x:aB}(h:o.op=.box E x){cs:List A}(a:kR (η x)=aa cs):
  bL P o η σ (.e (.one (.ptr σ.length 0))) (σ++[.cells E cs]) :=
 .newVar λs c _ b=>⟨c x,by simp[aq,h,Instr.box],mf a (b x),by simp[aq,h,Instr.box,Go.newVar,newRow]⟩
def po{α:Type}:Nat->List α->Option (List α)
 |0,_=>aa []
 |n+1,x::xs=>match po n xs with|some r=>aa (x::r)|none=>ae
 |_+1,[]=>ae
def nV{α:Type}:∀{n:Nat}{l r:List α},po n l=aa r->r=l.take n/\r.length=n
 |0,l,r,h=>by cases h;simp
 |n+1,[],r,h=>by simp[po]at h
 |n+1,x::xs,r,h=>by
  simp only[po]at h;cases a:po n xs with
  |none=>grind
  |some q =>
   simp[a]at h;subst h;obtain⟨c,b⟩:=nV a;grind
def dF{α:Type}:Nat->List α->Option α
 |_,[]=>ae
 |0,x::_=>aa x
 |n+1,_::xs=>dF n xs
theorem b7{α:Type}:∀{n:Nat}{l:List α}{x:α},dF n l=aa x->l[n]?=aa x
 |_,[],_,h=>by simp[dF]at h
 |0,x::_,_,h=>by simpa[dF]using h
 |n+1,_::xs,_,h=>by simpa using b7 (n:=n) (l:=xs) h
def fZ{α:Type}:Nat->List α->List α
 |0,l=>l
 |_+1,[]=>[]
 |n+1,_::xs=>fZ n xs
def mF{α:Type}:∀(n:Nat)(l:List α),fZ n l=l.drop n
 |0,_=>by simp[fZ]
 |_+1,[]=>by simp[fZ]
 |n+1,_::xs=>by simp[fZ,mF n xs]
def lq(i:TI)(cs:List A):Option E1 :=
 match i.agg with
 |true=>match po i.size cs with|some r=>aa (.agg r)|none=>ae
 |false=>match dF 0 cs with|some a=>aa (.one a)|none=>ae
def iV{i:TI}(l:dL P t i){cs:List A}{e:E1}(x:∀(j:Nat) (v:ai),vs[j]?=aa v->s.w.cell? ⟨b,off+j,ae⟩=aa v)(k:er σ s vs cs)(g:lq i cs=aa e):
  ∃v,(loadVar t ⟨b,off,ae⟩).run P s.w=.ok v s.w/\ow σ s v e:=by
 simp only[loadVar,bT,l.kP,cu];cases n:i.agg<;>simp only[lq,n]at g
 .cases d:dF 0 cs with
  |none=>grind
  |some a =>
   simp[d]at g;subst g;obtain⟨v,u,h⟩:=k.get (b7 d);refine⟨v,?_,h⟩;grind[run_load]
 .cases d:po i.size cs with
  |none=>grind
  |some r =>
   simp[d]at g;subst g;obtain⟨o,m⟩:=nV d;have c:=k.take i.size;rw[<-o]at c;have p:(vs.take i.size).length=i.size:=by rw[c.length,m]
   have f:=run_loadCells_list (P:=P) s.w ⟨b,off,ae⟩ (vs.take i.size) (λj v q=>by grind[dw])
   rw[p]at f;refine⟨.agg (vs.take i.size).toArray,?_,vs.take i.size,rfl,c⟩;simp[l.run_sizeOf,f]
def gy{i:TI}(f:dL P t i)(k:∀j,j<n->∃v,w.cell? ⟨b,off+j,ae⟩=aa v)(c:(if i.agg then i.size else 1)<=n):
  ∀e∈(loadVar t ⟨b,off,ae⟩).events P w #[],∃j,j<n/\e=AO b (off+j):=by
 intro e a;simp only[loadVar,aR,f.kP,aV,events_isAgg]at a;cases d:i.agg
 .rw[d]at c a;obtain⟨v,g⟩:=k 0 (by grind);simp only[iO]at g;simp only[jZ,cg,AR g]at a;rcases Array.mem_push.1 a with h|rfl
  .grind
  .exact⟨0,by grind,rfl⟩
 .rw[d]at c a;simp only[b6]at c;simp only[b6,aR,f.run_sizeOf,aV,events_sizeOf]at a;have key:∀e∈(loadCells ⟨b,off,ae⟩ i.size).events P w #[],∃j,j<n/\e=AO b (off+j):=by
   intro e a;rcases sY (P:=P) (λj l=>k j (by omega)) e a with h|⟨j,l,rfl⟩
   .grind
   grind
  apply key;generalize(loadCells ⟨b,off,ae⟩ i.size).run P w=r at a;cases r with
  |ok v w'=>simpa using a
  |halt x w'=>simpa using a
theorem lu{i:TI}{cs:List A}{e:E1}(h:lq i cs=aa e):(if i.agg then i.size else 1)<=cs.length:=by
 unfold lq at h;cases a:i.agg<;>rw[a]at h
 .cases cs with
  |nil=>simp[dF]at h
  |cons c cs=>simp
 .simp only at h;cases b:po i.size cs with
  |none=>grind
  |some r =>
   obtain⟨f,d⟩:=nV b;grind
theorem bL.Hg{T:List (Nat×TI)}(hT:cV P T)(h:o.op=.load t x){cs:List A}{i:TI}{e:E1}(B:η x=.e (.one (.ptr l off)))(hB:σ[l]?=aa (.cells E cs))(hi:bJ T t=aa i)(r:lq i (fZ off cs)=aa e):bL P o η σ (.e e) σ:=by
 refine .oM λs C hh hr=>?_
 have h1:=hr x;rw[B]at h1;obtain⟨_,L,b,z,f,y⟩:=h1;obtain⟨k,vs,rfl,p,g,_⟩:=hh.box l _ L hB z;simp at f;subst f;rw[mF]at r;obtain⟨v,d,m⟩:=iV (s:=s) (σ:=σ) (P:=P) (hT t i hi) (b:=k) (off:=off) (vs:=vs.drop off) (cs:=cs.drop off) (e:=e) (λj v hj=>by
  simp only[aP,p]
  grind) (g.drop off) r
 refine⟨v,by simp[aq,h,y,Instr.loadAt,bt,d],m,λq a=>?_⟩;have c:q∈(loadVar t ⟨k,off,ae⟩).events P s.w #[]:=by
  have e:aq C o=(do pure (.value (<-loadVar t ⟨k,off,ae⟩))):=by simp[aq,h,y,Instr.loadAt,bt]
  rw[e]at a;simpa[d]using a
 have u:(vs.drop off).length=(cs.drop off).length:=(g.drop off).length;obtain⟨j,hj,rfl⟩:=gy (hT t i hi) (n:=(vs.drop off).length) (λj hj=>by refine⟨(vs.drop off)[j],?_⟩;simp only[aP,p];simp at hj⊢<;>omega) (by grind[lu]) q c
 exact j9 (bP z) (by simp)
theorem bL.KP{T:List (Nat×TI)}(hT:cV P T)(h:o.op=.load t x){cs:List C}{i:TI}{e:E1}(D:η x=.e (.one (.c (.rp cs))))(hi:bJ T t=aa i)(y:lq i (cs.map A.c)=aa e):bL P o η σ (.e e) σ:=by
 refine .oM λs B hh hr=>?_;have h1:=hr x;rw[D]at h1;have h2:=fe h1;generalize l:B x=vx at h2;cases h2;rename_i b off f p E;have q:∀(n:Nat) (ds:List C),(∀j c,ds[j]?=aa c->Rd s.M (f (n+j)) c)->er σ s ((bc ds.length).map λj=>f (n+j)) (ds.map A.c):=by
  intro n ds;induction ds generalizing n with
  |nil=>intro _;trivial
  |cons d ds ih =>
   intro z;rw[fb,we];refine⟨z 0 d rfl,?_⟩;have:=ih (n+1) (λj c hj=>by have:=z (j+1) c (by grind);grind);grind[Function.comp_def]
 obtain⟨v,k,r⟩:=iV (s:=s) (σ:=σ) (P:=P) (hT t i hi) (b:=b) (off:=off) (vs:=(bc cs.length).map λj=>f (0+j)) (cs:=cs.map A.c) (e:=e) (λj v hj=>by
  simp only[nA,bF]at hj;by_cases m:j<cs.length
  .simp[m]at hj;subst hj;exact hh.mem _ _ _ (p j cs[j] (bn m))
  grind) (q 0 cs (by grind)) y
 refine⟨v,by simp[aq,h,l,Instr.loadAt,bt,k],r,λu a=>?_⟩;have g:u∈(loadVar t ⟨b,off,ae⟩).events P s.w #[]:=by
  have e:aq B o=(do pure (.value (<-loadVar t ⟨b,off,ae⟩))):=by simp[aq,h,l,Instr.loadAt,bt]
  rw[e]at a;simpa[k]using a
 obtain⟨j,hj,rfl⟩:=gy (hT t i hi) (n:=cs.length) (λj hj=>⟨f j,hh.mem _ _ _ (p j cs[j] (bn hj))⟩) (by have:=lu y;grind) u g;exact CB (p j cs[j] (bn hj))
def fI{α:Type}:Nat->List α->List α->Option (List α)
 |0,[],l=>aa l
 |0,n::ns,_::cs=>match fI 0 ns cs with|some r=>aa (n::r)|none=>ae
 |k+1,ns,c::cs=>match fI k ns cs with|some r=>aa (c::r)|none=>ae
 |_,_,[]=>ae
def rf{α:Type}:∀{off:Nat}{new l r:List α},fI off new l=aa r->off+new.length<=l.length/\r=l.take off++new++l.drop (off+new.length)
 |0,[],l,r,h=>by cases l<;>cases h<;>simp
 |0,n::ns,c::cs,r,h=>by
  simp only[fI]at h;cases a:fI 0 ns cs with
  |none=>grind
  |some q =>
   simp[a]at h;subst h;obtain⟨d,b⟩:=rf a;grind
 |0,n::ns,[],r,h=>by simp[fI]at h
 |k+1,ns,c::cs,r,h=>by
  simp only[fI]at h;cases a:fI k ns cs with
  |none=>grind
  |some q =>
   simp[a]at h;subst h;obtain⟨d,b⟩:=rf a;grind
 |k+1,ns,[],r,h=>by simp[fI]at h
def er.fI{new:List ai}{cs Tj r:List A}(h:AM.fI off Tj cs=aa r)(h1:er σ s vs cs)(h2:er σ s new Tj):
  off+new.length<=vs.length/\er σ s (vs.take off++new++vs.drop (off+new.length)) r:=by obtain⟨k1,rfl⟩:=rf h;rw[h2.length,h1.length];refine⟨k1,((h1.take off).append h2).append (by have:=h1.drop (off+Tj.length);exact this)⟩
theorem bL.store{T:List (Nat×TI)}(hT:cV P T)(h:o.op=.store t x y){cs new nO:List A}{i:TI}(I:η x=.e (.one (.ptr l off)))(hB:σ[l]?=aa (.cells E cs))(hi:bJ T t=aa i)(G:kR (η y)=aa new)(z:new.length=i.size)(J:fI off new cs=aa nO):
  bL P o η σ .any (σ.set l (.cells E nO)):=by
 intro s d hh hr;have h1:=hr x;rw[I]at h1;obtain⟨_,L,b,u,k,D⟩:=h1;obtain⟨p,vs,rfl,C,q,g⟩:=hh.box l _ L hB u;simp at k;subst k;have c:=mf G (hr y);obtain⟨k1,F⟩:=er.fI J q c;obtain⟨w1,w2⟩:=hh.write hB u rfl F;refine⟨.skip,_,?_,rfl,w1,w2,?_⟩
 rotate_left
 .intro B a;have f:(d y).cells.size=i.size:=by rw[<-z,<-c.length,jK]
  have e:aq d o=(do storeVar t ⟨p,off,ae⟩ (d y);pure .skip):=by simp[aq,h,D,Instr.storeAt,bt]
  rw[e]at a;have m:B∈(storeCells ⟨p,off,ae⟩ (d y).cells.toList).events P s.w #[]:=by
   simp only[storeVar,aR,(hT t i hi).run_sizeOf,f,aV,events_sizeOf,dz,fx,cg,bT,cu,Sem.events_pure]at a;generalize(storeCells ⟨p,off,ae⟩ (d y).cells.toList).run P s.w=r at a;cases r with
   |ok v w'=>simpa using a
   |halt x w'=>simpa using a
  rcases dT (d y).cells.toList 0 vs.toArray s.w #[] C (by grind) c.cell B m with H|⟨j,_,_,rfl⟩
  .grind
  .exact j7 (bP u) (by simp) (g _)
 have n:=run_storeCells_at P p off E (d y).cells.toList 0 vs.toArray s.w C (by grind) (c.cell);have f:(d y).cells.size=i.size:=by rw[<-z,<-c.length,jK]
 simp only[iO]at n;simp[aq,h,D,Instr.storeAt,bt,storeVar,(hT t i hi).run_sizeOf,f,n]
def ki(T:List (Nat×TI))(t:av)(f:Nat):Option (Nat×TI) :=
 match bJ T t with
 |some i=>match i.desc with
  |.struct fs=>match dF f fs.toList with
   |some fl=>match bJ T fl.type with
    |some j=>cond (aw j.size 0) ae (aa (fl.offset,j))
    |none=>ae
   |none=>ae
  |_=>ae
 |none=>ae
def uC{T:List (Nat×TI)}(hT:cV P T){f:Nat}{j:TI}(h:ki T t f=aa (off,j)):
  ∃i fs fl,bJ T t=aa i/\i.desc=.struct fs/\fs[f]?=aa fl/\fl.offset=off/\bJ T fl.type=aa j/\j.size≠0/\dL P t i/\dL P fl.type j:=by
 unfold ki at h;split at h
 .rename_i i hi;split at h
  .rename_i fs Zy;split at h
   .rename_i fl hfl;split at h
    .rename_i c b;cases a:aw c.size 0<;>simp[a]at h
     obtain⟨rfl,rfl⟩:=h;refine⟨i,fs,fl,hi,Zy,by simpa using b7 hfl,rfl,b,?_,hT _ _ hi,hT _ _ b⟩;intro e;rw[e]at a;cases a
    grind
   grind
  grind
 grind
def nb{T:List (Nat×TI)}(hT:cV P T){f:Nat}{j:TI}(h:ki T t f=aa (off,j))(b o:Nat)(w:ay):
  (Instr.fieldAt t (.pointer (aa ⟨b,o,ae⟩)) f).run P w=.ok (.pointer (aa ⟨b,o+off,ae⟩)) w:=by obtain⟨i,fs,fl,m,a,e,c,l,g,k,d⟩:=uC hT h;simp[Instr.fieldAt,k.run_underlying,a,e,bt,fieldPlace,d.run_sizeOf,g,dw,c]
def oX{T:List (Nat×TI)}(hT:cV P T){f:Nat}{j:TI}(h:ki T t f=aa (off,j))(b o:Nat)(w:ay)(es:Array Event):
  (Instr.fieldAt t (.pointer (aa ⟨b,o,ae⟩)) f).events P w es=es:=by obtain⟨i,fs,fl,m,a,d,k,l,e,g,c⟩:=uC hT h;simp[Instr.fieldAt,g.run_underlying,a,d,bt,fieldPlace,c.run_sizeOf,e]
def bL.tn{T:List (Nat×TI)}(hT:cV P T){f:Nat}(h:o.op=.fieldAddr t x f){k:Nat}{j:TI}(i:η x=.e (.one (.ptr l off)))(c:ki T t f=aa (k,j)):bL P o η σ (.e (.one (.ptr l (off+k)))) σ:=by refine .quiet λs n hh hr=>?_;have h1:=hr x;rw[i]at h1;obtain⟨g,L,b,m,a,d⟩:=h1;exact⟨.pointer (aa ⟨b,off+k,ae⟩),by simp[aq,h,d,nb hT c],⟨g,L,b,m,a,rfl⟩,by simp[aq,h,d,oX hT c]⟩
theorem bL.vh{T:List (Nat×TI)}(hT:cV P T){f:Nat}(h:o.op=.fieldAddr t x f){cs:List C}{k:Nat}{j:TI}(i:η x=.e (.one (.c (.rp cs))))(d:ki T t f=aa (k,j)):bL P o η σ (.e (.one (.c (.rp (fZ k cs))))) σ:=by
 refine .quiet λs m hh hr=>?_;have h1:=hr x;rw[i]at h1;have h2:=fe h1;generalize a:m x=vx at h2;cases h2;rename_i b o g n l;refine⟨.pointer (aa ⟨b,o+k,ae⟩),by simp[aq,h,a,nb hT d],?_,by simp[aq,h,a,oX hT d]⟩;rw[mF];refine Rd.rp b (o+k) (λj=>g (k+j)) (λj c hj=>?_) (λj c hj=>?_)
 .grind
 grind
def Ls{i:TI}(g:dL P t i){cs:List A}(r:er σ s vs cs){e:E1}(b:lq i (fZ off cs)=aa e)(w:ay):
  ∃v,(part t vs.toArray off).run P w=.ok v w/\ow σ s v e/\∀es,(part t vs.toArray off).events P w es=es:=by
 simp only[part,bT,g.kP,cu,aR,aV,events_isAgg];rw[mF]at b;cases j:i.agg<;>simp only[lq,j]at b
 .cases c:dF 0 (cs.drop off)with
  |none=>grind
  |some a =>
   simp[c]at b;subst b;obtain⟨v,h,f⟩:=(r.drop off).get (b7 c);simp at h;refine⟨v,?_,f,λes=>?_⟩<;>simp[h]
 .cases c:po i.size (cs.drop off)with
  |none=>grind
  |some q =>
   simp[c]at b;subst b;obtain⟨k,l⟩:=nV c;have d:=(r.drop off).take i.size;rw[<-k]at d;refine⟨.agg (vs.toArray.extract off (off+i.size)),by simp[g.run_sizeOf],⟨(vs.drop off).take i.size,?_,d⟩,λes=>by simp⟩;simp
theorem bL.field{P:aJ}{T:List (Nat×TI)}(hT:cV P T){o:aC}{η:aB->D}{σ:List bg}{t:av}{x:aB}{f:Nat}(h:o.op=.field t x f){cs:List A}{k:Nat}{j:TI}{e:E1}(p:η x=.e (.agg cs))(q:ki T t f=aa (k,j))(r:lq j (fZ k cs)=aa e):bL P o η σ (.e e) σ:=by refine .quiet λs B hh hr=>?_;have h1:=hr x;rw[p]at h1;obtain⟨vs,l,a⟩:=h1;obtain⟨i,fs,fl,h1,h2,g,n,z,y,m,u⟩:=uC hT q;obtain⟨v,b,d,c⟩:=Ls u a r s.w;exact⟨v,by simp[aq,h,l,Instr.field,m.run_underlying,h2,g,asAgg,n,b],d,by simp[aq,h,l,Instr.field,m.run_underlying,h2,g,asAgg,n,c]⟩
theorem bL.vj(h:o.op=.nilCheck x)(d:η x=.e (.one (.ptr l off))):bL P o η σ (.e (.one (.ptr l off))) σ:=by refine .quiet λs g hh hr=>?_;have h1:=hr x;rw[d]at h1;have a:=h1;obtain⟨i,L,b,j,f,c⟩:=h1;exact⟨g x,by simp[aq,h,c],a,by simp[aq,h,c]⟩
theorem bL.xy(h:o.op=.nilCheck x){cs:List C}(d:η x=.e (.one (.c (.rp cs)))):bL P o η σ (.e (.one (.c (.rp cs)))) σ:=by refine .quiet λs b hh hr=>?_;have h1:=hr x;rw[d]at h1;have h2:=fe h1;generalize a:b x=vx at h2;cases h2;exact⟨_,by simp[aq,h,a];rfl,by grind,by simp[aq,h,a]⟩
def IU(new:List ai):∀(j off:Nat)(cs:Array ai),off+j+new.length<=cs.size ->
  ((new.zipIdx j).foldl (λcs (x:ai×Nat)=>cs.setIfInBounds (off+x.2) x.1) cs).toList=cs.toList.take (off+j)++new++cs.toList.drop (off+j+new.length):=by
 induction new with
 |nil=>intro j off cs _;simp
 |cons v vs ih =>
  intro j off cs h;simp only[List.zipIdx_cons,jN];rw[ih (j+1) off _ (by grind)];have:=list_seg_step cs.toList (off+j) v vs (by grind);simpa[Array.toList_setIfInBounds,Nat.add_assoc]using this
def zH(place:Nat->Option (Nat×Nat)):List (Nat×List A)->List A->Option (List A)
 |[],cs=>aa cs
 |(i,new)::rest,cs=>match place i with
  |some (off,size)=>match aw new.length size with
   |true=>match fI off new cs with
    |some r=>zH place rest r
    |none=>ae
   |false=>ae
  |none=>ae
def xQ{σ:List bg}{s:St}{place place':Nat->Option (Nat×Nat)}(o:∀i p,place i=aa p->place' i=aa p):∀{parts:List (Nat×List A)}{vparts:List (Nat×ai)}{cs r:List A}{vs:Array ai},
  zH place parts cs=aa r->vparts.map (·.1)=parts.map (·.1)->(∀(k:Nat) (p:Nat×List A) (q:Nat×ai),parts[k]?=aa p->vparts[k]?=aa q->er σ s q.2.cells.toList p.2)->er σ s vs.toList cs ->
  ∃d,Instr.fill place' vs vparts=aa d/\er σ s d.toList r
 |[],[],cs,r,vs,h,_,_,c=>by cases h;exact⟨vs,rfl,c⟩
 |[],_::_,cs,r,vs,h,a,_,c=>by grind
 |_::_,[],cs,r,vs,h,a,_,c=>by grind
 |(i,new)::rest,(f,v)::Wb,cs,r,vs,h,a,hk,c=>by
  simp only[qM,List.cons.injEq]at a;obtain⟨rfl,a⟩:=a;simp only[zH]at h;cases b:place f with
  |none=>grind
  |some p =>
   obtain⟨off,size⟩:=p;simp only[b]at h;cases m:aw new.length size with
   |false=>grind
   |true =>
    simp only[m]at h;cases l:fI off new cs with
    |none=>grind
    |some q =>
     simp only[l]at h;have g:=hk 0 (f,new) (f,v) rfl rfl;simp only at g;have z:=g.length;have n:new.length=size:=bY m;obtain⟨k1,w⟩:=er.fI l c g;have y:=IU v.cells.toList 0 off vs (by grind);have e:v.cells.size=size:=by grind
     have u:off+size<=vs.size:=by grind
     obtain⟨d,t,j⟩:=xQ (σ:=σ) (s:=s) o (parts:=rest) (vparts:=Wb) (cs:=q) (r:=r)
      (vs:=v.cells.zipIdx.foldl (λcs (x:ai×Nat)=>cs.setIfInBounds (off+x.2) x.1) vs) h a (λk p q t j=>hk (k+1) p q (by grind) (by grind)) (by grind[Array.toList_zipIdx])
     refine⟨d,?_,j⟩;simp only[Instr.fill,o _ _ b,e,dz,fx,k9,Bool.false_or,a9];grind
def rh(T:List (Nat×TI)):List Field->Option (List (Nat×Nat))
 |[]=>aa []
 |f::fs=>match bJ T f.type with
  |some j=>match rh T fs with
   |some r=>aa ((f.offset,j.size)::r)
   |none=>ae
  |none=>ae
def xR{P:aJ}{T:List (Nat×TI)}(hT:cV P T):∀{fs:List Field}{r:List (Nat×Nat)},rh T fs=aa r->fs.mapM (λf=>(P.info? f.type).map λi=>(f.offset,i.size))=aa r
 |[],r,h=>by cases h;simp
 |f::fs,r,h=>by
  simp only[rh]at h;cases b:bJ T f.type with
  |none=>grind
  |some j =>
   cases a:rh T fs with
   |none=>grind
   |some q =>
    simp[b,a]at h;subst h;obtain⟨d,z,e,c,_⟩:=(hT _ _ b).info;simp[l6,e,c,xR hT a]
def qc(η:aB->D):List (Nat×aB)->Option (List (Nat×List A))
 |[]=>aa []
 |(i,x)::r=>match kR (η x)with
  |some cs=>match qc η r with
   |some q=>aa ((i,cs)::q)
   |none=>ae
  |none=>ae
def uD{σ:List bg}{s:St}{a:aB->ai}{η:aB->D}(c:∀y,du σ s (a y) (η y)):∀{l:List (Nat×aB)}{q:List (Nat×List A)},qc η l=aa q ->
  (l.map λ(i,x)=>(i,a x)).map (·.1)=q.map (·.1)/\∀(k:Nat) (p:Nat×List A) (u:Nat×ai),q[k]?=aa p->(l.map λ(i,x)=>(i,a x))[k]?=aa u->er σ s u.2.cells.toList p.2
 |[],q,h=>by cases h;simp
 |(i,x)::r,q,h=>by
  simp only[qc]at h;cases d:kR (η x)with
  |none=>grind
  |some cs =>
   cases b:qc η r with
   |none=>grind
   |some q' =>
    simp[d,b]at h;subst h;obtain⟨f,e⟩:=uD c b;grind[mf]
def A7(T:List (Nat×TI))(η:aB->D)(t:av)(parts:List (Nat×aB)):Option (List A) :=
 match bJ T t with
 |some i=>match i.desc with
  |.struct fs=>match rh T fs.toList with
   |some pl=>match qc η parts with
    |some ps=>zH (λk=>dF k pl) ps (i.zero.map A.c)
    |none=>ae
   |none=>ae
  |_=>ae
 |none=>ae
theorem bL.build{P:aJ}{T:List (Nat×TI)}(hT:cV P T){o:aC}{η:aB->D}{σ:List bg}{t:av}{parts:Array (Nat×aB)}(h:o.op=.build t parts){cs:List A}(b:A7 T η t parts.toList=aa cs):bL P o η σ (.e (.agg cs)) σ:=by
 refine .quiet λs u hh hr=>?_;unfold A7 at b;cases hi:bJ T t with
 |none=>grind
 |some i =>
  simp only[hi]at b;cases j:i.desc with
  |struct fs =>
   simp only[j]at b;cases d:rh T fs.toList with
   |none=>grind
   |some pl =>
    simp only[d]at b;cases f:qc η parts.toList with
    |none=>grind
    |some ps =>
     simp only[f]at b;obtain⟨r,z,v,B,F,l,y,C,E⟩:=(hT t i hi).info;obtain⟨n,p2⟩:=uD (σ:=σ) (s:=s) hr f;obtain⟨c,q,m⟩:=xQ (σ:=σ) (s:=s) (place':=λk=>pl.toArray[k]?) (λk p hk=>by grind[b7]) b n p2 (lk y);have g:P.built t (parts.map λ(i,x)=>(i,u x)).toList=aa c:=by unfold Program.built;have a:=(hT t i hi).UY;rw[j]at a;simp only[v,a,l,xR hT d];simpa using q
     refine⟨.agg c,?_,⟨c.toList,by simp,m⟩,?_⟩
     .simp only[aq,h,bT,run_build s.w t _ c g,cu,dE]
     .simp only[aq,h,aR,run_build s.w t _ c g,aV,Sem.events_pure];exact dj.build s.w #[]
  |_=>grind
theorem Tt{k:Nat}(hi:i<n)(b:j<k):i*k+j<n*k:=by have a:(i+1)*k<=n*k:=eP k (by omega);grind
theorem PC{k:Nat}(a:j<k):(i*k+j) / k=i:=by grind[Nat.mul_comm,Nat.mul_add_div,Nat.div_eq_of_lt]
theorem PD{k:Nat}(a:j<k):(i*k+j) % k=j:=by rw[Nat.mul_comm,Nat.mul_add_mod,Nat.mod_eq_of_lt a]
def Flat.nil{k:Nat}:Flat M k 0 es []:=⟨by simp,by omega,by omega⟩
def cM(n:Nat)(f g:Nat->List C):Nat->List C:=λi=>if i<n then f i else g (i-n)
def Flat.append{k m:Nat}{es':Nat->List C}{b:List ai}(h:Flat M k n es vs)(d:Flat M k m es' b):Flat M k (n+m) (cM n es es') (vs++b):=by
 refine⟨by simp[h.len,d.len,iP],λi hi=>?_,λi hi j c hj=>?_⟩
 .simp only[cM];split
  .rename_i a;exact h.width i a
  .exact d.width _ (by omega)
 .simp only[cM]at hj;split at hj
  .rename_i a;obtain⟨v,h1,h2⟩:=h.rd i a j c hj;grind
  .rename_i e;obtain⟨v,h1,h2⟩:=d.rd _ (by omega) j c hj;refine⟨v,?_,h2⟩;have e1:i*k+j=vs.length+((i-n)*k+j):=by rw[h.len,<-Nat.add_assoc,<-iP,AI (by omega)]
   grind
def Flat.cell{M:Mem}{k n:Nat}{es:Nat->List C}{vs:List ai}(h:Flat M k n es vs):∀v∈vs,v.oneCell'=ab:=by
 intro v b;obtain⟨p,a,rfl⟩:=dD b;rw[h.len]at a;have hk:0<k:=by grind
 have hi:p / k<n:=qz (by grind);have hj:p % k<k:=jd _ hk;have c:=h.width _ hi;obtain⟨v,h1,h2⟩:=h.rd (p / k) hi (p % k) ((es (p / k))[p % k]'(by omega)) (bn (by omega));have e:p / k*k+p % k=p:=qH p k;rw[e]at h1;rw[bn (by grind)]at h1;simp at h1;rw[h1];have:=Rd.cell h2;cases v<;>simp_all[cO,Value.oneCell']
def Rd.flat{t:Bool}{k:Nat}(h:Rd M v (.sl t k n es)):
  ∃a cap vs,v=.slice a n cap/\n<=cap/\cap<=9223372036854775807/\(t=ab->cap=n)/\Flat M k n es vs/\∀p u,vs[p]?=aa u->∃b off,a=aa ⟨b,off,ae⟩/\M b (off+p)=aa u:=by
 cases h with
 |@sl a _ cap _ _ _ b off f c i j hk ha hm hr =>
  refine⟨a,cap,(bc (n*k)).map λp=>f (p / k) (p % k),rfl,c,i,j,⟨by simp,hk,?_⟩,?_⟩
  .grind [Tt,PC,PD]
  .intro p u e;simp only[nA]at e;by_cases d:p<n*k
   .simp[d]at e;subst e;have g:0<k:=by grind
    have hi:p / k<n:=qz (by grind);have hj:p % k<k:=jd _ g;have l:=hk _ hi;have:=hm (p / k) hi (p % k) ((es (p / k))[p % k]'(by omega)) (bn (by omega));refine⟨b,off,ha (Nat.lt_of_le_of_lt (jc _) hi),?_⟩;grind[Nat.div_add_mod']
   grind
def Rd.oK{k:Nat}(h:Flat M k n es vs){a:Option Addr}{cap:Nat}{t:Bool}(e:0<n->a=aa ⟨b,off,ae⟩)(d:n<=cap)(f:cap<=9223372036854775807)(g:t=ab->cap=n)(l:∀p u,vs[p]?=aa u->M b (off+p)=aa u):Rd M (.slice a n cap) (.sl t k n es):=by
 refine .sl b off (λi j=>(vs[i*k+j]?).getD ah) d f g h.width e (λi hi j c hj=>?_) (λi hi j c hj=>?_)
 .obtain⟨v,h1,h2⟩:=h.rd i hi j c hj;grind
 .obtain⟨v,h1,h2⟩:=h.rd i hi j c hj;grind
def et(i:aE σ s){t:Bool}{k:Nat}(h:Rd s.M v (.sl t k n es)):
  ∃vs,Flat s.M k n es vs/\(Builtin.firstCells k n v).run P s.w=.ok vs.toArray s.w/\Builtin.lenOf v=pure n:=by
 obtain⟨a,cap,vs,rfl,e,p,q,f,d⟩:=h.flat;refine⟨vs,f,?_,rfl⟩;have m:vs.length=n*k:=f.len;cases a with
 |none =>
  have:vs=[]:=by
   cases vs with
   |nil=>rfl
   |cons u o=>obtain⟨b,off,c,_⟩:=d 0 u rfl;cases c
  subst this;rfl
 |some ad =>
  simp only[Builtin.firstCells];rw[<-m];refine run_loadCells_list s.w ad vs λj u l=>?_;obtain⟨b,off,c,g⟩:=d j u l;cases c;rw[dw];exact i.mem _ _ _ g
def bL.KN{T:List (Nat×TI)}(hT:cV P T)(h:o.op=.index t x y){l:List UInt8}{j:Int}{k:IntKind}{i:TI}{m:Nat}(hi:bJ T t=aa i)(g:i.desc=.string)(p:η x=.e (.one (.c (.str l))))(r:η y=.e (.one (.c (.int k j))))(hj:j=m)(u:m<l.length):bL P o η σ (.e (.one (.c (.int .u8 (l[m]).toNat)))) σ:=by
 refine .quiet λs n hh hr=>?_;have h1:=hr x;have h2:=hr y;rw[p]at h1;rw[r]at h2;replace h1:=fe h1;replace h2:=fe h2;generalize a:n x=vx at h1;generalize d:n y=vy at h2;cases h1 with
 |@str sb _ q hl =>
 cases h2;subst q;have f:sb[m]?=aa (sb.data.toList[m]):=by
  have hm':m<sb.size:=by have e:sb.data.toList.length=sb.size:=jK;omega
  rw[getElem?_pos sb m hm'];congr 1
 refine⟨.int .u8 (sb.data.toList[m]).toNat,?_,Rd.int ?_,?_⟩
 rotate_left 2
 .have b:=(hT t i hi).run_underlying (w:=s.w);rw[g]at b;simp[aq,h,a,d,Instr.index,asIntOf,b,hj,f]
 .have b:=(hT t i hi).run_underlying (w:=s.w);rw[g]at b;simp[aq,h,a,d,Instr.index,asIntOf,b,hj,f]
 .have:=(sb.data.toList[m]).toNat_lt;simp only[bE];omega
def bL.indexAddr{T:List (Nat×TI)}(hT:cV P T)(h:o.op=.indexAddr t x y){i ie:TI}(hi:bJ T t=aa i)(D:i.desc=.slice E)(F:bJ T E=aa ie){tt:Bool}{j:Int}{k:IntKind}{m:Nat}(B:∀s v,du σ s v (η x)->Rd s.M v (.sl tt ie.size n es))(C:η y=.e (.one (.c (.int k j))))(hj:j=m)(d:m<n):
  bL P o η σ (.e (.one (.c (.rp (es m))))) σ:=by
 refine .quiet λs A hh hr=>?_;have h1:=B s _ (hr x);have h2:=hr y;rw[C]at h2;replace h2:=fe h2;generalize l:A x=vx at h1;generalize r:A y=vy at h2;cases h2;cases h1 with
 |@sl a _ cap _ _ _ b off f u H G hk ha hm' Oo =>
 have p:0<n:=by omega
 have z:=(hT t i hi).run_underlying (w:=s.w);rw[D]at z;refine⟨.pointer (aa ⟨b,off+m*ie.size,ae⟩),?_,Rd.rp b (off+m*ie.size) (f m) (λq c g=>hm' m d q c g) (λq c g=>Oo m d q c g),?_⟩<;>
 simp[aq,h,l,r,Instr.indexAt,asIntOf,z,hj,ha p,(hT E ie F).run_sizeOf,dw,d]
def bL.VO{T:List (Nat×TI)}(hT:cV P T)(h:o.op=.call {callee:=.builtin .len,args:=#[x],argTypes:=jU})(m:jU[0]?=aa t){i:TI}(hi:bJ T t=aa i)(j:i.desc=.slice E){tt:Bool}{k:Nat}(g:∀s v,du σ s v (η x)->Rd s.M v (.sl tt k n es)):bL P o η σ (.e (.one (.c (.int .i64 n)))) σ:=by
 refine .quiet λs q hh hr=>?_;obtain⟨a,cap,vs,l,d,p,_⟩:=(g s _ (hr x)).flat;have f:=(hT t i hi).run_underlying (w:=s.w);rw[j]at f;have b:jU[0]?=aa t:=m;refine⟨.int .i64 n,?_,Rd.int (by simp only[bE];omega),?_⟩<;>
 simp[aq,h,resolve,invoke,builtin,Builtin.len_,l,f,goInt,b]
theorem bL.SM{T:List (Nat×TI)}(hT:cV P T)(h:o.op=.call {callee:=.builtin .len,args:=#[x],argTypes:=jU})(n:jU[0]?=aa t){i:TI}(hi:bJ T t=aa i)(k:i.desc=.string){l:List UInt8}(g:η x=.e (.one (.c (.str l)))):bL P o η σ (.e (.one (.c (.int .i64 l.length)))) σ:=by
 refine .quiet λs m hh hr=>?_;have h1:=hr x;rw[g]at h1;replace h1:=fe h1;generalize b:m x=vx at h1;cases h1 with
 |@str sb _ j hl =>
 have f:=(hT t i hi).run_underlying (w:=s.w);rw[k]at f;have a:jU[0]?=aa t:=n;have d:sb.size=l.length:=by rw[<-j];exact jK.symm
 refine⟨.int .i64 l.length,?_,Rd.int (by simp only[bE];omega),?_⟩<;>
 simp[aq,h,resolve,invoke,builtin,Builtin.len_,b,f,goInt,a,d]
def St.newRow(s:St)(E:av)(vs:List ai):St :=
 {β:=s.β,M:=λb o=>if b=s.w.heap.size then vs[o]? else s.M b o,w:=s.w.alloc (.cells vs.toArray E),own:=s.own}
def aE.newRow{σ:List bg}{s:St}(h:aE σ s)(E:av)(vs:List ai):aE σ (s.newRow E vs)/\Step σ s σ (s.newRow E vs):=by
 refine h.grow (by simp) (λb c=>cT _ _ c) (λb c o=>by grind) (λb c o v a=>?_) rfl rfl rfl;by_cases e:b=s.w.heap.size
 .subst e;simp at a;show aP (s.w.alloc (.cells vs.toArray E)) ⟨s.w.heap.size,o,ae⟩=aa v;unfold aP;grind[dX]
 .simp only[e,cg]at a;have:=h.block a;omega
def IV(s:St)(E:av)(vs:List ai):∀p u,vs[p]?=aa u->(s.newRow E vs).M s.w.heap.size (0+p)=aa u:=by intro p u h;simpa[St.newRow]using h
def gX:List A->Option (List C)
 |[]=>aa []
 |.c c::r=>match gX r with|some q=>aa (c::q)|none=>ae
 |.vec _ k n es::r=>match gX r with|some q=>aa (.sl af k n es::q)|none=>ae
 |_::_=>ae
def mh{σ:List bg}{s:St}:∀{cs:List A}{r:List C}{vs:List ai},gX cs=aa r->er σ s vs cs->er σ s vs (r.map A.c)
 |[],r,vs,h,a=>by cases h;exact a
 |_::_,_,[],_,a=>a.elim
 |.c c::al,r,v::vs,h,a=>by
  simp only[gX]at h;cases b:gX al with
  |none=>grind
  |some q=>simp[b]at h;subst h;exact⟨a.1,mh b a.2⟩
 |.vec l k n es::al,r,v::vs,h,a=>by
  simp only[gX]at h;cases b:gX al with
  |none=>grind
  |some q=>simp[b]at h;subst h;exact⟨a.1.1,mh b a.2⟩
 |.ptr l o::al,r,v::vs,h,a=>by simp[gX]at h
 |.ref l::al,r,v::vs,h,a=>by simp[gX]at h
 |.bp l w::al,r,v::vs,h,a=>by simp[gX]at h
 |.any::al,r,v::vs,h,a=>by simp[gX]at h
def uE{α:Type}(k:Nat):Nat->List α->Option (List (List α))
 |0,[]=>aa []
 |0,_::_=>ae
 |n+1,l=>match po k l with
  |some c=>match uE k n (fZ k l)with
   |some r=>aa (c::r)
   |none=>ae
  |none=>ae
def er.closed:∀{vs:List ai}{cs:List C},er σ s vs (cs.map A.c)->∀(j:Nat)(c:C),cs[j]?=aa c->∃v,vs[j]?=aa v/\Rd s.M v c:=by intro vs cs h j c hj;obtain⟨v,h1,h2⟩:=h.get (j:=j) (a:=.c c) (by grind);exact⟨v,h1,h2⟩
def zI{M:Mem}{k:Nat}:∀{n:Nat}{cs:List C}{es:List (List C)}{vs:List ai},uE k n cs=aa es->vs.length=cs.length->(∀(j:Nat)(c:C),cs[j]?=aa c->∃v,vs[j]?=aa v/\Rd M v c)->es.length=n/\Flat M k n (λi=>es.getD i []) vs
 |0,[],es,vs,h,a,d=>by cases h;simp at a;subst a;exact⟨rfl,.nil⟩
 |0,_::_,es,vs,h,a,d=>by cases h
 |n+1,cs,es,vs,h,a,d=>by
  simp only[uE]at h;cases g:po k cs with
  |none=>grind
  |some c =>
   simp only[g]at h;cases b:uE k n (fZ k cs)with
   |none=>grind
   |some q =>
    simp[b]at h;subst h;obtain⟨p,f⟩:=nV g;rw[mF]at b;obtain⟨r,l⟩:=zI (vs:=vs.drop k) b (by grind) (λj c o=>by
     obtain⟨v,p,f⟩:=d (k+j) c (by grind)
     exact⟨v,by grind,f⟩)
    refine⟨by grind,?_⟩;have hk:k<=cs.length:=by grind
    have m:Flat M k 1 (λ_=>c) (vs.take k):=by refine⟨by grind,by grind,λi hi j x o=>?_⟩;grind
    have:=m.append l;rw[Nat.add_comm 1 n]at this;have e:cM 1 (λ_=>c) (λi=>q.getD i [])=λi=>(c::q).getD i []:=by funext i;cases i<;>simp[cM]
    rw[e]at this;simpa using this
def O1(T:List (Nat×TI))(η:aB->D)(t:av)(n:Nat)(parts:List (Nat×aB)):Option (Nat×List (List C)) :=
 match bJ T t with
 |some i=>match i.desc with
  |.slice E=>match bJ T E with
   |some ie=>match aw ie.size 0 with
    |true=>ae
    |false=>match bD (n*ie.size) 16777216 with
     |true=>match qc η parts with
      |some ps=>match zH (λk=>aa (k*ie.size,ie.size)) ps (List.replicate (n*ie.size) A.any)with
       |some cs=>match gX cs with
        |some r=>match uE ie.size n r with
         |some es=>aa (ie.size,es)
         |none=>ae
        |none=>ae
       |none=>ae
      |none=>ae
     |false=>ae
   |none=>ae
  |_=>ae
 |none=>ae
theorem bL.buildSlice{P:aJ}{T:List (Nat×TI)}(hT:cV P T){o:aC}{η:aB->D}{σ:List bg}{t:av}{n:Nat}{parts:Array (Nat×aB)}(h:o.op=.buildSlice t n parts){k:Nat}{es:List (List C)}(a:O1 T η t n parts.toList=aa (k,es)):bL P o η σ (.e (.one (.c (.sl ab k n λi=>es.getD i [])))) σ:=by
 intro s K hh hr;unfold O1 at a;cases hi:bJ T t with
 |none=>grind
 |some i =>
  simp only[hi]at a;cases V:i.desc with
  |slice E =>
   simp only[V]at a;cases N:bJ T E with
   |none=>grind
   |some ie =>
    simp only[N]at a;cases Q:aw ie.size 0 with
    |true=>grind
    |false =>
     simp only[Q]at a;cases H:bD (n*ie.size) 16777216 with
     |false=>grind
     |true =>
      simp only[H]at a;cases I:qc η parts.toList with
      |none=>grind
      |some ps =>
       simp only[I]at a;cases l:zH (λk=>aa (k*ie.size,ie.size)) ps (List.replicate (n*ie.size) A.any)with
       |none=>grind
       |some cs =>
        simp only[l]at a;cases y:gX cs with
        |none=>grind
        |some r =>
         simp only[y]at a;cases j:uE ie.size n r with
         |none=>grind
         |some es' =>
          simp only[j,dn,mn]at a;obtain⟨rfl,rfl⟩:=a;have hz0:ie.size≠0:=λe=>by rw[e]at Q;cases Q
          have U:=dr H;obtain⟨inf,z,z1,z2,z3,Z,W,z6,z7⟩:=(hT E ie N).info;have hzs:z.cells.size=ie.size:=by have:=dH List.length W;grind
          have Y:∀v∈z.cells.toList,cO v=ab:=by intro v L;have d:r5 v∈z.cells.toList.map r5:=gQ.2 ⟨v,L,rfl⟩;rw[W]at d;obtain⟨c,_,hc⟩:=gQ.1 d;exact(Rd.r5 (M:=s.M) hc.symm).cell
          have g:∀m,(∀v∈(bc m).map (λq=>z.cells[q % z.cells.size]!),cO v=ab):=by grind[Nat.mod_lt]
          have F:∀vs:List ai,(∀v∈vs,cO v=ab)->er σ s vs (List.replicate vs.length A.any):=by
           intro vs;induction vs with
           |nil=>intro _;trivial
           |cons v vs ih=>intro L;exact⟨L v (by simp),ih λu J=>L u (by grind)⟩
          obtain⟨p1,p2⟩:=uD (σ:=σ) (s:=s) hr I;have R:er σ s ((Array.range (n*ie.size)).map (λq=>z.cells[q % z.cells.size]!)).toList (List.replicate (n*ie.size) A.any):=by have:=F _ (g (n*ie.size));simpa using this
          obtain⟨G,u1,u2⟩:=xQ (σ:=σ) (s:=s) (place':=λk=>aa (k*ie.size,ie.size)) (λk p hk=>hk) l p1 p2 R;have u3:=mh y u2;obtain⟨c1,c2⟩:=zI (M:=s.M) (vs:=G.toList) j (by simpa using u3.length) u3.closed;obtain⟨g1,X⟩:=hh.newRow E G.toList;refine⟨.value (.slice (aa ⟨s.w.heap.size,0,ae⟩) n n),s.newRow E G.toList,?_,?_,g1,X,?_⟩
          rotate_left 2
          .have e:(aq K o).events P s.w #[]=#[]:=by simp only[aq,h];exact dj.bind dj.buildSlice (λ_=>dj.pure) _ _
           rw[e];exact .nil
          .have J:=(hT t i hi).run_underlying (w:=s.w);rw[V]at J;have S:(zeroValue E).run P s.w=.ok z s.w:=by simp[zeroValue,typeInfo,z1,Z]
           have f:Instr.fill (λk=>aa (k*ie.size,ie.size)) ((Array.range (n*ie.size)).map (λq=>z.cells[q % z.cells.size]!)) (parts.map λ(i,x)=>(i,K x)).toList=aa G:=by simpa using u1
           by_cases h0:n*ie.size=0
           .have O:n=0:=by grind[Nat.mul_eq_zero]
            subst O;have B:Array.range 0=#[]:=rfl;simp[B]at f;simp[aq,h,Instr.buildSlice,J,(hT E ie N).run_sizeOf,B,f,Go.newRow,St.newRow]
           .rw[show aq K o=(do pure (.value (<-Instr.buildSlice t n (parts.map λ(i,x)=>(i,K x))))) by simp[aq,h]];simp only[Instr.buildSlice,bT,J,cu,(hT E ie N).run_sizeOf,h0,cg,S,show¬n*ie.size>2 ^ 24 by omega,sV,f,dE];simp[Go.newRow,St.newRow]
          .refine Rd.oK (c2.mono X.mem) (b:=s.w.heap.size) (off:=0) (λ_=>rfl) (bh _) ?_ (λ_=>rfl) (IV s E G.toList);have:n<=n*ie.size:=wc n (by omega);omega
  |_=>grind
def Ext.trans{σ σ1 σ2:List bg}{s a s2:St}(h:Ext σ s σ1 a)(k:Ext σ1 a σ2 s2):Ext σ s σ2 s2:=by refine⟨λb o v m=>k.mem _ _ _ (h.mem _ _ _ m),λl B L hB hL=>?_⟩;obtain⟨B1,L1,h1,h2,f⟩:=h.box l B L hB hL;obtain⟨c,g,k1,e,j⟩:=k.box l B1 L1 h1 h2;exact⟨c,g,k1,e,f.trans j⟩
def gx{l:List α}{x y:α}{i:Nat}(h:(l++[x])[i]?=aa y):l[i]?=aa y∨(i=l.length/\y=x):=by grind
def aE.iy{a:St}(h1:aE σ a)(st:Step σ s σ a)(n:a.β=s.β)(hh:aE σ s){B:bg}{L:Loc}(hB:eG (σ++[B]) {a with β:=a.β++[L]} B L)(j:∀b∈L.bs,s.w.heap.size<=b/\b<a.w.heap.size):aE (σ++[B]) {a with β:=a.β++[L]}/\Step σ s (σ++[B]) {a with β:=a.β++[L]}:=by
 have ex:Ext σ a (σ++[B]) {a with β:=a.β++[L]}:=by refine⟨λ_ _ _ h=>h,λl B' L' kG fC=>?_⟩;have hl:l<a.β.length:=(bX.1 fC).1;have p:l<σ.length:=(bX.1 kG).1;exact⟨B',L',by grind,by grind,.refl _ _⟩
 have e2:=st.ext.trans ex;refine⟨⟨h1.mem,by simp[h1.len],?_,?_,?_,?_⟩,⟨st.size,st.fA,st.mem,st.jo,?_,e2.box,st.os,st.tape,st.output,st.own⟩⟩
 .intro l B' L' kG fC;rcases gx kG with k|⟨rfl,rfl⟩
  .have hl:l<a.β.length:=by rw[h1.len];grind
   rw[jH hl]at fC;exact(h1.box l B' L' k fC).carry ex h1.len λ_ _=>⟨rfl,λ_=>rfl⟩
  .rcases gx fC with f|⟨_,rfl⟩
   .have:=(bX.1 f).1;rw[h1.len]at this;omega
   grind
 .intro l l' L1 L2 f m b c g;rcases gx f with k1|⟨rfl,rfl⟩<;>rcases gx m with o|⟨rfl,rfl⟩
  .exact h1.eO l l' L1 L2 k1 o b c g
  .have a1:=j b g;have a2:=hh.lt L1 (by grind) b c;omega
  .have a1:=j b c;have a2:=hh.lt L2 (by grind) b g;omega
  .rfl
 .intro L' fC b c;simp only[fz,fO]at fC;rcases fC with fC|rfl
  .exact h1.lt L' fC b c
  grind
 .intro b c;refine⟨(h1.own b c).1,λL' fC OE=>?_⟩;simp only[fz,fO]at fC;rcases fC with fC|rfl
  .exact(h1.own b c).2 L' fC OE
  .have e:=st.own;simp only at c;rw[e]at c;have:=(hh.own b c).1;grind
 grind
def aE.gT{M':Mem}(hh:aE σ s){B B':bg}{L L':Loc}(q:σ[l]?=aa B)(j:s.β[l]?=aa L)(H:gR B L B' L')(t:s.w.heap.size<=w'.heap.size)(hk:∀b,b<s.w.heap.size->b∉L.bs->w'.heap[b]?=s.w.heap[b]?)(I:∀b,b<s.w.heap.size->b∉L.bs->∀o,M' b o=s.M b o)(g:∀b o v,s.M b o=aa v->M' b o=aa v)(E:∀b o v,M' b o=aa v->w'.cell? ⟨b,o,ae⟩=aa v)(G:∀b∈L'.bs,(b∈L.bs∨s.w.heap.size<=b)/\b<w'.heap.size)(C:w'.os=s.w.os)(F:w'.tape=s.w.tape)(D:w'.output=s.w.output)(hB:eG (σ.set l B') ⟨s.β.set l L',M',w',s.own⟩ B' L'):aE (σ.set l B') ⟨s.β.set l L',M',w',s.own⟩/\Step σ s (σ.set l B') ⟨s.β.set l L',M',w',s.own⟩:=by
 have y:l<σ.length:=(bX.1 q).1;have x:l<s.β.length:=(bX.1 j).1;have a:∀i X,(s.β.set l L')[i]?=aa X->(i=l/\X=L')∨(i≠l/\s.β[i]?=aa X):=by grind
 have ex:Ext σ s (σ.set l B') ⟨s.β.set l L',M',w',s.own⟩:=by
  refine⟨g,λi X Y c m=>?_⟩;by_cases e:l=i
  .grind
  .exact⟨X,Y,by grind,by grind,.refl _ _⟩
 have out:∀i X,i≠l->s.β[i]?=aa X->∀b∈X.bs,b<s.w.heap.size/\b∉L.bs:=by intro i X hi c b f;exact⟨hh.lt X (bP c) b f,λu=>hi (hh.eO i l X L c j b f u)⟩
 refine⟨⟨E,by simp[hh.len],?_,?_,?_,?_⟩,⟨t,?_,g,?_,?_,ex.box,C,F,D,rfl⟩⟩
 .intro i X Y c m;rcases a i Y m with⟨rfl,rfl⟩|⟨hi,m⟩
  .grind
  .rw[kL (λe=>hi e.symm)]at c;refine(hh.box i X Y c m).carry ex hh.len λb f=>?_;grind
 .intro i A X z c h b f n;rcases a i X c with⟨rfl,rfl⟩|⟨hi,r⟩<;>rcases a A z h with⟨rfl,rfl⟩|⟨p,k⟩
  .rfl
  .grind
  .grind
  .exact hh.eO i A X z r k b f n
 .intro X c b f;obtain⟨i,hi,rfl⟩:=dD c;rcases a i _ (bn hi)with⟨rfl,e⟩|⟨p,h⟩
  .grind
  grind
 .intro b f;obtain⟨K,J⟩:=hh.own b f;grind
 .grind
 .grind
 grind
def sX{a old bytes:Nat}(h:old<a)(b:a*bytes<=140737488355328):¬Builtin.nextslicecap a old*bytes>2 ^ 48:=by have:=growslice_fits h b;omega
section
variable {T:List (Nat×TI)}(hT:cV P T){d:av}{i i2 ie:TI}
def jz(hi:dL P t i)(q:i.desc=.slice E)(f:dL P d i2)(h:i2.desc=.slice E)(u:dL P E ie)(o:aE σ s){a:Option Addr}{cap:Nat}(b:n<=cap){x:ai}{tx:Bool}{es':Nat->List C}(j:Rd s.M x (.sl tx ie.size 0 es')):
  (Builtin.append_ #[t,d] ty #[.slice a n cap,x]).run P s.w=.ok (.slice a n cap) s.w:=by obtain⟨e,r,p,l⟩:=et (P:=P) o j;have k:=hi.run_underlying (w:=s.w);have c:=f.run_underlying (w:=s.w);rw[q]at k;rw[h]at c;obtain⟨a',m,vs,rfl,_⟩:=j.flat;have g:e=[]:=jF (by simpa using r.len);subst g;cases a<;>simp[Builtin.append_,k,c,u.run_sizeOf,Builtin.lenOf,b,p,storeCells]
def iQ(hi:dL P t i)(Y:i.desc=.slice E)(G:dL P d i2)(H:i2.desc=.slice E)(N:dL P E ie)(O:aE σ s){a:Option Addr}{cap m:Nat}{td tx:Bool}{es':Nat->List C}{x:ai}(hv:Rd s.M (.slice a n cap) (.sl td ie.size n es))(W:Rd s.M x (.sl tx ie.size m es'))(S:cap<n+m)(J:(n+m)*ie.bytes<=140737488355328)(F:ie.bytes≠0):
  ∃vs zs OF,Flat s.M ie.size (n+m) (cM n es es') vs/\n+m<=OF/\OF<=9223372036854775807/\(vs++zs).length=OF*ie.size /\
   (Builtin.append_ #[t,d] ty #[.slice a n cap,x]).run P s.w=.ok (.slice (aa ⟨s.w.heap.size,0,ae⟩) (n+m) OF) (s.w.drew.alloc (.cells (vs++zs).toArray E)):=by
 have h:aE σ {s with w:=s.w.drew}:=O.same rfl;obtain⟨b,L,y,q⟩:=et (P:=P) h (v:=x) W;obtain⟨c,p,g,R⟩:=et (P:=P) h (v:=.slice a n cap) hv;have I:=hi.run_underlying (w:=s.w);have j:=G.run_underlying (w:=s.w);rw[Y]at I;rw[H]at j;obtain⟨o,z,K,z2,z3,Q,z5,z6,z7⟩:=N.info;have X:n+m<=140737488355328:=iN (wc _ (Nat.pos_of_ne_zero F)) J;have B:z.cells.size=ie.size:=by have:=dH List.length z5;grind
 refine⟨c++b,(Builtin.zeroCells z.cells (grownCap s.w (n+m) cap E-(n+m))).toList,grownCap s.w (n+m) cap E,p.append L,grownCap_ge _ _ _ _,?_,?_,?_⟩
 .have:=grownCap_le_maxLen s.w (n+m) cap E (by unfold maxLen;omega);unfold maxLen at this;omega
 .have U:=grownCap_ge s.w (n+m) cap E;simp only[cW,p.len,L.len,jK,size_zeroCells,B,<-iP];grind
 .have V:=sX S J;have l:¬Builtin.nextslicecap (n+m) cap*o.bytes>2 ^ 48:=by grind
  have k:¬n+m<=cap:=by omega
  have D:¬((n+m:Nat):Int)>IntKind.i64.max:=by have e:IntKind.i64.max=9223372036854775807:=rfl;grind
  have r:∀u,(typeInfo E).run P u=.ok o u:=λu=>by simp[typeInfo,K]
  have A:∀u,(zeroValue E).run P u=.ok z u:=λu=>by simp[zeroValue,typeInfo,K,Q]
  have f:(Builtin.lenOf x).run P s.w=.ok m s.w:=by rw[q];rfl
  replace y:(Builtin.firstCells ie.size m x).run P s.w.drew=.ok b.toArray s.w.drew:=y;replace g:(Builtin.firstCells ie.size n (.slice a n cap)).run P s.w.drew=.ok c.toArray s.w.drew:=g
  unfold Builtin.append_;simp only[iL,jI,ox,bT,I,j,cu,N.run_sizeOf,dE,jZ,cg,f,k,
   D,false_and,r,l,run_choose,Question.forced,run_askRoom,sV,World.drew_eq,g,y,oI,b6,A]
  simp[Go.newRow,grownCap];have e:∀Z:Array ai,(c++b).toArray++Z=(c++(b++Z.toList)).toArray:=λZ=>by grind
  rw[e];rfl
def kN(hi:dL P t i)(B:i.desc=.slice E)(k:dL P d i2)(l:i2.desc=.slice E)(A:dL P E ie)(v:aE σ s){cap m:Nat}{r:av}{c:List ai}(D:s.w.heap[b]?=aa (.cells c.toArray r (0,0)))(g:c.length=cap*ie.size){tx:Bool}{es':Nat->List C}{x:ai}(z:Rd s.M x (.sl tx ie.size m es'))(q:n+m<=cap):
  ∃a,Flat s.M ie.size m es' a/\(Builtin.append_ #[t,d] ty #[.slice (aa ⟨b,0,ae⟩) n cap,x]).run P s.w=.ok (.slice (aa ⟨b,0,ae⟩) (n+m) cap) (s.w.setRow b (c.take (n*ie.size)++a++c.drop (n*ie.size+a.length)).toArray):=by
 obtain⟨a,o,y,h⟩:=et (P:=P) v z;have p:=hi.run_underlying (w:=s.w);have f:=k.run_underlying (w:=s.w);rw[B]at p;rw[l]at f;have u:n*ie.size+a.length<=c.length:=by rw[o.len,g,<-iP];exact eP _ q
 have j:=run_storeCells_at P b (n*ie.size) r a 0 c.toArray s.w D (by grind) o.cell;simp only[iO]at j;have e:(Builtin.lenOf x).run P s.w=.ok m s.w:=by rw[h];rfl
 refine⟨a,o,?_⟩;unfold Builtin.append_;simp only[iL,jI,ox,bT,p,f,cu,A.run_sizeOf,dE,jZ,cg,e,q,b6,oI,y,dw,bF,j]
end
def EZ{x:Sem α}{es:Array Event}{e:Event}(h:e∈x.events P w es):e∈es∨e∈x.events P w #[]:=by grind[Sem.events_acc]
def rdM(s:St)(e:Event):Prop:=∃b o u,e=AO b o/\s.M b o=aa u
def ir(q:aE σ s){t:Bool}{k:Nat}(h:Rd s.M v (.sl t k n es))(r:w.heap=s.w.heap):
  ∀e∈(Builtin.firstCells k n v).events P w #[],rdM s e:=by
 obtain⟨a,cap,vs,rfl,p,C,E,z,y⟩:=h.flat;have F:vs.length=n*k:=z.len;intro e g;cases a with
 |none=>simp[Builtin.firstCells]at g
 |some ad =>
  simp only[Builtin.firstCells]at g;have c:∀j,j<n*k->∃b off u,ad=⟨b,off,ae⟩/\s.M b (off+j)=aa u:=by intro j m;obtain⟨b,off,D,l⟩:=y j (vs[j]'(by omega)) (bn (by omega));grind
  by_cases A:n*k=0
  .rw[A]at g;simp[loadCells,loadCellsFrom]at g
  .obtain⟨b,off,_,rfl,_⟩:=c 0 (by omega);have B:∀j,j<n*k->∃v,w.cell? ⟨b,off+j,ae⟩=aa v:=by intro j m;obtain⟨x,f,u,o,l⟩:=c j m;cases o;have:=q.mem _ _ _ l;exact⟨u,by simp only[aP,r]at this⊢;exact this⟩
   rcases sY (P:=P) B e g with h|⟨j,m,rfl⟩
   .grind
   .obtain⟨x,f,u,o,l⟩:=c j m;cases o;exact⟨_,_,u,rfl,l⟩
theorem uf{e:Event}(h:rdM s e):oJ s e:=by obtain⟨b,o,u,rfl,a⟩:=h;exact CB a
section
variable {d:av}{i i2 ie:TI}
def j6(hi:dL P t i)(v:i.desc=.slice E)(j:dL P d i2)(l:i2.desc=.slice E)(z:dL P E ie)(m:aE σ s){a:Option Addr}{cap:Nat}(b:n<=cap){x:ai}{tx:Bool}{es':Nat->List C}(h:Rd s.M x (.sl tx ie.size 0 es')):
  fj s ((Builtin.append_ #[t,d] ty #[.slice a n cap,x]).events P s.w #[]):=by obtain⟨f,y,r,p⟩:=et (P:=P) m h;have g:=ir (P:=P) m h (w:=s.w) rfl;have o:=hi.run_underlying (w:=s.w);have c:=j.run_underlying (w:=s.w);rw[v]at o;rw[l]at c;obtain⟨a',q,vs,rfl,_⟩:=h.flat;have k:f=[]:=jF (by simpa using y.len);subst k;intro e u;refine uf (g e ?_);cases a<;>simpa[Builtin.append_,o,c,z.run_sizeOf,Builtin.lenOf,b,r,storeCells]using u
def jq(hi:dL P t i)(hd:i.desc=.slice E)(L:dL P d i2)(N:i2.desc=.slice E)(W:dL P E ie)(G:aE σ s){a:Option Addr}{cap m:Nat}{td tx:Bool}{es':Nat->List C}{x:ai}(V:Rd s.M (.slice a n cap) (.sl td ie.size n es))(R:Rd s.M x (.sl tx ie.size m es'))(hg:cap<n+m)(Q:(n+m)*ie.bytes<=140737488355328)(K:ie.bytes≠0):
  fj s ((Builtin.append_ #[t,d] ty #[.slice a n cap,x]).events P s.w #[]):=by
 have o:aE σ {s with w:=s.w.drew}:=G.same rfl;obtain⟨A,hF,H,b⟩:=et (P:=P) o (v:=x) R;obtain⟨B,hFo,j,Z⟩:=et (P:=P) o (v:=.slice a n cap) V;have X:=ir (P:=P) G R (w:=s.w.drew) rfl;have U:=ir (P:=P) G V (w:=s.w.drew) rfl;have O:=hi.run_underlying (w:=s.w);have p:=L.run_underlying (w:=s.w);rw[hd]at O;rw[N]at p;obtain⟨k,z,S,z2,z3,Y,z5,z6,z7⟩:=W.info;have hle:n+m<=140737488355328:=iN (wc _ (Nat.pos_of_ne_zero K)) Q;have hnx:=sX hg Q;have y:¬Builtin.nextslicecap (n+m) cap*k.bytes>2 ^ 48:=by grind
 have q:¬n+m<=cap:=by omega
 have J:¬((n+m:Nat):Int)>IntKind.i64.max:=by have e:IntKind.i64.max=9223372036854775807:=rfl;grind
 have D:∀u,(typeInfo E).run P u=.ok k u:=λu=>by simp[typeInfo,S]
 have I:∀u,(zeroValue E).run P u=.ok z u:=λu=>by simp[zeroValue,typeInfo,S,Y]
 have c:(Builtin.lenOf x).run P s.w=.ok m s.w:=by rw[b];rfl
 have g:(Builtin.lenOf x).events P s.w #[]=#[]:=by rw[b];rfl
 replace H:(Builtin.firstCells ie.size m x).run P s.w.drew=.ok A.toArray s.w.drew:=H;replace j:(Builtin.firstCells ie.size n (.slice a n cap)).run P s.w.drew=.ok B.toArray s.w.drew:=j
 intro e l;unfold Builtin.append_ at l;simp only[iL,jI,ox,aR,bT,O,p,cu,aV,W.run_sizeOf,dE,jZ,cg,c,g,q,
  J,false_and,D,y,run_choose,Question.forced,run_askRoom,sV,Sem.events_ite,World.drew_eq,j,H,oI,b6,I,events_underlying,events_sizeOf,events_typeInfo,events_choose,events_zeroValue,Sem.events_pure]at l
 have F:∀(x:Nat) (w:ay) (e:Event),e∈(askRoom x).events P w #[]->e=⟨.mark .noRoom,af,ab⟩:=by intro x w e h;unfold askRoom at h;simp_all
 rw[dj.newRow (P:=P)]at l;generalize(Go.newRow E _).run P s.w.drew=r at l;have f:e∈(Builtin.firstCells ie.size m x).events P s.w.drew ((Builtin.firstCells ie.size n (.slice a n cap)).events P s.w.drew ((askRoom ((Question.appendCap (n+m) cap E).cut (s.w.tape s.w.drawn (Question.appendCap (n+m) cap E))*k.bytes)).events P s.w.drew #[])):=by
  cases r with
  |ok v w'=>simpa using l
  |halt v w'=>simpa using l
 rcases EZ f with f|f
 .rcases EZ f with f|f
  .rw[F _ _ _ f];exact .inl rfl
  grind[uf]
 grind[uf]
def mo(hi:dL P t i)(N:i.desc=.slice E)(v:dL P d i2)(y:i2.desc=.slice E)(Q:dL P E ie)(A:aE σ s){cap m:Nat}{F:av}{a:List ai}(H:s.w.heap[b]?=aa (.cells a.toArray F (0,0)))(q:a.length=cap*ie.size){tx:Bool}{es':Nat->List C}{x:ai}(G:Rd s.M x (.sl tx ie.size m es'))(D:n+m<=cap){L:Loc}(U:L∈s.β)(O:b∈L.bs)(r:∀o,n*ie.size<=o->s.M b o=ae):
  fj s ((Builtin.append_ #[t,d] ty #[.slice (aa ⟨b,0,ae⟩) n cap,x]).events P s.w #[]):=by
 obtain⟨c,z,K,f⟩:=et (P:=P) A G;have J:=ir (P:=P) A G (w:=s.w) rfl;have B:=hi.run_underlying (w:=s.w);have p:=v.run_underlying (w:=s.w);rw[N]at B;rw[y]at p;have I:n*ie.size+c.length<=a.length:=by rw[z.len,q,<-iP];exact eP _ D
 have l:=run_storeCells_at P b (n*ie.size) F c 0 a.toArray s.w H (by grind) z.cell;simp only[iO]at l;have g:(Builtin.lenOf x).run P s.w=.ok m s.w:=by rw[f];rfl
 have k:(Builtin.lenOf x).events P s.w #[]=#[]:=by rw[f];rfl
 intro e u;unfold Builtin.append_ at u;simp only[iL,jI,ox,aR,bT,B,p,aV,Q.run_sizeOf,dE,jZ,cg,g,k,D,b6,oI,K,dw,bF,l,
  sV,Sem.events_ite,events_underlying,events_sizeOf,Sem.events_pure]at u
 rcases dT c 0 a.toArray s.w _ H (by grind) z.cell e u with h|⟨j,S,R,rfl⟩
 .grind [uf]
 grind[j7]
end
structure lW(P:aJ)(o:aC)(x y:aB)(E:av)(ie:TI):Prop where
 op:∃t d i i2,o.op=.call {callee:=.builtin .append,args:=#[x,y],argTypes:=#[t,d]}/\dL P t i/\i.desc=.slice E/\dL P d i2/\i2.desc=.slice E
 elem:dL P E ie
 bytes:ie.bytes≠0
 size:ie.size≠0
def St.grown(s:St)(E:av)(vs zs:List ai)(β:List Loc):St :=
 {β:=β,M:=λb o=>if b=s.w.heap.size then vs[o]? else s.M b o,w:=s.w.drew.alloc (.cells (vs++zs).toArray E),own:=s.own}
def zu(h:aE σ s)(E:av)(vs zs:List ai):∀b o v,(if b=s.w.heap.size then vs[o]? else s.M b o)=aa v->(s.w.drew.alloc (.cells (vs++zs).toArray E)).cell? ⟨b,o,ae⟩=aa v:=by
 intro b o v a;by_cases e:b=s.w.heap.size
 .subst e;simp only[b6]at a;unfold aP;have:(s.w.drew.alloc (.cells (vs++zs).toArray E)).heap[s.w.heap.size]?=aa (.cells (vs++zs).toArray E):=dX s.w.drew _;grind
 .simp only[e,cg]at a;have c:=h.block a;rw[<-h.mem b o v a];unfold aP;have:(s.w.drew.alloc (.cells (vs++zs).toArray E)).heap[b]?=s.w.heap[b]?:=cT s.w.drew _ c;grind
def zv(h:aE σ s)(vs:List ai):∀b o v,s.M b o=aa v->(if b=s.w.heap.size then vs[o]? else s.M b o)=aa v:=by intro b o v a;have:=h.block a;grind
theorem eU{m:Sem ai}(h:fj s (m.events P s.w #[])):fj s ((do pure (.value (<-m)):Sem Next).events P s.w #[]):=by simp_all
theorem dq{d:av}(h:o.op=.call {callee:=.builtin .append,args:=#[x,y],argTypes:=#[t,d]})(a:aB->ai):
  aq a o=(do pure (.value (<-Builtin.append_ #[t,d] o.type #[a x,a y]))):=by simp[aq,h,resolve,invoke,builtin]
def Rd.loose{t:Bool}{k:Nat}(h:Rd M v (.sl t k n es)):Rd M v (.sl af k n es):=by
 cases h with
 |sl b off f a c e hk ha hm hr=>exact .sl b off f a c (by simp) hk ha hm hr
def Rd.EX{t:Bool}{k:Nat}{es':Nat->List C}(l:∀i,i<n->es i=es' i)(h:Rd M v (.sl t k n es)):Rd M v (.sl t k n es'):=by
 cases h with
 |sl b off f a g e hk ha hm hr=>exact .sl b off f a g e (λi hi=>by grind) ha (λi hi j c hj=>hm i hi j c (by grind)) (λi hi j c hj=>hr i hi j c (by grind))
def Rd.wo{k k':Nat}(hk:k=k'∨n=0)(h:Rd M v (.sl ab k n es)):Rd M v (.sl ab k' n es):=by
 rcases hk with rfl|rfl
 .exact h
 .obtain⟨a,cap,vs,f,c,b,e,_⟩:=h.flat;grind[Rd.iR]
def qO{k:Nat}{L:Loc}(hB:σ[l]?=aa (.vec E k n es))(a:s.β[l]?=aa L)(h:eG σ s (.vec E k n es) L):gH σ s L.v (.vec l k n es):=by refine⟨h.1,(bX.1 hB).1,λb k' n' es' he=>?_⟩;grind
def bL.pL{ie:TI}(h:lW P o x y E ie){m k:Nat}{tx:Bool}{es':Nat->List C}(Y:η x=.e (.one (.c (.sl ab k n es))))(hk:k=ie.size∨n=0)(U:∀s v,du σ s v (η y)->Rd s.M v (.sl tx ie.size m es'))(q:(n+m)*ie.bytes<=140737488355328)(hz:n=0∨0<m):
  bL P o η σ (.e (.one (.vec σ.length ie.size (n+m) (cM n es es')))) (σ++[.vec E ie.size (n+m) (cM n es es')]):=by
 intro s ρ hh hr;obtain⟨t,d,i,i2,J,hi,H,r,z⟩:=h.op;have h1:=hr x;rw[Y]at h1;have j:=Rd.wo hk (fe h1);have h2:=U s _ (hr y);obtain⟨a,cap,vs,hv,A,X,W,hF,S⟩:=j.flat;have I:cap=n:=W rfl;subst I;rw[dq J];rw[hv]at j⊢;by_cases Z:m=0
 .subst Z;have l:=jz (P:=P) (ty:=o.type) hi H r z h.elem hh (a:=a) A h2;simp only[iO];have j:=Rd.EX (es':=cM cap es es') (λi hi=>by grind) j;have hB:eG (σ++[.vec E ie.size cap (cM cap es es')]) {s with β:=s.β++[⟨.slice a cap cap,[]⟩]} (.vec E ie.size cap (cM cap es es')) ⟨.slice a cap cap,[]⟩:=⟨j.loose,.inl ⟨⟨rfl,by omega⟩,j⟩⟩
  obtain⟨K,O⟩:=hh.iy (.refl _ _) rfl hh hB (by simp);refine⟨.value (.slice a cap cap),_,?_,?_,K,O,eU (j6 hi H r z h.elem hh A h2)⟩
  .simp[l]
  .exact qO (by simp) (by simp[<-hh.len]) hB
 .have R:cap<cap+m:=by omega
  obtain⟨f,B,g,F,N,Q,G,l⟩:=iQ (P:=P) (ty:=o.type) hi H r z h.elem hh j h2 R q h.bytes;have D:aE σ (s.grown E f B s.β)/\Step σ s σ (s.grown E f B s.β) :=
   hh.grow (by simp) (λb q=>cT s.w.drew _ q) (λb q o=>by grind)
    (λb q o v S=>zu hh E f B b o v S) rfl rfl rfl
  have L:Rd (s.grown E f B s.β).M (.slice (aa ⟨s.w.heap.size,0,ae⟩) (cap+m) g) (.sl af ie.size (cap+m) (cM cap es es')) :=
   Rd.oK (F.mono D.2.mem) (b:=s.w.heap.size) (off:=0) (λ_=>rfl) N Q (by simp) (λp u V=>by simpa[St.grown]using V)
  have hB:eG (σ++[.vec E ie.size (cap+m) (cM cap es es')]) {(s.grown E f B s.β)with β:=(s.grown E f B s.β).β++[⟨.slice (aa ⟨s.w.heap.size,0,ae⟩) (cap+m) g,[s.w.heap.size]⟩]} (.vec E ie.size (cap+m) (cM cap es es')) ⟨.slice (aa ⟨s.w.heap.size,0,ae⟩) (cap+m) g,[s.w.heap.size]⟩:=by
   refine⟨L,.inr ⟨s.w.heap.size,g,f++B,rfl,dX s.w.drew _,G,λo J=>?_⟩⟩;have hl:f.length<=o:=by rw[F.len];exact J
   simp[St.grown,rV hl]
  obtain⟨K,O⟩:=D.1.iy D.2 rfl hh hB (λb q=>by simp at q;subst q;refine⟨bh _,?_⟩;simp[St.grown])
  refine⟨.value (.slice (aa ⟨s.w.heap.size,0,ae⟩) (cap+m) g),_,?_,?_,K,O,eU (jq hi H r z h.elem hh j h2 R q h.bytes)⟩
  .simp[l];rfl
  .exact qO (by simp) (by simp[St.grown,<-hh.len]) hB
def bL.Iv{ie:TI}(h:lW P o x y E ie){m:Nat}{tx:Bool}{es':Nat->List C}(hx:η x=.e (.one (.vec l ie.size n es)))(hl:σ[l]?=aa (.vec E ie.size n es))(hy:∀s v,du σ s v (η y)->Rd s.M v (.sl tx ie.size m es'))(J:(n+m)*ie.bytes<=140737488355328):
  bL P o η σ (.e (.one (.vec l ie.size (n+m) (cM n es es')))) (σ.set l (.vec E ie.size (n+m) (cM n es es'))):=by
 intro s ρ hh hr;obtain⟨t,d,i,i2,X,hi,Y,G,H⟩:=h.op;have So:l<σ.length:=(bX.1 hl).1;have h1:=hr x;rw[hx]at h1;obtain⟨O,_,h1v⟩:=h1;obtain⟨L,S,hv⟩:=(h1v _ _ _ _ hl).2 rfl;have h2:=hy s _ (hr y);have Yw:l<s.β.length:=(bX.1 S).1;have N:=hh.box l _ L hl S;obtain⟨a,cap,vs,Sp,R,UW,ht,hF,hm⟩:=O.flat;rw[dq X,Sp];rw[Sp]at O;have Q:L.v=.slice a n cap:=by grind
 by_cases h0:m=0
 .subst h0;have z:=jz (P:=P) (ty:=o.type) hi Y G H h.elem hh (a:=a) R h2;simp only[iO];have ha:∀i,i<n->es i=cM n es es' i:=λi hi=>by simp[cM,hi]
  have XU:eG (σ.set l (.vec E ie.size n (cM n es es'))) ⟨s.β.set l L,s.M,s.w,s.own⟩ (.vec E ie.size n (cM n es es')) L:=by
   refine⟨N.1.EX ha,?_⟩;rcases N.2 with⟨h3,h4⟩|h3
   .exact .inl ⟨h3,h4.EX ha⟩
   grind
  have f:=hh.gT (M':=s.M) (w':=s.w) (B':=.vec E ie.size n (cM n es es')) (L':=L) hl S ⟨λ_=>rfl,bh _⟩ (bh _) (λ_ _ _=>rfl) (λ_ _ _ _=>rfl) (λ_ _ _ h=>h) hh.mem
   (λb J=>⟨.inl J,hh.lt L (bP S) b J⟩) rfl rfl rfl XU
  refine⟨.value (.slice a n cap),_,?_,?_,f.1,f.2,eU (j6 hi Y G H h.elem hh R h2)⟩
  .simp[z]
  .rw[<-Q];exact qO (E:=E) (by grind) (by grind) XU
 .have I:¬(n+m=n):=by omega
  by_cases g:n+m<=cap
  .rcases N.2 with⟨Vp,A⟩|⟨b,OG,k,rfl,hw,K,U⟩
   .rw[Q]at A;obtain⟨_,_,_,e,_,_,ht2,_⟩:=A.flat;grind
   .simp only at Q;cases Q;obtain⟨c,Z,z⟩:=kN (P:=P) (ty:=o.type) hi Y G H h.elem hh hw K h2 g;have UU:c.length=m*ie.size:=Z.len;have Yx:b<s.w.heap.size:=(iJ.1 hw).1;let M':Mem:=λB o=>if B=b/\n*ie.size<=o/\o<(n+m)*ie.size then c[o-n*ie.size]? else s.M B o;have JW:k.length=cap*ie.size:=K;have hnm:(n+m)*ie.size=n*ie.size+m*ie.size:=iP _ _ _;have hnc:(n+m)*ie.size<=cap*ie.size:=eP _ g;have Vq:∀B o v,s.M B o=aa v->M' B o=aa v:=by grind
    have Sn:∀p u,c[p]?=aa u->M' b (n*ie.size+p)=aa u:=by grind
    have W:Rd M' (.slice (aa ⟨b,0,ae⟩) (n+m) cap) (.sl af ie.size (n+m) (cM n es es')):=by refine Rd.oK (vs:=vs++c) ((hF.append Z).mono Vq) (b:=b) (off:=0) (λ_=>rfl) g UW (by simp) (λp u hp=>?_);have Rb:vs.length=n*ie.size:=hF.len;grind
    have f:=hh.gT (M':=M') (w':=s.w.setRow b (k.take (n*ie.size)++c++k.drop (n*ie.size+c.length)).toArray) (B':=.vec E ie.size (n+m) (cM n es es')) (L':=⟨.slice (aa ⟨b,0,ae⟩) (n+m) cap,[b]⟩) hl S
     ⟨λe=>absurd e I,by omega⟩ (by simp) (λB _ F=>setRow_other _ _ _ _ (by grind)) (λB _ F o=>by
      grind) Vq ?_ (λB F=>by simp at F;subst F;exact⟨.inl (by simp),by simpa using Yx⟩) rfl rfl rfl ?_
    .refine⟨.value (.slice (aa ⟨b,0,ae⟩) (n+m) cap),_,?_,?_,f.1,f.2,eU (mo hi Y G H h.elem hh hw K h2 g (bP S) (by simp) U)⟩
     .simp[z]
     .exact qO (L:=⟨.slice (aa ⟨b,0,ae⟩) (n+m) cap,[b]⟩) (E:=E) (by grind) (by grind) (f.1.box l _ _ (by grind) (by grind))
    .intro B o v D;by_cases F:B=b
     .subst F;have V:∀j,(s.w.setRow B (k.take (n*ie.size)++c++k.drop (n*ie.size+c.length)).toArray).cell? ⟨B,j,ae⟩=(k.take (n*ie.size)++c++k.drop (n*ie.size+c.length))[j]?:=by grind[cell_setRow_same]
      rw[V];simp only[M']at D;have hkl:(k.take (n*ie.size)).length=n*ie.size:=by rw[List.length_take];omega
      split at D
      .grind
      .rename_i hc;have h3:=hh.mem B o v D;have X:o<n*ie.size:=by grind
       rw[mm,jH (by omega),gL,bo X];simp only[aP,hw]at h3;grind
     .simp only[M']at D;rw[aY (by omega)]at D;rw[<-hh.mem B o v D];simp only[aP];grind[setRow_other]
    .refine⟨W,.inr ⟨b,cap,_,rfl,setRow_heap _ _ _ _ _ _ hw,?_,λo X=>?_⟩⟩
     .grind
     grind
  .have hg:cap<n+m:=by omega
   obtain⟨q,zs,r,Vn,XV,XW,hlen,z⟩:=iQ (P:=P) (ty:=o.type) hi Y G H h.elem hh O h2 hg J h.bytes;have hbl:∀b∈L.bs,b<s.w.heap.size:=hh.lt L (bP S);have W:Rd (λb o=>if b=s.w.heap.size then q[o]? else s.M b o) (.slice (aa ⟨s.w.heap.size,0,ae⟩) (n+m) r) (.sl af ie.size (n+m) (cM n es es')) :=
    Rd.oK (Vn.mono (zv hh q)) (b:=s.w.heap.size) (off:=0) (λ_=>rfl) XV XW (by simp) (λp u hp=>by grind)
   have f:=hh.gT (M':=λb o=>if b=s.w.heap.size then q[o]? else s.M b o) (w':=s.w.drew.alloc (.cells (q++zs).toArray E)) (B':=.vec E ie.size (n+m) (cM n es es')) (L':=⟨.slice (aa ⟨s.w.heap.size,0,ae⟩) (n+m) r,[s.w.heap.size]⟩) hl S
    ⟨λe=>absurd e I,by omega⟩ (by simp) (λb J _=>cT s.w.drew _ J) (λb J _ o=>by grind) (zv hh q) (zu hh E q zs) (λb J=>by
     simp at J;subst J;exact⟨.inr (bh _),by simp⟩) rfl rfl rfl ⟨W,.inr ⟨s.w.heap.size,r,q++zs,rfl,dX s.w.drew _,hlen,λo X=>by
      have hl:q.length<=o:=by rw[Vn.len];exact X
      grind⟩⟩
   refine⟨.value (.slice (aa ⟨s.w.heap.size,0,ae⟩) (n+m) r),_,?_,?_,f.1,f.2,eU (jq hi Y G H h.elem hh O h2 hg J h.bytes)⟩
   .simp[z]
   .exact qO (L:=⟨.slice (aa ⟨s.w.heap.size,0,ae⟩) (n+m) r,[s.w.heap.size]⟩) (E:=E) (by grind) (by grind) (f.1.box l _ _ (by grind) (by grind))
def kh{α:Type}:List Nat->List α->Option (List α)
  | [],_=>aa []
  | k::ks,l=>match dF k l with
    | some x=>match kh ks l with
      | some r=>aa (x::r)
      | none=>ae
    | none=>ae
def fE{α:Type}:∀(n:Nat) (l:List α),dF n l=l[n]?
  | _,[]=>by simp[dF]
  | 0,x::_=>by simp[dF]
  | n+1,_::xs=>by simpa[dF]using fE n xs
def je{α:Type}:∀{ks:List Nat} {l r:List α},kh ks l=aa r->r.length=ks.length/\∀(j k:Nat),ks[j]?=aa k->∃x,r[j]?=aa x/\l[k]?=aa x
  | [],l,r,h=>by cases h;simp
  | k::ks,l,r,h=>by
    simp only[kh]at h;cases b:dF k l with
    | none=>grind
    | some x =>
      cases a:kh ks l with
      | none=>grind
      | some q =>
        simp[b,a]at h;subst h;obtain⟨d,c⟩:=je a;grind[b7]
def wZ{α e:Type}:∀{ks:List Nat} {l r:List α} {l':List e},kh ks l=aa r->l'.length=l.length->∃r',kh ks l'=aa r'
  | [],l,r,l',_,_=>⟨[],rfl⟩
  | k::ks,l,r,l',h,b=>by
    simp only[kh]at h;cases c:dF k l with
    | none=>grind
    | some x =>
      cases d:kh ks l with
      | none=>grind
      | some q =>
        obtain⟨r',a⟩:=wZ (l':=l') d b;have hk:k<l'.length:=by rw[b];exact(bX.1 (b7 c)).1
        exact⟨l'[k]::r',by simp[kh,fE,hk,a]⟩
def pz(ks:List Nat):A->A
  | .ptr l o=>match dF l ks with|some k=>.ptr k o|none=>.any
  | .vec l k n es=>match dF l ks with|some m=>.vec m k n es|none=>.c (.sl af k n es)
  | .ref l=>match dF l ks with|some k=>.ref k|none=>.any
  | .bp l w=>match dF l ks with|some k=>.bp k w|none=>.any
  | .c x=>.c x
  | .any=>.any
def CM(ks:List Nat):List A->List A
  | []=>[]
  | a::r=>pz ks a::CM ks r
def AU(ks:List Nat):E1->E1
  | .one a=>.one (pz ks a)
  | .agg cs=>.agg (CM ks cs)
def zx(ks:List Nat):List E1->List E1
  | []=>[]
  | a::r=>AU ks a::zx ks r
def iE(ks:List Nat):D->D
  | .e x=>.e (AU ks x)
  | .fD xs=>.fD (zx ks xs)
  | .any=>.any
def fX(ks:List Nat):List D->List D
  | []=>[]
  | a::r=>iE ks a::fX ks r
def E8:A->Bool
  | .c _|.any=>ab
  | _=>af
def AV:List A->Bool
  | []=>ab
  | a::r=>match E8 a with|true=>AV r|false=>af
def w5:bg->Bool
  | .cells _ cs=>AV cs
  | .loop ..=>af
  | _=>ab
def cC:List bg->Bool
  | []=>ab
  | a::r=>match w5 a with|true=>cC r|false=>af
def ll:∀{l:List bg},cC l=ab->∀B∈l,w5 B=ab
  | [],_,B,hB=>by grind
  | b::r,h,B,hB=>by
    simp only[cC]at h;cases a:w5 b with
    | false=>grind
    | true =>
      simp only[a]at h;rcases eb.1 hB with rfl|hB
      · exact a
      · exact ll h B hB
def er.plain{σ σ':List bg}{s s':St}(e:s'.M=s.M):∀{vs:List ai} {cs:List A},AV cs=ab->er σ s vs cs->er σ' s' vs cs
  | [],[],_,_=>trivial
  | [],_::_,_,h=>h.elim
  | _::_,[],_,h=>h.elim
  | v::vs,a::al,b,h=>by
    simp only[AV]at b;cases d:E8 a with
    | false=>grind
    | true =>
      simp only[d]at b;refine⟨?_,er.plain e b h.2⟩;cases a with
      | c x=>have:=h.1;simp only[gH]at this⊢;grind
      | any=>exact h.1
      | _=>simp[E8]at d
def eG.plain{σ σ':List bg}{s s':St}(a:s'.M=s.M)(c:s'.w=s.w){B:bg}{L:Loc}(d:w5 B=ab)(h:eG σ s B L):eG σ' s' B L:=by
  cases B with
  | cells E cs =>
    obtain⟨b,vs,h1,h2,e,f⟩:=h;exact⟨b,vs,h1,by grind,e.plain a d,λo=>by rw[a];grind⟩
  | vec E k n es=>simp only[eG,a,c]at h⊢;exact h
  | cj H=>simp only[eG,a,c]at h⊢;exact h
  | dead=>trivial
  | loop N φ r=>simp[w5]at d
  | rX=>simp only[eG,a,c]at h⊢;exact h
  | buf E k n es=>simp only[eG,a,c]at h⊢;exact h
def iF:Nat->List Nat->Bool
  | _,[]=>af
  | k,x::r=>match aw k x with|true=>ab|false=>iF k r
def dK:List Nat->Bool
  | []=>ab
  | k::r=>match iF k r with|true=>af|false=>dK r
theorem wz:∀{k:Nat} {l:List Nat},k∈l->iF k l=ab
  | k,[],h=>by grind
  | k,x::r,h=>by
    simp only[iF];cases a:aw k x with
    | true=>rfl
    | false =>
      rcases eb.1 h with rfl|h
      · grind[Nat.beq_refl]
      · exact wz h
def w6:∀{l:List Nat},dK l=ab->∀(i j k:Nat),l[i]?=aa k->l[j]?=aa k->i=j
  | [],_,i,j,k,hi,_=>by grind
  | x::r,h,i,j,k,hi,a=>by
    simp only[dK]at h;cases b:iF x r with
    | true=>grind
    | false =>
      simp only[b]at h;have no:∀q,r[q]?=aa x->False:=λq c=>by have:=wz (bP c);grind
      cases i with
      | zero =>
        grind
      | succ i =>
        cases j with
        | zero =>
          grind
        | succ j =>
          simp at hi a;rw[w6 h i j k hi a]
def Iy(n:Nat):A->Bool
  | .ptr l _|.vec l _ _ _|.ref l|.bp l _=>bD (l+1) n
  | _=>ab
def G6(n:Nat):List A->Bool
  | []=>ab
  | a::r=>match Iy n a with|true=>G6 n r|false=>af
def CN(n:Nat):E1->Bool
  | .one a=>Iy n a
  | .agg cs=>G6 n cs
def zb(n:Nat):List E1->Bool
  | []=>ab
  | a::r=>match CN n a with|true=>zb n r|false=>af
def w7(n:Nat):D->Bool
  | .e x=>CN n x
  | .fD xs=>zb n xs
  | .any=>ab
def lP(n:Nat):List D->Bool
  | []=>ab
  | a::r=>match w7 n a with|true=>lP n r|false=>af
section sub
variable {β':List Loc}
def gH.sub(u:kh ks σ=aa σ')(p:kh ks s.β=aa β'){a:A}(d:gH σ s v (pz ks a))(e:Iy ks.length a=ab):gH σ' {s with β:=β'} v a:=by
  obtain⟨z,m⟩:=je u;obtain⟨C,j⟩:=je p;cases a with
  | c x=>exact d
  | any=>exact d
  | ptr l o =>
    have hl:l<ks.length:=dr e;simp only[pz,fE,bn hl]at d;obtain⟨h1,L,b,h2,g,r⟩:=d;obtain⟨x,i,t⟩:=m l _ (bn hl);obtain⟨y,f,h⟩:=j l _ (bn hl);rw[h]at h2;cases h2;exact⟨λB q=>h1 B (by grind),L,b,f,g,r⟩
  | vec l k n es =>
    have hl:l<ks.length:=dr e;simp only[pz,fE,bn hl]at d;obtain⟨h1,h2,g⟩:=d;obtain⟨x,i,t⟩:=m l _ (bn hl);obtain⟨y,f,h⟩:=j l _ (bn hl);refine⟨h1,by grind,λE k' n' es' q=>?_⟩;grind
  | ref l =>
    have hl:l<ks.length:=dr e;simp only[pz,fE,bn hl]at d;obtain⟨h1,L,h2,g,r⟩:=d;obtain⟨x,i,t⟩:=m l _ (bn hl);obtain⟨y,f,h⟩:=j l _ (bn hl);rw[h]at h2;cases h2;exact⟨λB q=>h1 B (by grind),L,f,g,r⟩
  | bp l w =>
    have hl:l<ks.length:=dr e;simp only[pz,fE,bn hl]at d;obtain⟨lv,h1,h2,g⟩:=d;obtain⟨x,i,t⟩:=m l _ (bn hl);obtain⟨y,f,h⟩:=j l _ (bn hl);refine⟨lv,h1,(bX.1 i).1,λE k n es q=>?_⟩;grind
def gH.nT{σ2:List bg}{s2:St}(u:s2.M=s.M)(e:∀(j:Nat) (B:bg),σ[j]?=aa B->∃k,ks[j]?=aa k/\σ2[k]?=aa B)(g:∀(j:Nat) (L:Loc),s.β[j]?=aa L->∃k,ks[j]?=aa k/\s2.β[k]?=aa L)(t:s.β.length=σ.length){a:A}(f:gH σ s v a):gH σ2 s2 v (pz ks a):=by
  cases a with
  | c x=>simp only[pz,gH,u];exact f
  | any=>exact f
  | ptr l o =>
    obtain⟨h1,L,b,h2,h,r⟩:=f;obtain⟨k,k1,i⟩:=g l L h2;have hl:l<σ.length:=by grind
    obtain⟨k',d,q⟩:=e l _ (bn hl);rw[k1]at d;cases d;simp only[pz,fE,k1];refine⟨λB m=>?_,L,b,i,h,r⟩;grind
  | vec l k n es =>
    obtain⟨h1,h2,h⟩:=f;obtain⟨k1,p,p2⟩:=e l _ (bn h2);simp only[pz,fE,p];refine⟨by grind,(bX.1 p2).1,λE k' n' es' m=>?_⟩;grind
  | ref l =>
    obtain⟨h1,L,h2,h,r⟩:=f;obtain⟨k,k1,i⟩:=g l L h2;have hl:l<σ.length:=by grind
    obtain⟨k',d,q⟩:=e l _ (bn hl);rw[k1]at d;cases d;simp only[pz,fE,k1];refine⟨λB m=>?_,L,i,h,r⟩;grind
  | bp l w =>
    obtain⟨lv,h1,h2,h⟩:=f;obtain⟨k1,p,p2⟩:=e l _ (bn h2);simp only[pz,fE,p];refine⟨lv,h1,(bX.1 p2).1,λE k' n' es' m=>?_⟩;grind
def er.sub(c:kh ks σ=aa σ')(b:kh ks s.β=aa β'):∀{vs:List ai} {cs:List A},er σ s vs (CM ks cs)->G6 ks.length cs=ab->er σ' {s with β:=β'} vs cs
  | [],[],_,_=>trivial
  | [],_::_,h,_=>h.elim
  | _::_,[],h,_=>h.elim
  | v::vs,a::al,h,d=>by
    simp only[G6]at d;cases e:Iy ks.length a with
    | false=>grind
    | true=>simp only[e]at d;exact⟨h.1.sub c b e,er.sub c b h.2 d⟩
def ow.sub(c:kh ks σ=aa σ')(b:kh ks s.β=aa β'){v:ai}{x:E1}(h:ow σ s v (AU ks x))(d:CN ks.length x=ab):ow σ' {s with β:=β'} v x:=by
  cases x with
  | one a=>exact gH.sub c b h d
  | agg cs=>obtain⟨vs,h1,h2⟩:=h;exact⟨vs,h1,h2.sub c b d⟩
def im.sub(c:kh ks σ=aa σ')(b:kh ks s.β=aa β'):∀{vs:List ai} {xs:List E1},im σ s vs (zx ks xs)->zb ks.length xs=ab->im σ' {s with β:=β'} vs xs
  | [],[],_,_=>trivial
  | [],_::_,h,_=>h.elim
  | _::_,[],h,_=>h.elim
  | v::vs,a::al,h,d=>by
    simp only[zb]at d;cases e:CN ks.length a with
    | false=>grind
    | true=>simp only[e]at d;exact⟨h.1.sub c b e,im.sub c b h.2 d⟩
def du.sub(b:kh ks σ=aa σ')(a:kh ks s.β=aa β'){v:ai}{d:D}(h:du σ s v (iE ks d))(c:w7 ks.length d=ab):du σ' {s with β:=β'} v d:=by
  cases d with
  | e x=>exact ow.sub b a h c
  | fD xs=>obtain⟨vs,h1,h2⟩:=h;exact⟨vs,h1,h2.sub b a c⟩
  | any=>trivial
def cp.sub(c:kh ks σ=aa σ')(b:kh ks s.β=aa β'):∀{vs:List ai} {ds:List D},cp σ s vs (fX ks ds)->lP ks.length ds=ab->cp σ' {s with β:=β'} vs ds
  | [],[],_,_=>trivial
  | [],_::_,h,_=>h.elim
  | _::_,[],h,_=>h.elim
  | v::vs,a::al,h,d=>by
    simp only[lP]at d;cases e:w7 ks.length a with
    | false=>grind
    | true=>simp only[e]at d;exact⟨h.1.sub c b e,cp.sub c b h.2 d⟩
variable {σ2:List bg}{s2:St}
def er.nT(d:s2.M=s.M)(c:∀(j:Nat) (B:bg),σ[j]?=aa B->∃k,ks[j]?=aa k/\σ2[k]?=aa B)(b:∀(j:Nat) (L:Loc),s.β[j]?=aa L->∃k,ks[j]?=aa k/\s2.β[k]?=aa L)(a:s.β.length=σ.length):
    ∀{vs:List ai} {cs:List A},er σ s vs cs->er σ2 s2 vs (CM ks cs)
  | [],[],_=>trivial
  | [],_::_,h=>h.elim
  | _::_,[],h=>h.elim
  | _::_,_::_,h=>⟨h.1.nT d c b a,er.nT d c b a h.2⟩
def ow.nT(e:s2.M=s.M)(d:∀(j:Nat) (B:bg),σ[j]?=aa B->∃k,ks[j]?=aa k/\σ2[k]?=aa B)(c:∀(j:Nat) (L:Loc),s.β[j]?=aa L->∃k,ks[j]?=aa k/\s2.β[k]?=aa L)(b:s.β.length=σ.length){v:ai}{x:E1}(h:ow σ s v x):ow σ2 s2 v (AU ks x):=by
  cases x with
  | one a=>exact gH.nT e d c b h
  | agg cs=>obtain⟨vs,h1,h2⟩:=h;exact⟨vs,h1,h2.nT e d c b⟩
def im.nT(d:s2.M=s.M)(c:∀(j:Nat) (B:bg),σ[j]?=aa B->∃k,ks[j]?=aa k/\σ2[k]?=aa B)(b:∀(j:Nat) (L:Loc),s.β[j]?=aa L->∃k,ks[j]?=aa k/\s2.β[k]?=aa L)(a:s.β.length=σ.length):
    ∀{vs:List ai} {xs:List E1},im σ s vs xs->im σ2 s2 vs (zx ks xs)
  | [],[],_=>trivial
  | [],_::_,h=>h.elim
  | _::_,[],h=>h.elim
  | _::_,_::_,h=>⟨h.1.nT d c b a,im.nT d c b a h.2⟩
def du.nT(f:s2.M=s.M)(c:∀(j:Nat) (B:bg),σ[j]?=aa B->∃k,ks[j]?=aa k/\σ2[k]?=aa B)(b:∀(j:Nat) (L:Loc),s.β[j]?=aa L->∃k,ks[j]?=aa k/\s2.β[k]?=aa L)(a:s.β.length=σ.length){v:ai}{d:D}(h:du σ s v d):du σ2 s2 v (iE ks d):=by
  cases d with
  | e x=>exact ow.nT f c b a h
  | fD xs=>obtain⟨vs,h1,h2⟩:=h;exact⟨vs,h1,h2.nT f c b a⟩
  | any=>trivial
end sub
def dY.rA{α:Type}:Nat->α->List α->List α
  | _,_,[]=>[]
  | 0,x,_::r=>x::r
  | k+1,x,y::r=>y::dY.rA k x r
def dY{α:Type}:List Nat->List α->List α->List α
  | [],new,old=>old++new
  | k::ks,x::new,old=>dY ks new (dY.rA k x old)
  | _::_,[],old=>old
theorem jA{α:Type}:∀(k:Nat) (x:α) (l:List α),dY.rA k x l=l.set k x
  | _,_,[]=>by simp[dY.rA]
  | 0,x,_::r=>by simp[dY.rA]
  | k+1,x,y::r=>by simp[dY.rA,jA k x r]
def w8{α:Type}:∀{ks:List Nat} {new old:List α},dK ks=ab->(∀k∈ks,k<old.length)->ks.length<=new.length ->
    (dY ks new old).length=old.length+(new.length-ks.length)/\(∀(j k:Nat),ks[j]?=aa k->(dY ks new old)[k]?=new[j]?) /\
    (∀j,(dY ks new old)[old.length+j]?=new[ks.length+j]?)/\(∀l,l<old.length->l∉ks->(dY ks new old)[l]?=old[l]?)
  | [],new,old,_,_,_=>by
    refine⟨by simp[dY],by simp,λj=>?_,λl g _=>?_⟩
    · simp only[dY,gO,bF]
      grind
    · simp[dY,jH g]
  | k::ks,[],old,_,_,h=>by grind
  | k::ks,x::new,old,a,b,e=>by
    have d:=a;simp only[dK]at a;cases f:iF k ks with
    | true=>grind
    | false =>
      simp only[f]at a;have hk:k<old.length:=b k (by simp);have c:k∉ks:=λh=>by grind[wz]
      obtain⟨o,i,n,m⟩:=w8 (ks:=ks) (new:=new) (old:=old.set k x) a (λk' VD=>by grind) (by grind);simp only[dY,jA];grind
def Ev(X:Cx P)(f:aH)(args:List D)(σ:List bg)(res:D)(σ':List bg):Prop :=
  (∃fn,P.funcs[f]?=aa fn/\(fn.name== "runtime.NumGoroutine")=af/\fn.body.isNone=af) /\
  ∀s (vs:List ai),cp σ s vs args->aE σ s->∀(S:ar->St->Prop) (cs:List aX),
    (∀a v s',vN P f a v s'->du σ' s' v res->aE σ' s'->c6 σ s σ' s'->fL X S (G a cs) s')->fL X S (G (Frame.enter P f vs.toArray .normal) cs) s
def ek(X:Cx P)(f:aH)(args:List D)(σ:List bg)(res:ι->D)(σ':ι->List bg):Prop :=
  (∃fn,P.funcs[f]?=aa fn/\(fn.name== "runtime.NumGoroutine")=af/\fn.body.isNone=af) /\
  ∀s (vs:List ai),cp σ s vs args->aE σ s->∀(S:ar->St->Prop) (cs:List aX),
    (∀i a v s',vN P f a v s'->du (σ' i) s' v (res i)->aE (σ' i) s'->c6 σ s (σ' i) s'->fL X S (G a cs) s')->fL X S (G (Frame.enter P f vs.toArray .normal) cs) s
def Ev.sH{X:Cx P}{f:aH}{args:List D}{res:D}(h:Ev X f args σ res σ'):ek (ι:=Unit) X f args σ (λ_=>res) (λ_=>σ') :=
  ⟨h.1,λs vs hr hh S cs hS=>h.2 s vs hr hh S cs (hS ())⟩
def ek.E9{X:Cx P}{f:aH}{args:List D}{res:D}(h:ek (ι:=Unit) X f args σ (λ_=>res) (λ_=>σ')):Ev X f args σ res σ' :=
  ⟨h.1,λs vs hr hh S cs hS=>h.2 s vs hr hh S cs (λ_=>hS)⟩
def w9(s:St)(a:List Loc):Nat->Prop:=λb=>s.own b∨((∃L∈s.β,b∈L.bs)/\∀L∈a,b∉L.bs)
def ln(n:Nat):Nat->List Nat
  | 0=>[]
  | m+1=>n::ln (n+1) m
def CO:∀(m n j:Nat),(ln n m)[j]?=if j<m then aa (n+j)else ae
  | 0,n,j=>by simp[ln]
  | m+1,n,0=>by simp[ln]
  | m+1,n,j+1=>by simp only[ln,ox,CO m (n+1) j,Nat.add_lt_add_iff_right];grind
def frame{σ1:List bg}{a:St}{n:List Loc}(q:aE σ s)(O:kh ks σ=aa σs)(V:kh ks s.β=aa n)(hn:dK ks=ab)(hp:cC σ1=ab)(u:aE σ1 a)(st:c6 σs {s with β:=n,own:=w9 s n} σ1 a)(K:ks.length<=σ1.length){res:D}(hr:du σ1 a v res):
    ∃s2:St,s2.w=a.w/\du (dY ks σ1 σ) s2 v (iE (ks++ln σ.length (σ1.length-ks.length)) res)/\aE (dY ks σ1 σ) s2/\c6 σ s (dY ks σ1 σ) s2/\s2.M=a.M/\s2.own=s.own/\∀L∈s2.β,L∈a.β∨(L∈s.β/\∀b∈L.bs,∀L'∈n,b∉L'.bs):=by
  have G:∀k∈ks,k<σ.length:=by intro k hk;obtain⟨j,m,rfl⟩:=dD hk;obtain⟨x,_,h2⟩:=(je O).2 j _ (bn m);grind
  have z:∀k∈ks,k<s.β.length:=by rw[q.len];exact G
  have I:ks.length<=a.β.length:=by rw[u.len];exact K
  obtain⟨a1,a2,a3,a4⟩:=w8 (new:=σ1) (old:=σ) hn G K;obtain⟨b1,b2,b3,b4⟩:=w8 (new:=a.β) (old:=s.β) hn z I;obtain⟨c1,c2⟩:=je O;obtain⟨d1,d2⟩:=je V;let J:=ks++ln σ.length (σ1.length-ks.length);have R:∀j,j<σ1.length->∃k,J[j]?=aa k/\(dY ks σ1 σ)[k]?=σ1[j]?/\(dY ks a.β s.β)[k]?=a.β[j]?:=by
    intro j m;rcases cN j ks.length with p|A
    · refine⟨ks[j],?_,a2 j _ (bn p),b2 j _ (bn p)⟩
      grind
    · refine⟨σ.length+(j-ks.length),?_,?_,?_⟩
      · simp only[J]
        rw[gp A,CO,bo (by omega)]
      · rw[a3];grind
      · rw[<-q.len,b3];grind
  have f:∀l L,(dY ks a.β s.β)[l]?=aa L->(∃j,j<σ1.length/\a.β[j]?=aa L/\(∀B,(dY ks σ1 σ)[l]?=aa B->σ1[j]?=aa B)/\(∀k,ks[j]?=aa k->k=l)/\(j≥ks.length->l=σ.length+(j-ks.length))) ∨
      (l<σ.length/\l∉ks/\s.β[l]?=aa L/\(dY ks σ1 σ)[l]?=σ[l]?):=by
    intro l L c;have X:l<(dY ks a.β s.β).length:=(bX.1 c).1;rcases cN l σ.length with p|A
    · by_cases r:l∈ks
      · obtain⟨j,m,rfl⟩:=dD r
        have hk:=bn m;grind
      · exact .inr ⟨p,r,by rw[<-b4 l (by rw[q.len];exact p) r];exact c,a4 l p r⟩
    · rw[b1,u.len,q.len]at X
      refine .inl ⟨ks.length+(l-σ.length),by omega,?_,λB hB=>?_,λk hk=>?_,λ_=>by omega⟩
      · rw[<-b3,q.len,AI A];exact c
      · rw[<-a3,AI A];exact hB
      grind
  have E:∀L∈n,L∈s.β:=by
    intro L c;obtain⟨j,m,rfl⟩:=dD c;have C:j<ks.length:=by grind
    obtain⟨x,P,N⟩:=d2 j _ (bn C);grind
  have other:∀l L,l∉ks->s.β[l]?=aa L->∀b∈L.bs,b<s.w.heap.size/\∀L'∈n,b∉L'.bs:=by
    intro l L t c b d;refine⟨q.lt L (bP c) b d,λL' fC JY=>?_⟩;obtain⟨j,m,rfl⟩:=dD fC;have C:j<ks.length:=by grind
    obtain⟨x,P,N⟩:=d2 j _ (bn C);rw[bn m]at P;cases P;have:=q.eO l ks[j] L _ c N b d JY;grind
  have out:∀b,b<s.w.heap.size->(∀L∈s.β,b∉L.bs)->∀L∈n,b∉L.bs:=λb _ h L c=>h L (E L c);have ex:Ext σ s (dY ks σ1 σ) ⟨dY ks a.β s.β,a.M,a.w,s.own⟩:=by
    refine⟨st.mem,λl B L hB c=>?_⟩;have p:l<σ.length:=(bX.1 hB).1;by_cases r:l∈ks
    · obtain⟨j,m,rfl⟩:=dD r
      have hk:=bn m;obtain⟨x,P,N⟩:=c2 j _ hk;obtain⟨y,y1,y2⟩:=d2 j _ hk;rw[hB]at N;cases N;rw[c]at y2;cases y2;obtain⟨B',L',p1,p2,p3⟩:=st.box j B L P y1;grind
    · exact⟨B,L,by grind,by grind,.refl _ _⟩
  refine⟨⟨dY ks a.β s.β,a.M,a.w,s.own⟩,rfl,?_,⟨u.mem,?_,?_,?_,?_,?_⟩,⟨st.size,?_,st.mem,?_,?_,ex.box,st.os,st.tape,st.output,rfl⟩,rfl,rfl,?_⟩
  · refine du.nT (s:=a) (s2:=⟨dY ks a.β s.β,a.M,a.w,s.own⟩) (σ2:=dY ks σ1 σ) (ks:=J) rfl (λj B hB=>?_) (λj L c=>?_) u.len hr
    · grind
    · obtain⟨k,k1,_,k3⟩:=R j (by rw[<-u.len];grind)
      grind
  · simp only;rw[a1,b1,u.len,q.len]
  · intro l B L hB c
    rcases f l L c with⟨j,m,g,S,_⟩|⟨t,r,fC,Y⟩
    · exact eG.plain (σ:=σ1) (s:=a) (s':=⟨dY ks a.β s.β,a.M,a.w,s.own⟩) rfl rfl (ll hp B (bP (S B hB))) (u.box j B L (S B hB) g)
    · rw[Y]at hB
      refine(q.box l B L hB fC).carry ex q.len λb d=>?_;obtain⟨Z,U⟩:=other l L r fC b d;exact⟨st.fA b (.inr ⟨⟨L,bP fC,d⟩,U⟩),st.jo b Z U⟩
  · intro l l' L L' c fC b d JY
    rcases f l L c with⟨j,m,g,_,hjk,hjn⟩|⟨t,r,i,_⟩<;>rcases f l' L' fC with⟨j',C,H,_,ac0,ac1⟩|⟨ES,hm',F,_⟩
    · have e:=u.eO j j' L L' g H b d JY
      grind
    · obtain⟨Z,U⟩:=other l' L' hm' F b JY
      rcases st.wu L (bP g) b d with h|⟨L0,h0,Q⟩
      · grind
      grind
    · obtain⟨Z,U⟩:=other l L r i b d
      rcases st.wu L' (bP H) b JY with h|⟨L0,h0,Q⟩
      · grind
      grind
    · exact q.eO l l' L L' i F b d JY
  · intro L c b d
    obtain⟨l,t,rfl⟩:=dD c;rcases f l _ (bn t)with⟨j,m,g,_⟩|⟨_,_,i,_⟩
    · exact u.lt _ (bP g) b d
    · have:=q.lt _ (bP i) b d
      have:=st.size;grind
  · intro b d
    refine⟨?_,λL c T=>?_⟩
    · have:=(q.own b d).1
      have:=st.size;grind
    · obtain⟨l,t,rfl⟩:=dD c
      rcases f l _ (bn t)with⟨j,m,g,_⟩|⟨_,_,i,_⟩
      · have ho:a.own b:=by rw[st.own];exact .inl d
        exact(u.own b ho).2 _ (bP g) T
      · exact(q.own b d).2 _ (bP i) T
  · intro b d
    exact st.fA b (.inl d)
  · intro b d W o
    exact st.jo b d (out b d W) o
  · intro L c b d
    obtain⟨l,t,rfl⟩:=dD c;rcases f l _ (bn t)with⟨j,m,g,_⟩|⟨_,_,i,_⟩
    · rcases st.wu _ (bP g) b d with h|⟨L0,h0,Q⟩
      · grind
      grind
    grind
  · intro L c
    obtain⟨l,t,rfl⟩:=dD c;rcases f l _ (bn t)with⟨j,m,g,_⟩|⟨_,r,i,_⟩
    · grind
    grind
def eQ:D->Option (aH×List C)
 |.e (.one (.c (.fn (.func f) [] cap)))=>aa (f,cap)
 |_=>ae
theorem ma{σ:List bg}{s:St}{b:aB->ai}{η:aB->D}(a:∀y,du σ s (b y) (η y)):∀l:List aB,cp σ s (l.map b) (l.map η)
 |[]=>trivial
 |x::r=>⟨a x,ma a r⟩
def cp.append{σ:List bg}{s:St}:∀{vs YD:List ai}{ds G5:List D},cp σ s vs ds->cp σ s YD G5->cp σ s (vs++YD) (ds++G5)
 |[],_,[],_,_,h=>h
 |[],_,_::_,_,h,_=>h.elim
 |_::_,_,[],_,h,_=>h.elim
 |_::_,_,_::_,_,h,a=>⟨h.1,cp.append h.2 a⟩
def Sy:A->A
 |.vec _ k n es=>.c (.sl af k n es)
 |.c (.sl _ k n es)=>.c (.sl af k n es)
 |a=>a
def G7{a:A}(h:gH σ s v a):gH σ s v (Sy a):=by
 cases a with
 |vec l k n es=>exact h.1
 |c x=>cases x<;>first|exact h|exact Rd.loose h
 |_=>exact h
def Sz:List A->List A
 |[]=>[]
 |a::r=>Sy a::Sz r
def G8{σ:List bg}{s:St}:∀{vs:List ai}{cs:List A},er σ s vs cs->er σ s vs (Sz cs)
 |[],[],_=>trivial
 |[],_::_,h=>h.elim
 |_::_,[],h=>h.elim
 |_::_,_::_,h=>⟨G7 h.1,G8 h.2⟩
def VE:D->D
 |.e (.one a)=>.e (.one (Sy a))
 |.e (.agg cs)=>.e (.agg (Sz cs))
 |d=>d
def OV{d:D}(h:du σ s v d):du σ s v (VE d):=by
 cases d with
 |e x=>cases x with
  |one a=>exact G7 h
  |agg cs=>obtain⟨vs,c,b⟩:=h;exact⟨vs,c,G8 b⟩
 |fD xs=>exact h
 |any=>trivial
def m6:List D->List D
 |[]=>[]
 |a::r=>VE a::m6 r
theorem pQ{σ:List bg}{s:St}:∀{vs:List ai}{ds:List D},cp σ s vs ds->cp σ s vs (m6 ds)
 |[],[],_=>trivial
 |[],_::_,h=>h.elim
 |_::_,[],h=>h.elim
 |_::_,_::_,h=>⟨OV h.1,pQ h.2⟩
def fY:List C->List D
 |[]=>[]
 |c::r=>.e (.one (.c c))::fY r
theorem nU{σ:List bg}{s:St}:∀{vs:List ai}{cs:List C},(∀(j:Nat)(c:C),cs[j]?=aa c->∃v,vs[j]?=aa v/\Rd s.M v c)->vs.length=cs.length->cp σ s vs (fY cs)
 |[],[],_,_=>trivial
 |[],_::_,_,h=>by grind
 |_::_,[],_,h=>by grind
 |v::vs,c::cs,h,e=>by obtain⟨u,a,b⟩:=h 0 c rfl;simp at a;subst a;exact⟨b,nU (λj c d=>by simpa using h (j+1) c (by grind)) (by grind)⟩
def AX{l r:List α}(h:kh ks l=aa r):∀x∈r,x∈l:=by intro x b;obtain⟨e,a⟩:=je h;obtain⟨j,d,rfl⟩:=dD b;obtain⟨y,c,f⟩:=a j _ (bn (by omega));grind
def aE.sub{a:List Loc}(hh:aE σ s)(o:kh ks σ=aa σs)(d:kh ks s.β=aa a)(t:cC σs=ab)(r:dK ks=ab):
  aE σs {s with β:=a,own:=w9 s a}/\eH s {s with β:=a,own:=w9 s a}:=by
 obtain⟨c1,c2⟩:=je o;obtain⟨d1,d2⟩:=je d;have g:∀L∈a,L∈s.β:=AX d;refine⟨⟨hh.mem,by grind,?_,?_,?_,?_⟩,⟨rfl,λ_ _ _ h=>h,λ_ _ _=>rfl,hh.mem,?_⟩⟩
 .intro j B L hB hL;have hj:j<ks.length:=by grind
  obtain⟨x,q,u⟩:=c2 j _ (bn hj);obtain⟨y,e,n⟩:=d2 j _ (bn hj);rw[hB]at q;cases q;simp only at hL;rw[hL]at e;cases e;exact eG.plain (σ:=σ) (s:=s) (s':={s with β:=a,own:=w9 s a}) rfl rfl (ll t B (bP hB)) (hh.box _ B L u n)
 .intro j i L L' hL fC b c m;simp only at hL fC;have hj:j<ks.length:=by grind
  have p:i<ks.length:=by grind
  obtain⟨y,e,n⟩:=d2 j _ (bn hj);obtain⟨v,f,k⟩:=d2 i _ (bn p);rw[hL]at e;cases e;rw[fC]at f;cases f;have:=hh.eO _ _ L L' n k b c m;exact w6 r j i ks[j] (bn hj) (by grind)
 .intro L hL b c;exact hh.lt _ (g L hL) b c
 .rintro b (c|⟨⟨L,hL,c⟩,l⟩)
  .exact⟨(hh.own b c).1,λL hL=>(hh.own b c).2 L (g L hL)⟩
  .exact⟨hh.lt L hL b c,l⟩
 .rintro b ((c|⟨⟨L,hL,c⟩,_⟩)|⟨L,hL,c⟩)
  .grind
  .grind
  grind
def eH.back{σ1:List bg}{c s2:St}{a:List Loc}(hh:aE σ s)(h1:aE σ1 c)(st:c6 σs {s with β:=a,own:=w9 s a} σ1 c)(g:s2.w=c.w)(f:s2.M=c.M)(k:s2.own=s.own)(d:∀L∈s2.β,L∈c.β∨(L∈s.β/\∀b∈L.bs,∀L'∈a,b∉L'.bs)):eH c s2:=by
 refine⟨g,λb o v h=>by grind,λb _ o=>by rw[f],λb o v h=>by rw[f]at h;exact h1.mem b o v h,?_⟩;rintro b (e|⟨L,j,e⟩)
 .left;rw[st.own];exact .inl (by grind)
 .rcases d L j with h|⟨h,i⟩
  .grind
  .left;rw[st.own];exact .inr ⟨⟨L,h,e⟩,i b e⟩
def uj{X:Cx P}{b:aX}{k:List Item}{a:Act}{rest:List Nat}{f:aH}(hb:b.kind≠.early)(Z:ops[i]?=aa o)(hw:bl o (yielded ops a.tmps)=ab)(Y:aE σ s)(D:∀w,(aq a.eval o).run P w=.ok (.enter f vs.toArray) w)(y:∀w,(aq a.eval o).events P w #[]=#[])(E:ek X f cv σs res σ1)(t:cp σ s vs (fX ks cv))(M:lP ks.length cv=ab)(m:kh ks σ=aa σs)(hp:cC σs=ab)(F:∀j,cC (σ1 j)=ab)(W:dK ks=ab)(J:∀j,ks.length<=(σ1 j).length)(h:∀j v s',du (dY ks (σ1 j) σ) s' v (iE (ks++ln σ.length ((σ1 j).length-ks.length)) (res j))->aE (dY ks (σ1 j) σ) s'->c6 σ s (dY ks (σ1 j) σ) s'->fL X S (G (b.aT (a.put o.dst v) (.inRegion ops rest::k)) cs) s'):
  fL X S (G (b.aT a (.inRegion ops (i::rest)::k)) cs) s:=by
 obtain⟨_,r⟩:=E;refine .next rfl λg I=>?_;have T:=X.iS I;have d:=Y.rely T;obtain⟨e,p⟩:=wZ (l':=g.β) m d.len;obtain⟨u,O⟩:=d.sub m p hp W;have n:cp σ g vs (fX ks cv):=t.mono T.stepW.ext Y.len;have x:cp σs {g with β:=e,own:=w9 g e} vs cv:=(n.sub (s:=g) m p M).mono (σ:=σs) (s:={g with β:=e}) (σ':=σs) (s':={g with β:=e,own:=w9 g e}) ⟨λ_ _ _ h=>h,λl B L hB hL=>⟨B,L,hB,hL,.refl _ _⟩⟩ u.len;refine⟨_,g,_,pM Z hw hb (D g.w),?_,.ghost O (r _ vs x u S _ λj fr v s2 hl mT JZ m0=>?_)⟩
 .refine⟨⟨σ,σ,d,d,.refl _ _⟩,fj.seen ?_⟩;rw[y];exact .nil
 refine qR (cs:=cs) (c:=b.aT a (.inRegion ops (i::rest)::k)) JZ hl λs3 q=>?_;have C:=JZ.rely q;have z:=m0.trans q.stepW;obtain⟨s4,Q,U,V,R,K,N,A⟩:=frame d m p W (F j) C z (J j) (mT.mono q.stepW.ext JZ.len);refine .ghost (eH.back d C z Q K N A) ?_;have H:=kO (b:=b) (a:=a) (k:=k) ops i rest v;rw[Z]at H;simp only[oB]at H;rw[H];exact h j v s4 U V (T.stepW.trans R)
def Kp{X:Cx P}{b:aX}{k:List Item}{a:Act}{rest:List Nat}{σ1:List bg}{f:aH}{res:D}(u:b.kind≠.early)(t:ops[i]?=aa o)(r:bl o (yielded ops a.tmps)=ab)(q:aE σ s)(d:∀w,(aq a.eval o).run P w=.ok (.enter f vs.toArray) w)(e:∀w,(aq a.eval o).events P w #[]=#[])(j:Ev X f cv σs res σ1)(c:cp σ s vs (fX ks cv))(n:lP ks.length cv=ab)(g:kh ks σ=aa σs)(x:cC σs=ab)(l:cC σ1=ab)(p:dK ks=ab)(m:ks.length<=σ1.length)(h:∀v s',du (dY ks σ1 σ) s' v (iE (ks++ln σ.length (σ1.length-ks.length)) res)->aE (dY ks σ1 σ) s'->c6 σ s (dY ks σ1 σ) s'->fL X S (G (b.aT (a.put o.dst v) (.inRegion ops rest::k)) cs) s'):
  fL X S (G (b.aT a (.inRegion ops (i::rest)::k)) cs) s :=
 uj u t r q d e j.sH c n g x (λ_=>l) p (λ_=>m) (λ_=>h)
theorem jV(i:o.op=.call {callee:=.value fo,args:=xs,argTypes:=jU}){f:aH}{fn:Func}(d:P.funcs[f]?=aa fn)(h:(fn.name== "runtime.NumGoroutine")=af)(e:fn.body.isNone=af){a:Act}{cs:List ai}(j:a.eval fo=.func (.func f) #[] cs.toArray)(w:ay):
  (aq a.eval o).run P w=.ok (.enter f (xs.toList.map a.eval++cs).toArray) w/\(aq a.eval o).events P w #[]=#[]:=by
 have g:(xs.map a.eval++cs.toArray)=(xs.toList.map a.eval++cs).toArray:=by grind
 have c:fn.name≠ "runtime.NumGoroutine":=by grind
 have b:fn.body≠ae:=by grind
 constructor
 .simp[aq,i,resolve,j,Deferred.ofValue,invoke,callFunc,d,c,b,g]
 .simp[aq,i,resolve,j,Deferred.ofValue,invoke,callFunc,d,c,b]
def iG.CP{X:Cx P}{Q:Fr->List bg->Prop}(M:∀σ s a,cx N σ s φ a->bl o (yielded all.toArray a.tmps)=ab)(I:o.op=.call {callee:=.value fo,args:=xs,argTypes:=jU}){f:aH}(y:eQ (bS φ fo)=aa (f,cap))(ks:List Nat)(p:ek X f cv σs res σ1)(n:∀s vs,cp σ s vs (xs.toList.map (bS φ)++fY cap)->cp σ s vs (fX ks cv))(D:lP ks.length cv=ab)(C:kh ks σ=aa σs)(O:cC σs=ab)(z:∀j,cC (σ1 j)=ab)(K:dK ks=ab)(B:∀j,ks.length<=(σ1 j).length)(d:Option Nat)(V:o.dst=d)(R:∀t,d=aa t->t<N)(k:∀j,iG X N all rest Q (kQ d (iE (ks++ln σ.length ((σ1 j).length-ks.length)) (res j)) φ) (dY ks (σ1 j) σ)):iG X N all (o::rest) Q φ σ:=by
 subst V;intro s a g hh b kk cs S idx hb jO hQ;cases idx with
 |nil=>exact jO.elim
 |cons i idx =>
 obtain⟨hi,jO⟩:=jO;have r:=dh g fo;unfold eQ at y;split at y
 case h_2=>cases y
 case h_1 f' OG he =>
  cases y;rw[he]at r;have l:=fe r;generalize J:a.eval fo=fv at l;cases l with
  |fn fs nO hl ES f1 f2 h1 h2 r1 r2 =>
   have F:fs=[]:=jF hl;subst F;have m:cp σ s nO (fY cap):=nU (λj c hj=>⟨f2 j,h2 j (by grind),r2 j c hj⟩) ES;have x:cp σ s (xs.toList.map a.eval++nO) (fX ks cv):=by exact n _ _ ((ma (dh g) xs.toList).append m)
   obtain⟨fn,u,h,e⟩:=p.1;refine uj hb hi (M _ _ _ g) hh (λw=>(jV I u h e J w).1) (λw=>(jV I u h e J w).2) p x D C O z K B λj v s' hr jP st=>?_;refine k j s' _ ?_ jP b kk cs S idx hb jO λH A T a3 q U L E=>hQ H A T a3 q U L (st.trans E);cases G:o.dst with
   |none=>exact g.mono st hh.len
   |some t=>exact(g.mono st hh.len).put (R t G) hr
def iG.Re{X:Cx P}{Q:Fr->List bg->Prop}(q:∀σ s a,cx N σ s φ a->bl o (yielded all.toArray a.tmps)=ab)(p:o.op=.call {callee:=.value fo,args:=xs,argTypes:=jU}){f:aH}(n:eQ (bS φ fo)=aa (f,cap))(ks:List Nat)(c:ek X f cv σs res σ1)(i:m6 (xs.toList.map (bS φ)++fY cap)=fX ks cv)(l:lP ks.length cv=ab)(b:kh ks σ=aa σs)(u:cC σs=ab)(e:∀j,cC (σ1 j)=ab)(m:dK ks=ab)(g:∀j,ks.length<=(σ1 j).length)(d:Option Nat)(r:o.dst=d)(v:∀t,d=aa t->t<N)(k:∀j,iG X N all rest Q (kQ d (iE (ks++ln σ.length ((σ1 j).length-ks.length)) (res j)) φ) (dY ks (σ1 j) σ)):iG X N all (o::rest) Q φ σ :=
 iG.CP q p n ks c (λs vs h=>by grind[pQ]) l b u e m g d r v k
theorem iG.call{X:Cx P}{Q:Fr->List bg->Prop}(n:∀σ s a,cx N σ s φ a->bl o (yielded all.toArray a.tmps)=ab)(m:o.op=.call {callee:=.value fo,args:=xs,argTypes:=jU}){f:aH}(l:eQ (bS φ fo)=aa (f,cap))(ks:List Nat){σ1:List bg}{res:D}(e:Ev X f cv σs res σ1)(b:m6 (xs.toList.map (bS φ)++fY cap)=fX ks cv)(i:lP ks.length cv=ab)(c:kh ks σ=aa σs)(q:cC σs=ab)(g:cC σ1=ab)(j:dK ks=ab)(h:ks.length<=σ1.length)(d:Option Nat)(p:o.dst=d)(r:∀t,d=aa t->t<N)(k:iG X N all rest Q (kQ d (iE (ks++ln σ.length (σ1.length-ks.length)) res) φ) (dY ks σ1 σ)):iG X N all (o::rest) Q φ σ :=
 iG.Re n m l ks e.sH b i c q (λ_=>g) j (λ_=>h) d p r (λ_=>k)
def Names.range(all:List aC):Names all (bc all.toArray.size) all:=by
 have key:∀(l:List aC) (n:Nat),(∀j o,l[j]?=aa o->all[n+j]?=aa o)->Names all (List.range' n l.length) l:=by
  intro l;induction l with
  |nil=>intro n _;trivial
  |cons o r b =>
   intro n h;rw[fb,List.range'_succ];refine⟨by simpa using h 0 o rfl,b (n+1) λj a hj=>?_⟩;have:=h (j+1) a (by grind);grind
 grind[List.range_eq_range']
theorem AW.region{X:Cx P}{Q:Post}{id:Nat}(h:iG X N ops.toList ops.toList (λφ σ=>Q .normal φ σ) φ σ):AW X N (.region id ops af) Q φ σ:=by intro s a f hh b k cs S e i;refine .ctl hh rfl (λ_=>qP) λg h1=>?_;have:=h g a (f.rely h1 hh) (hh.rely h1) b k cs S (bc ops.size) e (by simpa using Names.range ops.toList) λφ' σ' s' a' q c d st=>i .normal φ' σ' s' a' q c d (h1.stepW.trans st);simpa using this
def iG.nil{P:aJ}{X:Cx P}{N:Nat}{all:List aC}{Q:Fr->List bg->Prop}{φ:Fr}{σ:List bg}(h:Q φ σ):iG X N all [] Q φ σ:=by
 intro s a f hh b k cs S idx _ c e;cases idx with
 |cons i idx=>exact c.elim
 |nil=>exact .ctl hh rfl (λ_=>jr) λd h1=>e φ σ d a h (f.rely h1 hh) (hh.rely h1) h1.stepW
def iG.mono{X:Cx P}{Q c:Fr->List bg->Prop}(h:iG X N all rest Q φ σ)(g:∀φ σ,Q φ σ->c φ σ):iG X N all rest c φ σ :=
 λs a f hh b k cs S idx hb hi hQ=>h s a f hh b k cs S idx hb hi λφ' σ' s' a' q d e st=>hQ φ' σ' s' a' (g _ _ q) d e st
def iG.le{P:aJ}{X:Cx P}{N:Nat}{all rest:List aC}{Q:Fr->List bg->Prop}{φ φ':Fr}{σ:List bg}(h:iG X N all rest Q φ' σ)(hl:oO φ φ'):iG X N all rest Q φ σ :=
 λs a f hh b k cs S idx hb hi hQ=>h s a (f.le hl) hh b k cs S idx hb hi hQ
def js:Nat->List D->Fr
 |_,[]=>[]
 |i,d::r=>(i,d)::js (i+1) r
def oP:∀(ds:List D)(i t:Nat),look (js i ds) t=if i<=t then(ds[t-i]?).getD .any else .any
 |[],i,t=>by simp[js,look]
 |d::r,i,t=>by
  simp only[js,look];by_cases e:i=t
  .grind [Nat.beq_refl]
  .have:aw i t=af:=by grind[Nat.eq_of_beq_eq_true]
   rw[this];simp only[cond,oP r (i+1) t];grind
theorem cp.get{σ:List bg}{s:St}:∀{vs:List ai}{ds:List D},cp σ s vs ds->vs.length=ds.length/\∀(j:Nat),du σ s ((vs[j]?).getD ah) ((ds[j]?).getD .any)
 |[],[],_=>⟨rfl,λj=>by simp[du]⟩
 |[],_::_,h=>h.elim
 |_::_,[],h=>h.elim
 |v::vs,d::ds,h=>by
  obtain⟨h1,h2⟩:=cp.get h.2;refine⟨by grind,λj=>?_⟩;cases j with
  |zero=>simpa using h.1
  |succ j=>grind
def zc(φ:Fr):List ResultVar->Option (List D)
 |[]=>aa []
 |.tmp t::r=>match zc φ r with
  |some q=>aa (look φ t::q)
  |none=>ae
 |.cell _ _::_=>ae
def ve:List D->Option (List E1)
 |[]=>aa []
 |.e x::r=>match ve r with
  |some q=>aa (x::q)
  |none=>ae
 |_::_=>ae
def ta:List D->Option D
 |[d]=>aa d
 |ds=>match ve ds with
  |some es=>aa (.fD es)
  |none=>ae
def gz(a:Act):ResultVar->Sem ai
 |ResultVar.tmp t=>pure (a.tmps.getD t ah)
 |ResultVar.cell ad t=>do loadVar t (<-asAddr (a.tmps.getD ad ah))
def G9(P:aJ){N:Nat}{σ:List bg}{s:St}{φ:Fr}{a:Act}(f:cx N σ s φ a):∀{rs:List ResultVar}{ds:List D},zc φ rs=aa ds ->
  ∃vs,(∀w,(rs.mapM (gz a)).run P w=Result.ok vs w)/\cp σ s vs ds/\dj P (rs.mapM (gz a))
 |[],ds,h=>by cases h;exact⟨[],by simp,ak,by rw[List.mapM_nil];exact .pure⟩
 |.tmp t::r,ds,h=>by
  simp only[zc]at h;cases b:zc φ r with
  |none=>grind
  |some q =>
   simp[b]at h;subst h;obtain⟨vs,e,c,d⟩:=G9 P f b;refine⟨a.tmps.getD t ah::vs,?_,⟨f.slot t,c⟩,?_⟩
   .intro w;simp only[l6,bT,gz,dE,cu,e]
   .rw[l6];exact .bind .pure λ_=>.bind d λ_=>.pure
 |.cell ad t::r,ds,h=>by simp[zc]at h
def CQ{σ:List bg}{s:St}:∀{vs:List ai}{ds:List D}{es:List E1},ve ds=aa es->cp σ s vs ds->im σ s vs es
 |[],[],es,h,_=>by cases h;trivial
 |[],_::_,_,_,h=>h.elim
 |_::_,[],_,_,h=>h.elim
 |v::vs,.e x::r,es,h,a=>by
  simp only[ve]at h;cases b:ve r with
  |none=>grind
  |some q=>simp[b]at h;subst h;exact⟨a.1,CQ b a.2⟩
 |_::_,.fD _::_,es,h,_=>by simp[ve]at h
 |_::_,.any::_,es,h,_=>by simp[ve]at h
def CR{ds:List D}{d:D}(h:ta ds=aa d)(a:cp σ s vs ds):du σ s (if h:vs.length=1 then vs[0]else .tuple vs.toArray) d:=by
 unfold ta at h;split at h
 .rename_i g;cases h
  match vs,a with
  |[v],a=>simpa using a.1
 .rename_i c;cases b:ve ds with
  |none=>grind
  |some es =>
   simp[b]at h;subst h;have f:vs.length≠1:=by
    intro e;rw[(cp.get a).1]at e
    match ds,e with
    |[x],_=>grind
   rw[dif_neg f];exact⟨vs,rfl,CQ b a⟩
def AY(P:aJ)(fn:Func)(φ:Fr)(d:D):Prop:=∀{N:Nat}{σ:List bg}{s:St}{a:Act},cx N σ s φ a->∃v,du σ s v d/\∀w,(∀b o u,s.M b o=aa u->w.cell? ⟨b,o,ae⟩=aa u)->(results fn a.tmps).run P w=.ok v w/\∀e∈(results fn a.tmps).events P w #[],∃b o u,e=⟨.cell ⟨b,o,ae⟩,af,af⟩/\s.M b o=aa u
def vf{a:Act}(f:cx N σ s φ a){fn:Func}{ds:List D}{d:D}(h:zc φ fn.results.toList=aa ds)(c:ta ds=aa d):
  ∃v,(∀w,(results fn a.tmps).run P w=.ok v w)/\du σ s v d/\dj P (results fn a.tmps):=by
 obtain⟨vs,i,b,g⟩:=G9 P f h;refine⟨_,λw=>?_,CR c b,?_⟩
 .have e:(fn.results.mapM (gz a)).run P w=Result.ok vs.toArray w:=by grind[Array.mapM_eq_mapM_toList,Sem.run_map,Go.Result.andThen_ok]
  unfold results;rw[bT];refine(dH (λr=>Result.andThen r _) (Eq.trans ?_ e)).trans ?_
  .congr 2
  .simp
 .unfold results;have e:dj P (fn.results.mapM (gz a)):=by rw[rR];exact .map g
  exact .bind e λ_=>.pure
theorem AY.of{fn:Func}{ds:List D}{d:D}(h:zc φ fn.results.toList=aa ds)(hj:ta ds=aa d):AY P fn φ d:=by intro N σ s a f;obtain⟨v,h1,h2,b⟩:=vf (P:=P) f h hj;exact⟨v,h2,λw _=>⟨h1 w,λe c=>by rw[b w #[]]at c;grind⟩⟩
section
def aE.l9(h:aE σ s):aE (σ.map λ_=>.dead) s:=by
 refine⟨h.mem,by simp[h.len],λl B L hB hL=>?_,h.eO,h.lt,h.own⟩;simp only[nA]at hB;cases a:σ[l]? with
 |none=>grind
 |some x=>rw[a]at hB;cases hB;trivial
structure Rg(ls:List Nat)(s s':St):Prop where
 β:s'.β=s.β
 M:s'.M=s.M
 own:s'.own=s.own
 size:s.w.heap.size<=s'.w.heap.size
 fA:∀b,(s.own b∨∃(l:Nat) (L:Loc),s.β[l]?=aa L/\l∉ls/\b∈L.bs)->s'.w.heap[b]?=s.w.heap[b]?
 mem:∀b o v,s.M b o=aa v->s'.w.cell? ⟨b,o,ae⟩=aa v
 os:s'.w.os=s.w.os
 tape:s'.w.tape=s.w.tape
 output:s'.w.output=s.w.output
def cw.unR(h:cw s s')(ls:List Nat):Rg ls s s' :=
 ⟨h.β,h.M,h.own,h.size,λb a=>h.fA b (a.imp id λ⟨l,L,h1,_,c⟩=>⟨L,bP h1,c⟩),h.mem,h.os,h.tape,h.output⟩
theorem Rg.cat{ls:List Nat}{a s2:St}(h:Rg [l] s a)(k:Rg ls a s2):Rg (l::ls) s s2:=by refine⟨k.β.trans h.β,k.M.trans h.M,k.own.trans h.own,iN h.size k.size,λb d=>?_,λb o v e=>k.mem b o v (by rw[h.M];exact e),k.os.trans h.os,k.tape.trans h.tape,k.output.trans h.output⟩;rw[k.fA b,h.fA b (d.imp id λ⟨l',L,h1,h2,c⟩=>⟨l',L,h1,λf=>h2 (by grind),c⟩)];rw[h.own,h.β];grind
def Ku{r:Nat}(a:w.heap[r]?=aa (.deferred (aa []))):
  (Instr.takeDeferred r).run P w=.ok [] {w with heap:=w.heap.setIfInBounds r (.deferred ae)}/\(Instr.takeDeferred r).events P w #[]=#[⟨.obj r,af,af⟩,⟨.obj r,ab,af⟩]:=by
 have b:(getObj r).run P w=.ok (.deferred (aa [])) w:=by simp only[getObj,Sem.run,a]
 have c:(setObj r (.deferred ae)).run P w=.ok () {w with heap:=w.heap.setIfInBounds r (.deferred ae)}:=by simp only[setObj,Sem.run,a]
 have d:∀es,(getObj r).events P w es=es.push ⟨.obj r,af,af⟩:=λes=>by simp only[getObj,Sem.events,Sem.runT,a];rfl
 have e:∀es,(setObj r (.deferred ae)).events P w es=es.push ⟨.obj r,ab,af⟩:=λes=>by simp only[setObj,Sem.events,Sem.runT,a];rfl
 constructor
 .simp[Instr.takeDeferred,b,c]
 .simp[Instr.takeDeferred,b,d,e]
variable {X:Cx P}{main:Bool}
def OW{a:aX}{r:Nat}{ds:List Deferred}(c:a.mode=.returning)(e:a.defers={target:=.collected r,args:=#[]}::ds)(d:w.heap[r]?=aa (.deferred (aa []))):
  aG P main (G a cs) w=.go (G {a with defers:=ds} cs) {w with heap:=w.heap.setIfInBounds r (.deferred ae)} (seen P a.fn #[⟨.obj r,af,af⟩,⟨.obj r,ab,af⟩]):=by obtain⟨f,b⟩:=Ku (P:=P) d;simp[G,aG,unwind,c,e,f,b,GStep.after]
def xg(s:St):List Deferred->List Nat->Prop
 |[],[]=>True
 |d::ds,l::ls=>(∃r:Nat,s.β[l]?=aa ⟨.int .i64 r,[r]⟩/\s.w.heap[r]?=aa (.deferred (aa []))/\(∀o,s.M r o=ae)/\d={target:=.collected r,args:=#[]})/\l∉ls/\xg s ds ls
 |_,_=>False
def pA.taken{σ:List bg}{s:St}(hh:aE σ s):∀{ds:List Deferred}{ls:List Nat},pA σ s ds ls->xg s ds ls
 |[],[],_=>trivial
 |[],_::_,r=>r.elim
 |_::_,[],r=>r.elim
 |d::ds,l::ls,⟨⟨h1,L,r,h2,b,h⟩,f,c⟩=>by
  obtain⟨r',k1,a,g⟩:=hh.box l _ L h1 h2;subst k1;simp at b;have e:r'=r:=by omega
  subst e;exact⟨⟨r',h2,a,g,h⟩,f,pA.taken hh c⟩
def xg.mono{s s':St}{b:Nat}(h:Rg [b] s s'):∀{ds:List Deferred}{ls:List Nat},b∉ls->xg s ds ls->xg s' ds ls
 |[],[],_,_=>trivial
 |[],_::_,_,r=>r.elim
 |_::_,[],_,r=>r.elim
 |d::ds,l::ls,a,⟨⟨r,h1,h2,g,f⟩,e,c⟩=>by simp only[eb,not_or]at a;refine⟨⟨r,by rw[h.β];exact h1,by rw[h.fA r (.inr ⟨l,_,h1,by grind,by simp⟩)];exact h2,λo=>by rw[h.M];grind,f⟩,e,xg.mono h a.2 c⟩
def r9:∀(ls:List Nat)(c:aX)(s:St)(σ:List bg),aE σ s->(∀B∈σ,B=.dead)->c.mode=.returning->xg s c.defers ls ->
  (∀s',Rg ls s s'->fL X S (G {c with defers:=[]} cs) s')->fL X S (G c cs) s
 |[],c,s,σ,q,n,C,m,k=>by
  have p:c.defers=[]:=by
   cases p:c.defers with
   |nil=>rfl
   |cons d ds=>rw[p]at m;exact m.elim
  have:=k s ((cw.refl q).unR _);have e:{c with defers:=[]}=c:=by cases c;simp_all
  grind
 |l::ls,c,s,σ,q,n,C,m,k=>by
  cases p:c.defers with
  |nil=>rw[p]at m;exact m.elim
  |cons d ds =>
   rw[p]at m;obtain⟨⟨r,y,I,Q,N⟩,J,H⟩:=m;subst N;refine .next rfl λi z=>?_;have g:=X.iS z;have a:=q.rely g;have E:i.β[l]?=aa ⟨.int .i64 r,[r]⟩:=by rw[g.β];exact y
   have A:i.w.heap[r]?=aa (.deferred (aa [])):=by rw[g.fA r (.inr ⟨_,bP y,by simp⟩)];exact I
   have K:∀o,i.M r o=ae:=λo=>by rw[g.M];grind
   let s2:St:={i with w:={i.w with heap:=i.w.heap.setIfInBounds r (.deferred ae)}}
   have hk:∀b,b≠r->s2.w.heap[b]?=i.w.heap[b]?:=λb f=>by grind
   have j:∀b o v,i.M b o=aa v->s2.w.cell? ⟨b,o,ae⟩=aa v:=by
    intro b o v F;have t:b≠r:=by grind
    rw[<-a.mem b o v F];simp only[aP];grind
   have u:aE σ s2:=by
    refine⟨j,a.len,λl' B L hB hL=>?_,a.eO,λL hL b f=>?_,λb f=>⟨?_,(a.own b f).2⟩⟩
    .rw[n B (bP hB)];trivial
    .have:=a.lt L hL b f;grind
    .have:=(a.own b f).1;grind
   have x:∃L∈i.β,r∈L.bs:=⟨_,bP E,by simp⟩
   have st:Step σ i σ s2:=by refine⟨by grind,λb _ f=>hk b ?_,λ_ _ _ h=>h,λ_ _ _ _=>rfl,λL hL b f=>.inr ⟨L,hL,f⟩,λ_ B L h O=>⟨B,L,h,O,.refl _ _⟩,rfl,rfl,rfl,rfl⟩;grind
   have un:Rg [l] s s2:=by
    refine⟨g.β,g.M,g.own,iN g.size (by grind),λb f=>?_,λb o v F=>j b o v (by rw[g.M];exact F),g.os,g.tape,g.output⟩;have t:b≠r:=by
     rintro rfl;rcases f with f|⟨l',L',D,p2,p3⟩
     .exact(q.own b f).2 _ (bP y) (by simp)
     .exact p2 (by simp;exact q.eO l' l L' _ D y b p3 (by simp))
    rw[hk b t];exact g.fA b (f.imp id λ⟨l',L',D,_,p3⟩=>⟨L',bP D,p3⟩)
   refine⟨_,s2,_,OW C p A,⟨⟨σ,σ,a,u,st⟩,fj.seen (.two ?_ ?_)⟩,?_⟩
   .exact⟨rfl,.inr x⟩
   .exact⟨rfl,.inr x⟩
   refine r9 ls {c with defers:=ds} s2 σ u n C (H.mono un J) λs' hu=>?_;exact k s' (un.cat hu)
end
def cE(n:Nat)(f g:Nat->List C):Prop:=∀i,i<n->f i=g i
def Flat.EX{k:Nat}{es':Nat->List C}(h:Flat M k n es vs)(a:cE n es es'):Flat M k n es' vs :=
 ⟨h.len,λi hi=>by rw[<-a i hi];exact h.width i hi,λi hi j c hj=>h.rd i hi j c (by rw[a i hi];exact hj)⟩
def Zw:C->C->Option (List Prop)
 |.int k n,.int k' n'=>match IP k k' with|true=>aa [n=n']|false=>ae
 |.bool b,.bool b'=>aa [b=b']
 |.str s,.str s'=>aa [s=s']
 |.sl t k n es,.sl t' k' n' es'=>match aw k k' with
  |true=>match t,t' with
   |false,ab=>ae
   |_,_=>aa [n=n',cE n es es']
  |false=>match t,t' with
   |true,_=>aa [n=0,n'=0]
   |_,_=>ae
 |.val x,.val y=>aa [x=y]
 |x,y=>aa [x=y]
def Te{x y:C}(h:Zw x y=aa ps)(c:au ps)(r:Rd M v x):Rd M v y:=by
 unfold Zw at h;split at h
 .rename_i k n k' n';cases hk:IP k k'<;>simp[hk]at h
  subst h;cases Bj hk;cases(show n=n' from c);exact r
 .cases h;rename_i b d;cases(show b=d from c);exact r
 .cases h;rename_i b d;cases(show b=d from c);exact r
 .rename_i t k n es t' k' n' es';cases hk:aw k k' with
  |true =>
   simp only[hk]at h;have e:=bY hk;subst e;cases t<;>cases t'<;>simp at h
   all_goals (subst h;obtain⟨rfl,f⟩:=(show n=n'/\cE n es es' from c);first|exact r.EX f|exact r.loose.EX f)
  |false =>
   simp only[hk]at h;cases t<;>simp at h
   subst h;obtain⟨rfl,rfl⟩:=(show n=0/\n'=0 from c)
   obtain⟨a,cap,vs,rfl,_,_,g,_⟩:=r.flat;grind[Rd.iR]
 .cases h;rename_i x y;cases(show x=y from c);exact r
 .cases h;cases c;exact r
def V7:A->A->Option (List Prop)
 |.c x,.c y=>Zw x y
 |.vec _ k n es,.c (.sl af k' n' es')=>match aw k k' with|true=>aa [n=n',cE n es es']|false=>ae
 |.vec l k n es,.vec l' k' n' es'=>match aw l l' with
  |true=>match aw k k' with|true=>aa [n=n',cE n es es']|false=>ae
  |false=>ae
 |.ptr l o,.ptr l' o'=>match aw l l' with|true=>(match aw o o' with|true=>aa []|false=>ae)|false=>ae
 |.ref l,.ref l'=>match aw l l' with|true=>aa []|false=>ae
 |.bp l w,.bp l' w'=>match aw l l' with|true=>aa [w=w']|false=>ae
 |_,.any=>aa []
 |_,_=>ae
def Ld{x y:A}(h:V7 x y=aa ps)(b:au ps)(r:gH σ s v x):gH σ s v y:=by
 unfold V7 at h;split at h
 .exact Te h b r
 .rename_i k n es k' n' es';cases hk:aw k k'<;>simp[hk]at h
  subst h;have e:=bY hk;subst e;obtain⟨rfl,d⟩:=(show n=n'/\cE n es es' from b)
  exact r.1.EX d
 .rename_i l k n es l' k' n' es';cases a:aw l l'<;>simp[a]at h
  cases hk:aw k k'<;>simp[hk]at h
  subst h;have e:=bY hk;have c:=bY a;subst e c;obtain⟨rfl,d⟩:=(show n=n'/\cE n es es' from b)
  exact⟨r.1.EX d,r.2.1,r.2.2⟩
 .grind [Nat.eq_of_beq_eq_true]
 .grind [Nat.eq_of_beq_eq_true]
 .rename_i l w l' w';cases a:aw l l'<;>simp[a]at h
  have c:=bY a;subst c;subst h;cases(show w=w' from b);exact r
 .exact gH.cell r
 grind
def lp:List Prop->List Prop->List Prop
 |[],q=>q
 |p::r,q=>p::lp r q
@[simp] theorem au.cat{p q:List Prop}:au (lp p q)↔au p/\au q:=by
 induction p with
 |nil=>simp[lp]
 |cons x r a=>simp only[lp,au.cons,a,and_assoc]
def Rz:List A->List A->Option (List Prop)
 |[],[]=>aa []
 |a::al,b::bs=>match V7 a b with
  |some p=>match Rz al bs with
   |some q=>aa (lp p q)
   |none=>ae
  |none=>ae
 |_,_=>ae
def Fy{σ:List bg}{s:St}:∀{vs:List ai}{xs ys:List A}{ps:List Prop},Rz xs ys=aa ps->au ps->er σ s vs xs->er σ s vs ys
 |[],[],[],_,_,_,_=>trivial
 |_::_,[],_,_,_,_,h=>h.elim
 |[],_::_,_,_,_,_,h=>h.elim
 |[],[],_::_,_,h,_,_=>by simp[Rz]at h
 |_::_,_::_,[],_,h,_,_=>by simp[Rz]at h
 |v::vs,a::al,b::bs,ps,h,c,e=>by
  simp only[Rz]at h;cases f:V7 a b with
  |none=>grind
  |some p =>
   cases d:Rz al bs with
   |none=>grind
   |some q =>
    simp[f,d]at h;subst h;rw[au.cat]at c;exact⟨Ld f c.1 e.1,Fy d c.2 e.2⟩
def V8:E1->E1->Option (List Prop)
 |.one a,.one b=>V7 a b
 |.agg al,.agg bs=>Rz al bs
 |_,_=>ae
def Le{x y:E1}(h:V8 x y=aa ps)(a:au ps)(r:ow σ s v x):ow σ s v y:=by
 cases x<;>cases y<;>simp only[V8,reduceCtorEq]at h
 .exact Ld h a r
 .obtain⟨vs,c,b⟩:=r;exact⟨vs,c,Fy h a b⟩
def FB:List E1->List E1->Option (List Prop)
 |[],[]=>aa []
 |a::al,b::bs=>match V8 a b with
  |some p=>match FB al bs with
   |some q=>aa (lp p q)
   |none=>ae
  |none=>ae
 |_,_=>ae
def Hr{σ:List bg}{s:St}:∀{vs:List ai}{xs ys:List E1}{ps:List Prop},FB xs ys=aa ps->au ps->im σ s vs xs->im σ s vs ys
 |[],[],[],_,_,_,_=>trivial
 |_::_,[],_,_,_,_,h=>h.elim
 |[],_::_,_,_,_,_,h=>h.elim
 |[],[],_::_,_,h,_,_=>by simp[FB]at h
 |_::_,_::_,[],_,h,_,_=>by simp[FB]at h
 |v::vs,a::al,b::bs,ps,h,c,e=>by
  simp only[FB]at h;cases f:V8 a b with
  |none=>grind
  |some p =>
   cases d:FB al bs with
   |none=>grind
   |some q =>
    simp[f,d]at h;subst h;rw[au.cat]at c;exact⟨Le f c.1 e.1,Hr d c.2 e.2⟩
def ET:D->D->Option (List Prop)
 |.e x,.e y=>V8 x y
 |.fD xs,.fD ys=>FB xs ys
 |_,.any=>aa []
 |_,_=>ae
theorem oQ{x y:D}(h:ET x y=aa ps)(a:au ps)(r:du σ s v x):du σ s v y:=by
 cases x<;>cases y<;>simp only[ET,reduceCtorEq]at h
 .exact Le h a r
 .trivial
 .obtain⟨vs,c,b⟩:=r;exact⟨vs,c,Hr h a b⟩
 .trivial
 .trivial
def n6(φ:Fr):Fr->Option (List Prop)
 |[]=>aa []
 |(i,d)::r=>match ET (look φ i) d with
  |some p=>match n6 φ r with
   |some q=>aa (lp p q)
   |none=>ae
  |none=>ae
def db{φ:Fr}:∀{φ':Fr}{ps:List Prop},n6 φ φ'=aa ps->au ps->oO φ φ'
 |[],_,_,_=>λ_ _ _ _ _=>trivial
 |(i,d)::r,ps,h,b=>by
  simp only[n6]at h;cases e:ET (look φ i) d with
  |none=>grind
  |some p =>
   cases a:n6 φ r with
   |none=>grind
   |some q =>
    simp[e,a]at h;subst h;rw[au.cat]at b;intro σ s v t c;simp only[look];cases f:aw i t with
    |true =>
     grind[Nat.eq_of_beq_eq_true,oQ]
    |false=>exact db a b.2 σ s v t c
def kS(σ:List bg):Bool:=match cC σ with|true=>lX σ|false=>af
def zC(h:kS σ=ab):cC σ=ab/\lX σ=ab:=by unfold kS at h;grind
def pA.Da{σ:List bg}{s:St}:∀{ds:List Deferred}{ls:List Nat},pA σ s ds ls->∀l∈ls,σ[l]?=aa .rX
 |[],[],_,l,hl=>by grind
 |[],_::_,r,_,_=>r.elim
 |_::_,[],r,_,_=>r.elim
 |d::ds,b::ls,⟨⟨h1,_⟩,_,a⟩,l,hl=>by
  rcases eb.1 hl with rfl|hl
  .exact h1
  .exact pA.Da a l hl
def cz(fn:Func)(a:Nat)(res:D)(σ':List bg):Post:=λe φ σ1 =>
 (e=.ret∨e=.normal)/\∃ks ds d ps,zc φ fn.results.toList=aa ds/\ta ds=aa d/\ET d (iE ks res)=aa ps/\au ps/\w7 ks.length res=ab /\
  kh ks σ1=aa σ'/\kS σ'=ab/\dK ks=ab/\(∀j,j<a->ks[j]?=aa j)
def rZ(P:aJ)(fn:Func)(a:Nat)(res:D)(σ':List bg):Post:=λe φ σ1 =>
 (e=.ret∨e=.normal)/\∃ks d ps,AY P fn φ d/\ET d (iE ks res)=aa ps/\au ps/\w7 ks.length res=ab /\
  kh ks σ1=aa σ'/\kS σ'=ab/\dK ks=ab/\(∀j,j<a->ks[j]?=aa j)
def cz.toJ{fn:Func}{a:Nat}{res:D}{e:Exit}{σ1:List bg}(h:cz fn a res σ' e φ σ1):rZ P fn a res σ' e φ σ1:=by obtain⟨c,ks,ds,d,ps,h1,h2,b⟩:=h;exact⟨c,ks,d,ps,AY.of h1 h2,b⟩
def ek.Fu{X:Cx P}{f:aH}{fn:Func}{args:List D}{σ':ι->List bg}(W:P.funcs[f]?=aa fn)(A:(fn.name== "runtime.NumGoroutine")=af)(m:fn.body=aa c)(hlen:args.length<=fn.ntmps)(h:∀s a,cx fn.ntmps σ s (js 0 args) a->aE σ s->∀(b:aX) (k:List Item) (cs:List aX) (S:ar->St->Prop),b.kind≠.early->b.roundOf=ae ->
  (∀e φ' σ1 s' a',(∃j,rZ P fn σ.length (res j) (σ' j) e φ' σ1)->cx fn.ntmps σ1 s' φ' a'->aE σ1 s'->c6 σ s σ1 s'->ends X S b k cs e a' s')->fL X S (G (b.aT a (.code c::k)) cs) s):ek X f args σ res σ':=by
 refine⟨⟨fn,W,A,by grind⟩,λs vs hr hh S cs hS=>?_⟩;obtain⟨hl,hg⟩:=cp.get hr;let b:aX:={fn:=f,tmps:=#[],todo:=[],defers:=[],mode:=.run,kind:=.normal,roundOf:=ae}
 have z:Frame.enter P f vs.toArray .normal=b.aT {tmps:=vs.toArray++Array.replicate (fn.ntmps-vs.toArray.size) ah,defers:=[]} [.code c]:=by simp[Frame.enter,Frame.aT,W,m,b]
 rw[z];refine h s {tmps:=vs.toArray++Array.replicate (fn.ntmps-vs.toArray.size) ah,defers:=[]} ⟨by grind,⟨[],ak⟩,λt=>?_⟩ hh b [] cs S (by simp[b]) rfl ?_
 .rw[oP];simp only[jc,b6,l7];have:=hg t;rcases cN t vs.length with ug|U2
  .have e:(vs.toArray++Array.replicate (fn.ntmps-vs.toArray.size) ah).getD t ah=(vs[t]?).getD ah:=by simp only[ef];grind
   grind
  .rw[rV (by omega)];trivial
 .rintro e φ' σ1 s1 a1 ⟨Q,V,ks,d,ps,h1,h3,h4,h5,N,T,h8,h9⟩ f' O st;obtain⟨h7,R⟩:=zC T;have fin:∀(fr:aX) s2,cw s1 s2->fr.fn=f->fr.tmps=a1.tmps->fr.defers=a1.defers->fr.mode=.returning->fr.kind=.normal->fL X S (G fr cs) s2:=by
   intro fr s2 ua e1 e2 e3 e4 e5;have f2:=f'.rely ua O;have p:=O.rely ua;have g:=st.trans ua.stepW;obtain⟨v,r2,Y⟩:=h1 f2;obtain⟨i,r⟩:=wZ (l':=s2.β) N p.len;have r4:=(oQ h3 h4 r2).sub N r h5;obtain⟨c1,c2⟩:=je N;obtain⟨d1,d2⟩:=je r;have C:∀L∈i,L∈s2.β:=AX r;have J:aE (σ' Q) {s2 with β:=i}:=by obtain⟨H,_⟩:=p.sub N r h7 h8;refine⟨H.mem,H.len,λj B L hB hL=>?_,H.eO,H.lt,λb m=>⟨(p.own b m).1,λL hL=>(p.own b m).2 L (C L hL)⟩⟩;exact eG.plain (σ:=σ' Q) (s:={s2 with β:=i,own:=w9 s2 i}) (s':={s2 with β:=i}) rfl rfl (ll h7 B (bP hB)) (H.box j B L hB hL)
   have U:c6 σ s (σ' Q) {s2 with β:=i}:=by refine⟨g.size,g.fA,g.mem,g.jo,λL hL b m=>g.wu _ (C L hL) b m,λl B L hB hL=>?_,g.os,g.tape,g.output,g.own⟩;have hl:l<σ.length:=(bX.1 hB).1;obtain⟨B',L',p1,p2,p3⟩:=g.box l B L hB hL;grind
   obtain⟨ls,E⟩:=f2.defers;refine r9 ls fr s2 _ p.l9 (by simp) e4 (by rw[e3];exact E.taken p) λF n=>?_;have q:cw {s2 with β:=i} {F with β:=i}:=by
    refine⟨rfl,n.M,n.own,n.size,λb m=>n.fA b (m.imp id ?_),n.mem,n.os,n.tape,n.output⟩;rintro⟨L,hL,m⟩;obtain⟨j,hj,rfl⟩:=dD hL;have I:j<ks.length:=by grind
    obtain⟨y,y1,y2⟩:=d2 j _ (bn I);obtain⟨x,x1,Z⟩:=c2 j _ (bn I);rw[bn hj]at y1;cases y1;refine⟨_,_,y2,λhc=>?_,m⟩;rw[E.Da _ hc]at Z;cases Z;exact nW R _ (bP x1) rfl
   have hG:eH F {F with β:=i}:=⟨rfl,λ_ _ _ h=>h,λ_ _ _=>rfl,λb o v hv=>n.mem b o v (by rw[<-n.M];exact hv),λb m=>m.imp id λ⟨L,hL,m⟩=>⟨L,by rw[n.β];grind,m⟩⟩
   refine .ghost hG (hS Q _ v _ ⟨e1,e4,rfl,e5,fn,by grind,λw hw=>?_⟩ (r4.mono q.stepW.ext J.len) (J.rely q) (U.trans q.stepW));show(results fn fr.tmps).run P w=_/\∀e∈(results fn fr.tmps).events P w #[],_;rw[e2];have K:∀b o u,s2.M b o=aa u->w.cell? ⟨b,o,ae⟩=aa u:=λb o u h=>hw b o u (by show F.M b o=aa u;rw[n.M];exact h);refine⟨(Y w K).1,λe V=>?_⟩;obtain⟨b,o,u,q1,q2⟩:=(Y w K).2 e V;exact⟨b,o,u,q1,by show F.M b o=aa u;rw[n.M];exact q2⟩
  rcases V with rfl|rfl
  .intro pre;exact .ctl O rfl (λ_=>E3 rfl) λs2 ua=>fin _ s2 ua rfl rfl (iw _) rfl rfl
  .exact .ctl O rfl (λ_=>E4 rfl) λs2 ua=>fin _ s2 ua rfl rfl (iw _) rfl rfl
def ek.Ry{X:Cx P}{f:aH}{fn:Func}{args:List D}{σ':ι->List bg}(i:P.funcs[f]?=aa fn)(g:(fn.name== "runtime.NumGoroutine")=af)(l:fn.body=aa c)(d:args.length<=fn.ntmps)(h:∀s a,cx fn.ntmps σ s (js 0 args) a->aE σ s->∀(b:aX) (k:List Item) (cs:List aX) (S:ar->St->Prop),b.kind≠.early->b.roundOf=ae ->
  (∀e φ' σ1 s' a',(∃j,cz fn σ.length (res j) (σ' j) e φ' σ1)->cx fn.ntmps σ1 s' φ' a'->aE σ1 s'->c6 σ s σ1 s'->ends X S b k cs e a' s')->fL X S (G (b.aT a (.code c::k)) cs) s):ek X f args σ res σ' :=
 ek.Fu i g l d λs a f hh b k cs S h1 h2 hQ=>h s a f hh b k cs S h1 h2 λe φ' σ1 s' a' ⟨j,q⟩=>hQ e φ' σ1 s' a' ⟨j,q.toJ⟩
def ek.Kr{X:Cx P}{f:aH}{fn:Func}{args:List D}{σ':ι->List bg}(i:P.funcs[f]?=aa fn)(d:(fn.name== "runtime.NumGoroutine")=af)(l:fn.body=aa c)(g:args.length<=fn.ntmps)(h:AW X fn.ntmps c (λe φ σ1=>∃j,rZ P fn σ.length (res j) (σ' j) e φ σ1) (js 0 args) σ):ek X f args σ res σ' :=
 ek.Fu i d l g λs a f hh b k cs S hk _ m=>h s a f hh b k cs S hk m
def ek.intro{X:Cx P}{f:aH}{fn:Func}{args:List D}{σ':ι->List bg}(i:P.funcs[f]?=aa fn)(d:(fn.name== "runtime.NumGoroutine")=af)(l:fn.body=aa c)(g:args.length<=fn.ntmps)(h:AW X fn.ntmps c (λe φ σ1=>∃j,cz fn σ.length (res j) (σ' j) e φ σ1) (js 0 args) σ):ek X f args σ res σ' :=
 ek.Ry i d l g λs a f hh b k cs S hk _ m=>h s a f hh b k cs S hk m
def Ev.intro{P:aJ}{X:Cx P}{f:aH}{fn:Func}{c:Code}{args:List D}{σ σ':List bg}{res:D}(d:P.funcs[f]?=aa fn)(b:(fn.name== "runtime.NumGoroutine")=af)(e:fn.body=aa c)(a:args.length<=fn.ntmps)(h:AW X fn.ntmps c (cz fn σ.length res σ') (js 0 args) σ):Ev X f args σ res σ' :=
 (ek.intro d b e a (AW.mono h λ_ _ _ q=>⟨(),q⟩)).E9
inductive It where
 |code (c:Code)
 |blk (id:Nat)
 |ops (all rest:List aC)
def AK{P:aJ}(X:Cx P)(N:Nat)(Qf:Post):List It->Post
 |[],e,φ,σ=>Qf e φ σ
 |.code c::K,.normal,φ,σ=>AW X N c (AK X N Qf K) φ σ
 |.code _::K,e,φ,σ=>AK X N Qf K e φ σ
 |.blk id::K,.exit J7,φ,σ=>if J7=id then AK X N Qf K .normal φ σ else AK X N Qf K (.exit J7) φ σ
 |.blk _::K,e,φ,σ=>AK X N Qf K e φ σ
 |.ops all rest::K,.normal,φ,σ=>iG X N all rest (AK X N Qf K .normal) φ σ
 |.ops _ _::K,e,φ,σ=>AK X N Qf K e φ σ
section
variable {X:Cx P}{Qf:Post}{K:List It}
def AK.of_code(h:AK X N Qf [.code c] .normal φ σ):AW X N c Qf φ σ:=h
theorem AK.skip(h:AK X N Qf K .normal φ σ):AK X N Qf (.code .skip::K) .normal φ σ:=AW.skip h
theorem AK.seq{x y:Code}(h:AK X N Qf (.code x::.code y::K) .normal φ σ):AK X N Qf (.code (.seq x y)::K) .normal φ σ:=by refine AW.seq (AW.mono h ?_);intro e φ' σ' q;cases e<;>exact q
theorem AK.block{id:Nat}{c:Code}(h:AK X N Qf (.code c::.blk id::K) .normal φ σ):AK X N Qf (.code (.block id c)::K) .normal φ σ:=by refine AW.block (AW.mono h ?_);intro e φ' σ' q;cases e<;>exact q
theorem AK.Ts{id:Nat}(h:AK X N Qf K .normal φ σ):AK X N Qf (.blk id::K) .normal φ σ:=h
theorem AK.region{id:Nat}{ops:Array aC}(h:AK X N Qf (.ops ops.toList ops.toList::K) .normal φ σ):AK X N Qf (.code (.region id ops af)::K) .normal φ σ:=AW.region h
theorem AK.Lx(h:AK X N Qf K .normal φ σ):AK X N Qf (.ops all []::K) .normal φ σ:=iG.nil h
def AK.tw:∀{K:List It},Qf .ret φ σ->AK X N Qf K .ret φ σ
 |[],h=>h
 |.code _::K,h=>AK.tw (K:=K) h
 |.blk _::K,h=>AK.tw (K:=K) h
 |.ops _ _::K,h=>AK.tw (K:=K) h
def AK.ret(h:Qf .ret φ σ):AK X N Qf (.code .ret::K) .normal φ σ:=AW.ret (AK.tw h)
def ko(id:Nat):List It->Option (List It)
 |[]=>ae
 |.blk i::K=>match aw id i with|true=>aa K|false=>ko id K
 |_::K=>ko id K
def AK.xI{id:Nat}:∀{K a:List It},ko id K=aa a->AK X N Qf a .normal φ σ->AK X N Qf K (.exit id) φ σ
 |[],_,h,_=>by cases h
 |.blk i::K,a,h,q=>by
  simp only[ko]at h;cases b:aw id i with
  |true =>
   simp[b]at h;subst h;have e:=bY b;simp only[AK,e,b6];exact q
  |false =>
   simp[b]at h;have c:id≠i:=λe=>by grind[Nat.beq_refl]
   simp only[AK,c,cg];exact AK.xI h q
 |.code _::K,a,h,q=>AK.xI (K:=K) h q
 |.ops _ _::K,a,h,q=>AK.xI (K:=K) h q
theorem AK.exit{id:Nat}{a:List It}(hk:ko id K=aa a)(h:AK X N Qf a .normal φ σ):AK X N Qf (.code (.exit id)::K) .normal φ σ:=AW.exit (AK.xI hk h)
theorem AK.cond{c:aB}{x y:Code}{b:Bool}{t:Nat}(a:c=.tmp t)(hl:look φ t=.e (.one (.c (.bool b))))(f:b=ab->AK X N Qf (.code x::K) .normal φ σ)(d:b=af->AK X N Qf (.code y::K) .normal φ σ):AK X N Qf (.code (.cond c x y)::K) .normal φ σ:=AW.cond a hl f d
def AK.loop{S:Type}{c:Code}(I:S->Prop)(fr:S->Fr)(st:S->List bg)(a:S->Nat)(x:S)(g:I x)(b:oO φ (fr x))(d:st x=σ)(round:∀x,I x->AK X N (λe φ' σ'=>match e with
   |.normal=>∃y,I y/\a y<a x/\oO φ' (fr y)/\σ'=st y
   |e=>AK X N Qf K e φ' σ') [.code c] .normal (fr x) (st x)):AK X N Qf (.code (.loop c)::K) .normal φ σ:=by refine AW.loop I fr st a x g b d λy f=>AW.mono (round y f) ?_;intro e φ' σ' q;cases e<;>exact q
end
def dG{α a:Type}:List α->(List α->Option a)->Option a
 |[],k=>k []
 |x::r,k=>dG r λq=>k (x::q)
theorem di{a:Type}(l:List α)(k:List α->Option a):dG l k=k l:=by
 induction l generalizing k with
 |nil=>rfl
 |cons x r b=>simp[dG,b]
def A9(φ:Fr)(all:List aC)(j:Nat):Option (Option Bool) :=
 match dF j all with
 |some oj=>match oj.dst with
  |some d=>match look φ d with
   |.e (.one (.c (.bool ab)))=>aa (aa ab)
   |.e (.one (.c (.bool af)))=>aa (aa af)
   |.fD []=>aa ae
   |_=>ae
  |none=>ae
 |none=>ae
def qX{r:Option Bool}(h:A9 φ all j=aa r){a:Act}(f:cx N σ s φ a):yielded all.toArray a.tmps j=r:=by
 unfold A9 at h;rw[fE]at h;unfold yielded;cases k:all[j]? with
 |none=>grind
 |some oj =>
  simp only[k]at h;simp only[iL,k,oB];cases m:oj.dst with
  |none=>grind
  |some d =>
   simp only[m]at h;simp only[oB];have c:=f.slot d;have key:∀v,a.tmps.getD d ah=v->v≠ah->a.tmps[d]?=aa v:=by intro v e n;simp only[ef]at e;grind
   split at h
   .rename_i g;cases h;rw[g]at c;have b:=fe c;generalize e:a.tmps.getD d ah=v at b;cases b;rw[key _ e (by simp[ah])]
   .rename_i g;cases h;rw[g]at c;have b:=fe c;generalize e:a.tmps.getD d ah=v at b;cases b;rw[key _ e (by simp[ah])]
   .rename_i g;cases h;rw[g]at c;obtain⟨vs,o,l⟩:=c;have i:vs=[]:=by cases vs with
     |nil=>rfl
     |cons _ _=>exact l.elim
    subst i;simp only[ef]at o;grind
   grind
def X7(T:List (Nat×TI))(φ:Fr)(σ:List bg)(o:aC):Option (D×List bg×List Prop) :=
 match o.op with
 |.move x|.assign x=>aa (bS φ x,σ,[])
 |.pick c a b=>match bS φ c with
  |.e (.one (.c (.bool ab)))=>aa (bS φ a,σ,[])
  |.e (.one (.c (.bool af)))=>aa (bS φ b,σ,[])
  |_=>ae
 |.binOp op _ x y _=>match bS φ x,bS φ y with
  |.e (.one (.c a)),.e (.one (.c b))=>match O0 op a b with
   |some (c,obs)=>aa (.e (.one (.c c)),σ,obs)
   |none=>ae
  |_,_=>ae
 |.unOp op _ x=>match bS φ x with
  |.e (.one (.c a))=>match X6 op a with
   |some c=>aa (.e (.one (.c c)),σ,[])
   |none=>ae
  |_=>ae
 |.extract x j=>match bS φ x with
  |.fD xs=>match dF j xs with
   |some e=>aa (.e e,σ,[])
   |none=>ae
  |_=>ae
 |.alloc E=>match bJ T E with
  |some i=>dG (σ++[.cells E (i.zero.map A.c)]) λσ'=>aa (.e (.one (.ptr σ.length 0)),σ',[])
  |none=>ae
 |.box E x=>match kR (bS φ x)with
  |some cs=>dG (σ++[.cells E cs]) λσ'=>aa (.e (.one (.ptr σ.length 0)),σ',[])
  |none=>ae
 |.load t x=>match bJ T t with
  |some i=>match bS φ x with
   |.e (.one (.ptr l off))=>match dF l σ with
    |some (.cells _ cs)=>match lq i (fZ off cs)with
     |some e=>aa (.e e,σ,[])
     |none=>ae
    |_=>ae
   |.e (.one (.c (.rp cs)))=>match lq i (cs.map A.c)with
    |some e=>aa (.e e,σ,[])
    |none=>ae
   |_=>ae
  |none=>ae
 |.store t x y=>match bJ T t with
  |some i=>match bS φ x with
   |.e (.one (.ptr l off))=>match dF l σ with
    |some (.cells E cs)=>match kR (bS φ y)with
     |some new=>match aw new.length i.size with
      |true=>match fI off new cs with
       |some nO=>dG (dY.rA l (.cells E nO) σ) λσ'=>aa (.any,σ',[])
       |none=>ae
      |false=>ae
     |none=>ae
    |_=>ae
   |_=>ae
  |none=>ae
 |.fieldAddr t x f=>match ki T t f with
  |some (k,_)=>match bS φ x with
   |.e (.one (.ptr l off))=>aa (.e (.one (.ptr l (off+k))),σ,[])
   |.e (.one (.c (.rp cs)))=>aa (.e (.one (.c (.rp (fZ k cs)))),σ,[])
   |_=>ae
  |none=>ae
 |.field t x f=>match ki T t f with
  |some (k,j)=>match bS φ x with
   |.e (.agg cs)=>match lq j (fZ k cs)with
    |some e=>aa (.e e,σ,[])
    |none=>ae
   |_=>ae
  |none=>ae
 |.nilCheck x=>match bS φ x with
  |.e (.one (.ptr l off))=>aa (.e (.one (.ptr l off)),σ,[])
  |.e (.one (.c (.rp cs)))=>aa (.e (.one (.c (.rp cs))),σ,[])
  |_=>ae
 |.build t parts=>match A7 T (bS φ) t parts.toList with
  |some cs=>aa (.e (.agg cs),σ,[])
  |none=>ae
 |.buildSlice t n parts=>match O1 T (bS φ) t n parts.toList with
  |some (k,es)=>aa (.e (.one (.c (.sl ab k n λi=>es.getD i []))),σ,[])
  |none=>ae
 |_=>ae
theorem Fj{T:List (Nat×TI)}(hT:cV P T){x:D}(h:X7 T φ σ o=aa (x,σ',obs))(m:au obs):bL P o (bS φ) σ x σ':=by
 unfold X7 at h;split at h
 .grind [bL.move]
 .grind [bL.assign]
 .rename_i c a b d;split at h
  .rename_i e;cases h;exact bL.pick d e
  .rename_i e;cases h;exact bL.pick d e
  grind
 .grind [bL.binOp]
 .grind [bL.unOp]
 .grind [bL.extract,b7]
 .grind [di,bL.alloc]
 .grind [di,bL.box]
 .rename_i t y d;split at h
  .grind [bL.Hg,b7,bL.KP]
  grind
 .rename_i t y z d;split at h
  .rename_i i hi;split at h
   .rename_i l off hx;split at h
    .grind [di,jA,bL.store,b7,Nat.eq_of_beq_eq_true]
    grind
   grind
  grind
 .rename_i t y f d;split at h
  .rename_i k j g;split at h
   .rename_i l off hx;cases h;exact bL.tn hT d hx g
   .grind [bL.vh]
   grind
  grind
 .grind [bL.field]
 .grind [bL.vj,bL.xy]
 .grind [bL.build]
 .grind [bL.buildSlice]
 grind
def gm(N:Nat):Option Nat->Bool
 |some d=>bD (d+1) N
 |none=>ab
def gU{d:Option Nat}(h:gm N d=ab):∀t,d=aa t->t<N:=by intro t a;subst a;exact dr h
theorem dM(h:o.guard=ae){a:Act}:bl o (yielded all.toArray a.tmps)=ab:=by simp[bl,h]
section
variable {T:List (Nat×TI)}
def sd(η:aB->D):Option aB->Option (Option Int)
 |none=>aa ae
 |some x=>match η x with
  |.e (.one (.c (.int _ j)))=>aa (aa j)
  |_=>ae
def gJ{a:aB->ai}(c:∀y,du σ s (a y) (η y)){x:Option aB}{b:Option Int}(h:sd η x=aa b):(x.map a=ae/\b=ae)∨∃k j,x.map a=aa (.int k j)/\b=aa j:=by
 cases x with
 |none=>cases h;grind
 |some y =>
  right;simp only[sd]at h;split at h
  .rename_i k j d;cases h;have:=c y;rw[d]at this;have:=fe this;generalize e:a y=v at this;cases this;grind
  grind
def dm(d:Nat):Option Int->Nat
 |none=>d
 |some j=>j.toNat
def gb(n:Nat):Option Int->Option Int->List Prop
 |none,ae=>[]
 |some l,ae=>[0<=l,l<=n]
 |none,aa h=>[0<=h,h<=n]
 |some l,aa h=>[0<=l,l<=h,h<=n]
def mv{isS:Bool}{cap:Nat}(m:n<=cap){lo hi:Option ai}{l h:Option Int}(i:(lo=ae/\l=ae)∨∃k j,lo=aa (.int k j)/\l=aa j)(g:(hi=ae/\h=ae)∨∃k j,hi=aa (.int k j)/\h=aa j)(c:au (gb n l h))(w:ay):(bk isS n cap lo hi ae).run P w=.ok (dm 0 l,dm n h,cap) w/\dm 0 l<=dm n h/\dm n h<=n:=by
 rcases i with⟨rfl,rfl⟩|⟨d,l,rfl,rfl⟩<;>rcases g with⟨rfl,rfl⟩|⟨f,h,rfl,rfl⟩
 .exact⟨by simp[bk,dm],by simp[dm],by simp[dm]⟩
 .obtain⟨a,b⟩:0<=h/\h<=(n:Int):=c;refine⟨?_,by simp[dm],by simp only[dm];omega⟩;simp[bk,dm,run_sliceBound (P:=P) w f h cap _ a (by omega)]
 .obtain⟨a,b⟩:0<=l/\l<=(n:Int):=c;refine⟨?_,by simp only[dm];omega,by simp[dm]⟩;simp[bk,dm,run_sliceBound (P:=P) w d l n _ a b]
 .obtain⟨a,b,o⟩:0<=l/\l<=h/\h<=(n:Int):=c;have e:((h.toNat:Nat):Int)=h:=sM (by omega);refine⟨?_,by simp only[dm];omega,by simp only[dm];omega⟩;simp[bk,dm,run_sliceBound (P:=P) w f h cap _ (by omega) (by omega),run_sliceBound (P:=P) w d l h.toNat _ a (by omega)]
def dW(w:ay)(k:IntKind)(i:Int)(y:Nat)(code:BoundsCode)(b:0<=i)(a:i<=(y:Int))(es:Array Event):(Instr.sliceBound (.int k i) y code).events P w es=es:=by simp[Instr.sliceBound,asIntOf,b,a]
def nR{isS:Bool}{cap:Nat}{lo hi:Option ai}{l h:Option Int}(o:n<=cap)(m:(lo=ae/\l=ae)∨∃k j,lo=aa (.int k j)/\l=aa j)(i:(hi=ae/\h=ae)∨∃k j,hi=aa (.int k j)/\h=aa j)(c:au (gb n l h))(w:ay)(es:Array Event):(bk isS n cap lo hi ae).events P w es=es:=by
 have q:∀(isS:Bool) (v:Option ai) (d:Nat) (w:ay) (es:Array Event),v=ae->(bk isS n cap ae ae ae).events P w es=es:=λisS v d w es _=>by simp[bk]
 rcases m with⟨rfl,rfl⟩|⟨g,l,rfl,rfl⟩<;>rcases i with⟨rfl,rfl⟩|⟨f,h,rfl,rfl⟩
 .simp[bk]
 .obtain⟨a,b⟩:0<=h/\h<=(n:Int):=c;simp[bk,dW (P:=P) w f h cap _ a (by omega)]
 .obtain⟨a,b⟩:0<=l/\l<=(n:Int):=c;simp[bk,dW (P:=P) w g l n _ a b]
 .obtain⟨a,b,p⟩:0<=l/\l<=h/\h<=(n:Int):=c;have e:((h.toNat:Nat):Int)=h:=sM (by omega);simp[bk,run_sliceBound (P:=P) w f h cap _ (by omega) (by omega),dW (P:=P) w f h cap _ (by omega) (by omega),dW (P:=P) w g l h.toNat _ a (by omega)]
def tk(s:List UInt8):Option Int->Option Int->List UInt8
 |none,ae=>s
 |some l,ae=>s.drop l.toNat
 |none,aa h=>s.take h.toNat
 |some l,aa h=>(s.take h.toNat).drop l.toNat
theorem bL.KM(hT:cV P T){lo hi:Option aB}(h:o.op=.slice t x lo hi ae){i:TI}(k:bJ T t=aa i)(v:i.desc=.string){s:List UInt8}{l u:Option Int}(r:η x=.e (.one (.c (.str s))))(hl:sd η lo=aa l)(m:sd η hi=aa u)(z:au (gb s.length l u)):bL P o η σ (.e (.one (.c (.str (tk s l u))))) σ:=by
 refine .quiet λst ρ hh hr=>?_;have h1:=hr x;rw[r]at h1;replace h1:=fe h1;generalize f:ρ x=vx at h1;cases h1 with
 |@str sb _ p q =>
 have g:sb.size=s.length:=by rw[<-p];exact jK.symm
 obtain⟨y,b,d⟩:=mv (P:=P) (isS:=af) (n:=sb.size) (cap:=sb.size) (bh _) (gJ hr hl) (gJ hr m) (by grind) st.w;have a:=(hT t i k).run_underlying (w:=st.w);rw[v]at a;have j:=nR (P:=P) (isS:=af) (n:=sb.size) (cap:=sb.size) (bh _) (gJ hr hl) (gJ hr m) (by grind) st.w;refine⟨.string (sb.extract (dm 0 l) (dm sb.size u)),?_,Rd.str ?_ ?_,by simp[aq,h,f,Instr.sliceAt,a,Instr.slice,j]⟩
 .simp[aq,h,f,Instr.sliceAt,a,Instr.slice,y]
 .rw[Lib.extract_data,p,g];rw[g]at b d;cases l<;>cases u<;>simp only[tk,dm]at b d⊢
  .simp
  .simp
  .grind [List.take_of_length_le]
  .rw[List.drop_take]
 .cases l<;>cases u<;>simp only[tk,sQ,List.length_take]<;>omega
def my(l:Nat)(f:Nat->List C):Nat->List C:=λi=>f (l+i)
def SI(tt:Bool):Option Int->Bool
 |none=>tt
 |some _=>af
theorem bL.Pa(hT:cV P T){lo hi:Option aB}(h:o.op=.slice t x lo hi ae){i ie:TI}(p:bJ T t=aa i)(D:i.desc=.slice E)(H:bJ T E=aa ie){tt:Bool}{l u:Option Int}(A:∀s v,du σ s v (η x)->Rd s.M v (.sl tt ie.size n es))(hl:sd η lo=aa l)(q:sd η hi=aa u)(r:au (gb n l u)):
  bL P o η σ (.e (.one (.c (.sl (SI tt u) ie.size (dm n u-dm 0 l) (my (dm 0 l) es))))) σ:=by
 refine .quiet λst ρ hh hr=>?_;have h1:=A st _ (hr x);obtain⟨a,cap,vs,m,g,G,F,J,I⟩:=h1.flat;rw[m]at h1;obtain⟨y,B,C⟩:=mv (P:=P) (isS:=ab) g (gJ hr hl) (gJ hr q) r st.w;have d:=(hT t i p).run_underlying (w:=st.w);rw[D]at d;refine⟨.slice (if cap=dm 0 l then a else a.map (·.add (dm 0 l*ie.size))) (dm n u-dm 0 l) (cap-dm 0 l),?_,?_,by simp[aq,h,m,Instr.sliceAt,d,Instr.slice,y,nR (P:=P) (isS:=ab) g (gJ hr hl) (gJ hr q) r st.w]⟩
 .simp[aq,h,m,Instr.sliceAt,d,Instr.slice,y,(hT E ie H).run_sizeOf]
 .cases h1 with
  |sl b off f _ _ _ hk ha hm' Oo =>
   refine Rd.sl b (off+dm 0 l*ie.size) (λi j=>f (dm 0 l+i) j) (by omega) (by omega) ?_ (λi hi=>hk _ (by omega)) (λz=>?_) (λi hi j c hj=>?_) (λi hi j c hj=>Oo _ (by omega) j c hj)
   .intro k;cases u with
    |none=>simp only[SI]at k;have:=F k;simp only[dm];omega
    |some u=>cases k
   .rw[aY (by omega),ha (by omega)];simp[dw]
   .have:=hm' (dm 0 l+i) (by omega) j c hj;grind
def bL.O8(hT:cV P T){b dst:av}(h:o.op=.convert b dst x){i i2:TI}{k k':IntKind}{j:Int}(hi:bJ T b=aa i)(g:bJ T dst=aa i2)(n:i2.desc=.int k')(m:η x=.e (.one (.c (.int k j))))(l:bE k' j):
  bL P o η σ (.e (.one (.c (.int k' j)))) σ:=by refine .quiet λst ρ hh hr=>?_;have h1:=hr x;rw[m]at h1;replace h1:=fe h1;generalize d:ρ x=vx at h1;cases h1;have f:=(hT b i hi).run_underlying (w:=st.w);have a:=(hT dst i2 g).run_underlying (w:=st.w);rw[n]at a;exact⟨.int k' j,by simp[aq,h,d,convert,f,a,Conv.intToInt,mZ l],Rd.int l,by simp[aq,h,d,convert,f,a,Conv.intToInt]⟩
theorem bL.O9(hT:cV P T){b dst:av}(h:o.op=.convert b dst x){i i2:TI}{s:List UInt8}(hi:bJ T b=aa i)(j:bJ T dst=aa i2)(l:i2.desc=.string)(k:η x=.e (.one (.c (.str s)))):
  bL P o η σ (.e (.one (.c (.str s)))) σ:=by refine .quiet λst ρ hh hr=>?_;have h1:=hr x;rw[k]at h1;have d:=fe h1;generalize f:ρ x=vx at d;cases d;have g:=(hT b i hi).run_underlying (w:=st.w);have a:=(hT dst i2 j).run_underlying (w:=st.w);rw[l]at a;exact⟨_,by simp[aq,h,f,convert,g,a];rfl,by grind,by simp[aq,h,f,convert,g,a]⟩
def xq(f:Nat->List C):Nat->Nat->Option (List UInt8)
 |_,0=>aa []
 |i,n+1=>match f i with
  |[.int .u8 v]=>match xq f (i+1) n with
   |some r=>aa (UInt8.ofNat v.toNat::r)
   |none=>ae
  |_=>ae
def zJ{M:Mem}{f:Nat->List C}:∀{n i:Nat}{r:List UInt8}{vs:List ai},xq f i n=aa r->vs.length=n->(∀j,j<n->∀c,(f (i+j))[0]?=aa c->∃v,vs[j]?=aa v/\Rd M v c) ->
  ∃xs:List Int,vs=xs.map (Value.int .u8)/\r=xs.map (λx=>UInt8.ofNat x.toNat)
 |0,i,r,vs,h,d,_=>by cases h;exact⟨[],by grind,rfl⟩
 |n+1,i,r,[],h,d,_=>by grind
 |n+1,i,r,v::vs,h,d,a=>by
  simp only[xq]at h;split at h
  .rename_i x l;split at h
   .rename_i q g;cases h;obtain⟨u,b,e⟩:=a 0 (by omega) (.int .u8 x) (by grind)
    simp at b;subst b;cases e;obtain⟨xs,m,k⟩:=zJ (vs:=vs) g (by grind) (λj o c p=>by
     have:=a (j+1) (by omega) c (by grind)
     simpa using this)
    exact⟨x::xs,by grind,by grind⟩
   grind
  grind
def pt{P:aJ}(w:ay){F:ai->ByteArray->Sem (ForInStep ByteArray)}(a:∀x s,F (.int .u8 x) s=pure (.yield (s.push (UInt8.ofNat x.toNat)))):∀(xs:List Int)(s:ByteArray),
  (forIn (m:=Sem) (xs.map (Value.int .u8)) s F).run P w=.ok ⟨s.data++(xs.map λx=>UInt8.ofNat x.toNat).toArray⟩ w
 |[],s=>by simp
 |x::xs,s=>by simp only[qM,List.forIn_cons,a,bT,dE,cu];rw[pt w a xs];congr 2;apply Array.ext';simp[ByteArray.push]
end
def Lt(P:aJ):List TypeDesc->List Field->Nat->Prop
 |[],[],_=>True
 |d::ds,f::fs,i=>f.name≠ "_"/\f.offset=i/\P.underlying f.type=aa d/\(match d with|.int _|.string|.bool=>True|_=>False)/\Lt P ds fs (i+1)
 |_,_,_=>False
def Wc(d:Nat)(xs ys:Array ai)(f:Field)(_:Option Bool×Unit):Sem (ForInStep (Option Bool×Unit)) :=
 if f.name= "_" then pure (ForInStep.yield (ae,()))
 else do
  let a<-part f.type xs f.offset;let b<-part f.type ys f.offset;let r<-aZ d f.type a b
  if r=af then pure (ForInStep.done (aa af,()))else pure (ForInStep.yield (ae,()))
def tB{P:aJ}(w:ay)(d:Nat)(xs ys:Array ai):∀{ds:List TypeDesc}{fs:List Field}{i:Nat}{vs ws:List ai}{b:Bool},Lt P ds fs i->kr ds vs ws=aa b->(∀j v,vs[j]?=aa v->xs[i+j]?=aa v)->(∀j v,ws[j]?=aa v->ys[i+j]?=aa v) ->
  (Op.eqFields (d+1) xs ys fs).run P w=.ok b w/\∀es,(forIn fs (ae,()) (Wc (d+1) xs ys)).events P w es=es
 |[],[],i,[],[],b,_,h,_,_=>by cases h;simp[Op.eqFields]
 |[],[],i,_::_,_,b,_,h,_,_=>by cases h
 |[],[],i,[],_::_,b,_,h,_,_=>by cases h
 |[],_::_,i,_,_,b,o,_,_,_=>o.elim
 |_::_,[],i,_,_,b,o,_,_,_=>o.elim
 |t::ds,f::fs,i,[],_,b,_,h,_,_=>by cases h
 |t::ds,f::fs,i,_::_,[],b,_,h,_,_=>by cases h
 |t::ds,f::fs,i,v::vs,u::us,b,⟨D,A,p,G,F⟩,h,B,x=>by
  simp only[kr]at h;cases m:sk t v u with
  |none=>grind
  |some a =>
   cases y:kr ds vs us with
   |none=>grind
   |some b' =>
    simp[m,y]at h;subst h;obtain⟨H,q⟩:=tB w d xs ys F y (λj v E=>by have:=B (j+1) v (by grind);grind) (λj v E=>by have:=x (j+1) v (by grind);grind);have g:xs[i]?=aa v:=by simpa using B 0 v rfl
    have e:ys[i]?=aa u:=by simpa using x 0 u rfl
    have l:(isAgg f.type).run P w=.ok af w:=by unfold isAgg underlying;cases t<;>simp at G<;>simp[p]
    have n:∀(c:Array ai) (z:ai),c[i]?=aa z->(part f.type c f.offset).run P w=.ok z w:=by intro c z s;unfold part;simp[l,A,s]
    have k:∀(c:Array ai) (z:ai),c[i]?=aa z->∀es,(part f.type c f.offset).events P w es=es:=by intro c z s es;unfold part;simp[l,A,s]
    have r:∀es,(aZ (d+1) f.type v u).events P w es=es:=by
     intro es;unfold sk at m;split at m<;>first
      |(cases m;done)
      |(unfold aZ;simp[underlying,p];done)
      |(unfold aZ;simp[underlying,p];split<;>rfl)
    have C:(aZ (d+1) f.type v u).run P w=.ok a w:=by unfold sk at m;grind[run_equalIn_int,run_equalIn_string,run_equalIn_bool]
    refine⟨?_,λes=>?_⟩
    .rw[Op.eqFields.eq_2,bo D];simp only[bT,n xs v g,n ys u e,C,cu];cases a
     .simp
     grind
    .rw[List.forIn_cons];simp only[Wc,D,cg,aR,bT,n xs v g,n ys u e,C,cu,aV,k xs v g,k ys u e,r];cases a
     .simp
     .simpa using q es
def lC{fs:List Field}{ds:List TypeDesc}(d:P.underlying t=aa (.struct fs.toArray))(c:P.stoodInHeld t=af)(i:P.eqGuardType P.depth t=af)(f:Lt P ds fs 0):
  P.eqGuardType P.depth t=af/\∀(w:ay) (vs ws:List ai) (b:Bool),kr ds vs ws=aa b->(Op.equal t (.agg vs.toArray) (.agg ws.toArray)).run P w=.ok b w/\∀es,(Op.equal t (.agg vs.toArray) (.agg ws.toArray)).events P w es=es:=by
 refine⟨i,λw vs ws b h=>?_⟩;have k:P.fieldsOf t=fs.toArray:=by unfold Program.fieldsOf;rw[d]
 have key:=tB w 9998 vs.toArray ws.toArray f h (λj v g=>by grind) (λj v g=>by grind);refine⟨?_,λes=>?_⟩
 rotate_left
 .show (aZ (9999+1) t _ _).events P w es=es;have e:=key.2 es;unfold aZ;simp[underlying,d,c];show Result.evThen ((forIn fs (ae,()) (Wc 9999 vs.toArray ws.toArray)).run P w) ((forIn fs (ae,()) (Wc (9998+1) vs.toArray ws.toArray)).events P w es) _=es;rw[e];cases(forIn fs (ae,()) (Wc 9999 vs.toArray ws.toArray)).run P w with
  |ok a w'=>obtain⟨o,_⟩:=a;cases o<;>rfl
  |halt x w'=>rfl
 show(aZ (9999+1) t _ _).run P w=_;grind[run_equalIn_agg]
def Rn:List TypeDesc->List A->List A->Option Bool
 |[],[],[]=>aa ab
 |.int _::ds,.c (.int k a)::cs,.c (.int k' b)::es=>match IP k k' with
  |true=>match Rn ds cs es with
   |some r=>aa ((a==b)&&r)
   |none=>ae
  |false=>ae
 |.string::ds,.c (.str a)::cs,.c (.str b)::es=>match Rn ds cs es with
  |some r=>aa ((a==b)&&r)
  |none=>ae
 |.bool::ds,.c (.bool a)::cs,.c (.bool b)::es=>match Rn ds cs es with
  |some r=>aa ((a==b)&&r)
  |none=>ae
 |_,_,_=>ae
def FE:∀{ds:List TypeDesc}{cs es:List A}{b:Bool}{vs ws:List ai},Rn ds cs es=aa b->er σ s vs cs->er σ s ws es->kr ds vs ws=aa b:=by
 intro ds;induction ds with
 |nil =>
  intro cs es b vs ws h e c;cases cs<;>cases es<;>simp only[Rn,reduceCtorEq]at h
  cases vs<;>cases ws<;>first|exact e.elim|exact c.elim|(simpa[kr]using h)
 |cons d ds ih =>
  intro cs es b vs ws h e c;unfold Rn at h;split at h
  .grind
  .rename_i l j k a f k' b' es' heq;cases heq;split at h
   .rename_i hk;cases Bj hk;split at h
    .rename_i r i;cases h;cases vs with
     |nil=>exact e.elim
     |cons v vs=>cases ws with
      |nil=>exact c.elim
      |cons w ws =>
       obtain⟨v1,g⟩:=e;obtain⟨w1,w2⟩:=c;cases(show Rd s.M v (.int k a)from v1);cases(show Rd s.M w (.int k b')from w1);simp[kr,sk,ih i g w2]
    grind
   grind
  .rename_i j a f b' es' heq;cases heq;split at h
   .rename_i r i;cases h;cases vs with
    |nil=>exact e.elim
    |cons v vs=>cases ws with
     |nil=>exact c.elim
     |cons w ws =>
      obtain⟨v1,g⟩:=e;obtain⟨w1,w2⟩:=c;cases(show Rd s.M v (.str a)from v1)with
      |str hx _ =>
      cases(show Rd s.M w (.str b')from w1)with
      |str hy _ =>
      simp only[kr,sk,ih i g w2];grind[ByteArray.toList_eq]
   grind
  .rename_i j a f b' es' heq;cases heq;split at h
   .rename_i r i;cases h;cases vs with
    |nil=>exact e.elim
    |cons v vs=>cases ws with
     |nil=>exact c.elim
     |cons w ws =>
      obtain⟨v1,g⟩:=e;obtain⟨w1,w2⟩:=c;cases(show Rd s.M v (.bool a)from v1);cases(show Rd s.M w (.bool b')from w1);simp[kr,sk,ih i g w2]
   grind
  grind
section
variable {T:List (Nat×TI)}
def jv:BinOp->Bool->Option Bool
 |.eql,b=>aa b
 |.neq,b=>aa (!b)
 |_,_=>ae
def vn{x y:ai}{b c:Bool}(d:match x,y with|.agg _,.agg _=>True|.bool _,.bool _=>True|_,_=>False)(a:(Op.equal t x y).run P w=.ok b w)(h:jv op b=aa c):
  (binOp op t x y).run P w=.ok (.bool c) w:=by
 cases op<;>simp only[jv,reduceCtorEq,dn]at h
 .subst h;cases x<;>cases y<;>simp only at d<;>simp[binOp,a]
 .subst h;cases x<;>cases y<;>simp only at d<;>simp[binOp,a]
def qd{x y:ai}{b c:Bool}(d:match x,y with|.agg _,.agg _=>True|.bool _,.bool _=>True|_,_=>False)(e:(Op.equal t x y).run P w=.ok b w)(a:∀es,(Op.equal t x y).events P w es=es)(h:jv op b=aa c)(es:Array Event):
  (binOp op t x y).events P w es=es:=by cases op<;>simp only[jv,reduceCtorEq,dn]at h<;>(cases x<;>cases y<;>simp only at d<;>simp[binOp,a])
def xS(op:BinOp)(t:av)(x y:aB)(xs ys:Array ai)(w:ay)(a:P.eqGuardType P.depth t=af)(es:Array Event):(eqGuard op t x y (.agg xs) (.agg ys)).events P w es=es:=by cases op<;>simp[eqGuard,a]
theorem bL.structEq(hT:cV P T)(h:o.op=.binOp op t x y ty){i:TI}(hi:bJ T t=aa i)(m:i.eq≠[]){cs es:List A}{b c:Bool}(r:η x=.e (.agg cs))(u:η y=.e (.agg es))(k:Rn i.eq cs es=aa b)(q:jv op b=aa c):bL P o η σ (.e (.one (.c (.bool c)))) σ:=by refine .quiet λs v hh hr=>?_;have h1:=hr x;have h2:=hr y;rw[r]at h1;rw[u]at h2;obtain⟨vs,p,d⟩:=h1;obtain⟨j,n,g⟩:=h2;obtain⟨l,heq⟩:=(hT t i hi).eqs m;have a:=vn (x:=.agg vs.toArray) (y:=.agg j.toArray) ak (heq s.w vs j b (FE k d g)).1 q;have f:=qd (x:=.agg vs.toArray) (y:=.agg j.toArray) ak (heq s.w vs j b (FE k d g)).1 (heq s.w vs j b (FE k d g)).2 q;refine⟨.bool c,?_,Rd.bool,by simp only[aq,h,p,n,aR,run_eqGuard_agg s.w op t x y _ _ l,xS op t x y _ _ s.w l,aV,bT,cu,a,f,Sem.events_pure]⟩;simp only[aq,h,p,n,bT,run_eqGuard_agg s.w op t x y _ _ l,cu,a,dE]
theorem bL.SP(hT:cV P T)(h:o.op=.binOp op t x y ty){i:TI}(hi:bJ T t=aa i)(r:i.desc=.bool){a b c:Bool}(p:η x=.e (.one (.c (.bool a))))(q:η y=.e (.one (.c (.bool b))))(n:jv op (a==b)=aa c):bL P o η σ (.e (.one (.c (.bool c)))) σ:=by
 refine .quiet λs m hh hr=>?_;have h1:=hr x;have h2:=hr y;rw[p]at h1;rw[q]at h2;replace h1:=fe h1;replace h2:=fe h2;generalize g:m x=vx at h1;generalize j:m y=vy at h2;cases h1;cases h2;have k:P.underlying t=aa .bool:=by rw[(hT t i hi).UY,r]
 have d:=vn (P:=P) (w:=s.w) (x:=.bool a) (y:=.bool b) ak (run_equal_bool s.w t a b k) n;have l:∀es,(Op.equal t (.bool a) (.bool b)).events P s.w es=es:=λes=>by show(aZ (9999+1) t _ _).events P s.w es=es;unfold aZ;simp[underlying,k]
 have f:=qd (P:=P) (w:=s.w) (x:=.bool a) (y:=.bool b) ak (run_equal_bool s.w t a b k) l n;refine⟨.bool c,?_,Rd.bool,by simp only[aq,h,g,j,aR,eqGuard_at_bool,Sem.events_pure,dE,aV,bT,cu,d,f]⟩;simp only[aq,h,g,j,bT,eqGuard_at_bool,dE,cu,d]
def bL.VP(h:o.op=.binOp .xor t x y ty){a b:Int}(m:η x=.e (.one (.c (.int .i64 a))))(n:η y=.e (.one (.c (.int .i64 b))))(q:0<=a)(h1:0<=b):
  bL P o η σ (.e (.one (.c (.int .i64 ((a.toNat ^^^ b.toNat:Nat):Int))))) σ:=by
 refine .quiet λs l hh hr=>?_;have e1:=hr x;have e2:=hr y;rw[m]at e1;rw[n]at e2;replace e1:=fe e1;replace e2:=fe e2;generalize f:l x=vx at e1;generalize g:l y=vy at e2;cases e1 with|int ha =>
 cases e2 with|int hb =>
 have p:a.toNat ^^^ b.toNat<2 ^ 63:=by apply Nat.xor_lt_two_pow<;>simp only[bE]at ha hb<;>omega
 have k:bE .i64 ((a.toNat ^^^ b.toNat:Nat):Int):=by simp only[bE];omega
 refine⟨.int .i64 ((a.toNat ^^^ b.toNat:Nat):Int),?_,.int k,?_⟩
 rotate_left
 .simp only[aq,h,f,g,aR,hO,j8,aV,Go.binOp,dz,fx,cg,Op.intBits,bT,cu,dE,Sem.events_pure]
 have d:((BitVec.ofInt 64 a) ^^^ (BitVec.ofInt 64 b)).toNat=a.toNat ^^^ b.toNat:=by rw[BitVec.toNat_xor,BitVec.toNat_ofInt,BitVec.toNat_ofInt];simp only[bE]at ha hb;congr 1<;>omega
 have i:(BitVec.ofInt IntKind.i64.bits a ^^^ BitVec.ofInt IntKind.i64.bits b).toNat=a.toNat ^^^ b.toNat:=d;have j:(Go.binOp .xor t (.int .i64 a) (.int .i64 b)).run P s.w=.ok (.int .i64 ((a.toNat ^^^ b.toNat:Nat):Int)) s.w:=by simp only[Go.binOp,dz,fx,cg,Op.intBits,dE];grind[mZ]
 simp only[aq,h,f,g,bT,hO,cu,j,dE]
def bL.IB(hT:cV P T){l dst:av}(h:o.op=.convert l dst x){i i2 ie:TI}(hi:bJ T l=aa i)(D:bJ T dst=aa i2)(O:i.desc=.slice E)(F:i2.desc=.string)(Q:bJ T E=aa ie)(z:ie.desc=.int .u8){tt:Bool}{r:List UInt8}(N:∀s v,du σ s v (η x)->Rd s.M v (.sl tt 1 n es))(J:xq es 0 n=aa r):bL P o η σ (.e (.one (.c (.str r)))) σ:=by
 refine .oM λs U hh hr=>?_;have h1:=N s _ (hr x);obtain⟨vs,I,b⟩:=et (P:=P) hh h1;obtain⟨a,cap,L,q,G,K,_⟩:=h1.flat;have H:n<=9223372036854775807:=by omega
 have B:vs.length=n:=by rw[I.len];omega
 obtain⟨xs,e1,e2⟩:=zJ (M:=s.M) (vs:=vs) J B (λj hj c R=>by
  obtain⟨v,S,p2⟩:=I.rd j hj 0 c (by grind)
  grind)
 have A:=(hT l i hi).run_underlying (w:=s.w);have g:=(hT dst i2 D).run_underlying (w:=s.w);have k:=(hT E ie Q).run_underlying (w:=s.w);rw[O]at A;rw[F]at g;rw[z]at k;have C:r.length<=9223372036854775807:=by grind
 have f:∃u:ByteArray,(Conv.bytesToString (.slice a n cap)).run P s.w=.ok (.string u) s.w/\u.data.toList=r:=by
  cases a with
  |none =>
   have p:r=[]:=by
    have:vs=[]:=by rw[q]at b;have h2:=b.1;simp[Builtin.firstCells]at h2;grind
    grind
   exact⟨ByteArray.empty,by simp[Conv.bytesToString],by rw[p];rfl⟩
  |some ad =>
   rw[q]at b;have h2:=b.1;simp only[Builtin.firstCells,Nat.mul_one]at h2;refine⟨⟨#[]++(xs.map λx=>UInt8.ofNat x.toNat).toArray⟩,?_,by grind⟩;simp only[Conv.bytesToString,bT,h2,cu,e1];rw[List.forIn_toArray,pt (P:=P) s.w (λ_ _=>rfl) xs ByteArray.empty];rfl
 obtain⟨u,t,y⟩:=f;refine⟨.string u,?_,Rd.str y C,?_⟩
 rotate_left
 .intro e d;simp only[aq,h,q,aR,convert,A,g,aV,cu,k,t,bT,events_underlying,Sem.events_pure]at d;cases a with
  |none=>simp[Conv.bytesToString]at d
  |some ad =>
   have m:=ir (P:=P) hh (h1.EX (λ_ _=>rfl)) (w:=s.w) rfl;rw[q]at b m;have h2:=b.1;simp only[Builtin.firstCells,Nat.mul_one]at h2 m;unfold Conv.bytesToString at d;simp only at d;rw[aR,h2,aV,dj.bind (P:=P) ?_ λ_=>.pure]at d
   .grind [uf]
   .rw[List.forIn_toArray];refine dj.KF (λx s=>?_) _ _;split
    .exact .pure
    .exact .bind .stuck λ_=>.pure
 simp only[aq,h,q,bT,convert,A,g,cu,k,t,dE]
end
def xt(η:aB->D):List aB->Option (List C)
 |[]=>aa []
 |x::r=>match η x with
  |.e (.one (.c c))=>match xt η r with
   |some q=>aa (c::q)
   |none=>ae
  |_=>ae
def xT{σ:List bg}{s:St}{a:aB->ai}{η:aB->D}(b:∀y,du σ s (a y) (η y)):∀{xs:List aB}{cs:List C},xt η xs=aa cs->xs.length=cs.length/\∀(j:Nat)(c:C),cs[j]?=aa c->∃v,(xs.map a)[j]?=aa v/\Rd s.M v c
 |[],cs,h=>by cases h;grind
 |x::r,cs,h=>by
  simp only[xt]at h;split at h
  .rename_i c f;split at h
   .rename_i q e;cases h;obtain⟨k,g⟩:=xT b e;refine⟨by grind,λj i d=>?_⟩;cases j with
    |zero =>
     simp at d;subst d;have:=b x;rw[f]at this;exact⟨a x,by simp,fe this⟩
    |succ j=>grind
   grind
  grind
section
variable {T:List (Nat×TI)}
theorem bL.makeFunc{fn:Fn}{a b:Array aB}(h:o.op=.makeFunc fn a b){f g:List C}(l:xt η a.toList=aa f)(m:xt η b.toList=aa g):bL P o η σ (.e (.one (.c (.fn fn f g)))) σ:=by
 refine .quiet λs d hh hr=>?_;obtain⟨a1,a2⟩:=xT hr l;obtain⟨n,p⟩:=xT hr m;have i:a.map d=(a.toList.map d).toArray:=by grind
 have k:b.map d=(b.toList.map d).toArray:=by grind
 refine⟨.func fn (a.toList.map d).toArray (b.toList.map d).toArray,?_,?_,by simp only[aq,h,Instr.makeFunc];rfl⟩
 .simp only[aq,h,Instr.makeFunc,i,k];rfl
 .refine Rd.fn _ _ (by grind) (by grind) (λj=>((a.toList.map d)[j]?).getD ah) (λj=>((b.toList.map d)[j]?).getD ah) ?_ ?_ ?_ ?_
  .grind
  .grind
  .grind
  grind
def xu:TypeDesc->Bool
 |.interface _=>ab
 |_=>af
def wE(t:av):D->Option C
 |.e (.one (.c c))=>aa (.ifs t c)
 |.e (.agg cs)=>match gX cs with
  |some q=>aa (.J0 t q)
  |none=>ae
 |_=>ae
def FF{d:D}{c:C}(h:wE t d=aa c)(r:du σ s v d):Rd s.M (.iface t v) c:=by
 unfold wE at h;split at h
 .cases h;exact Rd.ifs (fe r) (fe r).cell
 .split at h
  .rename_i q f;cases h;obtain⟨vs,rfl,k⟩:=r;have b:=mh f k;refine Rd.J0 (by have:=b.length;grind) (λj=>(vs[j]?).getD ah) (λj g=>by grind) λj c g=>?_;obtain⟨v,i,e⟩:=b.get (j:=j) (a:=.c c) (by grind);rw[i];exact e
  grind
 grind
theorem bL.makeInterface(hT:cV P T){t:av}{x:aB}(h:o.op=.makeInterface t x){i:TI}(hi:bJ T t=aa i)(b:xu i.desc=af){c:C}(g:wE t (η x)=aa c):bL P o η σ (.e (.one (.c c))) σ:=by
 refine .quiet λs f hh hr=>?_;have d:=(hT t i hi).run_underlying (w:=s.w);refine⟨.iface t (f x),?_,FF g (hr x),?_⟩
 rotate_left
 .simp only[aq,h,Instr.makeInterface,aR,bT,d,aV,cu,events_underlying];cases a:i.desc<;>rw[a]at b<;>first|(cases b;done)|simp
 simp only[aq,h,Instr.makeInterface,bT,d,cu];cases a:i.desc<;>rw[a]at b<;>first|(cases b;done)|simp
end
def OA(X:Cx P)(N:Nat)(all:List aC)(o:aC)(φ:Fr)(σ:List bg)(x:D)(σ':List bg):Prop :=
  ∀s a,cx N σ s φ a->aE σ s->∀(b:aX) (k:List Item) (cs:List aX) (S:ar->St->Prop) (i:Nat) (rest:List Nat),b.kind≠.early->all.toArray[i]?=aa o ->
    (∀v s',du σ' s' v x->aE σ' s'->c6 σ s σ' s'->fL X S (G (b.aT (a.put o.dst v) (.inRegion all.toArray rest::k)) cs) s')->fL X S (G (b.aT a (.inRegion all.toArray (i::rest)::k)) cs) s
section
variable {X:Cx P}{φ':Fr}{x:D}
theorem OA.lL(q:∀σ s a,cx N σ s φ a->bl o (yielded all.toArray a.tmps)=ab)(h:bL P o (bS φ) σ x σ'):OA X N all o φ σ x σ':=by
  intro s a f hh b k cs S i rest hb hi hK;refine se hb hi (q _ _ _ f) λg d=>?_;have c:=hh.rely d;obtain⟨n,s',h1,h2,e,m,p⟩:=h g a.eval c (dh (f.rely d hh));have l:=d.stepW.trans (m.nN c);have j:rW g s' ((aq a.eval o).events P g.w #[]):=⟨⟨σ,σ',c,e,m⟩,p⟩;cases n with
  | value v=>exact⟨_,s',v,h1,.inl rfl,j,hK v s' h2 e l⟩
  | skip=>simp only[Tg]at h2;subst h2;exact⟨_,s',ah,h1,.inr ⟨rfl,rfl⟩,j,hK ah s' ak e l⟩
  | _=>exact h2.elim
def OA.pass(e:∀σ s a,cx N σ s φ a->bl o (yielded all.toArray a.tmps)=af):OA X N all o φ σ (.fD []) σ:=by intro s a f hh b k cs S i rest hb hi hK;exact .ctl hh rfl (λ_=>OH hi (e _ _ _ f)) λd c=>hK ah d ⟨[],rfl,ak⟩ (hh.rely c) c.stepW
def iG.Bi{Q:Fr->List bg->Prop}(h:OA X N all o φ σ x σ')(g:∀t,o.dst=aa t->t<N)(k:iG X N all rest Q (kQ o.dst x φ) σ'):iG X N all (o::rest) Q φ σ:=by
  intro s a f hh b kk cs S idx hb jO hQ;cases idx with
  | nil=>exact jO.elim
  | cons i idx =>
  refine h s a f hh b kk cs S i idx hb jO.1 λv s' hv jP st=>k s' _ ?_ jP b kk cs S idx hb jO.2 λc σ2 s2 a2 q d h2 m0=>hQ c σ2 s2 a2 q d h2 (st.trans m0);cases e:o.dst with
  | none=>exact f.mono st hh.len
  | some t=>exact(f.mono st hh.len).put (g t e) hv
end
abbrev dJ:=List D->List bg->Option (D×List bg×List Prop)
def zD:List (Nat×dJ)->Nat->Option dJ
  | [],_=>ae
  | (i,g)::r,f=>cond (aw i f) (aa g) (zD r f)
def eh(X:Cx P)(f:aH)(g:dJ):Prop:=∀args σ res σ' obs,g args σ=aa (res,σ',obs)->au obs->Ev X f args σ res σ'
def bH(X:Cx P)(CT:List (Nat×dJ)):Prop:=∀f g,zD CT f=aa g->eh X f g
def bH.nil{X:Cx P}:bH X []:=λ_ _ h=>by cases h
def bH.cons{X:Cx P}{f:aH}{g:dJ}{CT:List (Nat×dJ)}(h:eh X f g)(r:bH X CT):bH X ((f,g)::CT):=by
  intro a b h2;simp only[zD]at h2;cases c:aw f a with
  | true=>grind[Nat.eq_of_beq_eq_true]
  | false=>rw[c]at h2;exact r a b h2
def bxA:A->List Nat->List Nat
  | .ptr l _,ks=>cond (iF l ks) ks (ks++[l])
  | .vec l _ _ _,ks=>cond (iF l ks) ks (ks++[l])
  | .ref l,ks=>cond (iF l ks) ks (ks++[l])
  | .bp l _,ks=>cond (iF l ks) ks (ks++[l])
  | _,ks=>ks
def bxL:List A->List Nat->List Nat
  | [],ks=>ks
  | a::r,ks=>bxL r (bxA a ks)
def bxD:D->List Nat->List Nat
  | .e (.one a),ks=>bxA a ks
  | .e (.agg cs),ks=>bxL cs ks
  | _,ks=>ks
def Wa:List D->List Nat->List Nat
  | [],ks=>ks
  | a::r,ks=>Wa r (bxD a ks)
def CZ(l:Nat):List Nat->Nat->Option Nat
  | [],_=>ae
  | k::r,i=>match aw k l with|true=>aa i|false=>CZ l r (i+1)
def tA{l:Nat}:∀{ks:List Nat} {i j:Nat},CZ l ks i=aa j->i<=j/\ks[j-i]?=aa l
  | [],_,_,h=>by cases h
  | k::r,i,j,h=>by
    simp only[CZ]at h;cases a:aw k l with
    | true=>rw[a]at h;cases h;exact⟨bh _,by grind[Nat.eq_of_beq_eq_true]⟩
    | false =>
      rw[a]at h;obtain⟨c,b⟩:=tA h;grind
def U5(ks:List Nat):A->Option A
  | .ptr l o=>match CZ l ks 0 with|some i=>aa (.ptr i o)|none=>ae
  | .ref l=>match CZ l ks 0 with|some i=>aa (.ref i)|none=>ae
  | .bp l w=>match CZ l ks 0 with|some i=>aa (.bp i w)|none=>ae
  | .vec _ _ _ _=>ae
  | .c x=>aa (.c x)
  | .any=>aa .any
def Yh(ks:List Nat):List A->Option (List A)
  | []=>aa []
  | a::r=>match U5 ks a with
    | some b=>match Yh ks r with
      | some q=>aa (b::q)
      | none=>ae
    | none=>ae
def ZB(ks:List Nat):D->Option D
  | .e (.one a)=>match U5 ks a with|some b=>aa (.e (.one b))|none=>ae
  | .e (.agg cs)=>match Yh ks cs with|some b=>aa (.e (.agg b))|none=>ae
  | .fD _=>ae
  | .any=>aa .any
def IQ(ks:List Nat):List D->Option (List D)
  | []=>aa []
  | a::r=>match ZB ks a with
    | some b=>match IQ ks r with
      | some q=>aa (b::q)
      | none=>ae
    | none=>ae
def Lj{a b:A}(h:U5 ks a=aa b):pz ks b=a/\Iy ks.length b=ab:=by
  cases a with
  | ptr l o =>
    simp only[U5]at h;split at h
    · rename_i i hi
      cases h;obtain⟨_,d⟩:=tA hi;simp only[l7]at d;have e:i<ks.length:=(bX.1 d).1;exact⟨by simp[pz,fE,d],sL e⟩
    grind
  | ref l =>
    simp only[U5]at h;split at h
    · rename_i i hi
      cases h;obtain⟨_,d⟩:=tA hi;simp only[l7]at d;have e:i<ks.length:=(bX.1 d).1;exact⟨by simp[pz,fE,d],sL e⟩
    grind
  | bp l w =>
    simp only[U5]at h;split at h
    · rename_i i hi
      cases h;obtain⟨_,d⟩:=tA hi;simp only[l7]at d;have e:i<ks.length:=(bX.1 d).1;exact⟨by simp[pz,fE,d],sL e⟩
    grind
  | vec l k n es=>cases h
  | c x=>cases h;exact⟨rfl,rfl⟩
  | any=>cases h;exact⟨rfl,rfl⟩
def Lk{ks:List Nat}:∀{a b:List A},Yh ks a=aa b->CM ks b=a/\G6 ks.length b=ab
  | [],b,h=>by cases h;exact⟨rfl,rfl⟩
  | a::r,b,h=>by
    simp only[Yh]at h;split at h
    · rename_i x f
      split at h
      · rename_i q d
        cases h;obtain⟨i,c⟩:=Lj f;obtain⟨g,e⟩:=Lk d;exact⟨by simp[CM,i,g],by simp[G6,c,e]⟩
      grind
    grind
def Th{a b:D}(h:ZB ks a=aa b):iE ks b=a/\w7 ks.length b=ab:=by
  unfold ZB at h;split at h
  · rename_i a
    split at h
    · rename_i x e;cases h;obtain⟨d,c⟩:=Lj e;exact⟨by simp[iE,AU,d],by simp[w7,CN,c]⟩
    grind
  · rename_i cs
    split at h
    · rename_i x e;cases h;obtain⟨d,c⟩:=Lk e;exact⟨by simp[iE,AU,d],by simp[w7,CN,c]⟩
    grind
  · cases h
  · cases h;exact⟨rfl,rfl⟩
def Hu{ks:List Nat}:∀{a b:List D},IQ ks a=aa b->fX ks b=a/\lP ks.length b=ab
  | [],b,h=>by cases h;exact⟨rfl,rfl⟩
  | a::r,b,h=>by
    simp only[IQ]at h;split at h
    · rename_i x f
      split at h
      · rename_i q d
        cases h;obtain⟨i,c⟩:=Th f;obtain⟨g,e⟩:=Hu d;exact⟨by simp[fX,i,g],by simp[lP,c,e]⟩
      grind
    grind
def KJ(CT:List (Nat×dJ))(φ:Fr)(σ:List bg)(fo:aB)(xs:List aB):Option (D×List bg×List Prop) :=
  match eQ (bS φ fo)with
  | none=>ae
  | some (f,cap)=>match zD CT f with
    | none=>ae
    | some g =>
      let args:=m6 (xs.map (bS φ)++fY cap);let ks:=Wa args []
      match IQ ks args with
      | none=>ae
      | some cv=>match kh ks σ with
        | none=>ae
        | some σs=>match g cv σs with
          | none=>ae
          | some (res,σ1,obs)=>match cC σs,cC σ1,dK ks,bD ks.length σ1.length with
            | true,ab,ab,ab=>aa (iE (ks++ln σ.length (σ1.length-ks.length)) res,dY ks σ1 σ,obs)
            | _,_,_,_=>ae
theorem OA.RB{X:Cx P}{CT:List (Nat×dJ)}(hC:bH X CT)(J:∀σ s a,cx N σ s φ a->bl o (yielded all.toArray a.tmps)=ab)(G:o.op=.call {callee:=.value fo,args:=xs,argTypes:=jU}){f:aH}(v:eQ (bS φ fo)=aa (f,cap)){g:dJ}(E:zD CT f=aa g){σ1:List bg}{res:D}(F:IQ ks (m6 (xs.toList.map (bS φ)++fY cap))=aa cv)(B:kh ks σ=aa σs)(u:g cv σs=aa (res,σ1,obs))(K:cC σs=ab)(y:cC σ1=ab)(I:dK ks=ab)(z:ks.length<=σ1.length)(p:au obs):OA X N all o φ σ (iE (ks++ln σ.length (σ1.length-ks.length)) res) (dY ks σ1 σ):=by
  obtain⟨m,A⟩:=Hu F;intro s a l hh b kk cs S i rest hb hi hK;have n:=hC f g E _ _ _ _ _ u p;have q:=dh l fo;unfold eQ at v;split at v
  case h_2=>cases v
  case h_1 f' OG he =>
    cases v;rw[he]at q;have h:=fe q;generalize H:a.eval fo=fv at h;cases h with
    | fn fs nO hl ES f1 f2 h1 h2 r1 r2 =>
      have C:fs=[]:=jF hl;subst C;have k:cp σ s nO (fY cap):=nU (λj c hj=>⟨f2 j,h2 j (by grind),r2 j c hj⟩) ES;have t:cp σ s (xs.toList.map a.eval++nO) (fX ks cv):=by rw[m];exact pQ ((ma (dh l) xs.toList).append k)
      obtain⟨fn,r,e,d⟩:=n.1;exact Kp hb hi (J _ _ _ l) hh (λw=>(jV G r e d H w).1) (λw=>(jV G r e d H w).2) n t A B K y I z hK
theorem OA.call{X:Cx P}{CT:List (Nat×dJ)}(hC:bH X CT){x:D}(h:∀σ s a,cx N σ s φ a->bl o (yielded all.toArray a.tmps)=ab)(e:o.op=.call {callee:=.value fo,args:=xs,argTypes:=jU})(b:KJ CT φ σ fo xs.toList=aa (x,σ',obs))(c:au obs):OA X N all o φ σ x σ':=by
  unfold KJ at b;split at b
  · cases b
  rename_i f cap hf;split at b
  · cases b
  rename_i g d;simp only at b;split at b
  · cases b
  grind[OA.RB,Nat.le_of_ble_eq_true]
def Dc{d:D}(h:w7 0 d=ab):iE [] d=d:=by
  have g:∀{a:A},Iy 0 a=ab->pz [] a=a:=by intro a b;cases a<;>simp only[Iy]at b<;>first|rfl|(simp at b)
  have j:∀{l:List A},G6 0 l=ab->CM [] l=l:=by
    intro l;induction l with
    | nil=>intro _;rfl
    | cons a r f =>
      intro h;simp only[G6]at h;cases b:Iy 0 a with
      | false=>grind
      | true=>simp only[b]at h;simp[CM,g b,f h]
  have i:∀{a:E1},CN 0 a=ab->AU [] a=a:=by
    intro a b;cases a with
    | one a=>simp[AU,g b]
    | agg cs=>simp[AU,j b]
  have c:∀{l:List E1},zb 0 l=ab->zx [] l=l:=by
    intro l;induction l with
    | nil=>intro _;rfl
    | cons a r f =>
      intro h;simp only[zb]at h;cases b:CN 0 a with
      | false=>grind
      | true=>simp only[b]at h;simp[zx,i b,f h]
  cases d with
  | e x=>simp[iE,i h]
  | fD xs=>simp[iE,c h]
  | any=>rfl
def CX(CT:List (Nat×dJ))(φ:Fr)(fo:aB)(xs:List aB):Option (D×List Prop) :=
  match eQ (bS φ fo)with
  | none=>ae
  | some (f,cap)=>match zD CT f with
    | none=>ae
    | some g=>match IQ [] (m6 (xs.map (bS φ)++fY cap))with
      | none=>ae
      | some cv=>match g cv []with
        | some (res,[],obs)=>match w7 0 res with
          | true=>aa (res,obs)
          | false=>ae
        | _=>ae
theorem OA.CX{P:aJ}{X:Cx P}{N:Nat}{all:List aC}{φ:Fr}{σ:List bg}{o:aC}{CT:List (Nat×dJ)}(hC:bH X CT){fo:aB}{xs:Array aB}{jU:Array av}{x:D}{obs:List Prop}(i:∀σ s a,cx N σ s φ a->bl o (yielded all.toArray a.tmps)=ab)(h:o.op=.call {callee:=.value fo,args:=xs,argTypes:=jU})(b:AM.CX CT φ fo xs.toList=aa (x,obs))(c:au obs):OA X N all o φ σ x σ:=by
  unfold AM.CX at b;split at b
  · cases b
  rename_i f cap hf;split at b
  · cases b
  rename_i g d;split at b
  · cases b
  rename_i cv hun;split at b
  case h_2=>cases b
  rename_i res aed ZC;split at b
  case h_2=>cases b
  rename_i e;cases b;have:=OA.RB (σ:=σ) hC i h hf d hun rfl ZC rfl rfl rfl (bh _) c;simpa[ln,Dc e,dY]using this
def pW(i:Nat)(ci:List C)(es:Nat->List C):Nat->List C:=λj=>if j=i then ci else es j
def uo(lo hi:Nat)(z:List C)(es:Nat->List C):Nat->List C:=λj=>if lo<=j/\j<hi then z else es j
section
variable {T:List (Nat×TI)}{g:Nat}{k:Nat}
def LG(m:aE σ s)(h:σ[l]?=aa (.buf E k n es)){k' f:Nat}(z:gH σ s v (.bp l (.el g k' i f)))(y:g=n):
  ∃b c vs zs,s.β[l]?=aa ⟨.slice (aa ⟨b,0,ae⟩) 0 c,[b]⟩/\v=.pointer (aa ⟨b,i*k'+f,ae⟩)/\s.w.heap[b]?=aa (.cells (vs++zs).toArray E (0,0))/\(vs++zs).length=c*k/\n<=c/\c<=9223372036854775807/\Flat s.M k n es vs/\∀o,s.M b o=ae:=by
 obtain⟨C,⟨b,c,d,j⟩,_,q⟩:=z;obtain⟨L,e,a⟩:=(q _ _ _ _ h).2 y;rw[d]at a;rcases m.box l _ L h e with⟨_,rfl⟩|⟨B,c1,vs,zs,rfl,r,p,x,t,A,u⟩
 .cases a
 .cases a;exact⟨b,c,vs,zs,e,j,r,p,x,t,A,u⟩
def FH{g:Nat->ai}:∀{ds:List C}{m:Nat},(∀j c,ds[j]?=aa c->Rd s.M (g (m+j)) c)->er σ s ((bc ds.length).map λj=>g (m+j)) (ds.map A.c)
 |[],m,_=>trivial
 |d::ds,m,h=>by rw[fb,we];refine⟨h 0 d rfl,?_⟩;have:=FH (ds:=ds) (m:=m+1) (λj c a=>by have:=h (j+1) c (by grind);rwa [show m+1+j=m+(j+1) by omega]);grind[Function.comp_def]
theorem bL.YX(hT:cV P T)(h:o.op=.indexAddr t x y){i ie:TI}(hi:bJ T t=aa i)(H:i.desc=.slice E)(M:bJ T E=aa ie){q m:Nat}{j:Int}{kk:IntKind}(G:η x=.e (.one (.bp l (.sl g ie.size q m))))(F:η y=.e (.one (.c (.int kk j))))(N:0<=j)(h1:j<m):bL P o η σ (.e (.one (.bp l (.el g ie.size (q+j.toNat) 0)))) σ:=by
 refine .quiet λs C hh hr=>?_;have f:=hr x;rw[G]at f;have h2:=hr y;rw[F]at h2;replace h2:=fe h2;generalize r:C y=vy at h2;cases h2;have d:=f;change gH σ s (C x) (.bp l _)at d;obtain⟨lv,⟨a,a0,cap,I,K,J,D,L,u,A⟩,v,z⟩:=d;obtain⟨b,rfl,rfl⟩:=A (by omega);have B:=(hT t i hi).run_underlying (w:=s.w);rw[H]at B;obtain⟨n,rfl⟩:∃n:Nat,j=n:=⟨j.toNat,by omega⟩
 have p:n<m:=by omega
 refine⟨.pointer (aa ⟨b,(q+n)*ie.size,ae⟩),?_,⟨lv,⟨b,I,u,by simp⟩,v,z⟩,?_⟩<;>
 simp[aq,h,K,r,Instr.indexAt,asIntOf,B,(hT E ie M).run_sizeOf,dw,p,iP]
def bL.SR(hT:cV P T){f:Nat}(h:o.op=.fieldAddr t x f){c q:Nat}{j:TI}(u:η x=.e (.one (.bp l (.el g c i q))))(p:ki T t f=aa (off,j)):bL P o η σ (.e (.one (.bp l (.el g c i (q+off))))) σ:=by refine .quiet λs w hh hr=>?_;have h1:=hr x;rw[u]at h1;have a:=h1;change gH σ s (w x) (.bp l _)at a;obtain⟨lv,⟨b,v,d,r⟩,m,n⟩:=a;exact⟨.pointer (aa ⟨b,i*c+q+off,ae⟩),by simp[aq,h,r,nb hT p],⟨lv,⟨b,v,d,by grind⟩,m,n⟩,by simp[aq,h,r,oX hT p]⟩
theorem bL.YY(h:o.op=.nilCheck x){d q:Nat}(m:η x=.e (.one (.bp l (.el g d i q)))):bL P o η σ (.e (.one (.bp l (.el g d i q)))) σ:=by refine .quiet λs f hh hr=>?_;have h1:=hr x;rw[m]at h1;have c:=h1;have a:=h1;change gH σ s (f x) (.bp l _)at a;obtain⟨lv,⟨b,t,n,j⟩,p,r⟩:=a;exact⟨f x,by simp[aq,h,j],c,by simp[aq,h,j]⟩
theorem bL.YZ(hT:cV P T)(h:o.op=.call {callee:=.builtin .len,args:=#[x],argTypes:=jU})(D:jU[0]?=aa t){i:TI}(hi:bJ T t=aa i)(u:i.desc=.slice E){n q m:Nat}(j:η x=.e (.one (.bp l (.sl g n q m)))):bL P o η σ (.e (.one (.c (.int .i64 m)))) σ:=by
 refine .quiet λs v hh hr=>?_;have h1:=hr x;rw[j]at h1;have b:=h1;change gH σ s (v x) (.bp l _)at b;obtain⟨lv,⟨a,a0,cap,F,z,y,f,A,r,p⟩,B,C⟩:=b;have d:=(hT t i hi).run_underlying (w:=s.w);rw[u]at d;refine⟨.int .i64 m,?_,Rd.int (by simp only[bE];omega),?_⟩<;>
 simp[aq,h,resolve,invoke,builtin,Builtin.len_,z,d,goInt,D]
theorem bL.sliceB(hT:cV P T){lo hi:Option aB}(h:o.op=.slice t x lo hi ae){i ie:TI}(s:bJ T t=aa i)(J:i.desc=.slice E)(L:bJ T E=aa ie){q m:Nat}{d u:Option Int}(H:η x=.e (.one (.bp l (.sl g ie.size q m))))(hl:sd η lo=aa d)(z:sd η hi=aa u)(A:au (gb m d u)):bL P o η σ (.e (.one (.bp l (.sl g ie.size (q+dm 0 d) (dm m u-dm 0 d))))) σ:=by
 refine .quiet λst ρ hh hr=>?_;have h1:=hr x;rw[H]at h1;have f:=h1;change gH σ st (ρ x) (.bp l _)at f;obtain⟨lv,⟨a,a0,cap,K,D,j,F,y,n,v⟩,p,r⟩:=f;obtain⟨B,G,I⟩:=mv (P:=P) (isS:=ab) j (gJ hr hl) (gJ hr z) A st.w;have c:=(hT t i s).run_underlying (w:=st.w);rw[J]at c;refine⟨.slice (if cap=dm 0 d then a else a.map (·.add (dm 0 d*ie.size))) (dm m u-dm 0 d) (cap-dm 0 d),?_,⟨lv,⟨_,a0,_,K,rfl,by omega,by omega,y,n,λC=>?_⟩,p,r⟩,by simp[aq,h,D,Instr.sliceAt,c,Instr.slice,B,nR (P:=P) (isS:=ab) j (gJ hr hl) (gJ hr z) A st.w]⟩
 .simp[aq,h,D,Instr.sliceAt,c,Instr.slice,B,(hT E ie L).run_sizeOf]
 .obtain⟨b,rfl,rfl⟩:=v (by omega);refine⟨b,rfl,?_⟩;rw[aY (by omega)];simp[dw,iP]
def bL.VQ(hT:cV P T)(h:o.op=.load t x){f:Nat}{B:TI}{e:E1}(L:η x=.e (.one (.bp l (.el g k i f))))(z:g=n)(hl:σ[l]?=aa (.buf E k n es))(hi:bJ T t=aa B)(G:lq B ((fZ f (es i)).map A.c)=aa e)(q:i<n):bL P o η σ (.e e) σ:=by
 refine .oM λs O hh hr=>?_;have h1:=hr x;rw[L]at h1;obtain⟨b,V,vs,R,Q,H,d,K,N,J,I,S⟩:=LG hh hl h1 z;have U:=I.width i q;let g:Nat->ai:=λj=>vs.getD (i*k+j) ah;have z:∀j c,(fZ f (es i))[j]?=aa c->vs[i*k+(f+j)]?=aa (g (f+j))/\Rd s.M (g (f+j)) c:=by intro j c hj;rw[mF,pK]at hj;obtain⟨v,v1,W⟩:=I.rd i q (f+j) c hj;grind
 have C:=FH (σ:=σ) (s:=s) (g:=g) (ds:=fZ f (es i)) (m:=f) (λj c hj=>(z j c hj).2);have a:∀(j:Nat) (v:ai),((bc (fZ f (es i)).length).map λj=>g (f+j))[j]?=aa v->s.w.cell? ⟨b,i*k+f+j,ae⟩=aa v:=by
  intro j v hj;simp only[nA]at hj;by_cases u:j<(fZ f (es i)).length
  .simp[u]at hj;subst hj;have h2:=(z j _ (bn u)).1;simp only[aP,d];grind
  grind
 obtain⟨v,r,D⟩:=iV (s:=s) (σ:=σ) (P:=P) (hT t B hi) (b:=b) (off:=i*k+f) (e:=e) a C G;refine⟨v,by simp[aq,h,H,Instr.loadAt,bt,r],D,λF p=>?_⟩;have y:F∈(loadVar t ⟨b,i*k+f,ae⟩).events P s.w #[]:=by
  have e:aq O o=(do pure (.value (<-loadVar t ⟨b,i*k+f,ae⟩))):=by simp[aq,h,H,Instr.loadAt,bt]
  rw[e]at p;simpa[r]using p
 obtain⟨j,hj,rfl⟩:=gy (hT t B hi) (n:=(fZ f (es i)).length) (λj hj=>⟨_,a j (g (f+j)) (by grind)⟩) (by have:=lu G;grind) F y;exact j9 (bP Q) (by simp)
def Flat.put{py:List ai}{f:Nat}{cc ci:List C}(h:Flat M k n es vs)(hi:i<n)(r:fI f cc (es i)=aa ci)(hl:py.length=cc.length)(t:∀(j:Nat)(c:C),cc[j]?=aa c->∃v,py[j]?=aa v/\Rd M v c):
  i*k+f+py.length<=vs.length/\Flat M k n (pW i ci es) (vs.take (i*k+f)++py++vs.drop (i*k+f+py.length)):=by
 obtain⟨h1,h2⟩:=rf r;have x:=h.width i hi;have y:i*k+k<=n*k:=by have:=eP k (show i+1<=n by omega);grind
 have s:=h.len;have l:i*k+f+py.length<=vs.length:=by omega
 have d:∀p,(vs.take (i*k+f)++py++vs.drop (i*k+f+py.length))[p]?=if p<i*k+f then vs[p]? else if p<i*k+f+py.length then py[p-(i*k+f)]? else vs[p]?:=by
  intro p;have w:(vs.take (i*k+f)).length=i*k+f:=by grind
  by_cases c1:p<i*k+f
  .grind
  .rw[aY c1];by_cases c2:p<i*k+f+py.length
   .grind
   .rw[aY c2,gp (by grind),pK];grind
 refine⟨l,⟨by grind,λb a=>?_,λb a j c hj=>?_⟩⟩
 .simp only[pW];split
  .grind
  .exact h.width b a
 .simp only[pW]at hj;rw[d];split at hj
  .rename_i e;subst e;rw[h2]at hj;by_cases c1:j<f
   .rw[mm,jH (by grind),gL,bo c1]at hj;rw[bo (by omega)];exact h.rd b hi j c hj
   .by_cases c2:j<f+cc.length
    .rw[mm,gp (by grind),jH (by grind)]at hj;obtain⟨v,v1,q⟩:=t _ c hj;refine⟨v,?_,q⟩;rw[aY (by omega),bo (by omega),<-v1];congr 1;grind
    .rw[gp (by grind),pK]at hj;rw[aY (by omega),aY (by omega)];refine h.rd b hi j c ?_;grind
  .rename_i e;have o:j<k:=by have:=(bX.1 hj).1;have:=h.width b a;omega
   rcases cN b i with m|u
   .have:(b+1)*k<=i*k:=eP k m;rw[iP,Nat.one_mul]at this;rw[bo (by omega)];exact h.rd b a j c hj
   .have:(i+1)*k<=b*k:=eP k (by omega);rw[iP,Nat.one_mul]at this;rw[aY (by omega),aY (by omega)];exact h.rd b a j c hj
def aE.dY(hh:aE σ s)(hl:σ[l]?=aa (.buf E k n es)){d a:List ai}{i:Nat}(B:s.β[l]?=aa ⟨.slice (aa ⟨b,0,ae⟩) 0 i,[b]⟩)(u:(vs++d).length=i*k)(q:n<=i)(p:i<=9223372036854775807){es':Nat->List C}(f:s.w.heap[b]?=aa (.cells (vs++d).toArray E (0,0)))(D:Flat s.M k n es' a)(x:a.length=vs.length)(y:∀o,s.M b o=ae):
  aE (σ.set l (.buf E k n es')) {s with w:=s.w.setRow b (a++d).toArray}/\Step σ s (σ.set l (.buf E k n es')) {s with w:=s.w.setRow b (a++d).toArray}:=by
 have j:(s.w.setRow b (a++d).toArray).heap[b]?=aa (.cells (a++d).toArray E (0,0)):=setRow_heap s.w b _ _ E _ f;have m:∀c,c≠b->(s.w.setRow b (a++d).toArray).heap[c]?=s.w.heap[c]?:=λc e=>setRow_other s.w b c _ e;have r:s.β.set l ⟨.slice (aa ⟨b,0,ae⟩) 0 i,[b]⟩=s.β:=by apply ji;grind
 obtain⟨H,G⟩:=hh.gT (M':=s.M) (w':=s.w.setRow b (a++d).toArray) (B':=.buf E k n es') (L':=⟨.slice (aa ⟨b,0,ae⟩) 0 i,[b]⟩) hl B ⟨λ_=>rfl,bh _⟩ (by simp[World.setRow])
  (λc e F=>m c (by grind)) (λ_ _ _ _=>rfl) (λ_ _ _ h=>h) (λc z v A=>by
   have t:c≠b:=by grind
   have:=hh.mem c z v A;rw[<-this];simp only[aP]
   grind) (λc e=>⟨.inl e,by grind⟩) rfl rfl rfl
  (.inr ⟨b,i,a,d,rfl,j,by grind,q,p,D,y⟩)
 grind
def tp{α:Type}:∀{new l:List α},new.length=l.length->fI 0 new l=aa new
 |[],[],_=>rfl
 |[],_::_,h=>by grind
 |_::_,[],h=>by grind
 |n::ns,c::cs,h=>by simp only[fI,tp (new:=ns) (l:=cs) (by grind)]
def bL.KO(hT:cV P T)(h:o.op=.store t x y){f:Nat}{q:TI}{new:List A}{cc ci:List C}(hx:η x=.e (.one (.bp l (.el g k i f))))(Y:g=n)(hl:σ[l]?=aa (.buf E k n es))(hi:bJ T t=aa q)(X:kR (η y)=aa new)(V:new.length=q.size)(M:gX new=aa cc)(N:(es i).length=k->fI f cc (es i)=aa ci)(u:i<n):
  bL P o η σ .any (σ.set l (.buf E k n (pW i ci es))):=by
 intro s c hh hr;have h1:=hr x;rw[hx]at h1;obtain⟨b,c0,vs,p,S,R,a,J,L,I,U,O⟩:=LG hh hl h1 Y;have m:=mf X (hr y);have z:=mh M m;have K:=er.closed z;have G:(c y).cells.toList.length=cc.length:=by have:=z.length;grind
 replace N:=N (U.width i u);obtain⟨q1,q2⟩:=U.put u N G K;have F:(c y).cells.size=q.size:=by rw[<-V,<-m.length,jK]
 obtain⟨t1,W⟩:=hh.dY hl S J L I a q2 (by grind) O;have H:=run_storeCells_at P b (i*k+f) E (c y).cells.toList 0 (vs++p).toArray s.w a (by grind) m.cell;have B:((vs++p).toArray.toList.take (i*k+f+0)++(c y).cells.toList++(vs++p).toArray.toList.drop (i*k+f+0+(c y).cells.toList.length))=vs.take (i*k+f)++(c y).cells.toList++vs.drop (i*k+f+(c y).cells.toList.length)++p:=by grind
 rw[B]at H;refine⟨.skip,_,?_,rfl,t1,W,?_⟩
 .simp[aq,h,R,Instr.storeAt,bt,storeVar,(hT t q hi).run_sizeOf,F,H]
 .intro Q d;have e:aq c o=(do storeVar t ⟨b,i*k+f,ae⟩ (c y);pure .skip):=by simp[aq,h,R,Instr.storeAt,bt]
  rw[e]at d;have D:Q∈(storeCells ⟨b,i*k+f,ae⟩ (c y).cells.toList).events P s.w #[]:=by
   simp only[storeVar,aR,(hT t q hi).run_sizeOf,F,aV,events_sizeOf,dz,fx,cg,bT,cu,Sem.events_pure]at d;generalize(storeCells ⟨b,i*k+f,ae⟩ (c y).cells.toList).run P s.w=r at d;cases r with
   |ok v w'=>simpa using d
   |halt x w'=>simpa using d
  rcases dT (c y).cells.toList 0 (vs++p).toArray s.w #[] a (by grind) m.cell Q D with Z|⟨j,_,_,rfl⟩
  .grind
  .exact j7 (bP S) (by simp) (O _)
end
section
def aE.AN(hh:aE σ s)(f:∀o,s.M b o=ae)(g:∀o v,vs[o]?=aa v->s.w.cell? ⟨b,o,ae⟩=aa v):
  aE (σ.map λ_=>.dead) {s with M:=λa o=>if a=b then vs[o]? else s.M a o}/\∀a o v,s.M a o=aa v->(if a=b then vs[o]? else s.M a o)=aa v:=by
 have c:=hh.l9;refine⟨⟨λa o v d=>?_,c.len,λl B L hB hL=>?_,c.eO,c.lt,c.own⟩,λa o v d=>?_⟩
 .by_cases e:a=b
  .grind
  .simp only[e,cg]at d;exact c.mem a o v d
 .have:=bP hB;simp at this;rw[<-this.2];trivial
 grind
def fj.wU{M':Mem}{es:Array Event}(h:fj {s with M:=M'} es){L:Loc}(k:L∈s.β)(l:b∈L.bs)(i:∀c o v,s.M c o=aa v->M' c o=aa v)(f:∀c o v,M' c o=aa v->c=b∨s.M c o=aa v):fj s es:=by
 intro e g;have h1:=h e g;unfold oJ at h1⊢;split at h1
 .obtain⟨a1,a2,a3⟩:=h1;refine⟨a1,a2,?_⟩;rcases a3 with a3|⟨a3,a4⟩|⟨a3,v,a4⟩
  .grind
  .refine .inr (.inl ⟨a3,λd=>?_⟩);have:=a4 d;rename_i a _;cases j:s.M a.block a.off with
   |none=>rfl
   |some v=>grind
  grind
 all_goals exact h1
end
def JV(k:Nat)(f:Nat->Nat->ai):Nat->List C:=λi=>(bc k).map λj=>.val (f i j)
theorem qN{k:Nat}{f:Nat->Nat->ai}{c:C}(h:(JV k f i)[j]?=aa c):j<k/\c=.val (f i j):=by
 have a:j<k:=by have:=(bX.1 h).1;simpa[JV]using this
 simp[JV,a]at h;grind
def EY{k:Nat}{f:Nat->Nat->ai}(h:j<k):(JV k f i)[j]?=aa (.val (f i j)):=by simp[JV,h]
def Rd.exact{M:Mem}{v:ai}{t:Bool}{k n:Nat}{es:Nat->List C}(h:Rd M v (.sl t k n es)):
  ∃f:Nat->Nat->ai,Rd M v (.sl t k n (JV k f))/\(∀i,i<n->(es i).length=k)/\∀i,i<n->∀j c,(es i)[j]?=aa c->Rd M (f i j) c:=by
 cases h with
 |sl b off f a e l hk ha hm hr =>
  have d:∀i,i<n->∀j,j<k->∃c,(es i)[j]?=aa c:=λi hi j hj=>⟨_,bn (by grind)⟩
  refine⟨f,.sl b off f a e l (λi _=>by simp[JV]) ha (λi hi j c hj=>?_) (λi hi j c hj=>?_),hk,hr⟩
  .grind [qN]
  .obtain⟨h1,rfl⟩:=qN hj;obtain⟨g,h2⟩:=d i hi j h1;exact .val (hr i hi j g h2).cell
def Bw{k:Nat}{L:Loc}{a c:Option Addr}{cap:Nat}(hB:σ[l]?=aa (.buf E k n es))(g:s.β[l]?=aa L)(e:L.v=.slice c 0 cap)(d:n<=cap)(f:cap<=9223372036854775807)(j:0<cap->∃b,c=aa ⟨b,0,ae⟩/\a=aa ⟨b,0,ae⟩):gH σ s (.slice a n cap) (.bp l (.sl n k 0 n)) :=
 ⟨L.v,⟨a,c,cap,cap,rfl,d,by omega,f,e,λh=>by grind⟩,(bX.1 hB).1,λi k' n' es' he=>by rw[hB]at he;cases he;exact⟨bh _,λ_=>⟨L,g,rfl⟩⟩⟩
def sW{ie:TI}(h:lW P o x y E ie){m:Nat}{tx:Bool}{es':Nat->List C}{ρ:aB->ai}(p:aE σ s)(h1:gH σ s (ρ x) (.bp l (.sl n ie.size 0 n)))(hl:σ[l]?=aa (.buf E ie.size n es))(S:Rd s.M (ρ y) (.sl tx ie.size m es'))(H:(n+m)*ie.bytes<=140737488355328):
  ∃nx s',(aq ρ o).run P s.w=.ok nx s'.w/\Tg (σ.set l (.buf E ie.size (n+m) (cM n es es'))) s' nx (.e (.one (.bp l (.sl (n+m) ie.size 0 (n+m)))))/\aE (σ.set l (.buf E ie.size (n+m) (cM n es es'))) s'/\Step σ s (σ.set l (.buf E ie.size (n+m) (cM n es es'))) s'/\fj s ((aq ρ o).events P s.w #[]):=by
 obtain⟨t,t2,i,i2,ho,hi,hd,r,u⟩:=h.op;have B:l<σ.length:=(bX.1 hl).1;obtain⟨lv,⟨a,a0,cap,q,hv,J,Vm,K,Iu,Ys⟩,_,hx3⟩:=h1;obtain⟨L,hL,Yj⟩:=(hx3 _ _ _ _ hl).2 rfl;rw[Iu]at Yj;have Ra:q=cap:=by omega
 subst Ra;have R:0<q->∃b,a0=aa ⟨b,0,ae⟩/\a=aa ⟨b,0,ae⟩:=λh=>by grind
 have N:l<s.β.length:=(bX.1 hL).1;have Y:=bP hL;have Q:=p.box l _ L hl hL;rw[dq ho,hv];have row:0<q->∃b vs zs,a=aa ⟨b,0,ae⟩/\L=⟨.slice (aa ⟨b,0,ae⟩) 0 q,[b]⟩/\s.w.heap[b]?=aa (.cells (vs++zs).toArray E (0,0))/\(vs++zs).length=q*ie.size/\Flat s.M ie.size n es vs/\∀o,s.M b o=ae:=by
  intro G;obtain⟨b,e1,e2⟩:=R G;rcases Q with⟨_,rfl⟩|⟨k,c1,vs,zs,rfl,h3,h4,h5,h6,h7,h8⟩
  .grind
  grind
 by_cases h0:m=0
 .subst h0;have g:=jz (P:=P) (ty:=o.type) hi hd r u h.elem p (a:=a) J S;simp only[iO];have ha:cE n es (cM n es es'):=λi hi=>by simp[cM,hi]
  have XU:eG (σ.set l (.buf E ie.size n (cM n es es'))) ⟨s.β.set l L,s.M,s.w,s.own⟩ (.buf E ie.size n (cM n es es')) L:=by
   rcases Q with h3|⟨k,c1,vs,zs,S,h3,h4,h5,h6,h7,h8⟩
   .exact .inl h3
   .exact .inr ⟨k,c1,vs,zs,S,h3,h4,h5,h6,h7.EX ha,h8⟩
  have Hl:=p.gT (M':=s.M) (w':=s.w) (B':=.buf E ie.size n (cM n es es')) (L':=L) hl hL ⟨λ_=>rfl,bh _⟩ (bh _) (λ_ _ _=>rfl) (λ_ _ _ _=>rfl) (λ_ _ _ h=>h) p.mem
   (λb H=>⟨.inl H,p.lt L Y b H⟩) rfl rfl rfl XU
  refine⟨.value (.slice a n q),_,?_,?_,Hl.1,Hl.2,eU (j6 hi hd r u h.elem p J S)⟩
  .simp[g]
  .exact Bw (E:=E) (by rw[gu B]) (by grind) Yj J K R
 .by_cases f:n+m<=q
  .obtain⟨b,vs,zs,rfl,rfl,hw,F,hF,hM⟩:=row (by omega);obtain⟨d,Sm,g⟩:=kN (P:=P) (ty:=o.type) hi hd r u h.elem p hw F S f;have Rb:vs.length=n*ie.size:=hF.len;have UU:d.length=m*ie.size:=Sm.len;have hnc:n*ie.size+m*ie.size<=q*ie.size:=by rw[<-iP];exact eP _ f
   have U:((vs++zs).take (n*ie.size)++d++(vs++zs).drop (n*ie.size+d.length))=(vs++d)++zs.drop d.length:=by rw[<-Rb];simp[List.drop_append]
   rw[U]at g;have OM:=setRow_heap s.w b _ ((vs++d)++zs.drop d.length).toArray E _ hw;have E7:∀k,k≠b->(s.w.setRow b ((vs++d)++zs.drop d.length).toArray).heap[k]?=s.w.heap[k]?:=λk I=>setRow_other s.w b k _ I;obtain⟨t1,V⟩:=p.gT (M':=s.M) (w':=s.w.setRow b ((vs++d)++zs.drop d.length).toArray) (B':=.buf E ie.size (n+m) (cM n es es')) (L':=⟨.slice (aa ⟨b,0,ae⟩) 0 q,[b]⟩) hl hL ⟨λ_=>rfl,by omega⟩ (by simp[World.setRow])
    (λk I hn=>E7 k (by grind)) (λ_ _ _ _=>rfl) (λ_ _ _ h=>h) (λk o' v hmv=>by
     have CE:k≠b:=by grind
     have:=p.mem k o' v hmv;rw[<-this];simp only[aP]
     grind) (λk I=>⟨.inl I,by grind⟩) rfl rfl rfl
    (.inr ⟨b,q,vs++d,zs.drop d.length,rfl,OM,by grind,f,K,hF.append Sm,hM⟩)
   refine⟨.value (.slice (aa ⟨b,0,ae⟩) (n+m) q),_,?_,?_,t1,V,eU (mo hi hd r u h.elem p hw F S f Y (by simp) (λo _=>hM o))⟩
   .simp[g]
   .exact Bw (E:=E) (by rw[gu B]) (by simp only;rw[gu N]) rfl f K λ_=>⟨b,rfl,rfl⟩
  .have hg:q<n+m:=by omega
   obtain⟨f2,h2x,Zh,ua⟩:=S.exact;have gG:∃(M':Mem) (f0:Nat->Nat->ai),aE (σ.map λ_=>.dead) {s with M:=M'}/\(∀k o v,s.M k o=aa v->M' k o=aa v)/\Rd M' (.slice a n q) (.sl af ie.size n (JV ie.size f0))/\(∀{es},fj {s with M:=M'} es->fj s es) /\
     (∀i,i<n->(es i).length=ie.size)/\∀i,i<n->∀j c,(es i)[j]?=aa c->Rd s.M (f0 i j) c:=by
    by_cases G:0<q
    .obtain⟨b,vs,zs,rfl,rfl,hw,F,hF,hM⟩:=row G;obtain⟨c1,c2⟩:=p.AN (b:=b) (vs:=vs) hM (λo v ho=>by
      simp only[aP,hw]
      grind)
     have O:∀i,i<n->∀j c,(es i)[j]?=aa c->vs[i*ie.size+j]?=aa (vs.getD (i*ie.size+j) ah)/\Rd s.M (vs.getD (i*ie.size+j) ah) c:=by intro i hi j c A;obtain⟨v,v1,v2⟩:=hF.rd i hi j c A;grind
     have YA:∀i,i<n->∀j,j<ie.size->∃c,(es i)[j]?=aa c:=λi hi j A=>⟨_,bn (by rw[hF.width i hi];exact A)⟩
     refine⟨_,λi j=>vs.getD (i*ie.size+j) ah,c1,c2,.sl b 0 (λi j=>vs.getD (i*ie.size+j) ah) J K (by simp) (λi _=>by simp[JV]) (λ_=>rfl) (λi hi j c A=>?_) (λi hi j c A=>?_),λhe=>?_,hF.width,λi hi j c A=>(O i hi j c A).2⟩
     .obtain⟨e1,_⟩:=qN A;grind
     .obtain⟨e1,rfl⟩:=qN A;obtain⟨c',e2⟩:=YA i hi j e1;exact .val (O i hi j c' e2).2.cell
     .exact he.wU (b:=b) Y (by simp) c2 λk o v hv=>by grind
    .have e1:q=0:=by omega
     have e2:n=0:=by omega
     subst e1 e2;have z:=p.l9;exact⟨s.M,λ_ _=>ah,⟨z.mem,z.len,z.box,z.eO,z.lt,z.own⟩,λ_ _ _ h=>h,Rd.iR,λh=>h,λi hi=>by omega,λi hi=>by omega⟩
   obtain⟨M',f0,c1,c2,hR,XY,hw0,hr0⟩:=gG;have YE:Rd ({s with M:=M'}:St).M (ρ y) (.sl tx ie.size m (JV ie.size f2)):=h2x.mono c2;obtain⟨X,zs,D,W,XV,XW,hlen,g⟩:=iQ (P:=P) (s:={s with M:=M'}) (ty:=o.type) hi hd r u h.elem c1 hR YE hg H h.bytes;have Rc:=jq (P:=P) (s:={s with M:=M'}) (ty:=o.type) hi hd r u h.elem c1 hR YE hg H h.bytes;have hFs:Flat s.M ie.size (n+m) (cM n es es') X:=by
    refine⟨W.len,λi hi=>?_,λi hi j c A=>?_⟩
    .by_cases e:i<n
     .simp only[cM,e,b6];grind
     .simp only[cM,e,cg];grind
    .by_cases e:i<n
     .simp only[cM,e,b6]at A;have Z:j<ie.size:=by grind
      obtain⟨v,v1,v2⟩:=W.rd i hi j (.val (f0 i j)) (by simp only[cM,e,b6];exact EY Z);grind[Rd.eu]
     .simp only[cM,e,cg]at A;have Z:j<ie.size:=by grind
      obtain⟨v,v1,v2⟩:=W.rd i hi j (.val (f2 (i-n) j)) (by simp only[cM,e,cg];exact EY Z);grind[Rd.eu]
   have nM:∀o,s.M s.w.heap.size o=ae:=λo=>by
    cases hm:s.M s.w.heap.size o with
    |none=>rfl
    |some v=>have:=p.block hm;omega
   obtain⟨t1,V⟩:=p.gT (M':=s.M) (w':=s.w.drew.alloc (.cells (X++zs).toArray E)) (B':=.buf E ie.size (n+m) (cM n es es')) (L':=⟨.slice (aa ⟨s.w.heap.size,0,ae⟩) 0 D,[s.w.heap.size]⟩) hl hL
    ⟨λe=>absurd e (by omega),by omega⟩ (by simp) (λb H _=>cT s.w.drew _ H) (λ_ _ _ _=>rfl) (λ_ _ _ h=>h) (λb o v hm=>by
     have ug:=p.block hm;rw[<-p.mem b o v hm];simp only[aP];rw[cT s.w.drew _ ug];rfl) (λb H=>by simp at H;subst H;exact⟨.inr (bh _),by simp⟩) rfl rfl rfl (.inr ⟨s.w.heap.size,D,X,zs,rfl,dX s.w.drew _,hlen,XV,XW,hFs,nM⟩)
   refine⟨.value (.slice (aa ⟨s.w.heap.size,0,ae⟩) (n+m) D),_,?_,?_,t1,V,eU (XY Rc)⟩
   .simp only at g;simp[g]
   .exact Bw (E:=E) (by rw[gu B]) (by simp only;rw[gu N]) rfl XV XW λ_=>⟨_,rfl,rfl⟩
def bL.O6{ie:TI}(h:lW P o x y E ie){a:Nat}{tx:Bool}{es':Nat->List C}(b:η x=.e (.one (.bp l (.sl n ie.size 0 n))))(hl:σ[l]?=aa (.buf E ie.size n es))(c:∀s v,du σ s v (η y)->Rd s.M v (.sl tx ie.size a es'))(d:(n+a)*ie.bytes<=140737488355328):
  bL P o η σ (.e (.one (.bp l (.sl (n+a) ie.size 0 (n+a))))) (σ.set l (.buf E ie.size (n+a) (cM n es es'))) :=
 λs f hh hr=>sW h hh (by have:=hr x;rw[b]at this;exact this) hl (c s _ (hr y)) d
section
variable {T:List (Nat×TI)}
def bL.Y0(hT:cV P T)(h:o.op=.call {callee:=.builtin .len,args:=#[x],argTypes:=jU})(j:jU[0]?=aa t){i:TI}(hi:bJ T t=aa i)(f:i.desc=.slice E){a:Option Addr}{cap:Nat}(d:η x=.e (.one (.c (.val (.slice a n cap)))))(k:n<=9223372036854775807):bL P o η σ (.e (.one (.c (.int .i64 n)))) σ:=by
 refine .quiet λs l hh hr=>?_;have h1:=hr x;rw[d]at h1;have g:=Rd.eu (fe h1);have b:=(hT t i hi).run_underlying (w:=s.w);rw[f]at b;refine⟨.int .i64 n,?_,Rd.int (by simp only[bE];omega),?_⟩<;>
 simp[aq,h,resolve,invoke,builtin,Builtin.len_,g,b,goInt,j]
theorem bL.CZ(hT:cV P T)(h:o.op=.indexAddr t x y){i ie:TI}(hi:bJ T t=aa i)(q:i.desc=.slice E)(u:bJ T E=aa ie){cap:Nat}{j:Int}{kk:IntKind}(l:η x=.e (.one (.c (.val (.slice (aa ⟨b,off,ae⟩) n cap)))))(p:η y=.e (.one (.c (.int kk j))))(v:0<=j)(h1:j<n):bL P o η σ (.e (.one (.c (.val (.pointer (aa ⟨b,off+j.toNat*ie.size,ae⟩)))))) σ:=by
 refine .quiet λs r hh hr=>?_;have a:=hr x;rw[l]at a;have m:=Rd.eu (fe a);have h2:=hr y;rw[p]at h2;replace h2:=fe h2;generalize g:r y=vy at h2;cases h2;have k:=(hT t i hi).run_underlying (w:=s.w);rw[q]at k;obtain⟨d,rfl⟩:∃d:Nat,j=d:=⟨j.toNat,by omega⟩
 have f:d<n:=by omega
 refine⟨.pointer (aa ⟨b,off+d*ie.size,ae⟩),?_,Rd.val rfl,?_⟩<;>
 simp[aq,h,m,g,Instr.indexAt,asIntOf,k,(hT E ie u).run_sizeOf,dw,f]
def bL.SU(hT:cV P T){f:Nat}(h:o.op=.fieldAddr t x f){k:Nat}{j:TI}(g:η x=.e (.one (.c (.val (.pointer (aa ⟨b,off,ae⟩))))))(a:ki T t f=aa (k,j)):bL P o η σ (.e (.one (.c (.val (.pointer (aa ⟨b,off+k,ae⟩)))))) σ:=by refine .quiet λs i hh hr=>?_;have h1:=hr x;rw[g]at h1;have d:=Rd.eu (fe h1);exact⟨.pointer (aa ⟨b,off+k,ae⟩),by simp[aq,h,d,nb hT a],Rd.val rfl,by simp[aq,h,d,oX hT a]⟩
def bL.slice3(hT:cV P T){z:aB}(h:o.op=.slice t x ae (aa y) (aa z)){i ie:TI}(C:bJ T t=aa i)(N:i.desc=.slice E)(Q:bJ T E=aa ie){tt:Bool}{k:Nat}{q r:IntKind}{j m:Int}(L:∀s v,du σ s v (η x)->Rd s.M v (.sl tt k n es))(I:η y=.e (.one (.c (.int q j))))(K:η z=.e (.one (.c (.int r m))))(B:0<=j)(h1:j<=m)(h2:m<=n):bL P o η σ (.e (.one (.c (.sl af k j.toNat es)))) σ:=by
 refine .quiet λst ρ hh hr=>?_;have p:=L st _ (hr x);have l:=hr y;rw[I]at l;replace l:=fe l;generalize A:ρ y=vy at l;cases l;have d:=hr z;rw[K]at d;replace d:=fe d;generalize u:ρ z=vz at d;cases d;obtain⟨a,cap,vs,D,H,J,R,U,S⟩:=p.flat;rw[D]at p;have g:=(hT t i C).run_underlying (w:=st.w);rw[N]at g;have em:((m.toNat:Nat):Int)=m:=sM (by omega);have F:(bk ab n cap ae (aa (.int q j)) (aa (.int r m))).run P st.w=.ok (0,j.toNat,m.toNat) st.w:=by simp[bk,run_sliceBound (P:=P) st.w r m cap _ (by omega) (by omega),run_sliceBound (P:=P) st.w q j m.toNat _ B (by omega)]
 have O:(bk ab n cap ae (aa (.int q j)) (aa (.int r m))).events P st.w #[]=#[]:=by simp[bk,run_sliceBound (P:=P) st.w r m cap _ (by omega) (by omega),run_sliceBound (P:=P) st.w q j m.toNat _ B (by omega),dW (P:=P) st.w r m cap _ (by omega) (by omega),dW (P:=P) st.w q j m.toNat _ B (by omega)]
 refine⟨.slice a j.toNat m.toNat,?_,?_,by simp[aq,h,D,A,u,Instr.sliceAt,g,Instr.slice,F,O]⟩
 .simp[aq,h,D,A,u,Instr.sliceAt,g,Instr.slice,F,(hT E ie Q).run_sizeOf];intro _;rcases a with _|⟨b,off,sp⟩<;>simp[Addr.add]
 .cases p with
  |sl b off f _ _ _ hk ha hm' Oo =>
   exact Rd.sl b off f (by omega) (by omega) (by simp) (λi hi=>hk i (by omega)) (λG=>ha (by omega)) (λi hi j c hj=>hm' i (by omega) j c hj) (λi hi j c hj=>Oo i (by omega) j c hj)
end
structure J1(N:Nat)(σ:List bg)(s:St)(V:Nat->D)(a:Act):Prop where
 size:a.tmps.size=N
 defers:∃ls,pA σ s a.defers ls
 slot:∀t,du σ s (a.tmps.getD t ah) (V t)
def J1.Kv{V:Nat->D}{a:Act}(f:J1 N σ s V a)(h:∀t σ s v,du σ s v (V t)->du σ s v (look φ t)):cx N σ s φ a :=
 ⟨f.size,f.defers,λt=>h t _ _ _ (f.slot t)⟩
def dv(e:Edge):Bool:=Region.binds .any e
structure xh{P:aJ}(X:Cx P)(N:Nat)(ops:Array aC)(φ:Fr)(S:Nat->List bg)(x:Nat->D)(m:Nat->Fr)(free c:Nat->Bool)(p:Nat->Nat->Prop)(idx:Nat->Option Nat)(φ':Fr):Prop where
 ju:P.follows Departure.mixedOrders=ab
 back:∀i o,ops[i]?=aa o->∀e∈o.after,dv e=ab->e.on<i
 Kw:∀i o d,ops[i]?=aa o->o.dst=aa d->idx d=aa i/\d<N
 zd:∀d i,idx d=aa i->∃o,ops[i]?=aa o/\o.dst=aa d
 quiet:∀i,c i=af->S (i+1)=S i
 one:∀i o,ops[i]?=aa o->free i=af->OA X N ops.toList o (m i) (S i) (x i) (S (i+1))
 all:∀i o,ops[i]?=aa o->free i=ab->c i=af/\∀k,OA X N ops.toList o (m i) (S k) (x i) (S k)
 cl:∀L:Nat->Prop,(∀i o,ops[i]?=aa o->L i->∀e∈o.after,dv e=ab->L e.on)->∀i j,p i j->(L i->L j)/\∃o,ops[i]?=aa o/\((∀e∈o.after,dv e=ab->L e.on)->L j)
 comp:∀i f,i<ops.size->f<ops.size->c f=ab->i≠f->free i=af->(f<i/\p i f)∨(i<f/\p f i)
 UZ:∀i o,ops[i]?=aa o->∀t σ s v,du σ s v (match idx t with|some j=>(if ∃e∈o.after,dv e=ab/\e.on=j then x j else if ∃oj,ops[j]?=aa oj/\∃e∈oj.after,dv e=ab/\e.on=i then look φ t else .any)|none=>look φ t)->du σ s v (look (m i) t)
 fin:∀t σ s v,du σ s v (match idx t with|some j=>x j|none=>look φ t)->du σ s v (look φ' t)
open Classical in
noncomputable def gF(φ:Fr)(x:Nat->D)(idx:Nat->Option Nat)(L:Array Bool)(t:Nat):D :=
 match idx t with
 |some j=>if L.getD j af=ab then x j else look φ t
 |none=>look φ t
theorem mem_ready:i∈ba .any ops L↔∃o,ops[i]?=aa o/\L.getD i ab=af/\∀e∈o.after,dv e=ab->L.getD e.on af=ab:=by
 unfold ba;simp only[gN,mW,bM,j0];constructor
 .rintro⟨b,d,a⟩;rw[gq b]at a;simp only[l5,gv,Array.all_eq_true',j3,j0]at a;refine⟨ops[i],gq b,d,λe f g=>?_⟩;rcases a e f with h|h
  .unfold dv at g;grind
  grind
 .rintro⟨o,b,d,a⟩;have j:i<ops.size:=(iJ.1 b).1;refine⟨j,d,?_⟩;rw[b];simp only[l5,gv,Array.all_eq_true',j3,j0];intro e f;cases g:Region.binds .any e with
  |false=>grind
  |true=>exact .inr (a e f g)
section
variable {X:Cx P}{φ':Fr}{S:Nat->List bg}{x:Nat->D}{m:Nat->Fr}{free c:Nat->Bool}{p:Nat->Nat->Prop}{idx:Nat->Option Nat}
def xh.chain(h:xh X N ops φ S x m free c p idx φ'){i:Nat}:∀{k:Nat},i<=k->(∀g,i<=g->g<k->c g=af)->S k=S i
 |0,hk,_=>by grind
 |k+1,hk,a=>by
  rcases cN k i with hl|hl
  .grind
  .rw[h.quiet k (a k hl (by omega)),h.chain (k:=k) hl (λg h1 h2=>a g h1 (by omega))]
def xh.last(h:xh X N ops φ S x m free c p idx φ')(l:∀i,i<ops.size->L.getD i af=ab){k:Nat}{s0:St}{a:Act}(hk:k<=ops.size)(n:∀f,f<ops.size->c f=ab->(L.getD f af=ab↔f<k))(b:J1 N (S k) s (gF φ x idx L) a)(hh:aE (S k) s)(st:c6 (S 0) s0 (S k) s):
  cx N (S ops.size) s φ' a/\aE (S ops.size) s/\c6 (S 0) s0 (S ops.size) s:=by
 have d:S ops.size=S k:=h.chain hk (λg h1 h2=>by grind)
 rw[<-d]at b hh st;refine⟨b.Kv λt σ s v e=>h.fin t σ s v ?_,hh,st⟩;unfold gF at e;cases hi:idx t with
 |none=>grind
 |some j =>
  simp only[hi]at e⊢;obtain⟨o,q,_⟩:=h.zd _ _ hi;grind
theorem eW(hi:i<L.size):(L.setIfInBounds i ab).getD j af=ab↔j=i∨L.getD j af=ab:=by simp only[ef];grind
theorem count_set:∀{l:List Bool}{i:Nat},l[i]?=aa af->((l.set i ab).filter (λb=>!b)).length+1=(l.filter (λb=>!b)).length
 |[],_,h=>by grind
 |b::r,0,h=>by grind
 |b::r,i+1,h=>by simp at h;have:=count_set (l:=r) h;cases b<;>simp[List.set_cons_succ]<;>omega
theorem xi(t:Nat)(L:Array Bool):Region.linearise.go .any ops 0 t L []=[]:=by simp[Region.linearise.go]
theorem pT(n t:Nat)(L:Array Bool):Region.linearise.go .any ops (n+1) t L []=match(ba .any ops L)[t % (ba .any ops L).length]? with
  |some i=>i::Region.linearise.go .any ops n (t / (ba .any ops L).length) (L.setIfInBounds i ab) []
  |none=>[]:=by
 simp only[Region.linearise.go]
 change (match(ba .any ops L)[t % (ba .any ops L).length]? with
   |some i=>Region.linearise.go .any ops n (t / (ba .any ops L).length) (L.setIfInBounds i ab) [i]
   |none=>[].reverse)=_
 grind[linearise_go_acc]
def xh.arr(h:xh X N ops φ S x m free c p idx φ'){Y:ar->St->Prop}{b:aX}{kk:List Item}(hb:b.kind≠.early){s0:St}(hQ:∀s a,cx N (S ops.size) s φ' a->aE (S ops.size) s->c6 (S 0) s0 (S ops.size) s->fL X Y (G (b.aT a kk) cs) s):
  ∀(l:Nat) (L:Array Bool),L.size=ops.size->(L.toList.filter (λb=>!b)).length<=l ->
   (∀i o,ops[i]?=aa o->L.getD i af=ab->∀e∈o.after,dv e=ab->L.getD e.on af=ab) ->
   ∀(k:Nat) (s:St) (a:Act),k<=ops.size->(∀f,f<ops.size->c f=ab->(L.getD f af=ab↔f<k))->J1 N (S k) s (gF φ x idx L) a->aE (S k) s->c6 (S 0) s0 (S k) s ->
   ∀t,fL X Y (G (b.aT a (.inRegion ops (Region.linearise.go .any ops l t L [])::kk)) cs) s:=by
 have fin:∀(s:St) (a:Act),cx N (S ops.size) s φ' a->aE (S ops.size) s->c6 (S 0) s0 (S ops.size) s->fL X Y (G (b.aT a (.inRegion ops []::kk)) cs) s :=
  λs a a1 a2 a3=>.ctl a2 rfl (λ_=>jr) λs1 K=>hQ s1 a (a1.rely K a2) (a2.rely K) (a3.trans K.stepW)
 intro l;induction l with
 |zero =>
  intro L hs hf Z k s a hk X1 Ha hh st;have A:∀i,i<ops.size->L.getD i af=ab:=by
   intro i hi;have hm:L[i]'(by omega)∈L.toList:=by simp
   cases hb:L[i]'(by omega)with
   |true=>simp[ef,gq (by omega:i<L.size),hb]
   |false =>
    have:L[i]'(by omega)∈L.toList.filter (λb=>!b):=gN.2 ⟨hm,by grind⟩;grind
  intro t;rw[xi];obtain⟨a1,a2,a3⟩:=h.last A hk X1 Ha hh st;grind
 |succ l ih =>
  intro L hs hf Z k s a hk X1 Ha hh st;intro t;rw[pT];cases YG:(ba .any ops L)[t % (ba .any ops L).length]? with
  |none =>
   have hr:ba .any ops L=[]:=by
    cases hr:ba .any ops L with
    |nil=>rfl
    |cons y ys =>
     grind[Nat.mod_lt]
   have A:∀i,i<ops.size->L.getD i af=ab:=by
    intro i;induction i using Nat.strongRecOn with
    |_ i ihi =>
     intro hi;cases hb:L.getD i af with
     |true=>rfl
     |false =>
      have hm:i∈ba .any ops L:=mem_ready.2 ⟨ops[i],gq hi,by
       grind,λe Q hbe=>by
       have:=h.back i _ (gq hi) e Q hbe
       grind⟩
      grind
   obtain⟨a1,a2,a3⟩:=h.last A hk X1 Ha hh st;grind
  |some i =>
   have hi:=bP YG;obtain⟨o,U,X2,SD⟩:=mem_ready.1 hi;have O:i<ops.size:=(iJ.1 U).1;have F:¬L.getD i af=ab:=by grind
   have YH:=h.cl (λj=>L.getD j af=ab) Z;have aa1:∀g,p g i->¬L.getD g af=ab:=λg hg hL=>F ((YH g i hg).1 hL);have hup:∀g,p i g->L.getD g af=ab:=λg hg=>by grind
   have B:(L.setIfInBounds i ab).size=ops.size:=by grind
   have C:((L.setIfInBounds i ab).toList.filter (λb=>!b)).length<=l:=by
    have h1:L.toList[i]?=aa af:=by rw[AG,gq (by omega:i<L.size)];simpa[ef,gq (by omega:i<L.size)]using F
    grind[count_set]
   have V:∀j o',ops[j]?=aa o'->(L.setIfInBounds i ab).getD j af=ab->∀e∈o'.after,dv e=ab->(L.setIfInBounds i ab).getD e.on af=ab:=by grind[eW]
   have hfi:cx N (S k) s (m i) a:=Ha.Kv λt σ s v R=>h.UZ i o U t σ s v (by
    unfold gF at R;cases q:idx t with
    |none=>grind
    |some j =>
     simp only[q]at R⊢;split
     .grind
     .split
      .grind
      .trivial)
   have J:∀(σ':List bg) (s':St) (v:ai),c6 (S k) s σ' s'->du σ' s' v (x i)->J1 N σ' s' (gF φ x idx (L.setIfInBounds i ab)) (a.put o.dst v):=by
    intro σ' s' v r R;cases hd:o.dst with
    |none =>
     refine⟨Ha.size,Ha.defers.imp λ_ h1=>h1.mono r.ext,λt=>?_⟩;have w:=(Ha.slot t).mono r.ext hh.len;simp only[Act.put];unfold gF at w⊢;cases q:idx t with
     |none=>grind
     |some j =>
      simp only[q]at w⊢;obtain⟨oj,YI,YJ⟩:=h.zd _ _ q;grind[eW]
    |some d =>
     obtain⟨hid,hdN⟩:=h.Kw i o d U hd;refine⟨by simp[Act.put,Ha.size],Ha.defers.imp λ_ h1=>h1.mono r.ext,λt=>?_⟩;simp only[Act.put];by_cases e:d=t
     .subst e;have hs2:d<a.tmps.size:=by rw[Ha.size];exact hdN
      simp only[ef,wS hs2,gv];unfold gF;simp only[hid];rw[bo ((eW (by omega)).2 (.inl rfl))];exact R
     .have w:=(Ha.slot t).mono r.ext hh.len;simp only[ef]at w⊢;rw[wT e];unfold gF at w⊢;cases q:idx t with
      |none=>grind
      |some j =>
       simp only[q]at w⊢;obtain⟨oj,YI,YJ⟩:=h.zd _ _ q;grind[eW]
   have z:∀(k':Nat),k'<=ops.size->OA X N ops.toList o (m i) (S k) (x i) (S k')->(∀f,f<ops.size->c f=ab->((L.setIfInBounds i ab).getD f af=ab↔f<k')) ->
     fL X Y (G (b.aT a (.inRegion ops (i::Region.linearise.go .any ops l (t / (ba .any ops L).length) (L.setIfInBounds i ab) [])::kk)) cs) s:=by intro k' VD hoa YK;have:=hoa s a hfi hh b kk cs Y i (Region.linearise.go .any ops l (t / (ba .any ops L).length) (L.setIfInBounds i ab) []) hb (by grind);simp only[pJ]at this;exact this λv s' R jP r=>ih _ B C V k' s' _ VD YK (J _ _ _ r R) jP (st.trans r) _
   have same:c i=af->∀f,f<ops.size->c f=ab->((L.setIfInBounds i ab).getD f af=ab↔f<k):=by grind[eW]
   cases n:free i with
   |true =>
    obtain⟨hq,T⟩:=h.all i o U n;exact z k hk (T k) (same hq)
   |false =>
    have u:=h.one i o U n;have E:S i=S k:=by
     rcases Nat.le_total k i with M|M
     .refine h.chain M λg h1 h2=>?_;cases Q:c g with
      |false=>rfl
      |true =>
       exfalso;rcases h.comp i g O (by omega) Q (by omega) n with⟨_,W⟩|⟨W,_⟩
       .grind
       .omega
     .refine(h.chain M λg h1 h2=>?_).symm;cases Q:c g with
      |false=>rfl
      |true =>
       exfalso;have hLg:=(X1 g (by omega) Q).2 h2;by_cases SE:g=i
       .grind
       .rcases h.comp i g O (by omega) Q (λe=>SE e.symm) n with⟨W,_⟩|⟨_,W⟩
        .omega
        grind
    rw[E]at u;cases H:c i with
    |false =>
     rw[h.quiet i H,E]at u;exact z k hk u (same H)
    |true =>
     refine z (i+1) (by omega) u λf U0 X3=>?_;rw[eW (by omega)];by_cases I:f=i
     .grind
     .simp only[I,false_or];rcases h.comp i f O U0 X3 (λe=>I e.symm) n with⟨h1,W⟩|⟨h1,W⟩
      .grind
      grind
end
def CF(op:BinOp)(k:IntKind)(a:Int)(k':IntKind)(b:Int):Option (Int×List Prop) :=
 match k with
 |.u64=>match op with
  |.shl=>aa (((a.toNat*2 ^ b.toNat % 18446744073709551616:Nat):Int),[0<=b,b<=64])
  |.shr=>aa (((a.toNat / 2 ^ b.toNat:Nat):Int),[0<=b,b<=64])
  |.and=>match k' with|.u64=>aa (((a.toNat &&& b.toNat:Nat):Int),[])|_=>ae
  |.xor=>match k' with|.u64=>aa (((a.toNat ^^^ b.toNat:Nat):Int),[])|_=>ae
  |_=>ae
 |_=>ae
section
variable {T:List (Nat×TI)}
theorem bits_nat{a:Int}(h:bE .u64 a):(BitVec.ofInt IntKind.u64.bits a).toNat=a.toNat:=by rw[BitVec.toNat_ofInt];simp only[bE]at h;simp only[IntKind.bits];omega
def Iw{k k':IntKind}{a b c:Int}(t:av)(f:CF op k a k' b=aa (c,obs))(j:au obs)(g:bE k a)(o:bE k' b)(w:ay):
  bE k c/\(Go.binOp op t (.int k a) (.int k' b)).run P w=.ok (.int k c) w/\(Go.binOp op t (.int k a) (.int k' b)).events P w #[]=#[]:=by
 unfold CF at f;split at f
 .split at f
  .cases f;obtain⟨p,l⟩:0<=b/\b<=64:=j;have q:a.toNat*2 ^ b.toNat % 18446744073709551616<18446744073709551616:=jd _ (by decide);simp only[bE]at g;refine⟨by simp only[bE];omega,?_⟩;have h:IntKind.wrap .u64 (a*2 ^ (min b.toNat IntKind.u64.bits))=((a.toNat*2 ^ b.toNat % 18446744073709551616:Nat):Int):=by
    have i:min b.toNat IntKind.u64.bits=b.toNat:=by rw[show IntKind.u64.bits=64 from rfl];omega
    have m:a=(a.toNat:Int):=by omega
    rw[i,m];simp only[IntKind.wrap,IntKind.bits,IntKind.signed,b9];grind
   simp only[Go.binOp,Op.shift,aY (show¬b<0 by omega),h];exact⟨rfl,rfl⟩
  .cases f;obtain⟨p,l⟩:0<=b/\b<=64:=j;simp only[bE]at g;have n:a.toNat / 2 ^ b.toNat<=a.toNat:=Nat.div_le_self _ _;refine⟨by simp only[bE];grind,?_⟩;have h:a.fdiv (2 ^ (min b.toNat IntKind.u64.bits))=((a.toNat / 2 ^ b.toNat:Nat):Int):=by
    have i:min b.toNat IntKind.u64.bits=b.toNat:=by rw[show IntKind.u64.bits=64 from rfl];omega
    grind
   simp only[Go.binOp,Op.shift,aY (show¬b<0 by omega),h];exact⟨rfl,rfl⟩
  .split at f
   .cases f;have l:a.toNat &&& b.toNat<=a.toNat:=Nat.and_le_left;have d:bE .u64 ((a.toNat &&& b.toNat:Nat):Int):=by simp only[bE]at g⊢;omega
    refine⟨d,?_⟩;have e:(BitVec.ofInt IntKind.u64.bits a &&& BitVec.ofInt IntKind.u64.bits b).toNat=a.toNat &&& b.toNat:=by grind[bits_nat]
    simp only[Go.binOp,dz,fx,cg,Op.intBits,e,mZ d];exact⟨rfl,rfl⟩
   grind
  .split at f
   .cases f;have d:bE .u64 ((a.toNat ^^^ b.toNat:Nat):Int):=by simp only[bE]at g o⊢;have:a.toNat ^^^ b.toNat<2 ^ 64:=Nat.xor_lt_two_pow (by omega) (by omega);omega
    refine⟨d,?_⟩;have e:(BitVec.ofInt IntKind.u64.bits a ^^^ BitVec.ofInt IntKind.u64.bits b).toNat=a.toNat ^^^ b.toNat:=by grind[bits_nat]
    simp only[Go.binOp,dz,fx,cg,Op.intBits,e,mZ d];exact⟨rfl,rfl⟩
   grind
  grind
 grind
theorem bL.bits{k k':IntKind}{a b c:Int}(h:o.op=.binOp op t x y ty)(j:η x=.e (.one (.c (.int k a))))(n:η y=.e (.one (.c (.int k' b))))(m:CF op k a k' b=aa (c,obs))(p:au obs):
  bL P o η σ (.e (.one (.c (.int k c)))) σ:=by
 refine .quiet λs i hh hr=>?_;have h1:=hr x;have h2:=hr y;rw[j]at h1;rw[n]at h2;replace h1:=fe h1;replace h2:=fe h2;generalize d:i x=vx at h1;generalize f:i y=vy at h2;cases h1 with|int ha =>
 cases h2 with|int hb =>
 obtain⟨l,g,q⟩:=Iw (P:=P) t m p ha hb s.w;exact⟨.int k c,by simp only[aq,h,bT,d,f,hO,cu,g,dE],.int l,by simp[aq,h,d,f,hO,j8,g,q]⟩
end
def Flat.Vk{k q m:Nat}{AL:Nat->List C}{py:List ai}(h:Flat M k n es vs)(b:Flat M k m AL py)(d:q+m<=n):
  Flat M k n (λi=>if q<=i/\i<q+m then AL (i-q)else es i) (vs.take (q*k)++py++vs.drop (q*k+py.length)):=by
 have hl:=h.len;have g:=b.len;have r:q*k+m*k<=n*k:=by rw[<-iP];exact eP k d
 have l:(vs.take (q*k)).length=q*k:=by grind
 have a:∀p,(vs.take (q*k)++py++vs.drop (q*k+py.length))[p]?=if p<q*k then vs[p]? else if p<q*k+m*k then py[p-q*k]? else vs[p]?:=by
  intro p;by_cases c1:p<q*k
  .grind
  .rw[aY c1];by_cases c2:p<q*k+m*k
   .grind
   .rw[aY c2,gp (by grind),pK];grind
 refine⟨by grind,λi hi=>?_,λi hi j c hj=>?_⟩
 .by_cases e:q<=i/\i<q+m
  .rw[bo e];exact b.width _ (by omega)
  .rw[aY e];exact h.width i hi
 .rw[a];by_cases e:q<=i/\i<q+m
  .rw[bo e]at hj;have f:j<k:=by have:=(bX.1 hj).1;rw[b.width _ (by omega)]at this;exact this
   have e1:q*k<=i*k:=eP k e.1;have e2:i*k+k<=q*k+m*k:=by rw[<-iP,<-lO];exact eP k e.2
   rw[aY (by omega),bo (by omega)];obtain⟨v,v1,o⟩:=b.rd (i-q) (by omega) j c hj;grind[Nat.sub_mul]
  .rw[aY e]at hj;have f:j<k:=by have:=(bX.1 hj).1;rw[h.width i hi]at this;exact this
   have:i*k+j<q*k∨q*k+m*k<=i*k+j:=by
    by_cases c1:i<q
    .left;have:i*k+k<=q*k:=by rw[<-lO];exact eP k c1
     omega
    .right;have:(q+m)*k<=i*k:=eP k (by omega);grind
   rcases this with c1|c1
   .rw[bo c1];exact h.rd i hi j _ hj
   .rw[aY (by omega),aY (by omega)];exact h.rd i hi j _ hj
def wq{E k k':Nat}{d:Nat->List C}{β:List Loc}(f:Rd s.M v (.sl ab k' 0 d))(e:σ'[l]?=aa (.buf E k 0 es))(c:β[l]?=aa ⟨.slice ae 0 0,[]⟩):gH σ' {s with β:=β} v (.bp l (.sl 0 k 0 0)):=by obtain⟨a,cap,vs,g,_,_,b,_,_⟩:=f.flat;have:=b rfl;subst this;refine⟨.slice ae 0 0,⟨a,ae,0,0,g,by omega,rfl,by omega,rfl,λh=>absurd h (by omega)⟩,(bX.1 e).1,λE2 k2 n2 AL h=>?_⟩;rw[e]at h;cases h;exact⟨bh _,λ_=>⟨_,c,rfl⟩⟩
def fj.Vl{β:List Loc}{es:Array Event}(h:fj {s with β:=β++[⟨v,[]⟩]} es)(a:s.β=β):fj s es:=by
 intro e c;have h1:=h e c;have key:∀b,(∃L∈β++[(⟨v,[]⟩:Loc)],b∈L.bs)->∃L∈s.β,b∈L.bs:=λb ⟨L,f,d⟩=>by grind
 unfold oJ at h1⊢;grind
def bL.Ir{ie:TI}(h:lW P o x y E ie){k m:Nat}{tx:Bool}{es':Nat->List C}(i:η x=.e (.one (.c (.sl ab k 0 es))))(r:∀s v,du σ s v (η y)->Rd s.M v (.sl tx ie.size m es'))(t:(0+m)*ie.bytes<=140737488355328):
  bL P o η σ (.e (.one (.bp σ.length (.sl (0+m) ie.size 0 (0+m))))) (σ++[.buf E ie.size (0+m) (cM 0 es es')]):=by
 intro s u hh hr;have h1:=hr x;rw[i]at h1;have h2:=r s _ (hr y);obtain⟨w,n⟩:=hh.iy (B:=.buf E ie.size 0 es) (L:=⟨.slice ae 0 0,[]⟩) (.refl _ _) rfl hh (.inl ⟨rfl,rfl⟩) (by simp);have b:gH (σ++[.buf E ie.size 0 es]) {s with β:=s.β++[⟨.slice ae 0 0,[]⟩]} (u x) (.bp σ.length (.sl 0 ie.size 0 0)):=wq (E:=E) (es:=es) (fe h1) (by simp) (by simp[<-hh.len]);obtain⟨p,s',q,d,f,g,j⟩:=sW (P:=P) (σ:=σ++[.buf E ie.size 0 es]) (s:={s with β:=s.β++[⟨.slice ae 0 0,[]⟩]}) (l:=σ.length) (es:=es) h w b (by simp) h2 t;have a:(σ++[bg.buf E ie.size 0 es]).set σ.length (.buf E ie.size (0+m) (cM 0 es es'))=σ++[.buf E ie.size (0+m) (cM 0 es es')]:=by simp
 rw[a]at d f g;exact⟨p,s',q,d,f,n.trans g,j.Vl rfl⟩
def Is(i j m:Nat)(es:Nat->List C):Nat->List C:=λq=>if i<=q/\q<i+m then es (j+(q-i))else es q
def bL.Ke{ie:TI}(h:lW P o x y E ie){m:Nat}(hx:η x=.e (.one (.bp l (.sl n ie.size 0 i))))(hy:η y=.e (.one (.bp l (.sl n ie.size j m))))(hl:σ[l]?=aa (.buf E ie.size n es))(him:i+m<=n)(hjm:j+m<=n):
  bL P o η σ (.e (.one (.bp l (.sl n ie.size 0 (i+m))))) (σ.set l (.buf E ie.size n (Is i j m es))):=by
 intro s ρ hh hr;obtain⟨t,t2,ti,ti2,ho,hi,hd,N,S⟩:=h.op;have h1:=hr x;rw[hx]at h1;change gH σ s (ρ x) (.bp l _)at h1;have h2:=hr y;rw[hy]at h2;change gH σ s (ρ y) (.bp l _)at h2;obtain⟨lv,⟨a,a0,cap,D,hv,O,Vm,Yr,Iu,Ys⟩,_,Z⟩:=h1;obtain⟨L,hL,R⟩:=(Z _ _ _ _ hl).2 rfl;rw[Iu]at R;obtain⟨lv',⟨a',a0',f,c0',XR,Yt,acm,acn,X,aco⟩,_,Y⟩:=h2;obtain⟨L',fC,H⟩:=(Y _ _ _ _ hl).2 rfl;rw[hL]at fC;cases fC;rw[X,R]at H;cases H;have hLm:=bP hL;have hu:=hi.run_underlying (w:=s.w);have U:=N.run_underlying (w:=s.w);rw[hd]at hu;rw[S]at U;rw[dq ho,hv,XR];by_cases hn0:n=0
 .have e1:i=0:=by omega
  have e2:m=0:=by omega
  subst hn0 e1 e2;have Sl:σ.set l (.buf E ie.size 0 (Is 0 j 0 es))=σ:=by
   have:Is 0 j 0 es=es:=by funext q;simp only[Is];grind
   rw[this];apply ji;grind
  have hz:Rd s.M (.slice a' 0 f) (.sl af ie.size 0 λ_=>[]):=.sl 0 0 (λ_ _=>ah) (by omega) (by omega) (by simp) (λi hi=>by omega) (λh=>by omega) (λi hi=>by omega) (λi hi=>by omega);have I:=jz (P:=P) (ty:=o.type) hi hd N S h.elem hh (a:=a) O hz;rw[Sl];refine⟨.value (.slice a 0 cap),s,?_,?_,hh,.refl _ _,eU (j6 hi hd N S h.elem hh O hz)⟩
  .simp[I]
  .exact⟨lv,⟨a,a0,cap,D,rfl,O,Vm,Yr,Iu,Ys⟩,(bX.1 hl).1,Z⟩
 rcases hh.box l _ L hl hL with⟨e,_⟩|⟨b,c1,vs,W,rfl,g,hz1,hz2,hz3,V,hM⟩
 .grind
 cases R;have Q:0<cap:=by omega
 obtain⟨b1,e1,rfl⟩:=Ys Q;cases e1;have Ra:D=cap:=by omega
 subst Ra;rw[show b=b from rfl];have Rb:vs.length=n*ie.size:=V.len;have k:i+m<=D:=by omega
 have hik:i*ie.size+m*ie.size<=n*ie.size:=by rw[<-iP];exact eP _ him
 have hjk:j*ie.size+m*ie.size<=n*ie.size:=by rw[<-iP];exact eP _ hjm
 obtain⟨c1,c2⟩:=hh.AN (b:=b) (vs:=vs) hM (λq v F=>by
  simp only[aP,g]
  grind)
 let d:=(vs.drop (j*ie.size)).take (m*ie.size);have UU:d.length=m*ie.size:=by grind
 have hng:∀p,p<m*ie.size->d[p]?=vs[j*ie.size+p]?:=λp B=>by grind
 have Sm:Flat s.M ie.size m (λq=>es (j+q)) d:=by
  refine⟨UU,λq F=>V.width _ (by omega),λq F p c B=>?_⟩;have hpk:p<ie.size:=by have:=(bX.1 B).1;rw[V.width _ (by omega)]at this;exact this
  obtain⟨v,v1,v2⟩:=V.rd (j+q) (by omega) p c B;refine⟨v,?_,v2⟩;have hq2:q*ie.size+ie.size<=m*ie.size:=by rw[<-lO];exact eP _ F
  grind
 have r:∀v∈d,v.oneCell'=ab:=Sm.cell;have XS:Rd (λu q=>if u=b then vs[q]? else s.M u q) (.slice a' m f) (.sl af ie.size m (JV ie.size λq p=>vs.getD ((j+q)*ie.size+p) ah)):=by
  refine .sl b (j*ie.size) (λq p=>vs.getD ((j+q)*ie.size+p) ah) Yt (by omega) (by simp) (λq _=>by simp[JV]) (λB=>?_) (λq F p c B=>?_) (λq F p c B=>?_)
  .grind
  .obtain⟨p1,_⟩:=qN B;have hq2:q*ie.size+ie.size<=m*ie.size:=by rw[<-lO];exact eP _ F
   grind
  .obtain⟨p1,rfl⟩:=qN B;obtain⟨c',Yu⟩:∃c',(es (j+q))[p]?=aa c':=⟨_,bn (by rw[V.width _ (by omega)];exact p1)⟩
   obtain⟨v,v1,v2⟩:=V.rd (j+q) (by omega) p c' Yu;have e:vs.getD ((j+q)*ie.size+p) ah=v:=by grind
   rw[e];exact .val v2.cell
 obtain⟨z,Vn,hf,G⟩:=et (P:=P) (s:={s with M:=λu q=>if u=b then vs[q]? else s.M u q}) c1 XS;have hnn:z=d:=by
  apply ji;intro p;have ES:z.length=m*ie.size:=Vn.len;by_cases B:p<m*ie.size
  .have hk:0<ie.size:=by grind
   have F:p / ie.size<m:=qz (by grind);have Vo:p / ie.size*ie.size+p % ie.size=p:=qH p ie.size;obtain⟨v,v1,v2⟩:=Vn.rd _ F (p % ie.size) _ (EY (jd _ hk));rw[Vo]at v1;rw[v1,hng p B,Rd.eu v2];rw[iP,Nat.add_assoc,Vo,aj,bn (by omega)];rfl
  grind
 subst hnn;have Rc:=ir (P:=P) (s:={s with M:=λu q=>if u=b then vs[q]? else s.M u q}) c1 XS (w:=s.w) rfl;replace hf:(Builtin.firstCells ie.size m (.slice a' m f)).run P s.w=.ok d.toArray s.w:=hf;have Yv:i*ie.size+d.length<=(vs++W).length:=by grind
 have C:=run_storeCells_at P b (i*ie.size) E d 0 (vs++W).toArray s.w g (by grind) r;simp only[iO]at C;have Sn:((vs++W).toArray.toList.take (i*ie.size)++d++(vs++W).toArray.toList.drop (i*ie.size+d.length))=vs.take (i*ie.size)++d++vs.drop (i*ie.size+d.length)++W:=by grind
 rw[Sn]at C;have q2:=V.Vk Sm him;have he:(λq=>if i<=q/\q<i+m then(λq=>es (j+q)) (q-i)else es q)=Is i j m es:=rfl;rw[he]at q2;obtain⟨t1,t2'⟩:=hh.dY hl hL hz1 hz2 hz3 g q2 (by grind) hM;have A:(Builtin.lenOf (.slice a' m f)).run P s.w=.ok m s.w:=by rw[G];rfl
 have K:(Builtin.lenOf (.slice a' m f)).events P s.w #[]=#[]:=by rw[G];rfl
 refine⟨.value (.slice (aa ⟨b,0*ie.size,ae⟩) (i+m) D),_,?_,?_,t1,t2',eU ?_⟩
 .have I:(Builtin.append_ #[t,t2] o.type #[.slice (aa ⟨b,0*ie.size,ae⟩) i D,.slice a' m f]).run P s.w=.ok (.slice (aa ⟨b,0*ie.size,ae⟩) (i+m) D) (s.w.setRow b (vs.take (i*ie.size)++d++vs.drop (i*ie.size+d.length)++W).toArray):=by unfold Builtin.append_;simp only[iL,jI,ox,bT,hu,U,cu,h.elem.run_sizeOf,dE,jZ,cg,A,k,b6,oI,hf,dw,Nat.zero_mul,bF,C]
  grind[Go.Sem.run_bind,Go.Result.andThen_ok,Go.Sem.run_pure]
 .exact⟨.slice (aa ⟨b,0,ae⟩) 0 D,⟨_,_,D,D,rfl,k,by omega,Yr,rfl,λ_=>⟨b,rfl,rfl⟩⟩,by grind,λE2 k2 n2 AL XT=>by rw[gu (bX.1 hl).1]at XT;cases XT;exact⟨bh _,λ_=>⟨_,hL,rfl⟩⟩⟩
 .intro e J;unfold Builtin.append_ at J;simp only[iL,jI,ox,aR,bT,hu,U,aV,h.elem.run_sizeOf,dE,jZ,cg,A,K,k,b6,oI,hf,dw,Nat.zero_mul,bF,C,
   sV,Sem.events_ite,events_underlying,events_sizeOf,Sem.events_pure]at J
  rcases dT d 0 (vs++W).toArray s.w _ g (by grind) r e J with h3|⟨p,_,_,rfl⟩
  .have h4:fj {s with M:=λu q=>if u=b then vs[q]? else s.M u q} #[e]:=fj.one (uf (Rc e h3))
   exact h4.wU (b:=b) hLm (by simp) c2 (λu q v hv=>by grind) e (by simp)
  grind[j7]
section
variable {T:List (Nat×TI)}
theorem bL.slice3B(hT:cV P T){w z:aB}(h:o.op=.slice t x (aa w) (aa y) (aa z)){D ie:TI}(F:bJ T t=aa D)(N:D.desc=.slice E)(V:bJ T E=aa ie){g k q:Nat}{v s u:IntKind}{i j m:Int}(L:η x=.e (.one (.bp l (.sl g k q n))))(O:η w=.e (.one (.c (.int v i))))(J:η y=.e (.one (.c (.int s j))))(K:η z=.e (.one (.c (.int u m))))(X:0<=i)(h1:i<=j)(h2:j<=m)(W:m<=n):bL P o η σ (.e (.one .any)) σ:=by
 refine .quiet λst ρ hh hr=>?_;have r:=hr x;rw[L]at r;change gH σ st (ρ x) (.bp l _)at r;obtain⟨lv,⟨a,a0,cap,Y,H,S,I,U,M,R⟩,_,_⟩:=r;have f:=hr w;rw[O]at f;replace f:=fe f;generalize C:ρ w=vw at f;cases f;have p:=hr y;rw[J]at p;replace p:=fe p;generalize B:ρ y=vy at p;cases p;have b:=hr z;rw[K]at b;replace b:=fe b;generalize A:ρ z=vz at b;cases b;have d:=(hT t D F).run_underlying (w:=st.w);rw[N]at d;have G:(bk ab n cap (aa (.int v i)) (aa (.int s j)) (aa (.int u m))).run P st.w=.ok (i.toNat,j.toNat,m.toNat) st.w:=by simp[bk,run_sliceBound (P:=P) st.w u m cap _ (by omega) (by omega),run_sliceBound (P:=P) st.w s j m.toNat _ (by omega) (by omega),run_sliceBound (P:=P) st.w v i j.toNat _ (by omega) (by omega)]
 have Q:(bk ab n cap (aa (.int v i)) (aa (.int s j)) (aa (.int u m))).events P st.w #[]=#[]:=by
  simp[bk,run_sliceBound (P:=P) st.w u m cap _ (by omega) (by omega),run_sliceBound (P:=P) st.w s j m.toNat _ (by omega) (by omega),run_sliceBound (P:=P) st.w v i j.toNat _ (by omega) (by omega),
   dW (P:=P) st.w u m cap _ (by omega) (by omega),dW (P:=P) st.w s j m.toNat _ (by omega) (by omega),dW (P:=P) st.w v i j.toNat _ (by omega) (by omega)]
 refine⟨.slice (if m.toNat=i.toNat then a else a.map (·.add (i.toNat*ie.size))) (j.toNat-i.toNat) (m.toNat-i.toNat),?_,rfl,by simp[aq,h,H,C,B,A,Instr.sliceAt,d,Instr.slice,G,Q]⟩;simp[aq,h,H,C,B,A,Instr.sliceAt,d,Instr.slice,G,(hT E ie V).run_sizeOf]
end
section drop
variable {σ1 rest:List bg}
def St.cut(s:St)(n:Nat):St:={s with β:=s.β.take n}
def gH.drop{a:A}(r:gH (σ1++rest) s v a)(d:Iy σ1.length a=ab):gH σ1 (s.cut σ1.length) v a:=by
 have lt:∀{l:Nat},bD (l+1) σ1.length=ab->l<σ1.length:=λh=>dr h;cases a with
 |c x=>exact r
 |any=>exact r
 |ptr l o =>
  have hl:=lt d;obtain⟨f,L,b,i,g⟩:=r;refine⟨λB m=>f B (by grind),L,b,?_,g⟩;simp only[St.cut,gL,hl,b6];exact i
 |ref l =>
  have hl:=lt d;obtain⟨f,L,i,g⟩:=r;refine⟨λB m=>f B (by grind),L,?_,g⟩;simp only[St.cut,gL,hl,b6];exact i
 |bp l w =>
  have hl:=lt d;obtain⟨lv,f,_,g⟩:=r;refine⟨lv,f,hl,λE k' n' es' m=>?_⟩;obtain⟨h1,h2⟩:=g E k' n' es' (by grind);refine⟨h1,λe=>?_⟩;obtain⟨L,j,p⟩:=h2 e;refine⟨L,?_,p⟩;simp only[St.cut,gL,hl,b6];exact j
 |vec l k n es =>
  have hl:=lt d;obtain⟨f,_,g⟩:=r;refine⟨f,hl,λE k' n' es' m=>?_⟩;obtain⟨h1,h2⟩:=g E k' n' es' (by grind);refine⟨h1,λe=>?_⟩;obtain⟨L,j,p⟩:=h2 e;refine⟨L,?_,p⟩;simp only[St.cut,gL,hl,b6];exact j
def er.uv:∀{vs:List ai}{cs:List A},er (σ1++rest) s vs cs->G6 σ1.length cs=ab->er σ1 (s.cut σ1.length) vs cs
 |[],[],_,_=>trivial
 |[],_::_,r,_=>r.elim
 |_::_,[],r,_=>r.elim
 |v::vs,c::cs,r,h=>by
  simp only[G6]at h;cases a:Iy σ1.length c with
  |false=>grind
  |true=>simp only[a]at h;exact⟨r.1.drop a,er.uv r.2 h⟩
def ow.uv{v:ai}{e:E1}(r:ow (σ1++rest) s v e)(h:CN σ1.length e=ab):ow σ1 (s.cut σ1.length) v e:=by
 cases e with
 |one a=>exact gH.drop r h
 |agg cs=>obtain⟨vs,h1,h2⟩:=r;exact⟨vs,h1,er.uv h2 h⟩
def im.uv:∀{vs:List ai}{cs:List E1},im (σ1++rest) s vs cs->zb σ1.length cs=ab->im σ1 (s.cut σ1.length) vs cs
 |[],[],_,_=>trivial
 |[],_::_,r,_=>r.elim
 |_::_,[],r,_=>r.elim
 |v::vs,c::cs,r,h=>by
  simp only[zb]at h;cases a:CN σ1.length c with
  |false=>grind
  |true=>simp only[a]at h;exact⟨ow.uv r.1 a,im.uv r.2 h⟩
def du.drop{d:D}(r:du (σ1++rest) s v d)(h:w7 σ1.length d=ab):du σ1 (s.cut σ1.length) v d:=by
 cases d with
 |e x=>exact ow.uv r h
 |fD xs=>obtain⟨vs,h1,h2⟩:=r;exact⟨vs,h1,im.uv h2 h⟩
 |any=>trivial
def c6.drop{σ0:List bg}{s0:St}(st:c6 σ0 s0 (σ1++rest) s)(c:σ0.length<=σ1.length):c6 σ0 s0 σ1 (s.cut σ1.length):=by refine⟨st.size,st.fA,st.mem,st.jo,λL a b d=>st.wu L (fN a) b d,?_,st.os,st.tape,st.output,st.own⟩;intro l B L hB a;obtain⟨B',L',h1,h2,e⟩:=st.box l B L hB a;have hl:l<σ1.length:=c9 (bX.1 hB).1 c;rw[jH hl]at h1;exact⟨B',L',h1,by simp only[St.cut,gL,hl,b6];exact h2,e⟩
def gH.tj{a:A}(hl:s.β.length=σ.length)(r:gH σ s v a):Iy σ.length a=ab:=by
 have ok:∀{l:Nat},l<σ.length->bD (l+1) σ.length=ab:=λh=>sL h;have lt:∀{l:Nat} {L:Loc},s.β[l]?=aa L->l<σ.length:=λh=>by grind
 cases a with
 |c x=>rfl
 |any=>rfl
 |ptr l o=>obtain⟨_,L,b,d,_⟩:=r;exact ok (lt d)
 |ref l=>obtain⟨_,L,d,_⟩:=r;exact ok (lt d)
 |bp l w=>obtain⟨lv,_,h,_⟩:=r;exact ok h
 |vec l k n es=>exact ok r.2.1
def er.tj{σ:List bg}(hl:s.β.length=σ.length):∀{vs:List ai}{cs:List A},er σ s vs cs->G6 σ.length cs=ab
 |[],[],_=>rfl
 |[],_::_,r=>r.elim
 |_::_,[],r=>r.elim
 |v::vs,c::cs,r=>by simp only[G6,r.1.tj hl];exact er.tj hl r.2
def ow.tj{σ:List bg}(hl:s.β.length=σ.length){v:ai}{e:E1}(r:ow σ s v e):CN σ.length e=ab:=by
 cases e with
 |one a=>exact gH.tj hl r
 |agg cs=>obtain⟨vs,_,h⟩:=r;exact er.tj hl h
def im.tj{σ:List bg}(hl:s.β.length=σ.length):∀{vs:List ai}{cs:List E1},im σ s vs cs->zb σ.length cs=ab
 |[],[],_=>rfl
 |[],_::_,r=>r.elim
 |_::_,[],r=>r.elim
 |v::vs,c::cs,r=>by simp only[zb,ow.tj hl r.1];exact im.tj hl r.2
def du.tj{σ:List bg}(hl:s.β.length=σ.length){v:ai}{d:D}(r:du σ s v d):w7 σ.length d=ab:=by
 cases d with
 |e x=>exact ow.tj hl r
 |fD xs=>obtain⟨vs,_,h⟩:=r;exact im.tj hl h
 |any=>rfl
def Fe(n:Nat)(σ0:List bg)(l:Nat)(B:bg):Prop:=(∃E cs,B=.cells E cs/\G6 n cs=ab)∨σ0[l]?=aa B∨(∃N φ r r',B=.loop N φ r/\σ0[l]?=aa (.loop N φ r'))∨((∀E cs,B≠.cells E cs)/\∀N φ r,B≠.loop N φ r)
def aE.Rj{s0:St}{σ0:List bg}(j:aE σ0 s0)(a:σ0.length=σ1.length)(w:∀(l:Nat)(B:bg),σ1[l]?=aa B->Fe σ1.length σ0 l B)(h:aE (σ1++rest) s):aE σ1 (s.cut σ1.length):=by
 have hl:σ1.length<=s.β.length:=by rw[h.len];simp
 refine⟨h.mem,by simp[St.cut,hl],?_,?_,?_,λb i=>⟨(h.own b i).1,λL d=>(h.own b i).2 L (fN d)⟩⟩
 .intro l B L hB d;have m:l<σ1.length:=(bX.1 hB).1;simp only[St.cut,gL,m,b6]at d;have c:=h.box l B L (by grind) d;have f:∃o,s0.β[l]?=aa o:=⟨_,bn (by rw[j.len,a];exact m)⟩
  obtain⟨o,f⟩:=f;have x:=j.len.trans a;cases B with
  |cells E cs =>
   obtain⟨b,vs,h1,h2,v,p⟩:=c;refine⟨b,vs,h1,h2,er.uv v ?_,p⟩;rcases w l _ hB with⟨_,_,e,q⟩|q|⟨_,_,_,_,e,_⟩|q
   .grind
   .obtain⟨_,_,_,_,C,_⟩:=j.box l _ o q f;exact a▸C.tj j.len
   .cases e
   grind
  |vec E k n es=>exact c
  |cj H=>exact c
  |dead=>trivial
  |loop N φ r =>
   obtain⟨l',tmps,fn,A,h1,h2,v,p,z⟩:=c;have key:∃r',σ0[l]?=aa (.loop N φ r'):=by
    rcases w l _ hB with⟨_,_,e,_⟩|q|⟨_,_,_,r',e,q⟩|q
    .cases e
    .grind
    .grind
    grind
   obtain⟨r',q⟩:=key;obtain⟨_,_,_,_,_,_,_,y,_⟩:=j.box l _ o q f;exact⟨l',tmps,fn,A,h1,h2,v,λt=>(p t).drop (a▸(y t).tj j.len),z⟩
  |rX=>exact c
  |buf E k n es=>exact c
 .intro l l' L L' d g b i u;simp only[St.cut,gL]at d g;split at d<;>split at g<;>first|exact h.eO l l' L L' d g b i u|grind|grind
 .intro L d b i;exact h.lt L (fN d) b i
def aE.VM{s0:St}(a:aE σ1 s0)(h:aE (σ1++rest) s):aE σ1 (s.cut σ1.length):=a.Rj rfl (λ_ _ h=>.inr (.inl h)) h
def OA.CU{X:Cx P}{k:Nat}(h:OA X N all o φ σ (.e (.one (.vec σ.length k n es))) (σ++[.vec E k n es])):OA X N all o φ σ (.e (.one (.c (.sl af k n es)))) σ:=by
 intro s a f hh b kk cs S i rest d hi hK;refine h s a f hh b kk cs S i rest d hi λv s' hv jP st=>?_;have g:eH s' (s'.cut σ.length):=⟨rfl,λ_ _ _ h=>h,λ_ _ _=>rfl,jP.mem,λb d=>d.imp id λ⟨L,j,d⟩=>⟨L,fN j,d⟩⟩
 exact .ghost g (hK v (s'.cut σ.length) hv.1 (hh.VM jP) (st.drop (bh _)))
end drop
end Go.AM
