/- Part 1. No condition. -/
import Derived.Tactics2
import Derived.Conc.Own
import Derived.Conc.Events
import Derived.Conc.Listed
import Derived.Laws.CopyRow
import Derived.Laws.AppendOwn
import Derived.Laws.Rows
import Derived.Laws.Strings
import Derived.Laws.Cells
import Derived.Lib.Strings
import Derived.Laws.Slices
import Derived.Orders
import Derived.Laws.StructEq
set_option linter.all false
set_option maxHeartbeats 8000000
open Go.Conc (G)
open Go renaming Value → aj, TypeId → av, Frame → aU, FuncId → aM, execOp → an, undef → ai, Operand → aE, World → aA, Program → aK, Oper → aD, Goroutine → ak, stepG → aH
open Option renaming some → aa, none → af
open Bool renaming true → ab, false → ae
open Go.Region renaming wanted → a9, ready → aX
open Go.World renaming cell? → aR
open List renaming getD_eq_getElem?_getD → ah, range → bg
open Go.Builtin renaming append_ → bj
open Go.Sem renaming events_bind → aP
open Go.Result renaming evThen_ok → aV
open Go.Instr renaming sliceBounds → bk
open Nat renaming beq → az, ble → bC
open Go.Op renaming bytesLess → bd
set_option linter.defProp false
set_option linter.deprecated false
namespace Go
def bn:=@_root_.List.getElem?_eq_getElem
def aq:=@_root_.trivial
def bh:=@_root_.decide_eq_true_eq
def aB:=@_root_.and_true
def aC:=@_root_.true_and
def bM:=@_root_.decide_eq_false_iff_not
def cf:=@_root_.List.getElem?_eq_some_iff
def bD:=@_root_.Int.toNat_natCast
def bL:=@_root_.List.mem_of_getElem?
def b5:=@_root_.Nat.eq_of_beq_eq_true
def ba:=@_root_.Nat.le_refl
def bJ:=@_root_.Bool.and_eq_true
def bT:=@_root_.List.length_append
def bz:=@_root_.Nat.zero_add
def dK:=@_root_.Array.getD_eq_getD_getElem?
def cA:=@_root_.Nat.lt_of_lt_of_le
def cw:=@_root_.Go.Result.andThen_ok
def cB:=@_root_.List.take_length
def bU:=@_root_.Go.Sem.run_bind
def eX:=@_root_.Array.getElem?_eq_some_iff
def aW:=@_root_.if_neg
def dG:=@_root_.beq_eq_false_iff_ne
def dm:=@_root_.Option.some.injEq
def eb:=@_root_.List.length_singleton
def dL:=@_root_.List.getElem_of_mem
def ez:=@_root_.Nat.le_of_ble_eq_true
def ek:=@_root_.Nat.mul_le_mul_right
def fR:=@_root_.List.getElem?_append_right
def bc:=@_root_.if_pos
def dc:=@_root_.decide_eq_true
def gg:=@_root_.Array.getElem?_eq_getElem
def cM:=@_root_.Nat.lt_or_ge
def cY:=@_root_.Go.Sem.run_pure
def eK:=@_root_.List.getElem?_take
def en:=@_root_.List.length_cons
def gw:=@_root_.List.getElem?_set_self
def iV:=@_root_.List.eq_nil_of_length_eq_zero
def b6:=@_root_.if_false
def iE:=@_root_.List.getElem?_append_left
def fD:=@_root_.not_true_eq_false
def gT:=@_root_.List.getElem?_toArray
def iF:=@_root_.List.getElem?_cons_zero
def bY:=@_root_.if_true
def er:=@_root_.Bool.not_true
def ff:=@_root_.List.mem_append
def eL:=@_root_.Bool.true_and
def gx:=@_root_.Option.getD_some
def eY:=@_root_.List.mem_cons
def fE:=@_root_.Bool.not_false
def jm:=@_root_.List.take_append_drop
def g9:=@_root_.List.ext_getElem?
def hI:=@_root_.Bool.not_eq_true'
def iG:=@_root_.Bool.false_eq_true
def iW:=@_root_.Array.length_toList
def gH:=@_root_.decide_eq_false
def nv:=@_root_.Array.getElem?_setIfInBounds_ne
def kL:=@_root_.List.getElem?_cons_succ
def ll:=@_root_.List.pairwise_iff_getElem
def iX:=@_root_.List.mem_singleton
def fG:=@_root_.Nat.le_trans
def jR:=@_root_.List.mem_of_mem_take
def dA:=@_root_.congrArg
def fS:=@_root_.Nat.add_zero
def eG:=@_root_.beq_iff_eq
def hO:=@_root_.List.length_nil
def kM:=@_root_.List.getElem?_set_ne
def mv:=@_root_.Array.getElem?_replicate
def jo:=@_root_.List.append_assoc
def qA:=@_root_.List.findIdx?_eq_some_iff_getElem
def iY:=@_root_.Nat.not_lt_zero
def ln:=@_root_.List.mem_iff_getElem
def jq:=@_root_.List.foldl_cons
def jS:=@_root_.beq_self_eq_true
def gI:=@_root_.Nat.add_mul
def mx:=@_root_.List.mem_cons_of_mem
def jT:=@_root_.List.length_map
def lq:=@_root_.List.take_add_one
def vj:=@_root_.Array.getElem?_setIfInBounds_self_of_lt
def qB:=@_root_.Array.mapM_eq_mapM_toList
def jr:=@_root_.Nat.beq_refl
def lr:=@_root_.List.append_nil
def cT:=@_root_.ne_eq
def nw:=@_root_.Nat.eq_zero_or_pos
def my:=@_root_.Option.bind_some
def ny:=@_root_.bne_self_eq_false
def mz:=@_root_.Option.map_some
def mD:=@_root_.Bool.or_eq_true
def sE:=@_root_.List.drop_eq_getElem_cons
def qC:=@_root_.List.getElem?_eq_none
def oE:=@_root_.List.mem_cons_self
def nz:=@_root_.List.getElem_mem
def oF:=@_root_.List.getElem?_drop
def lu:=@_root_.Prod.mk.injEq
def kN:=@_root_.Nat.succ_mul
def nA:=@_root_.Option.some.inj
def sF:=@_root_.Option.map_eq_some_iff
def oG:=@_root_.Bool.not_eq_true
def qD:=@_root_.List.pairwise_cons
def nB:=@_root_.List.mapM_cons
def sG:=@_root_.List.length_filter_le
def pv:=@_root_.Array.mem_of_getElem?
def nC:=@_root_.not_false_eq_true
def js:=@_root_.decide_true
def nD:=@_root_.List.getElem?_map
def pw:=@_root_.Array.toArray_toList
def iO:=@_root_.Nat.mod_lt
def kZ:=@_root_.List.map_cons
def j9:=@_root_.Nat.zero_le
def px:=@_root_.Nat.add_sub_cancel
def nE:=@_root_.List.mem_filter
def nF:=@_root_.Bool.eq_iff_iff
def rj:=@_root_.Bool.and_eq_false_iff
def py:=@_root_.of_decide_eq_true
def k6:=@_root_.Nat.mul_one
def rl:=@_root_.Nat.div_lt_of_lt_mul
def l7:=@_root_.decide_false
def l8:=@_root_.Nat.sub_zero
def pz:=@_root_.List.not_mem_nil
def pA:=@_root_.List.drop_length
def uG:=@_root_.Nat.lt_succ_iff_lt_or_eq
def pC:=@_root_.UInt8.toNat_inj
def rm:=@_root_.Int.emod_lt_of_pos
def rn:=@_root_.Bool.not_eq_false'
def uH:=@_root_.Nat.le_mul_of_pos_right
def nG:=@_root_.List.mem_map
def rq:=@_root_.List.flatMap_cons
def pD:=@_root_.Bool.false_and
def uI:=@_root_.Nat.ble_eq_true_of_le
def l9:=@_root_.Nat.not_lt
def rr:=@_root_.Nat.div_add_mod'
def ru:=@_root_.List.length_drop
def yY:=@_root_.List.find?_eq_some_iff_getElem
def rv:=@_root_.List.filter_cons
def ry:=@_root_.List.ext_getElem
def uJ:=@_root_.List.pairwise_append
def rz:=@_root_.Int.emod_nonneg
def uK:=@_root_.Nat.mul_le_mul_left
def rA:=@_root_.List.mem_range
def yZ:=@_root_.List.length_eraseIdx_of_lt
def uL:=@_root_.List.filter_append
def y0:=@_root_.List.findIdx?_eq_none_iff
def uM:=@_root_.List.foldl_append
def pE:=@_root_.Go.Sem.run_ite
def y3:=@_root_.Nat.add_sub_cancel_left
def pF:=@_root_.bne_iff_ne
def y4:=@_root_.List.range_succ_eq_map
def y5:=@_root_.Array.getElem?_eq_none
def y6:=@_root_.List.contains_iff_mem
def y7:=@_root_.Array.getElem?_toList
def y8:=@_root_.Array.getElem?_modify
def nH:=@_root_.and_self
def uN:=@_root_.Option.some_or
def y9:=@_root_.List.mem_of_mem_drop
def za:=@_root_.List.getElem?_append
def rB:=@_root_.Int.le_refl
def zb:=@_root_.Nat.add_sub_cancel'
def zc:=@_root_.List.map_congr_left
def zd:=@_root_.List.length_pos_iff
def ze:=@_root_.Int.toNat_of_nonneg
end Go
namespace Go.AM
inductive C where
  | int (k:IntKind) (n:Int)
  | bool (b:Bool)
  | str (s:List UInt8)
  | sl (tight:Bool) (k n:Nat) (es:Nat->List C)
  | rp (cs:List C)
  | oK
  | ifs (t:av) (c:C)
  | Mo (t:av) (cs:List C)
  | oN
  | fn (f:Fn) (first cap:List C)
  | zm
  | val (x:aj)
inductive BP where
  | sl (g k o n:Nat)
  | el (g k i f:Nat)
def BP.g:BP->Nat
  | .sl g _ _ _=>g
  | .el g _ _ _=>g
def BP.K:BP->aj->aj->Prop
  | .sl _ k o n,lv,v=>∃a a0 cap c0,v=.slice a n cap/\n<=cap/\o+cap=c0/\c0<=9223372036854775807/\lv=.slice a0 0 c0/\(0<cap->∃b,a0=aa ⟨b,0,af⟩/\a=aa ⟨b,o*k,af⟩)
  | .el _ k i f,lv,v=>∃b c0,lv=.slice (aa ⟨b,0,af⟩) 0 c0/\v=.pointer (aa ⟨b,i*k+f,af⟩)
inductive A where
  | c (x:C)
  | ptr (l off:Nat)
  | vec (l k n:Nat) (es:Nat->List C)
  | ref (l:Nat)
  | bp (l:Nat) (w:BP)
  | any
abbrev A.v(x:aj):A:=.c (.val x)
inductive E1 where
  | one (a:A)
  | agg (cs:List A)
inductive D where
  | e (x:E1)
  | fK (xs:List E1)
  | any
abbrev Fr:=List (Nat×D)
def look:Fr->Nat->D
  | [],_=>.any
  | (i,d)::r,t=>cond (az i t) d (look r t)
inductive bm where
  | cells (E:av) (cs:List A)
  | vec (E:av) (k n:Nat) (es:Nat->List C)
  | dg (H:aj->(Nat->Option Obj)->Prop)
  | dead
  | loop (N:Nat) (φ:Fr) (r:Loop)
  | rG
  | buf (E:av) (k n:Nat) (es:Nat->List C)
@[simp] def bm.gr:bm->Bool
  | .vec _ _ _ _=>ab
  | .buf _ _ _ _=>ab
  | _=>ae
structure Loc where
  v:aj
  bs:List Nat
abbrev Mem:=Nat->Nat->Option aj
structure St where
  β:List Loc
  M:Mem
  w:aA
  own:Nat->Prop
def bt:IntKind->Int->Prop
  | .i8,n=>-128<=n/\n<=127
  | .i16,n=>-32768<=n/\n<=32767
  | .i32,n=>-2147483648<=n/\n<=2147483647
  | .i64,n=>-9223372036854775808<=n/\n<=9223372036854775807
  | .u8,n=>0<=n/\n<=255
  | .u16,n=>0<=n/\n<=65535
  | .u32,n=>0<=n/\n<=4294967295
  | .u64,n=>0<=n/\n<=18446744073709551615
def dn:aj->Bool
  | .agg _|.tuple _=>ae
  | _=>ab
def BP.K.cell{w:BP}{lv v:aj}(h:w.K lv v):dn v=ab:=by
  cases w with
  | sl=>obtain⟨_,_,_,_,rfl,_⟩:=h;rfl
  | el=>obtain⟨_,_,_,rfl⟩:=h;rfl
inductive Rd (M:Mem):aj->C->Prop
  | int {k:IntKind} {n:Int} (h:bt k n):Rd M (.int k n) (.int k n)
  | bool {b:Bool}:Rd M (.bool b) (.bool b)
  | str {s:ByteArray} {l:List UInt8} (h:s.data.toList=l) (hl:l.length<=9223372036854775807):Rd M (.string s) (.str l)
  | sl {a:Option Addr} {n cap:Nat} {tight:Bool} {k:Nat} {es:Nat->List C} (b off:Nat) (f:Nat->Nat->aj)
      (GG:n<=cap) (hb:cap<=9223372036854775807) (ht:tight=ab->cap=n) (hk:∀i,i<n->(es i).length=k)
      (ha:0<n->a=aa ⟨b,off,af⟩)
      (hm:∀i,i<n->∀j c,(es i)[j]?=aa c->M b (off+i*k+j)=aa (f i j))
      (hr:∀i,i<n->∀j c,(es i)[j]?=aa c->Rd M (f i j) c):Rd M (.slice a n cap) (.sl tight k n es)
  | rp {cs:List C} (b off:Nat) (f:Nat->aj)
      (hm:∀j c,cs[j]?=aa c->M b (off+j)=aa (f j))
      (hr:∀j c,cs[j]?=aa c->Rd M (f j) c):Rd M (.pointer (aa ⟨b,off,af⟩)) (.rp cs)
  | oK:Rd M (.pointer af) .oK
  | ifs {t:av} {v:aj} {c:C} (h:Rd M v c) (hc:dn v=ab):Rd M (.iface t v) (.ifs t c)
  | Mo {t:av} {vs:List aj} {cs:List C} (hl:vs.length=cs.length)
      (f:Nat->aj) (hf:∀j,j<vs.length->vs[j]?=aa (f j)) (hr:∀j c,cs[j]?=aa c->Rd M (f j) c):Rd M (.iface t (.agg vs.toArray)) (.Mo t cs)
  | oN:Rd M .nilIface .oN
  | fn {g:Fn} {first cap:List C} (fs cs:List aj) (hl:fs.length=first.length) (Df:cs.length=cap.length) (f1 f2:Nat->aj)
      (h1:∀j,j<fs.length->fs[j]?=aa (f1 j)) (h2:∀j,j<cs.length->cs[j]?=aa (f2 j))
      (r1:∀j c,first[j]?=aa c->Rd M (f1 j) c) (r2:∀j c,cap[j]?=aa c->Rd M (f2 j) c):Rd M (.func g fs.toArray cs.toArray) (.fn g first cap)
  | zm:Rd M .nilFunc .zm
  | val {x:aj} (h:dn x=ab):Rd M x (.val x)
theorem Rd.fN{M:Mem}{v x:aj}(h:Rd M v (.val x)):v=x:=by cases h;rfl
def Rd.cell{M:Mem}{v:aj}{c:C}(h:Rd M v c):dn v=ab:=by cases h<;>first|rfl|assumption
def Rd.mono{M M':Mem}(d:∀b o v,M b o=aa v->M' b o=aa v){v:aj}{c:C}(h:Rd M v c):Rd M' v c:=by
  induction h with
  | int h=>exact .int h
  | bool=>exact .bool
  | str h hl=>exact .str h hl
  | sl b off f a hb ht hk ha hm hr ih =>
    exact .sl b off f a hb ht hk ha (λi hi j c hj=>d _ _ _ (hm i hi j c hj)) (λi hi j c hj=>ih i hi j c hj)
  | rp b off f hm hr ih=>exact .rp b off f (λj c hj=>d _ _ _ (hm j c hj)) (λj c hj=>ih j c hj)
  | oK=>exact .oK
  | ifs h e ih=>exact .ifs ih e
  | Mo hl f g hr ih=>exact .Mo hl f g (λj c hj=>ih j c hj)
  | oN=>exact .oN
  | fn fs cs hl Df f1 f2 h1 h2 r1 r2 Zm Zn=>exact .fn fs cs hl Df f1 f2 h1 h2 (λj c hj=>Zm j c hj) (λj c hj=>Zn j c hj)
  | zm=>exact .zm
  | val h=>exact .val h
def gD(σ:List bm)(s:St)(v:aj):A->Prop
  | .c x=>Rd s.M v x
  | .ptr l off=>(∀B,σ[l]?=aa B->B.gr=ae)/\∃L b,s.β[l]?=aa L/\L.v=.pointer (aa ⟨b,0,af⟩)/\v=.pointer (aa ⟨b,off,af⟩)
  | .vec l k n es=>Rd s.M v (.sl ae k n es)/\l<σ.length/\∀E k' n' es',σ[l]?=aa (bm.vec E k' n' es')->n<=n'/\(n'=n->∃L,s.β[l]?=aa L/\v=L.v)
  | .ref l=>(∀B,σ[l]?=aa B->B.gr=ae)/\∃L,s.β[l]?=aa L/\v=L.v/\dn v=ab
  | .bp l w=>∃a,w.K a v/\l<σ.length/\∀E k n es,σ[l]?=aa (bm.buf E k n es)->w.g<=n/\(w.g=n->∃L,s.β[l]?=aa L/\L.v=a)
  | .any=>dn v=ab
def dT(σ:List bm)(s:St):List aj->List A->Prop
  | [],[]=>True
  | v::vs,a::al=>gD σ s v a/\dT σ s vs al
  | _,_=>False
def nq(σ:List bm)(s:St)(v:aj):E1->Prop
  | .one a=>gD σ s v a
  | .agg cs=>∃vs:List aj,v=.agg vs.toArray/\dT σ s vs cs
def gN(σ:List bm)(s:St):List aj->List E1->Prop
  | [],[]=>True
  | v::vs,a::al=>nq σ s v a/\gN σ s vs al
  | _,_=>False
def dk(σ:List bm)(s:St)(v:aj):D->Prop
  | .e x=>nq σ s v x
  | .fK xs=>∃vs:List aj,v=.tuple vs.toArray/\gN σ s vs xs
  | .any=>True
def cn(σ:List bm)(s:St):List aj->List D->Prop
  | [],[]=>True
  | v::vs,a::al=>dk σ s v a/\cn σ s vs al
  | _,_=>False
structure Flat(M:Mem)(k n:Nat)(es:Nat->List C)(vs:List aj):Prop where
  len:vs.length=n*k
  width:∀i,i<n->(es i).length=k
  rd:∀i,i<n->∀(j:Nat) (c:C),(es i)[j]?=aa c->∃v,vs[i*k+j]?=aa v/\Rd M v c
def Flat.mono{M M':Mem}(a:∀b o v,M b o=aa v->M' b o=aa v){k n:Nat}{es:Nat->List C}{vs:List aj}(h:Flat M k n es vs):Flat M' k n es vs :=
  ⟨h.len,h.width,λi hi j c hj=>let ⟨v,h1,h2⟩:=h.rd i hi j c hj;⟨v,h1,h2.mono a⟩⟩
def eQ(σ:List bm)(s:St):bm->Loc->Prop
  | .cells E cs,L=>∃b vs,L=⟨.pointer (aa ⟨b,0,af⟩),[b]⟩/\s.w.heap[b]?=aa (.cells (List.toArray vs) E (0,0))/\dT σ s vs cs/\∀o,s.M b o=af
  | .vec E k n es,L=>Rd s.M L.v (.sl ae k n es) /\
      (((L.bs=[]/\n=0)/\Rd s.M L.v (.sl ab k n es)) ∨
       ∃b cap vs,L=⟨.slice (aa ⟨b,0,af⟩) n cap,[b]⟩/\s.w.heap[b]?=aa (.cells (List.toArray vs) E (0,0))/\vs.length=cap*k/\∀o,n*k<=o->s.M b o=af)
  | .dg H,L=>∃c,H L.v c/\(∀(b:Nat) (o:Obj),c b=aa o->s.w.heap[b]?=aa o)/\(∀b,b∈L.bs↔(c b).isSome=ab)/\∀b∈L.bs,∀o,s.M b o=af
  | .dead,_=>True
  | .loop N φ r,L=>∃l tmps fn df,L=⟨.func (.yield l) #[] #[],[l]⟩/\s.w.heap[l]?=aa (.loop {r with tmps:=tmps,fn:=fn,defers:=df})/\tmps.size=N/\(∀t,dk σ s (tmps.getD t ai) (look φ t))/\∀o,s.M l o=af
  | .rG,L=>∃r:Nat,L=⟨.int .i64 r,[r]⟩/\s.w.heap[r]?=aa (.deferred (aa []))/\∀o,s.M r o=af
  | .buf E k n es,L=>(n=0/\L=⟨.slice af 0 0,[]⟩)∨∃b a vs zs,L=⟨.slice (aa ⟨b,0,af⟩) 0 a,[b]⟩/\s.w.heap[b]?=aa (.cells (List.toArray (vs++zs)) E (0,0))/\(vs++zs).length=a*k/\n<=a/\a<=9223372036854775807/\Flat s.M k n es vs/\∀o,s.M b o=af
structure aF(σ:List bm)(s:St):Prop where
  mem:∀b o v,s.M b o=aa v->s.w.cell? ⟨b,o,af⟩=aa v
  len:s.β.length=σ.length
  box:∀(l:Nat) (B:bm) (L:Loc),σ[l]?=aa B->s.β[l]?=aa L->eQ σ s B L
  fY:∀(l l':Nat) (L L':Loc),s.β[l]?=aa L->s.β[l']?=aa L'->∀b∈L.bs,b∈L'.bs->l=l'
  lt:∀L∈s.β,∀b∈L.bs,b<s.w.heap.size
  own:∀b,s.own b->b<s.w.heap.size/\∀L∈s.β,b∉L.bs
def hX:bm->Loc->bm->Loc->Prop
  | .vec _ _ n _,L,.vec _ _ a _,L'=>(a=n->L'.v=L.v)/\n<=a
  | .vec _ _ _ _,_,.dead,_=>True
  | .vec _ _ _ _,_,_,_=>False
  | .buf _ _ n _,L,.buf _ _ a _,L'=>(a=n->L'.v=L.v)/\n<=a
  | .buf _ _ _ _,_,.dead,_=>True
  | .buf _ _ _ _,_,_,_=>False
  | _,_,.vec _ _ _ _,_=>False
  | _,_,.buf _ _ _ _,_=>False
  | .dead,L,.dead,L'=>L'.v=L.v
  | .dead,_,_,_=>False
  | .rG,L,.rG,L'=>L'.v=L.v
  | .rG,_,_,_=>False
  | _,_,.rG,_=>False
  | _,L,_,L'=>L'.v=L.v
structure Ext(σ:List bm)(s:St)(σ':List bm)(s':St):Prop where
  mem:∀b o v,s.M b o=aa v->s'.M b o=aa v
  box:∀(l:Nat) (B:bm) (L:Loc),σ[l]?=aa B->s.β[l]?=aa L->∃B' L',σ'[l]?=aa B'/\s'.β[l]?=aa L'/\hX B L B' L'
structure Step(σ:List bm)(s:St)(σ':List bm)(s':St):Prop where
  size:s.w.heap.size<=s'.w.heap.size
  keep:∀b,b<s.w.heap.size->(∀L∈s.β,b∉L.bs)->s'.w.heap[b]?=s.w.heap[b]?
  mem:∀b o v,s.M b o=aa v->s'.M b o=aa v
  iI:∀b,b<s.w.heap.size->(∀L∈s.β,b∉L.bs)->∀o,s'.M b o=s.M b o
  uP:∀L'∈s'.β,∀b∈L'.bs,s.w.heap.size<=b∨∃L∈s.β,b∈L.bs
  box:∀(l:Nat) (B:bm) (L:Loc),σ[l]?=aa B->s.β[l]?=aa L->∃B' L',σ'[l]?=aa B'/\s'.β[l]?=aa L'/\hX B L B' L'
  os:s'.w.os=s.w.os
  tape:s'.w.tape=s.w.tape
  output:s'.w.output=s.w.output
  own:s'.own=s.own
structure cO(σ:List bm)(s:St)(σ':List bm)(s':St):Prop where
  size:s.w.heap.size<=s'.w.heap.size
  keep:∀b,s.own b->s'.w.heap[b]?=s.w.heap[b]?
  mem:∀b o v,s.M b o=aa v->s'.M b o=aa v
  iI:∀b,b<s.w.heap.size->(∀L∈s.β,b∉L.bs)->∀o,s'.M b o=s.M b o
  uP:∀L'∈s'.β,∀b∈L'.bs,s.w.heap.size<=b∨∃L∈s.β,b∈L.bs
  box:∀(l:Nat) (B:bm) (L:Loc),σ[l]?=aa B->s.β[l]?=aa L->∃B' L',σ'[l]?=aa B'/\s'.β[l]?=aa L'/\hX B L B' L'
  os:s'.w.os=s.w.os
  tape:s'.w.tape=s.w.tape
  output:s'.w.output=s.w.output
  own:s'.own=s.own
structure bZ(s s':St):Prop where
  β:s'.β=s.β
  M:s'.M=s.M
  own:s'.own=s.own
  size:s.w.heap.size<=s'.w.heap.size
  keep:∀b,(s.own b∨∃L∈s.β,b∈L.bs)->s'.w.heap[b]?=s.w.heap[b]?
  mem:∀b o v,s.M b o=aa v->s'.w.cell? ⟨b,o,af⟩=aa v
  os:s'.w.os=s.w.os
  tape:s'.w.tape=s.w.tape
  output:s'.w.output=s.w.output
def nJ(s:St)(e:Event):Prop :=
  match e.loc with
  | .cell a=>e.sync=ae/\a.spot=af/\(False∨((∃L∈s.β,a.block∈L.bs)/\(e.write=ab->s.M a.block a.off=af))∨(e.write=ae/\∃v,s.M a.block a.off=aa v))
  | .obj r=>e.sync=ae/\(False∨∃L∈s.β,r∈L.bs)
  | .mark m=>m=.noRoom∨∃f,m=.extern f
  | _=>False
def eN(s:St)(es:Array Event):Prop:=∀e∈es,nJ s e
def eN.nil{s:St}:eN s #[]:=by intro e h;grind
def hX.refl(B:bm)(L:Loc):hX B L B L:=by cases B<;>simp[hX]
def hX.trans{B B' Vu:bm}{L L' XC:Loc}(h:hX B L B' L')(a:hX B' L' Vu XC):hX B L Vu XC:=by
  cases B<;>cases B'<;>cases Vu<;>simp_all[hX]
  all_goals
    grind
def Step.refl(σ:List bm)(s:St):Step σ s σ s :=
  ⟨ba _,λ_ _ _=>rfl,λ_ _ _ h=>h,λ_ _ _ _=>rfl,λL h b hb=>.inr ⟨L,h,hb⟩,λ_ B L h a=>⟨B,L,h,a,.refl _ _⟩,rfl,rfl,rfl,rfl⟩
def Step.trans{σ σ1 σ2:List bm}{s d s2:St}(h:Step σ s σ1 d)(k:Step σ1 d σ2 s2):Step σ s σ2 s2:=by
  have out:∀b,b<s.w.heap.size->(∀L∈s.β,b∉L.bs)->∀L∈d.β,b∉L.bs:=by
    intro b hb hn L a c;rcases h.uP L a b c with h1|⟨u,t,j⟩
    · omega
    grind
  refine⟨fG h.size k.size,?_,λb o v m=>k.mem _ _ _ (h.mem _ _ _ m),?_,?_,?_,k.os.trans h.os,k.tape.trans h.tape,k.output.trans h.output,k.own.trans h.own⟩
  · intro b hb hn
    rw[k.keep b (cA hb h.size) (out b hb hn),h.keep b hb hn]
  · intro b hb hn o
    rw[k.iI b (cA hb h.size) (out b hb hn),h.iI b hb hn]
  · intro L a b hb
    rcases k.uP L a b hb with h1|⟨L1,n,r⟩
    · exact .inl (fG h.size h1)
    grind
  · intro l B L g a
    obtain⟨B1,L1,h1,h2,e⟩:=h.box l B L g a;obtain⟨f,p,k1,i,q⟩:=k.box l B1 L1 h1 h2;exact⟨f,p,k1,i,e.trans q⟩
def cO.refl(σ:List bm)(s:St):cO σ s σ s :=
  ⟨ba _,λ_ _=>rfl,λ_ _ _ h=>h,λ_ _ _ _=>rfl,λL h b hb=>.inr ⟨L,h,hb⟩,λ_ B L h a=>⟨B,L,h,a,.refl _ _⟩,rfl,rfl,rfl,rfl⟩
def cO.trans{σ σ1 σ2:List bm}{s d s2:St}(h:cO σ s σ1 d)(k:cO σ1 d σ2 s2):cO σ s σ2 s2:=by
  have out:∀b,b<s.w.heap.size->(∀L∈s.β,b∉L.bs)->∀L∈d.β,b∉L.bs:=by
    intro b hb hn L a c;rcases h.uP L a b c with h1|⟨u,t,j⟩
    · omega
    grind
  refine⟨fG h.size k.size,?_,λb o v m=>k.mem _ _ _ (h.mem _ _ _ m),?_,?_,?_,k.os.trans h.os,k.tape.trans h.tape,k.output.trans h.output,k.own.trans h.own⟩
  · intro b hb
    rw[k.keep b (by rw[h.own];exact hb),h.keep b hb]
  · intro b hb hn o
    rw[k.iI b (cA hb h.size) (out b hb hn),h.iI b hb hn]
  · intro L a b hb
    rcases k.uP L a b hb with h1|⟨L1,n,r⟩
    · exact .inl (fG h.size h1)
    grind
  · intro l B L g a
    obtain⟨B1,L1,h1,h2,e⟩:=h.box l B L g a;obtain⟨f,p,k1,i,q⟩:=k.box l B1 L1 h1 h2;exact⟨f,p,k1,i,e.trans q⟩
def Step.oe{σ σ':List bm}{s s':St}(hh:aF σ s)(h:Step σ s σ' s'):cO σ s σ' s' :=
  ⟨h.size,λb hb=>h.keep b (hh.own b hb).1 (hh.own b hb).2,h.mem,h.iI,h.uP,h.box,h.os,h.tape,h.output,h.own⟩
def cO.ext{σ σ':List bm}{s s':St}(h:cO σ s σ' s'):Ext σ s σ' s':=⟨h.mem,h.box⟩
def bZ.refl{σ:List bm}{s:St}(hh:aF σ s):bZ s s:=⟨rfl,rfl,rfl,ba _,λ_ _=>rfl,hh.mem,rfl,rfl,rfl⟩
def bZ.stepW{σ:List bm}{s s':St}(h:bZ s s'):cO σ s σ s' :=
  ⟨h.size,λb hb=>h.keep b (.inl hb),λb o v d=>by rw[h.M];exact d,λ_ _ _ _=>by rw[h.M],λL a b hb=>.inr ⟨L,by rw[<-h.β];exact a,hb⟩,
    λl B L c a=>⟨B,L,c,by rw[h.β];exact a,.refl _ _⟩,h.os,h.tape,h.output,h.own⟩
def Step.ext{σ σ':List bm}{s s':St}(h:Step σ s σ' s'):Ext σ s σ' s':=⟨h.mem,h.box⟩
section mono
variable {σ σ':List bm}{s s':St}
def Ext.L9(h:Ext σ s σ' s'){l:Nat}{L:Loc}(b:s.β[l]?=aa L)(hl:s.β.length=σ.length)(d:∀B,σ[l]?=aa B->B.gr=ae):
    (∀B,σ'[l]?=aa B->B.gr=ae)/\∃L',s'.β[l]?=aa L'/\L'.v=L.v:=by
  have a:l<σ.length:=by grind
  obtain⟨B',L',k1,e,f⟩:=h.box l (σ[l]) L (bn a) b;have c:=d _ (bn a);generalize σ[l]=B at *;rw[k1];cases B<;>cases B'<;>simp_all[hX,bm.gr]
def gD.mono(h:Ext σ s σ' s')(hl:s.β.length=σ.length){v:aj}{a:A}(r:gD σ s v a):gD σ' s' v a:=by
  cases a with
  | c x=>exact Rd.mono h.mem r
  | any=>exact r
  | ptr l off =>
    obtain⟨o,L,b,h1,h2,i⟩:=r;obtain⟨g,L',k1,j⟩:=h.L9 h1 hl o;exact⟨g,L',b,k1,by grind,i⟩
  | vec l k n es =>
    obtain⟨m,e,p⟩:=r;obtain⟨B',L',k1,j,f⟩:=h.box l (σ[l]) (s.β[l]'(by omega)) (bn e) (bn (by omega));have d:l<σ'.length:=(cf.1 k1).1;refine⟨Rd.mono h.mem m,d,λE k' g es' he=>?_⟩;rw[he]at k1;cases k1;have t:=bn e;generalize σ[l]=B at *;cases B with
    | vec E0 k0 n0 XD =>
      obtain⟨q,q2⟩:=f;grind
    | _=>simp[hX]at f
  | ref l =>
    obtain⟨o,L,h1,h2,i⟩:=r;obtain⟨g,L',k1,j⟩:=h.L9 h1 hl o;exact⟨g,L',k1,by grind,i⟩
  | bp l w =>
    obtain⟨lv,m,e,p⟩:=r;obtain⟨B',L',k1,j,f⟩:=h.box l (σ[l]) (s.β[l]'(by omega)) (bn e) (bn (by omega));have d:l<σ'.length:=(cf.1 k1).1;refine⟨lv,m,d,λE k' g es' he=>?_⟩;rw[he]at k1;cases k1;have t:=bn e;generalize σ[l]=B at *;cases B with
    | buf E0 k0 n0 XD =>
      obtain⟨q,q2⟩:=f;grind
    | _=>simp[hX]at f
def dT.mono(h:Ext σ s σ' s')(hl:s.β.length=σ.length){vs:List aj}{cs:List A}(r:dT σ s vs cs):dT σ' s' vs cs:=by
  induction vs generalizing cs with
  | nil=>cases cs<;>simp_all[dT]
  | cons v vs ih =>
    cases cs with
    | nil=>simp[dT]at r
    | cons a cs=>exact⟨r.1.mono h hl,ih r.2⟩
def nq.mono(h:Ext σ s σ' s')(hl:s.β.length=σ.length){v:aj}{x:E1}(r:nq σ s v x):nq σ' s' v x:=by
  cases x with
  | one a=>exact gD.mono h hl r
  | agg cs=>obtain⟨vs,h1,h2⟩:=r;exact⟨vs,h1,h2.mono h hl⟩
def gN.mono(h:Ext σ s σ' s')(hl:s.β.length=σ.length){vs:List aj}{xs:List E1}(r:gN σ s vs xs):gN σ' s' vs xs:=by
  induction vs generalizing xs with
  | nil=>cases xs<;>simp_all[gN]
  | cons v vs ih =>
    cases xs with
    | nil=>simp[gN]at r
    | cons a cs=>exact⟨r.1.mono h hl,ih r.2⟩
def dk.mono(h:Ext σ s σ' s')(hl:s.β.length=σ.length){v:aj}{d:D}(r:dk σ s v d):dk σ' s' v d:=by
  cases d with
  | e x=>exact nq.mono h hl r
  | fK xs=>obtain⟨vs,h1,h2⟩:=r;exact⟨vs,h1,h2.mono h hl⟩
  | any=>trivial
def cn.mono(h:Ext σ s σ' s')(hl:s.β.length=σ.length){vs:List aj}{xs:List D}(r:cn σ s vs xs):cn σ' s' vs xs:=by
  induction vs generalizing xs with
  | nil=>cases xs<;>simp_all[cn]
  | cons v vs ih =>
    cases xs with
    | nil=>simp[cn]at r
    | cons a cs=>exact⟨r.1.mono h hl,ih r.2⟩
end mono
def ov(σ:List bm)(s:St):List Deferred->List Nat->Prop
  | [],[]=>True
  | d::ds,l::ls=>(σ[l]?=aa .rG/\∃(L:Loc) (r:Nat),s.β[l]?=aa L/\L.v=.int .i64 r/\d={target:=.collected r,args:=#[]})/\l∉ls/\ov σ s ds ls
  | _,_=>False
def ov.mono{σ σ':List bm}{s s':St}(h:Ext σ s σ' s'):∀{ds:List Deferred} {ls:List Nat},ov σ s ds ls->ov σ' s' ds ls
  | [],[],_=>trivial
  | [],_::_,r=>r.elim
  | _::_,[],r=>r.elim
  | d::ds,l::ls,⟨⟨h1,L,r,h2,g,f⟩,a,c⟩=>by
    obtain⟨B',L',k1,b,e⟩:=h.box l _ L h1 h2;cases B'<;>simp[hX]at e
    exact⟨⟨k1,L',r,b,by grind,f⟩,a,ov.mono h c⟩
def mU:List bm->Bool
  | []=>ab
  | .rG::_=>ae
  | _::r=>mU r
def mV:∀{l:List bm},mU l=ab->∀B∈l,B≠.rG
  | [],_,B,a=>by grind
  | b::r,h,B,a=>by
    have c:b≠.rG/\mU r=ab:=by cases b<;>simp_all[mU]
    rcases eY.1 a with rfl|a
    · exact c.1
    · exact mV c.2 B a
def lE{s:St}{r:Nat}{wr:Bool}{L:Loc}(a:L∈s.β)(b:r∈L.bs):nJ s ⟨.obj r,wr,ae⟩:=⟨rfl,.inr ⟨L,a,b⟩⟩
def eN.one{s:St}{e:Event}(h:nJ s e):eN s #[e]:=by intro x a;grind
def eN.two{s:St}{e a:Event}(h:nJ s e)(b:nJ s a):eN s #[e,a]:=by intro x c;grind
variable {n k l b i j:Nat}{E:av}{L:Array Bool}{M:Mem}{N:Nat}{P:aK}{S:ak->St->Prop}{c:Code}{g:ak}{o:aD}{s:St}{t:av}{v:aj}{w:aA}{x y:aE}{α:Type}{η:aE->D}{ι:Type}{σ:List bm}{φ:Fr}{all:List aD}{jN:Array av}{cap:List C}{cy:List D}{cs:List aU}{ds:List (Nat×Bool)}{es:Nat->List C}{fo:aE}{gs:Array ak}{obs:List Prop}{off:Nat}{op:BinOp}{ops:Array aD}{ps:List Prop}{rest:List aD}{s':St}{tx:Bool}{ty:av}{val:Nat->Nat->aj}{vs:List aj}{w':aA}{xs:Array aE}{σ' σs:List bm}{res:ι->D}{σ1:ι->List bm}
section
open Go.Conc (G listed)
def qF(s s':St)(es:Array Event):Prop:=(∃σ σ',aF σ s/\aF σ' s'/\Step σ s σ' s')/\eN s es
structure Cx(P:aK) where
 main:Bool
 rely:St->St->Prop
 vl:ak->St->(ak->St->Prop)->Prop
 hZ:∀{s s'},rely s s'->bZ s s'
 A2:Prop
class Cx.jw {P:aK} (X:Cx P):Prop where
 ok:X.A2
structure eR(s s':St):Prop where
 w:s'.w=s.w
 mem:∀b o v,s.M b o=aa v->s'.M b o=aa v
 iI:∀b,(∀L∈s.β,b∉L.bs)->∀o,s'.M b o=s.M b o
 cell:∀b o v,s'.M b o=aa v->s.w.cell? ⟨b,o,af⟩=aa v
 blk:∀b,(s'.own b∨∃L∈s'.β,b∈L.bs)->s.own b∨∃L∈s.β,b∈L.bs
structure mF(s s':St):Prop where
 w:s'.w=s.w
 β:s'.β=s.β
 own:s'.own=s.own
 less:∀b o v,s'.M b o=aa v->s.M b o=aa v
 mem:∀b o v,s.M b o=aa v->s'.M b o=aa v∨s.own b
inductive fA {P:aK} (X:Cx P) (S:ak->St->Prop):ak->St->Prop
 |stop {g:ak} {s:St}:S g s->fA X S g s
 |step {g:ak} {s:St} (ng:St->ak) (ns:St->St) (ne:St->Array Event):g.status=.running ->
   (∀s1,X.rely s s1->aH P X.main g s1.w=.go (ng s1) (ns s1).w (ne s1))->(∀s1,X.rely s s1->qF s1 (ns s1) (ne s1))->(∀s1,X.rely s s1->fA X S (ng s1) (ns s1))->fA X S g s
 |ghost {g:ak} {s s':St}:eR s s'->fA X S g s'->fA X S g s
 |forget {g:ak} {s s':St}:X.A2->mF s s'->fA X S g s'->fA X S g s
 |vl {g:ak} {s:St} {T:ak->St->Prop}:X.vl g s T->(∀g' s',T g' s'->fA X S g' s')->fA X S g s
section
variable {X:Cx P}
def fA.next(f:g.status=.running)(h:∀c,X.rely s c->∃g' s' es,aH P X.main g c.w=.go g' s'.w es/\qF c s' es/\fA X S g' s'):fA X S g s:=by
 classical
 have hh:∀c,∃r:ak×St×Array Event,X.rely s c->aH P X.main g c.w=.go r.1 r.2.1.w r.2.2/\qF c r.2.1 r.2.2/\fA X S r.1 r.2.1:=by
  intro c;by_cases e:X.rely s c
  .obtain⟨g',s',es,h1⟩:=h c e;exact⟨(g',s',es),λ_=>h1⟩
  .exact⟨(g,c,#[]),λd=>absurd d e⟩
 refine .step (λc=>(Classical.choose (hh c)).1) (λc=>(Classical.choose (hh c)).2.1) (λc=>(Classical.choose (hh c)).2.2) f ?_ ?_ ?_
 .grind
 .grind
 grind
def eR.of(hh:aF σ s)(c:aF σ' s')(f:s'.w=s.w)(st:cO σ s σ' s'):eR s s':=by
 have i:∀b o v,s'.M b o=aa v->s.w.cell? ⟨b,o,af⟩=aa v:=λb o v h=>by rw[<-f];exact c.mem b o v h
 have d:∀b o v,s.w.cell? ⟨b,o,af⟩=aa v->b<s.w.heap.size:=by
  intro b o v h;rcases cM b s.w.heap.size with h1|h1
  .exact h1
  .simp[aR,y5 h1]at h
 refine⟨f,st.mem,λb hb o=>?_,i,λb hb=>?_⟩
 .rcases cM b s.w.heap.size with h1|h1
  .exact st.iI b h1 hb o
  .cases h2:s'.M b o with
   |some v=>grind
   |none=>cases g:s.M b o with
    |none=>rfl
    |some v=>have:=d _ _ _ (hh.mem _ _ _ g);omega
 .rcases hb with hb|⟨L,e,hb⟩
  .exact .inl (by rw[<-st.own];exact hb)
  .rcases st.uP L e b hb with h1|h1
   .have:=c.lt L e b hb;grind
   grind
def aF.rely(hh:aF σ s)(h:bZ s s'):aF σ s':=by
 have ex:Ext σ s σ s':=h.stepW.ext;have z:∀v a,gD σ s v a->gD σ s' v a:=λv a r=>r.mono ex hh.len;refine⟨λb o v hm=>h.mem b o v (by rw[<-h.M];exact hm),by rw[h.β];exact hh.len,?_,by rw[h.β];exact hh.fY,?_,?_⟩
 .intro l B L m e;rw[h.β]at e;have hb:=hh.box l B L m e;have y:∀b∈L.bs,s'.w.heap[b]?=s.w.heap[b]?:=λb hb=>h.keep b (.inr ⟨L,bL e,hb⟩);cases B with
  |cells E cs =>
   obtain⟨b,vs,h1,h2,c,d⟩:=hb;subst h1;exact⟨b,vs,rfl,by grind,c.mono ex hh.len,λo=>by rw[h.M,d]⟩
  |vec E k n es =>
   obtain⟨h1,h2⟩:=hb;refine⟨by rw[h.M];exact h1,?_⟩;rcases h2 with⟨h2,c⟩|⟨b,cap,vs,h2,c,d,f⟩
   .exact .inl ⟨h2,by rw[h.M];exact c⟩
   .subst h2;exact .inr ⟨b,cap,vs,rfl,by grind,d,λo ho=>by rw[h.M,f o ho]⟩
  |dg H =>
   obtain⟨ch,h1,h2,c,d⟩:=hb;refine⟨ch,h1,λb o j=>?_,c,λb g o=>by rw[h.M,d b g]⟩;grind
  |dead=>trivial
  |loop N φ r =>
   obtain⟨l,tmps,fn,u,h1,h2,c,d,f⟩:=hb;subst h1;exact⟨l,tmps,fn,u,rfl,by grind,c,λt=>(d t).mono ex hh.len,λo=>by rw[h.M,f]⟩
  |rG =>
   obtain⟨r,h1,h2,c⟩:=hb;subst h1;exact⟨r,rfl,by grind,λo=>by rw[h.M,c]⟩
  |buf E k n es =>
   rcases hb with hb|⟨b,x,vs,i,h1,h2,c,d,f,q,p⟩
   .exact .inl hb
   .subst h1;exact .inr ⟨b,x,vs,i,rfl,by grind,c,d,f,by rw[h.M];exact q,λo=>by rw[h.M,p]⟩
 .intro L e b hb;rw[h.β]at e;exact cA (hh.lt L e b hb) h.size
 .intro b hb;rw[h.own]at hb;rw[h.β];exact⟨cA (hh.own b hb).1 h.size,(hh.own b hb).2⟩
def qF.quiet(hh:aF σ s):qF s s #[]:=⟨⟨σ,σ,hh,hh,.refl _ _⟩,.nil⟩
def _root_.Go.Frame.aT(b:aU)(a:Act)(todo:List Item):aU:={b with tmps:=a.tmps,todo:=todo,defers:=a.defers++b.defers,mode:=.run}
variable {b:aU}{a:Act}{k:List Item}{main:Bool}
def Fc(b:aU)(a:Act)(c:List Item):(b.aT a c).eval=a.eval:=by funext x;cases x<;>rfl
def Fe:aH P main (G (b.aT a (.code .skip::k)) cs) w=.go (G (b.aT a k) cs) w:=by simp[G,aH,stepG.exec,Frame.aT]
def qG{id:Nat}:aH P main (G (b.aT a (.inBlock id::k)) cs) w=.go (G (b.aT a k) cs) w:=by simp[G,aH,stepG.exec,Frame.aT]
theorem nK{x y:Code}:aH P main (G (b.aT a (.code (.seq x y)::k)) cs) w=.go (G (b.aT a (.code x::.code y::k)) cs) w:=by simp[G,aH,stepG.exec,Frame.aT]
def uQ{c:aE}{x y:Code}{t:Bool}(h:a.eval c=.bool t):
  aH P main (G (b.aT a (.code (.cond c x y)::k)) cs) w=.go (G (b.aT a (.code (if t then x else y)::k)) cs) w:=by
 have d:(b.aT a (.code (.cond c x y)::k)).eval c=.bool t:=by rw[Fc];exact h
 simp only[Frame.aT]at d;simp[G,aH,stepG.exec,Frame.aT,d]
def rH{id:Nat}:aH P main (G (b.aT a (.code (.block id c)::k)) cs) w=.go (G (b.aT a (.code c::.inBlock id::k)) cs) w:=by simp[G,aH,stepG.exec,Frame.aT]
def Ff:aH P main (G (b.aT a (.code (.loop c)::k)) cs) w=.go (G (b.aT a (.code c::.inLoop c::k)) cs) w:=by simp[G,aH,stepG.exec,Frame.aT]
def x9:aH P main (G (b.aT a (.inLoop c::k)) cs) w=.go (G (b.aT a (.code c::.inLoop c::k)) cs) w:=by simp[G,aH,stepG.exec,Frame.aT]
def zj{id:Nat}{k':List Item}(h:exitTo id k=aa k'):aH P main (G (b.aT a (.code (.exit id)::k)) cs) w=.go (G (b.aT a k') cs) w:=by simp[G,aH,stepG.exec,Frame.aT,h]
def pK{id:Nat}:aH P main (G (b.aT a (.code (.region id ops ae)::k)) cs) w=.go (G (b.aT a (.inRegion ops (bg ops.size)::k)) cs) w:=by simp[G,aH,stepG.exec,Frame.aT]
def lA{id:Nat}:aH P main (G (b.aT a (.code (.region id ops ab)::k)) cs) w =
  .go (G (b.aT a (.inRegion ops (Region.schedule (P.follows .mixedOrders) ops (w.tape w.drawn (.order b.fn id)))::k)) cs) {w with drawn:=w.drawn+1}:=by simp[G,aH,stepG.exec,Frame.aT,choose,Sem.run,Question.forced,Question.cut]
def iK:aH P main (G (b.aT a (.inRegion ops []::k)) cs) w=.go (G (b.aT a k) cs) w:=by simp[G,aH,stepG.exec,Frame.aT]
def Dq(h:b.roundOf=af):aH P main (G (b.aT a (.code .ret::k)) cs) w=.go (G {b.aT a (.code .ret::k)with mode:=.returning} cs) w:=by simp[G,aH,stepG.exec,Frame.aT,h]
def Dr(h:b.roundOf=af):aH P main (G (b.aT a []) cs) w=.go (G {b.aT a []with mode:=.returning} cs) w:=by simp[G,aH,stepG.exec,Frame.aT,h]
def jd(ops:Array aD)(i:Nat)(rest:List Nat)(v:aj):
  (b.aT a (.inRegion ops (i::rest)::k)).finish v=b.aT (a.put ((ops[i]?).bind (·.dst)) v) (.inRegion ops rest::k):=by cases h:(ops[i]?).bind (·.dst)<;>simp[Frame.finish,Frame.aT,Act.put,h]
def L6{rest:List Nat}(ho:ops[i]?=aa o)(d:a9 o (yielded ops a.tmps)=ae):
  aH P main (G (b.aT a (.inRegion ops (i::rest)::k)) cs) w=.go (G (b.aT (a.put o.dst ai) (.inRegion ops rest::k)) cs) w:=by have c:=jd (b:=b) (a:=a) (k:=k) ops i rest ai;rw[ho]at c;simp only[my]at c;rw[<-c];simp[G,aH,stepG.exec,Frame.aT,ho,d]
theorem rI{i:aE->aj}{c:Call}(h:o.op=.defer c){g:Next}(e:(an i o).run P w=.ok g w'):∃d,g=.defer d:=by
 simp only[an,h,bU]at e;cases f:(resolve i c o.type).run P w with
 |ok d w2=>rw[f]at e;simp at e;grind
 |halt x w2=>rw[f]at e;simp at e
def pL{rest:List Nat}(ho:ops[i]?=aa o)(e:a9 o (yielded ops a.tmps)=ab)(f:∀c,o.op≠.defer c):
  aH P main (G (b.aT a (.inRegion ops (i::rest)::k)) cs) w=stepG.apply P ab (b.aT a (.inRegion ops (i::rest)::k)) cs af (an a.eval o) w:=by have d:=Fc b a (.inRegion ops (i::rest)::k);simp only[Frame.aT]at d;simp[G,aH,stepG.exec,stepG.oper,Frame.oper?,Frame.aT,ho,e,d];grind
theorem A3{rest:List Nat}(ho:ops[i]?=aa o)(f:a9 o (yielded ops a.tmps)=ab)(h:b.kind≠.early)(g:(an a.eval o).run P w=.ok (.value v) w'):
  aH P main (G (b.aT a (.inRegion ops (i::rest)::k)) cs) w=.go (G (b.aT (a.put o.dst v) (.inRegion ops rest::k)) cs) w' (listed P b.fn a o w):=by
 have d:=jd (b:=b) (a:=a) (k:=k) ops i rest v;rw[ho]at d;simp only[my]at d;have e:(b.kind==CallKind.early)=ae:=by grind
 rw[pL ho f (λc j=>by grind[rI]),<-d];simp[stepG.apply,g,G,Frame.aT,e,GStep.after,listed]
theorem Fg{rest:List Nat}(ho:ops[i]?=aa o)(f:a9 o (yielded ops a.tmps)=ab)(h:b.kind≠.early)(g:(an a.eval o).run P w=.ok .skip w'):
  aH P main (G (b.aT a (.inRegion ops (i::rest)::k)) cs) w=.go (G (b.aT (a.put o.dst ai) (.inRegion ops rest::k)) cs) w' (listed P b.fn a o w):=by
 have d:=jd (b:=b) (a:=a) (k:=k) ops i rest ai;rw[ho]at d;simp only[my]at d;have e:(b.kind==CallKind.early)=ae:=by grind
 rw[pL ho f (λc j=>by grind[rI]),<-d];simp[stepG.apply,g,G,Frame.aT,e,GStep.after,listed]
def oH{rest:List Nat}{f:aM}{args:Array aj}(ho:ops[i]?=aa o)(e:a9 o (yielded ops a.tmps)=ab)(h:b.kind≠.early)(g:(an a.eval o).run P w=.ok (.enter f args) w'):
  aH P main (G (b.aT a (.inRegion ops (i::rest)::k)) cs) w=.go (G (Frame.enter P f args .normal) (b.aT a (.inRegion ops (i::rest)::k)::cs)) w' (listed P b.fn a o w):=by
 have d:(b.kind==CallKind.early)=ae:=by grind
 rw[pL ho e (λc j=>by grind[rI])];simp[stepG.apply,g,G,Frame.aT,d,GStep.after,listed]
structure um(P:aK)(f:aM)(fr:aU)(v:aj)(s:St):Prop where
 Y5:fr.fn=f
 mode:fr.mode=.returning
 defers:fr.defers=[]
 kind:fr.kind=.normal
 fn:∃fn,P.funcs[fr.fn]?=aa fn/\∀w,(∀b o u,s.M b o=aa u->w.cell? ⟨b,o,af⟩=aa u)->(results fn fr.tmps).run P w=.ok v w/\∀e∈(results fn fr.tmps).events P w #[],∃b o u,e=⟨.cell ⟨b,o,af⟩,ae,ae⟩/\s.M b o=aa u
def um.mono{f:aM}{fr:aU}(h:um P f fr v s)(g:∀b o u,s.M b o=aa u->s'.M b o=aa u):um P f fr v s':=by obtain⟨h1,h2,d,e,fn,c,j⟩:=h;refine⟨h1,h2,d,e,fn,c,λw i=>?_⟩;grind
def eN.seen{s:St}{es:Array Event}{fn:aM}(h:eN s es):eN s (seen P fn es):=λe c=>h e (Go.Conc.mem_seen c)
def Ip{f:aM}{g c:aU}(h:um P f g v s)(w:aA)(l:∀b o u,s.M b o=aa u->w.cell? ⟨b,o,af⟩=aa u):∃es,aH P main (G g (c::cs)) w=.go (G (c.finish v) cs) w es/\∀e∈es,∃b o u,e=⟨.cell ⟨b,o,af⟩,ae,ae⟩/\s.M b o=aa u:=by obtain⟨fn,i,d⟩:=h.fn;obtain⟨n,j⟩:=d w l;refine⟨seen P g.fn ((results fn g.tmps).events P w #[]),?_,λe m=>j e (Go.Conc.mem_seen m)⟩;simp[G,aH,unwind,doReturn,h.mode,h.defers,h.kind,i,n,GStep.after]
end
end
structure cx(N:Nat)(σ:List bm)(s:St)(φ:Fr)(a:Act):Prop where
 size:a.tmps.size=N
 defers:∃ls,ov σ s a.defers ls
 slot:∀t,dk σ s (a.tmps.getD t ai) (look φ t)
def cx.mono{N:Nat}{σ σ':List bm}{s s':St}{φ:Fr}{a:Act}(h:cO σ s σ' s')(hl:s.β.length=σ.length)(f:cx N σ s φ a):cx N σ' s' φ a :=
 ⟨f.size,f.defers.imp λ_ h1=>h1.mono h.ext,λt=>(f.slot t).mono h.ext hl⟩
def cx.rely{a:Act}(h:bZ s s')(hh:aF σ s)(f:cx N σ s φ a):cx N σ s' φ a:=f.mono h.stepW hh.len
def cx.put{N:Nat}{σ:List bm}{s:St}{φ:Fr}{a:Act}(f:cx N σ s φ a){d:Nat}(c:d<N){v:aj}{x:D}(r:dk σ s v x):cx N σ s ((d,x)::φ) (a.put (aa d) v):=by
 refine⟨by simp[Act.put,f.size],f.defers,λt=>?_⟩;simp only[Act.put,look];by_cases e:d=t
 .subst e;rw[show az d d=ab from jr d];have g:d<a.tmps.size:=by rw[f.size];exact c
  simp only[dK,vj g,gx,cond];exact r
 .have:az d t=ae:=by grind[Nat.eq_of_beq_eq_true]
  rw[this];have h:=f.slot t;simp only[dK]at h⊢;grind
def rY(φ φ':Fr):Prop:=∀σ s v t,dk σ s v (look φ t)->dk σ s v (look φ' t)
def cx.le{φ':Fr}{a:Act}(h:rY φ φ')(f:cx N σ s φ a):cx N σ s φ' a :=
 ⟨f.size,f.defers,λt=>h _ _ _ _ (f.slot t)⟩
abbrev Post:=Exit->Fr->List bm->Prop
def ends(X:Cx P)(S:ak->St->Prop)(b:aU)(k:List Item)(cs:List aU):Exit->Act->St->Prop
 |.normal,a,s=>fA X S (G (b.aT a k) cs) s
 |.exit id,a,s=>∀pre,(∀k',exitTo id (pre++k')=exitTo id k')->fA X S (G (b.aT a (.code (.exit id)::(pre++k))) cs) s
 |.ret,a,s=>∀pre,fA X S (G (b.aT a (.code .ret::pre)) cs) s
 |.panic ch,a,s=>∀c,fA X S (G {b.aT a c with mode:=.panicking ch} cs) s
 |_,_,_=>False
section
variable {X:Cx P}{b:aU}{k:List Item}{a:Act}
def ends.cons{x:Item}(d:∀id k',exitTo id (x::k')=exitTo id k'){e:Exit}(c:e≠.normal)(h:ends X S b k cs e a s):ends X S b (x::k) cs e a s:=by
 cases e with
 |normal=>grind
 |exit id =>
  intro pre hp;have:=h (pre++[x]) (λk'=>by grind);grind
 |ret=>exact h
 |panic ch=>exact h
 |goto l=>exact h
 |outgrown=>exact h
def fA.ctl{g':ak}(hh:aF σ s)(e:g.status=.running)(d:∀w,aH P X.main g w=.go g' w #[])(h:∀c,bZ s c->fA X S g' c):fA X S g s :=
 .next e λc h1=>⟨g',c,#[],d c.w,.quiet (hh.rely (X.hZ h1)),h c (X.hZ h1)⟩
def pG{f:aM}{j c:aU}(n:aF σ s)(h:um P f j v s)(k:∀d,bZ s d->fA X S (G (c.finish v) cs) d):fA X S (G j (c::cs)) s:=by refine .next rfl λd r=>?_;have i:=X.hZ r;have g:=n.rely i;obtain⟨es,q,p⟩:=Ip (main:=X.main) (c:=c) (cs:=cs) h d.w i.mem;refine⟨_,d,es,q,⟨⟨σ,σ,g,g,.refl _ _⟩,λe m=>?_⟩,k d i⟩;obtain⟨b,o,u,rfl,l⟩:=p e m;exact⟨rfl,rfl,.inr (.inr ⟨rfl,u,by rw[i.M];exact l⟩)⟩
def wc(I:Nat->Act->St->Prop)(i:∀n a s,I n a s->∃σ,aF σ s/\∀d,bZ s d->I n a d)(round:∀n a s,I n a s->(∀a' s' m,m<n->I m a' s'->fA X S (G (b.aT a' (.inLoop c::k)) cs) s')->fA X S (G (b.aT a (.code c::.inLoop c::k)) cs) s)(j:I n a s):
  fA X S (G (b.aT a (.code (.loop c)::k)) cs) s:=by
 have key:∀n a s,I n a s->fA X S (G (b.aT a (.inLoop c::k)) cs) s:=by
  intro n;induction n using Nat.strongRecOn with
  |_ n o =>
   intro a s hi;obtain⟨σ,f,h⟩:=i n a s hi;exact .ctl f rfl (λw=>x9) λd g=>round n a d (h d g) λa' s' m l e=>o m l a' s' e
 obtain⟨σ,f,h⟩:=i n a s j;exact .ctl f rfl (λw=>Ff) λd g=>round n a d (h d g) λa' s' m _ e=>key m a' s' e
end
def AW(X:Cx P)(N:Nat)(c:Code)(Q:Post)(φ:Fr)(σ:List bm):Prop :=
 ∀s a,cx N σ s φ a->aF σ s->∀(b:aU) (k:List Item) (cs:List aU) (S:ak->St->Prop),b.kind≠.early ->
  (∀e φ' σ' s' a',Q e φ' σ'->cx N σ' s' φ' a'->aF σ' s'->cO σ s σ' s'->ends X S b k cs e a' s')->fA X S (G (b.aT a (.code c::k)) cs) s
def Names(all:List aD):List Nat->List aD->Prop
 |[],[]=>True
 |i::idx,o::rest=>all.toArray[i]?=aa o/\Names all idx rest
 |_,_=>False
def jl(X:Cx P)(N:Nat)(all rest:List aD)(Q:Fr->List bm->Prop)(φ:Fr)(σ:List bm):Prop :=
 ∀s a,cx N σ s φ a->aF σ s->∀(b:aU) (k:List Item) (cs:List aU) (S:ak->St->Prop) (idx:List Nat),b.kind≠.early->Names all idx rest ->
  (∀φ' σ' s' a',Q φ' σ'->cx N σ' s' φ' a'->aF σ' s'->cO σ s σ' s'->fA X S (G (b.aT a' k) cs) s')->fA X S (G (b.aT a (.inRegion all.toArray idx::k)) cs) s
section rules
variable {X:Cx P}{Q:Post}
def AW.mono{d:Post}(h:AW X N c Q φ σ)(j:∀e φ σ,Q e φ σ->d e φ σ):AW X N c d φ σ :=
 λs a i hh b k cs S hb hQ=>h s a i hh b k cs S hb λe φ' σ' s' a' q f g st=>hQ e φ' σ' s' a' (j _ _ _ q) f g st
def AW.le{c:Code}{φ':Fr}(h:AW X N c Q φ' σ)(hl:rY φ φ'):AW X N c Q φ σ :=
 λs a d hh b k cs S hb hQ=>h s a (d.le hl) hh b k cs S hb hQ
theorem AW.skip(h:Q .normal φ σ):AW X N .skip Q φ σ:=λs a c hh b k cs S _ e =>
 .ctl hh rfl (λ_=>Fe) λd h1=>e .normal φ σ d a h (c.rely h1 hh) (hh.rely h1) h1.stepW
def AW.ret(h:Q .ret φ σ):AW X N .ret Q φ σ:=λs a c hh b k cs S _ d=>d .ret φ σ s a h c hh (.refl _ _) k
theorem AW.exit{id:Nat}(h:Q (.exit id) φ σ):AW X N (.exit id) Q φ σ:=λs a c hh b k cs S _ d=>by have:=d (.exit id) φ σ s a h c hh (.refl _ _) [] (λ_=>rfl);grind
def FN(next:Fr->List bm->Prop)(Q:Post):Post
 |.normal,φ,σ=>next φ σ
 |e,φ,σ=>Q e φ σ
theorem AW.seq{x y:Code}(h:AW X N x (FN (AW X N y Q) Q) φ σ):AW X N (.seq x y) Q φ σ:=by
 intro s a i hh b k cs S hb hQ;refine .ctl hh rfl (λ_=>nK) λj h1=>?_;refine h j a (i.rely h1 hh) (hh.rely h1) b (.code y::k) cs S hb ?_;intro e φ' σ' s' a' q g f st;have c:=h1.stepW.trans st;cases e with
 |normal=>exact q s' a' g f b k cs S hb λe d σ2 s2 a2 q2 f2 h2 oq=>hQ e d σ2 s2 a2 q2 f2 h2 (c.trans oq)
 |_=>exact ends.cons (λ_ _=>rfl) (by simp) (hQ _ _ _ _ _ q g f c)
theorem AW.cond{c:aE}{x y:Code}{t:Bool}{u:Nat}(n:c=.tmp u)(hl:look φ u=.e (.one (.c (.bool t))))(j:t=ab->AW X N x Q φ σ)(l:t=ae->AW X N y Q φ σ):AW X N (.cond c x y) Q φ σ:=by
 intro s a f hh b k cs S hb hQ;have g:=f.slot u;rw[hl]at g;have h:a.eval c=.bool t:=by subst n;generalize h:a.tmps.getD u ai=v at g;simp only[dk,nq,gD]at g;cases g;exact h
 refine .ctl hh rfl (λ_=>uQ h) λi h1=>?_;have d:∀e φ' σ' s' a',Q e φ' σ'->cx N σ' s' φ' a'->aF σ' s'->cO σ i σ' s'->ends X S b k cs e a' s':=λe φ' σ' s' a' q o m st=>hQ e φ' σ' s' a' q o m (h1.stepW.trans st);cases t
 .exact l rfl i a (f.rely h1 hh) (hh.rely h1) b k cs S hb d
 .exact j rfl i a (f.rely h1 hh) (hh.rely h1) b k cs S hb d
def zO(id:Nat)(Q:Post):Post
 |.exit Ig,φ,σ=>if Ig=id then Q .normal φ σ else Q (.exit Ig) φ σ
 |e,φ,σ=>Q e φ σ
theorem AW.block{id:Nat}(h:AW X N c (zO id Q) φ σ):AW X N (.block id c) Q φ σ:=by
 intro s a i hh b k cs S hb hQ;refine .ctl hh rfl (λ_=>rH) λj h1=>?_;refine h j a (i.rely h1 hh) (hh.rely h1) b (.inBlock id::k) cs S hb ?_;intro e φ' σ' s' a' q g f st;have d:=h1.stepW.trans st;cases e with
 |normal =>
  exact .ctl f rfl (λ_=>qG) λs2 h2=>hQ .normal φ' σ' s2 a' q (g.rely h2 f) (f.rely h2) (d.trans h2.stepW)
 |exit Ig =>
  simp only[zO]at q;split at q
  .rename_i e;subst e;intro pre hp;refine .ctl f rfl (λ_=>zj (k':=k) (by rw[hp];simp[exitTo])) λs2 h2=>?_;exact hQ .normal φ' σ' s2 a' q (g.rely h2 f) (f.rely h2) (d.trans h2.stepW)
  .rename_i m
   intro pre hp;have:=hQ (.exit Ig) φ' σ' s' a' q g f d (pre++[.inBlock id]) (λk'=>by
    rw[jo,hp];have:(id==Ig)=ae:=by grind
    simp[exitTo,this])
   grind
 |ret=>exact hQ _ _ _ _ _ q g f d
 |panic ch=>exact hQ _ _ _ _ _ q g f d
 |goto l=>exact hQ _ _ _ _ _ q g f d
 |outgrown=>exact hQ _ _ _ _ _ q g f d
def AW.loop{S:Type}(I:S->Prop)(fr:S->Fr)(st:S->List bm)(h:S->Nat)(x:S)(r:I x)(o:rY φ (fr x))(l:st x=σ)(round:∀x,I x->AW X N c (FN (λφ' σ'=>∃y,I y/\h y<h x/\rY φ' (fr y)/\σ'=st y) Q) (fr x) (st x)):AW X N (.loop c) Q φ σ:=by
 intro s a t hh b k cs S hb hQ;subst l;refine wc (λn a' s'=>∃y,I y/\cx N (st y) s' (fr y) a'/\aF (st y) s'/\cO (st x) s (st y) s'/\h y=n) ?_ ?_ ⟨x,r,t.le o,hh,.refl _ _,rfl⟩
 .rintro n a' s' ⟨y,m,j,f,d,e⟩;exact⟨st y,f,λA h1=>⟨y,m,j.rely h1 f,f.rely h1,d.trans h1.stepW,e⟩⟩
 rintro n a' s' ⟨y,m,j,f,d,rfl⟩ v;refine round y m s' a' j f b (.inLoop c::k) cs S hb ?_;intro e u σ2 s2 a2 q p h2 oq;cases e with
 |normal =>
  obtain⟨z,w,i,g,rfl⟩:=q;exact v a2 s2 (h z) i ⟨z,w,p.le g,h2,d.trans oq,rfl⟩
 |_=>exact ends.cons (λ_ _=>rfl) (by simp) (hQ _ _ _ _ _ q p h2 (d.trans oq))
end rules
def dT.length{σ:List bm}{s:St}{vs:List aj}{cs:List A}(r:dT σ s vs cs):vs.length=cs.length:=by
 induction vs generalizing cs with
 |nil=>cases cs<;>simp_all[dT]
 |cons v vs ih =>
  cases cs with
  |nil=>simp[dT]at r
  |cons a cs=>simp[ih r.2]
def gD.cell{σ:List bm}{s:St}{v:aj}{a:A}(r:gD σ s v a):dn v=ab:=by
 cases a with
 |c x=>exact Rd.cell r
 |ptr l off=>obtain⟨_,_,_,_,_,rfl⟩:=r;rfl
 |vec l k n es=>exact Rd.cell r.1
 |ref l=>obtain⟨_,_,_,_,h⟩:=r;exact h
 |bp l w=>obtain⟨_,h,_⟩:=r;exact h.cell
 |any=>exact r
theorem dT.get{cs:List A}(r:dT σ s vs cs){a:A}(h:cs[j]?=aa a):∃v,vs[j]?=aa v/\gD σ s v a:=by
 induction vs generalizing cs j with
 |nil=>cases cs<;>simp_all[dT]
 |cons v vs ih =>
  cases cs with
  |nil=>grind
  |cons b cs =>
   cases j with
   |zero=>simp at h;subst h;exact⟨v,rfl,r.1⟩
   |succ j=>simp at h;obtain⟨u,d,c⟩:=ih r.2 h;grind
def dT.cell{σ:List bm}{s:St}{vs:List aj}{cs:List A}(r:dT σ s vs cs):∀v∈vs,v.oneCell'=ab:=by
 induction vs generalizing cs with
 |nil=>simp
 |cons v vs ih =>
  cases cs with
  |nil=>simp[dT]at r
  |cons a cs =>
   intro u b;rcases eY.1 b with rfl|b
   .have:=gD.cell r.1;cases u<;>simp_all[dn,Value.oneCell']
   .exact ih r.2 u b
def dT.append{b:List aj}{cs lZ:List A}(r:dT σ s vs cs)(r':dT σ s b lZ):dT σ s (vs++b) (cs++lZ):=by
 induction vs generalizing cs with
 |nil=>cases cs<;>simp_all[dT]
 |cons v vs ih =>
  cases cs with
  |nil=>simp[dT]at r
  |cons a cs=>exact⟨r.1,ih r.2⟩
def dT.take{σ:List bm}{s:St}{vs:List aj}{cs:List A}(r:dT σ s vs cs)(k:Nat):dT σ s (vs.take k) (cs.take k):=by
 induction vs generalizing cs k with
 |nil=>cases cs<;>simp_all[dT]
 |cons v vs ih =>
  cases cs with
  |nil=>simp[dT]at r
  |cons a cs=>cases k with
   |zero=>simp[dT]
   |succ k=>exact⟨r.1,ih r.2 k⟩
def dT.drop{σ:List bm}{s:St}{vs:List aj}{cs:List A}(r:dT σ s vs cs)(k:Nat):dT σ s (vs.drop k) (cs.drop k):=by
 induction vs generalizing cs k with
 |nil=>cases cs<;>simp_all[dT]
 |cons v vs ih =>
  cases cs with
  |nil=>simp[dT]at r
  |cons a cs=>cases k with
   |zero=>exact r
   |succ k=>simpa using ih r.2 k
theorem aF.block(h:aF σ s){o:Nat}(hm:s.M b o=aa v):b<s.w.heap.size:=by
 have:=h.mem b o v hm;rcases cM b s.w.heap.size with h|h
 .exact h
 .simp[aR,y5 h]at this
theorem aF.same(h:aF σ s)(g:w'.heap=s.w.heap):aF σ {s with w:=w'}:=by
 have q:∀a,w'.cell? a=s.w.cell? a:=λa=>by simp[aR,g]
 have u:∀v a,gD σ s v a->gD σ {s with w:=w'} v a:=λv a r=>by cases a<;>exact r
 have e:∀vs al,dT σ s vs al->dT σ {s with w:=w'} vs al:=by
  intro vs;induction vs with
  |nil=>intro al r;cases al<;>simp_all[dT]
  |cons v vs ih=>intro al r;cases al with
   |nil=>simp[dT]at r
   |cons a al=>exact⟨u _ _ r.1,ih _ r.2⟩
 refine⟨λb o v hm=>by rw[q];exact h.mem b o v hm,h.len,?_,h.fY,λL e b hb=>by show b<w'.heap.size;rw[g];exact h.lt L e b hb,λb hb=>⟨by show b<w'.heap.size;rw[g];exact(h.own b hb).1,(h.own b hb).2⟩⟩;intro l B L j f;have:=h.box l B L j f;cases B with
 |cells E cs =>
  obtain⟨b,vs,h1,h2,c,d⟩:=this;exact⟨b,vs,h1,by grind,e _ _ c,d⟩
 |vec E k n es =>
  obtain⟨h1,h2⟩:=this;refine⟨h1,?_⟩;grind
 |dg H =>
  obtain⟨ch,h1,h2,c,d⟩:=this;exact⟨ch,h1,λb o hb=>by grind,c,d⟩
 |dead=>trivial
 |loop N φ r =>
  obtain⟨l,tmps,fn,x,h1,h2,c,d,m⟩:=this;exact⟨l,tmps,fn,x,h1,by grind,c,λt=>dk.mono (s:=s) (σ':=σ) (s':={s with w:=w'}) ⟨λ_ _ _ h=>h,λ_ B L h p=>⟨B,L,h,p,.refl _ _⟩⟩ h.len (d t),m⟩
 |rG =>
  obtain⟨r,h1,h2,c⟩:=this;exact⟨r,h1,by grind,c⟩
 |buf E k n es =>
  rcases this with h1|⟨b,y,vs,i,h1,h2,c⟩
  .exact .inl h1
  .exact .inr ⟨b,y,vs,i,h1,by grind,c⟩
theorem Step.same(e:w'.heap=s.w.heap)(ho:w'.os=s.w.os)(d:w'.tape=s.w.tape)(c:w'.output=s.w.output):Step σ s σ {s with w:=w'} :=
 ⟨by grind,λb _ _=>by grind,λ_ _ _ h=>h,λ_ _ _ _=>rfl,λL h b hb=>.inr ⟨L,h,hb⟩,λ_ B L h a=>⟨B,L,h,a,.refl _ _⟩,ho,d,c,rfl⟩
def eQ.carry{B:bm}{L:Loc}(d:Ext σ s σ' s')(hl:s.β.length=σ.length)(hb:∀b∈L.bs,s'.w.heap[b]?=s.w.heap[b]?/\∀o,s'.M b o=s.M b o)(h:eQ σ s B L):eQ σ' s' B L:=by
 cases B with
 |cells E cs =>
  obtain⟨b,vs,h1,h2,a,c⟩:=h;subst h1;obtain⟨k1,f⟩:=hb b (by simp);exact⟨b,vs,rfl,by grind,a.mono d hl,λo=>by grind⟩
 |vec E k n es =>
  obtain⟨h1,h2⟩:=h;refine⟨h1.mono d.mem,?_⟩;rcases h2 with⟨h2,a⟩|⟨b,cap,vs,h2,a,c,e⟩
  .exact .inl ⟨h2,a.mono d.mem⟩
  grind
 |dg H =>
  obtain⟨ch,h1,h2,a,c⟩:=h;refine⟨ch,h1,λb o m=>?_,a,λb i o=>by grind⟩;grind
 |dead=>trivial
 |loop N φ r =>
  obtain⟨l,tmps,fn,p,h1,h2,a,c,e⟩:=h;subst h1;obtain⟨k1,f⟩:=hb l (by simp);exact⟨l,tmps,fn,p,rfl,by grind,a,λt=>(c t).mono d hl,λo=>by grind⟩
 |rG =>
  obtain⟨r,h1,h2,a⟩:=h;subst h1;obtain⟨k1,f⟩:=hb r (by simp);exact⟨r,rfl,by grind,λo=>by grind⟩
 |buf E k n es =>
  rcases h with h1|⟨b,q,vs,g,h1,h2,a,c,e,j,u⟩
  .exact .inl h1
  .subst h1;obtain⟨k1,f⟩:=hb b (by simp);exact .inr ⟨b,q,vs,g,rfl,by grind,a,c,e,j.mono d.mem,λo=>by grind⟩
def St.fT(s:St)(E:av)(vs:List aj):St :=
 {β:=s.β++[⟨.pointer (aa ⟨s.w.heap.size,0,af⟩),[s.w.heap.size]⟩],M:=s.M,w:=s.w.alloc (.cells vs.toArray E),own:=s.own}
theorem cZ(w:aA)(o:Obj)(h:b<w.heap.size):(w.alloc o).heap[b]?=w.heap[b]?:=by show(w.heap.push o)[b]?=w.heap[b]?;grind
theorem ei(w:aA)(o:Obj):(w.alloc o).heap[w.heap.size]?=aa o:=by show(w.heap.push o)[w.heap.size]?=aa o;simp
def Step.fT{σ:List bm}(s:St)(E:av)(vs:List aj)(B:bm):Step σ s (σ++[B]) (s.fT E vs):=by
 refine⟨by simp[St.fT],?_,λ_ _ _ h=>h,λ_ _ _ _=>rfl,?_,?_,rfl,rfl,rfl,rfl⟩
 .intro b hb _;exact cZ _ _ hb
 .intro L a b hb;simp only[St.fT,ff,iX]at a;grind
 .intro l B' L c a;have hl:l<s.β.length:=(cf.1 a).1;have d:l<σ.length:=(cf.1 c).1;exact⟨B',L,by grind,by simp only[St.fT];grind,.refl _ _⟩
def aF.fT{σ:List bm}{s:St}(h:aF σ s){E:av}{vs:List aj}{cs:List A}(r:dT σ s vs cs):aF (σ++[.cells E cs]) (s.fT E vs):=by
 have st:=Step.fT (σ:=σ) s E vs (.cells E cs);have g:(s.fT E vs).w.heap.size=s.w.heap.size+1:=by simp[St.fT]
 refine⟨?_,by simp[St.fT,h.len],?_,?_,?_,?_⟩
 .intro b o v hm;have hb:=h.block hm;have:=h.mem b o v hm;rw[<-this];simp only[aR,St.fT];grind[cZ]
 .intro l B L f a;rcases Nat.lt_trichotomy l σ.length with c|rfl|i
  .rw[iE c]at f;simp only[St.fT]at a;rw[iE (by rw[h.len];exact c)]at a;refine(h.box l B L f a).carry st.ext h.len λb hb=>⟨?_,λ_=>rfl⟩
   have:=h.lt L (bL a) b hb;exact cZ _ _ this
  .simp at f;subst f;simp only[St.fT]at a;rw[fR (by rw[h.len];grind)]at a;simp[h.len]at a;subst a;refine⟨s.w.heap.size,vs,rfl,ei _ _,r.mono st.ext h.len,λo=>?_⟩;cases hm:s.M s.w.heap.size o with
   |none=>exact hm
   |some v=>have:=h.block hm;omega
  grind
 .intro l l' L L' a d b hb oB;simp only[St.fT]at a d;have e:∀l L,(s.β++[⟨.pointer (aa ⟨s.w.heap.size,0,af⟩),[s.w.heap.size]⟩])[l]?=aa L->(s.β[l]?=aa L)∨(l=s.β.length/\L.bs=[s.w.heap.size]):=by grind
  rcases e l L a with h1|⟨rfl,h1⟩<;>rcases e l' L' d with h2|⟨rfl,h2⟩
  .exact h.fY l l' L L' h1 h2 b hb oB
  .have:=h.lt L (bL h1) b hb;grind
  .have:=h.lt L' (bL h2) b oB;grind
  .rfl
 .intro L a b hb;rw[g];simp only[St.fT,ff,iX]at a;rcases a with a|rfl
  .have:=h.lt L a b hb;omega
  grind
 .intro b hb;obtain⟨j,k⟩:=h.own b hb;refine⟨by grind,λL a=>?_⟩;simp only[St.fT,ff,iX]at a;grind
def aF.grow(h:aF σ s){M':Mem}(a:s.w.heap.size<=w'.heap.size)(e:∀b,b<s.w.heap.size->w'.heap[b]?=s.w.heap[b]?)(d:∀b,b<s.w.heap.size->∀o,M' b o=s.M b o)(k:∀b,s.w.heap.size<=b->∀o v,M' b o=aa v->w'.cell? ⟨b,o,af⟩=aa v)(ho:w'.os=s.w.os)(f:w'.tape=s.w.tape)(j:w'.output=s.w.output):aF σ ⟨s.β,M',w',s.own⟩/\Step σ s σ ⟨s.β,M',w',s.own⟩:=by
 have st:Step σ s σ ⟨s.β,M',w',s.own⟩ :=
  ⟨a,λb hb _=>e b hb,λb o v hm=>by rw[<-hm];exact d b (h.block hm) o,λb hb _ o=>d b hb o,λL h b hb=>.inr ⟨L,h,hb⟩,λ_ B L h g=>⟨B,L,h,g,.refl _ _⟩,ho,f,j,rfl⟩
 refine⟨⟨?_,h.len,?_,h.fY,λL c b hb=>cA (h.lt L c b hb) a,λb hb=>⟨cA (h.own b hb).1 a,(h.own b hb).2⟩⟩,st⟩
 .intro b o v hm;rcases cM b s.w.heap.size with hb|hb
  .have hm':s.M b o=aa v:=by grind
   rw[<-h.mem b o v hm'];simp only[aR];grind
  grind
 .intro l B L i c;exact(h.box l B L i c).carry st.ext h.len λb hb=>⟨e b (h.lt L (bL c) b hb),λo=>d b (h.lt L (bL c) b hb) o⟩
def aF.write(h:aF σ s){L:Loc}{cs lZ:List A}{a:List aj}(g:σ[l]?=aa (.cells E cs))(c:s.β[l]?=aa L)(f:L.bs=[b])(r:dT σ s a lZ):aF (σ.set l (.cells E lZ)) {s with w:=s.w.setRow b a.toArray}/\Step σ s (σ.set l (.cells E lZ)) {s with w:=s.w.setRow b a.toArray}:=by
 have d:l<σ.length:=(cf.1 g).1;obtain⟨i,vs,h1,h2,n,m⟩:=h.box l _ L g c;subst h1;simp at f;subst f;have st:Step σ s (σ.set l (.cells E lZ)) {s with w:=s.w.setRow i a.toArray}:=by
  refine⟨by simp,?_,λ_ _ _ h=>h,λ_ _ _ _=>rfl,λL h b hb=>.inr ⟨L,h,hb⟩,?_,rfl,rfl,rfl,rfl⟩
  .intro b hb hn;exact setRow_other _ _ _ _ (λe=>hn _ (bL c) (by simp[e]))
  .intro l' B L' lW gh;by_cases e:l=l'
   .subst e;rw[g]at lW;cases lW;exact⟨_,L',by rw[gw d],gh,by simp[hX]⟩
   .exact⟨B,L',by grind,gh,.refl _ _⟩
 refine⟨⟨?_,by simp[h.len],?_,h.fY,λL c b hb=>by simpa using h.lt L c b hb,λb hb=>by simpa using h.own b hb⟩,st⟩
 .intro b o v hm;have k:b≠i:=λe=>by grind
  rw[<-h.mem b o v hm];simp only[aR];grind[setRow_other]
 .intro l' B L' lW gh;by_cases e:l=l'
  .subst e;rw[gw d]at lW;cases lW;rw[c]at gh;cases gh;exact⟨i,a,rfl,setRow_heap _ _ _ _ _ _ h2,r.mono st.ext h.len,m⟩
  .rw[kM e]at lW;refine(h.box l' B L' lW gh).carry st.ext h.len λb hb=>⟨setRow_other _ _ _ _ λj=>?_,λ_=>rfl⟩
   subst j;exact e (h.fY l l' _ L' c gh b (by simp) hb)
def Qd(σ:List bm)(s:St):Next->D->Prop
 |.value v,x=>dk σ s v x
 |.skip,x=>x=.any
 |_,_=>False
def bF(P:aK)(o:aD)(η:aE->D)(σ:List bm)(x:D)(σ':List bm):Prop :=
 ∀s a,aF σ s->(∀y,dk σ s (a y) (η y))->∃b s',(an a o).run P s.w=.ok b s'.w/\Qd σ' s' b x/\aF σ' s'/\Step σ s σ' s'/\eN s ((an a o).events P s.w #[])
def bF.nL{x:D}(h:∀s a,aF σ s->(∀y,dk σ s (a y) (η y))->∃v,(an a o).run P s.w=.ok (.value v) s.w/\dk σ s v x/\eN s ((an a o).events P s.w #[])):bF P o η σ x σ :=
 λs a hh hr=>let ⟨v,h1,h2,b⟩:=h s a hh hr;⟨.value v,s,h1,h2,hh,.refl _ _,b⟩
def bF.quiet{x:D}(h:∀s a,aF σ s->(∀y,dk σ s (a y) (η y))->∃v,(an a o).run P s.w=.ok (.value v) s.w/\dk σ s v x/\(an a o).events P s.w #[]=#[]):bF P o η σ x σ :=
 λs a hh hr=>let ⟨v,h1,h2,b⟩:=h s a hh hr;⟨.value v,s,h1,h2,hh,.refl _ _,by rw[b];exact .nil⟩
def MX:IntKind->Int->Bool
 |.i64,.ofNat m=>bC m 9223372036854775807
 |.i64,.negSucc m=>bC m 9223372036854775807
 |.u8,.ofNat m=>bC m 255
 |.i32,.ofNat m=>bC m 2147483647
 |.i32,.negSucc m=>bC m 2147483647
 |.u64,.ofNat m=>bC m 18446744073709551615
 |.u32,.ofNat m=>bC m 4294967295
 |_,_=>ae
def Qg{k:IntKind}{n:Int}(h:MX k n=ab):bt k n:=by cases k<;>cases n<;>simp only[MX,bt]at h⊢<;>first|(cases h;done)|(have:=ez h;grind)
def qJ:aj->Option C
 |.int k n=>cond (MX k n) (aa (.int k n)) af
 |.bool b=>aa (.bool b)
 |.string s=>cond (bC s.size 9223372036854775807) (aa (.str s.data.toList)) af
 |.slice af 0 0=>aa (.sl ab 0 0 (λ_=>[]))
 |.pointer af=>aa .oK
 |.nilIface=>aa .oN
 |.nilFunc=>aa .zm
 |.map m=>aa (.val (.map m))
 |_=>af
theorem Rd.ic{t:Bool}{a:Option Addr}:Rd M (.slice a 0 0) (.sl t k 0 es) :=
 Rd.sl 0 0 (λ_ _=>ai) (ba _) (by omega) (λ_=>rfl) (by omega) (by omega) (by omega) (by omega)
def Rd.qJ{M:Mem}{v:aj}{c:C}(h:qJ v=aa c):Rd M v c:=by
 unfold AM.qJ at h;split at h<;>first
  |(rename_i k n;cases hb:MX k n<;>rw[hb]at h<;>cases h;exact .int (Qg hb))
  |(rename_i s;cases hb:bC s.size 9223372036854775807<;>rw[hb]at h<;>cases h;exact .str rfl (by rw[iW];exact ez hb))
  |(cases h;done)
  |(cases h;exact .bool)
  |(cases h;exact Rd.ic)
  |(cases h;exact .oK)
  |(cases h;exact .oN)
  |(cases h;exact .zm)
  |(cases h;exact .val rfl)
def dOf:Option C->D
 |some c=>.e (.one (.c c))
 |none=>.any
def bO(φ:Fr):aE->D
 |.tmp t=>look φ t
 |.const v=>dOf (qJ v)
 |.func f=>.e (.one (.c (.fn (.func f) [] [])))
 |.global _=>.any
theorem dt{a:Act}(f:cx N σ s φ a)(y:aE):dk σ s (a.eval y) (bO φ y):=by
 cases y with
 |tmp t=>exact f.slot t
 |const v =>
  simp only[bO,Act.eval];cases h:qJ v with
  |none=>trivial
  |some c=>exact Rd.qJ h
 |func g =>
  exact Rd.fn [] [] rfl rfl (λ_=>ai) (λ_=>ai) (by simp) (by simp) (by simp) (by simp)
 |global g=>trivial
def kO:Option Nat->D->Fr->Fr
 |some t,x,φ=>(t,x)::φ
 |none,_,φ=>φ
def DQ{X:Cx P}{b:aU}{k:List Item}{a:Act}{rest:List Nat}(l:b.kind≠.early)(ho:ops[i]?=aa o)(m:a9 o (yielded ops a.tmps)=ab)(h:∀c,bZ s c->∃d s' v,(an a.eval o).run P c.w=.ok d s'.w/\(d=.value v∨(d=.skip/\v=ai))/\qF c s' ((an a.eval o).events P c.w #[])/\fA X S (G (b.aT (a.put o.dst v) (.inRegion ops rest::k)) cs) s'):
  fA X S (G (b.aT a (.inRegion ops (i::rest)::k)) cs) s:=by refine .next rfl λc j=>?_;obtain⟨d,s',v,n,g,e,f⟩:=h c (X.hZ j);refine⟨_,s',Go.Conc.listed P b.fn a o c.w,?_,⟨e.1,e.2.seen⟩,f⟩;grind[A3,Fg]
theorem bF.move(h:o.op=.move x):bF P o η σ (η x) σ :=
 .quiet λs b _ a=>⟨b x,by simp[an,h,pure],a x,by simp[an,h]⟩
theorem bF.assign(h:o.op=.assign x):bF P o η σ (η x) σ :=
 .quiet λs b _ a=>⟨b x,by simp[an,h,pure],a x,by simp[an,h]⟩
def fM{c:C}(h:dk σ s v (.e (.one (.c c)))):Rd s.M v c:=h
def bF.pick{c a b:aE}(h:o.op=.pick c a b){t:Bool}(i:η c=.e (.one (.c (.bool t)))):
  bF P o η σ (match t with|true=>η a|false=>η b) σ:=by
 refine .quiet λs g _ f=>?_;have h1:=f c;rw[i]at h1;have h2:=fM h1;generalize d:g c=v at h2;cases h2;cases t
 .exact⟨g b,by simp[an,h,d,asBool],f b,by simp[an,h,d,asBool]⟩
 .exact⟨g a,by simp[an,h,d,asBool],f a,by simp[an,h,d,asBool]⟩
def Js(op:BinOp)(k:IntKind)(x y:Int):Option (C×List Prop) :=
 match op with
 |.add=>aa (.int k (x+y),[bt k (x+y)])
 |.sub=>aa (.int k (x-y),[bt k (x-y)])
 |.mul=>aa (.int k (x*y),[bt k (x*y)])
 |.quo=>aa (.int k (x / y),[0<=x,0<y])
 |.rem=>aa (.int k (x % y),[0<=x,0<y])
 |.eql=>aa (.bool (x==y),[])
 |.neq=>aa (.bool (x != y),[])
 |.lss=>aa (.bool (decide (x<y)),[])
 |.leq=>aa (.bool (decide (x<=y)),[])
 |.gtr=>aa (.bool (decide (y<x)),[])
 |.geq=>aa (.bool (decide (y<=x)),[])
 |_=>af
def Jt(op:BinOp)(x y:List UInt8):Option (C×List Prop) :=
 match op with
 |.add=>aa (.str (x++y),[x.length+y.length<=9223372036854775807])
 |.eql=>aa (.bool (x==y),[])
 |.neq=>aa (.bool (!(x==y)),[])
 |.lss=>aa (.bool (bd x y),[])
 |.leq=>aa (.bool (bd x y||x==y),[])
 |.gtr=>aa (.bool (!(bd x y||x==y)),[])
 |.geq=>aa (.bool (!(bd x y)),[])
 |_=>af
@[simp] def ar:List Prop->Prop
 |[]=>True
 |[p]=>p
 |p::q::r=>p/\ar (q::r)
def ar.cons{p:Prop}{r:List Prop}:ar (p::r)↔p/\ar r:=by cases r<;>simp
theorem ma{k:IntKind}{n:Int}(h:bt k n):k.wrap n=n:=by cases k<;>simp only[bt,IntKind.wrap,IntKind.bits,IntKind.signed]at h⊢<;>simp<;>(try split)<;>omega
def Ju{k:IntKind}{x y:Int}{c:C}(h:Js op k x y=aa (c,obs))(ho:ar obs)(g:bt k x)(f:bt k y)(t:av)(M:Mem):
  ∃v,(binOp op t (.int k x) (.int k y)).run P w=.ok v w/\Rd M v c:=by
 cases op<;>simp only[Js,dm,lu,reduceCtorEq]at h
 case add=>obtain⟨rfl,rfl⟩:=h;exact⟨_,by simp only[binOp,cT,fD,b6,Op.intArith,ma ho];rfl,.int ho⟩
 case sub=>obtain⟨rfl,rfl⟩:=h;exact⟨_,by simp only[binOp,cT,fD,b6,Op.intArith,ma ho];rfl,.int ho⟩
 case mul=>obtain⟨rfl,rfl⟩:=h;exact⟨_,by simp only[binOp,cT,fD,b6,Op.intArith,ma ho];rfl,.int ho⟩
 case quo =>
  obtain⟨rfl,rfl⟩:=h;obtain⟨b,a⟩:=ho;replace a:0<y:=a;have e:x.tdiv y=x / y:=Int.tdiv_eq_ediv_of_nonneg b;have d:bt k (x / y):=by have i:0<=x / y:=Int.ediv_nonneg b (by omega);have j:x / y<=x:=Int.ediv_le_self _ b;cases k<;>simp only[bt]at g⊢<;>omega
  exact⟨_,by simp only[binOp,cT,fD,b6,Op.intDiv,show y≠0 by omega,e,ma d];rfl,.int d⟩
 case rem =>
  obtain⟨rfl,rfl⟩:=h;obtain⟨b,a⟩:=ho;replace a:0<y:=a;have e:x.tmod y=x % y:=Int.tmod_eq_emod_of_nonneg b;have d:bt k (x % y):=by have i:0<=x % y:=rz _ (by omega);have j:x % y<y:=rm _ a;cases k<;>simp only[bt]at f⊢<;>omega
  exact⟨_,by simp only[binOp,cT,fD,b6,Op.intDiv,show y≠0 by omega,e];rfl,.int d⟩
 all_goals (obtain⟨rfl,rfl⟩:=h;exact⟨_,by simp only[binOp,cT,fD,b6,Op.intCmp,gt_iff_lt,ge_iff_le];rfl,.bool⟩)
def Jv{x y:ByteArray}{a b:List UInt8}{c:C}(h:Jt op a b=aa (c,obs))(ho:ar obs)(f:x.data.toList=a)(d:y.data.toList=b)(t:av)(M:Mem):
  ∃v,(binOp op t (.string x) (.string y)).run P w=.ok v w/\Rd M v c:=by
 subst f d;cases op<;>simp only[Jt,dm,lu,reduceCtorEq]at h
 case add =>
  obtain⟨rfl,rfl⟩:=h;have i:¬((x.size+y.size:Nat):Int)>IntKind.i64.max:=by have k:x.data.toList.length=x.size:=iW;have j:y.data.toList.length=y.size:=iW;have e:IntKind.i64.max=9223372036854775807:=rfl;have g:x.data.toList.length+y.data.toList.length<=9223372036854775807:=ho;grind
  refine⟨_,by simp only[binOp,Op.stringOp,i,b6];rfl,.str (by simp) (by simpa using ho)⟩
 all_goals (obtain⟨rfl,rfl⟩:=h;exact⟨_,by simp only[binOp,Op.stringOp,ByteArray.toList_eq];rfl,.bool⟩)
def MY{k:IntKind}{x y:Int}{c:C}(h:Js op k x y=aa (c,obs))(ho:ar obs)(t:av):
  (binOp op t (.int k x) (.int k y)).events P w #[]=#[]:=by
 cases op<;>simp only[Js,dm,lu,reduceCtorEq]at h
 case quo =>
  obtain⟨rfl,rfl⟩:=h;obtain⟨b,a⟩:=ho;replace a:0<y:=a;simp only[binOp,cT,fD,b6,Op.intDiv,show y≠0 by omega];rfl
 case rem =>
  obtain⟨rfl,rfl⟩:=h;obtain⟨b,a⟩:=ho;replace a:0<y:=a;simp only[binOp,cT,fD,b6,Op.intDiv,show y≠0 by omega];rfl
 all_goals (simp only[binOp,cT,fD,b6,Op.intCmp,Op.intArith];rfl)
def MZ{x y:ByteArray}{a b:List UInt8}{c:C}(h:Jt op a b=aa (c,obs))(ho:ar obs)(f:x.data.toList=a)(d:y.data.toList=b)(t:av):
  (binOp op t (.string x) (.string y)).events P w #[]=#[]:=by
 subst f d;cases op<;>simp only[Jt,dm,lu,reduceCtorEq]at h
 case add =>
  obtain⟨rfl,rfl⟩:=h;have i:¬((x.size+y.size:Nat):Int)>IntKind.i64.max:=by have k:x.data.toList.length=x.size:=iW;have j:y.data.toList.length=y.size:=iW;have e:IntKind.i64.max=9223372036854775807:=rfl;have g:x.data.toList.length+y.data.toList.length<=9223372036854775807:=ho;grind
  simp only[binOp,Op.stringOp,i,b6];rfl
 all_goals (simp only[binOp,Op.stringOp];rfl)
def GZ:IntKind->IntKind->Bool
 |.i8,.i8|.i16,.i16|.i32,.i32|.i64,.i64|.u8,.u8|.u16,.u16|.u32,.u32|.u64,.u64=>ab
 |_,_=>ae
def zR{k k':IntKind}(h:GZ k k'=ab):k=k':=by cases k<;>cases k'<;>first|rfl|(cases h;done)
def Mv(op:BinOp):C->C->Option (C×List Prop)
 |.int k x,.int k' y=>cond (GZ k k') (Js op k x y) af
 |.str a,.str b=>Jt op a b
 |_,_=>af
def gE(op:BinOp)(t:av)(x y:aE)(k k':IntKind)(n a:Int)(u:aA):(eqGuard op t x y (.int k n) (.int k' a)).run P u=.ok () u:=by cases op<;>rfl
def tR(op:BinOp)(t:av)(x y:aE)(a b:ByteArray)(u:aA):(eqGuard op t x y (.string a) (.string b)).run P u=.ok () u:=by cases op<;>rfl
def jy(op:BinOp)(t:av)(x y:aE)(k k':IntKind)(n a:Int)(u:aA)(es:Array Event):(eqGuard op t x y (.int k n) (.int k' a)).events P u es=es:=by cases op<;>rfl
def wj(op:BinOp)(t:av)(x y:aE)(a b:ByteArray)(u:aA)(es:Array Event):(eqGuard op t x y (.string a) (.string b)).events P u es=es:=by cases op<;>rfl
theorem bF.binOp(h:o.op=.binOp op t x y ty){a b c:C}(u:η x=.e (.one (.c a)))(hb:η y=.e (.one (.c b)))(g:Mv op a b=aa (c,obs))(ho:ar obs):bF P o η σ (.e (.one (.c c))) σ:=by
 refine .quiet λs r _ q=>?_;have h1:=q x;have h2:=q y;rw[u]at h1;rw[hb]at h2;replace h1:=fM h1;replace h2:=fM h2;generalize d:r x=vx at h1;generalize f:r y=vy at h2;cases h1<;>cases h2<;>simp only[Mv,reduceCtorEq]at g
 case int.int k n z k' n' Vr =>
  cases m:GZ k k'<;>simp only[m,cond,reduceCtorEq]at g
  cases zR m;obtain⟨v,j,i⟩:=Ju (P:=P) (w:=s.w) g ho z Vr t s.M;exact⟨v,by simp only[an,h,bU,d,f,gE,cw,j,cY],i,by simp[an,h,d,f,gE,jy,MY g ho]⟩
 case str.str =>
  rename_i A l p hl y' l' hy Df;obtain⟨v,j,i⟩:=Jv (P:=P) (w:=s.w) g ho p hy t s.M;exact⟨v,by simp only[an,h,bU,d,f,tR,cw,j,cY],i,by simp[an,h,d,f,tR,wj,MZ g ho p hy]⟩
def UP(op:UnOp):C->Option C
 |.bool b=>match op with|.not=>aa (.bool (!b))|_=>af
 |_=>af
theorem bF.unOp{op:UnOp}(h:o.op=.unOp op t x){a c:C}(f:η x=.e (.one (.c a)))(d:UP op a=aa c):bF P o η σ (.e (.one (.c c))) σ:=by
 refine .quiet λs i _ g=>?_;have h1:=g x;rw[f]at h1;replace h1:=fM h1;generalize b:i x=vx at h1;cases h1<;>simp only[UP,reduceCtorEq]at d
 cases op<;>simp only[reduceCtorEq,dm]at d
 subst d;exact⟨_,by simp only[an,h,b,Op.unary,bU,cY,cw],Rd.bool,by simp[an,h,b,Op.unary]⟩
theorem gN.get{xs:List E1}(r:gN σ s vs xs){x:E1}(h:xs[j]?=aa x):∃v,vs[j]?=aa v/\nq σ s v x:=by
 induction vs generalizing xs j with
 |nil=>cases xs<;>simp_all[gN]
 |cons v vs ih =>
  cases xs with
  |nil=>grind
  |cons b cs =>
   cases j with
   |zero=>simp at h;subst h;exact⟨v,rfl,r.1⟩
   |succ j=>simp at h;obtain⟨u,c,a⟩:=ih r.2 h;grind
theorem bF.extract{P:aK}{o:aD}{η:aE->D}{σ:List bm}{x:aE}{j:Nat}(h:o.op=.extract x j){xs:List E1}{e:E1}(g:η x=.fK xs)(f:xs[j]?=aa e):bF P o η σ (.e e) σ:=by refine .quiet λs k _ i=>?_;have h1:=i x;rw[g]at h1;obtain⟨vs,d,c⟩:=h1;obtain⟨v,b,a⟩:=c.get f;refine⟨v,?_,a,?_⟩<;>simp[an,h,d,Instr.extract,b]
def zi(b o:Nat):Event:=⟨.cell ⟨b,o,af⟩,ae,ae⟩
def GF(b o:Nat):Event:=⟨.cell ⟨b,o,af⟩,ab,ae⟩
theorem de(b o n:Nat):(⟨b,o,af⟩:Addr).add n=⟨b,o+n,af⟩:=by unfold Addr.add;split<;>simp_all
section
def zl{o:Nat}(h:w.cell? ⟨b,o,af⟩=aa v)(es:Array Event):(load ⟨b,o,af⟩).events P w es=es.push (zi b o):=by rw[events_load,h];rfl
def mY{w:aA}{b o:Nat}:∀(n i:Nat) (acc:Array aj) (es:Array Event),(∀j,j<n->∃v,w.cell? ⟨b,o+(i+j),af⟩=aa v) ->
    ∀e∈(loadCellsFrom ⟨b,o,af⟩ i n acc).events P w es,e∈es∨∃j,j<i+n/\e=zi b (o+j)
  | 0,i,acc,es,_=>λe h=>.inl (by simpa[loadCellsFrom]using h)
  | n+1,i,acc,es,d=>λe h=>by
    obtain⟨v,a⟩:=d 0 (by omega);simp only[fS]at a;simp only[loadCellsFrom,aP,de,run_load,a,aV,zl a]at h;rcases mY n (i+1) (acc.push v) _ (λj c=>by grind) e h with f|⟨j,c,rfl⟩
    · grind
    grind
def rF{o:Nat}{es:Array Event}(h:∀j,j<n->∃v,w.cell? ⟨b,o+j,af⟩=aa v):∀e∈(loadCells ⟨b,o,af⟩ n).events P w es,e∈es∨∃j,j<n/\e=zi b (o+j):=by intro e a;have:=mY (P:=P) n 0 #[] es (by grind) e a;grind
def eh{b o:Nat}{t:av}:∀(vs:List aj) (i:Nat) (a:Array aj) (w:aA) (es:Array Event),w.heap[b]?=aa (.cells a t (0,0))->o+i+vs.length<=a.size->(∀v∈vs,v.oneCell'=ab) ->
    ∀e∈(storeCells ⟨b,o,af⟩ vs i).events P w es,e∈es∨∃j,i<=j/\j<i+vs.length/\e=GF b (o+j)
  | [],_,_,_,_,_,_,_=>λe h=>.inl (by simpa[storeCells]using h)
  | v::rest,i,a,w,es,f,r,l=>λe h=>by
    have hi:o+i<a.size:=by grind
    have c:w.cell? ⟨b,o+i,af⟩=aa a[o+i]:=by simp[aR,f,hi]
    have d:w.frozen? ⟨b,o+i,af⟩=ae:=by simp[World.frozen?,f]
    have g:(store (⟨b,o+i,af⟩:Addr) v).run P w=.ok () (w.setRow b (a.setIfInBounds (o+i) v)):=by grind[run_store,setCell_eq_setRow]
    have k:(store (⟨b,o+i,af⟩:Addr) v).events P w es=es.push (GF b (o+i)):=by rw[events_store P w es _ v _ (l v (by simp)),c];simp only[d,iG,b6];rfl
    simp only[storeCells,aP,de,g,k,aV]at h;rcases eh rest (i+1) (a.setIfInBounds (o+i) v) _ _ (setRow_heap _ _ _ _ _ _ f) (by grind) (λu m=>l u (by grind)) e h with p|⟨j,n,q,rfl⟩
    · grind
    grind
def c9(P:aK)(m:Sem α):Prop:=∀w es,m.events P w es=es
def c9.bind{β:Type}{m:Sem α}{f:α->Sem β}(h:c9 P m)(k:∀a,c9 P (f a)):c9 P (m >>= f):=by
  intro w es;rw[aP,h w es];cases m.run P w with
  | ok a w'=>exact k a w' es
  | halt x w'=>rfl
def c9.pure{α:Type}{a:α}:c9 P (Pure.pure a:Sem α):=λ_ _=>rfl
def c9.stuck{α:Type}{a:String}:c9 P (Go.stuck a:Sem α):=λ_ _=>rfl
def c9.unsupported{α:Type}{u:Unsupported}:c9 P (Go.unsupported u:Sem α):=λ_ _=>rfl
def c9.sizeOf{t:av}:c9 P (sizeOf t):=λ_ _=>events_sizeOf ..
def c9.underlying{t:av}:c9 P (underlying t):=λ_ _=>events_underlying ..
def c9.zeroValue{t:av}:c9 P (zeroValue t):=λ_ _=>events_zeroValue ..
def c9.newObj{o:Obj}:c9 P (newObj o):=λ_ _=>rfl
def c9.newRow{t:av}{c:Array aj}:c9 P (newRow t c):=.bind .newObj λ_=>.pure
def c9.OD{α β:Type}{f:α->Sem β}(h:∀a,c9 P (f a)):∀l:List α,c9 P (l.mapM f)
  | []=>by rw[List.mapM_nil];exact .pure
  | a::l=>by rw[nB];exact .bind (h a) λ_=>.bind (c9.OD h l) λ_=>.pure
def c9.map{α β:Type}{f:α->β}{m:Sem α}(h:c9 P m):c9 P (Functor.map f m):=λw es=>by rw[Sem.events_map];exact h w es
def c9.SI{β:Type}{f:α->Sem β}(h:∀a,c9 P (f a))(l:Array α):c9 P (l.mapM f):=by rw[qB];exact .map (.OD h _)
def c9.IN{α β:Type}{F:α->β->Sem (ForInStep β)}(h:∀a b,c9 P (F a b)):∀(l:List α) (b:β),c9 P (forIn l b F)
  | [],b=>by rw[List.forIn_nil];exact .pure
  | a::l,b=>by
    rw[List.forIn_cons];refine .bind (h a b) λr=>?_;cases r with
    | done b=>exact .pure
    | yield b=>exact c9.IN h l b
theorem c9.build{t:av}{parts:Array (Nat×aj)}:c9 P (Instr.build t parts):=by
  unfold Instr.build;refine .bind .zeroValue λz=>.bind .underlying λd=>?_;cases d<;>first
    | exact .stuck
    | (refine .bind (.SI (λ_=>.bind .sizeOf λ_=>.pure) _) λpl=>?_
       split
       · exact .pure
       · exact .stuck)
    | (refine .bind .sizeOf λn=>?_
       split
       · exact .pure
       · exact .stuck)
theorem c9.buildSlice{t:av}{n:Nat}{parts:Array (Nat×aj)}:c9 P (Instr.buildSlice t n parts):=by
  unfold Instr.buildSlice;refine .bind .underlying λd=>?_;cases d<;>first
    | exact .stuck
    | (refine .bind .sizeOf λm=>?_
       dsimp only
       have hj:∀(elem:av) (zero:Array aj),c9 P (match Instr.fill (λi=>aa (i*m,m)) (Array.map (λx=>zero[x % zero.size]!) (Array.range (n*m))) parts.toList with
          | some cells=>do
            let a<-Go.newRow elem cells
            Pure.pure (Value.slice (aa a) n n)
          | _=>Go.stuck "buildSlice: a part of the wrong size"):=by
         intro elem zero;split
         · exact .bind .newRow λ_=>.pure
         · exact .stuck
       by_cases b:n*m=0
       · simp only[b,bY]
         rw[b]at hj;split
         · grind
         · exact .bind .pure λz=>hj _ z
       · simp only[b,b6]
         split
         · exact .bind .unsupported λ_=>.bind .zeroValue λz=>.bind .pure λz=>hj _ z
         · exact .bind .zeroValue λz=>.bind .pure λz=>hj _ z)
def rJ{o:Nat}{L:Loc}(a:L∈s.β)(c:b∈L.bs):nJ s (zi b o):=⟨rfl,rfl,.inr (.inl ⟨⟨L,a,c⟩,λh=>by cases h⟩)⟩
def A1{o:Nat}(h:s.M b o=aa v):nJ s (zi b o):=⟨rfl,rfl,.inr (.inr ⟨rfl,v,h⟩)⟩
theorem k7{o:Nat}{L:Loc}(a:L∈s.β)(c:b∈L.bs)(d:s.M b o=af):nJ s (GF b o):=⟨rfl,rfl,.inr (.inl ⟨⟨L,a,c⟩,λ_=>d⟩)⟩
end
structure TI where
 size:Nat
 bytes:Nat
 agg:Bool
 desc:TypeDesc
 zero:List C
 eq:List TypeDesc:=[]
def qR:TypeDesc->aj->aj->Option Bool
 |.int _,.int k a,.int k' b=>if k=k' then aa (a==b)else af
 |.string,.string a,.string b=>aa (a.toList==b.toList)
 |.bool,.bool a,.bool b=>aa (a==b)
 |_,_,_=>af
def jD:List TypeDesc->List aj->List aj->Option Bool
 |[],[],[]=>aa ab
 |d::ds,v::vs,w::ws=>match qR d v w with
  |some a=>match jD ds vs ws with
   |some b=>aa (a&&b)
   |none=>af
  |none=>af
 |_,_,_=>af
def zW:TypeDesc->Bool
 |.struct _|.array _ _=>ab
 |_=>ae
structure du(P:aK)(t:av)(i:TI):Prop where
 RS:P.underlying t=aa i.desc
 agg:zW i.desc=i.agg
 info:∃inf z,P.info? t=aa inf/\inf.size=i.size/\inf.bytes=i.bytes/\inf.zero=aa z/\z.cells.toList.map qJ=i.zero.map aa/\(∃cs,z=if i.agg then .agg cs else z)/\i.zero.length=i.size
 eqs:i.eq≠[]->P.eqGuardType P.depth t=ae/\∀(w:aA) (vs ws:List aj) (b:Bool),jD i.eq vs ws=aa b->(Op.equal t (.agg vs.toArray) (.agg ws.toArray)).run P w=.ok b w/\∀es,(Op.equal t (.agg vs.toArray) (.agg ws.toArray)).events P w es=es
def bG:List (Nat×TI)->Nat->Option TI
 |[],_=>af
 |(i,d)::r,t=>cond (az i t) (aa d) (bG r t)
def dj(P:aK)(T:List (Nat×TI)):Prop:=∀t i,bG T t=aa i->du P t i
section
variable {i:TI}
def du.run_underlying(h:du P t i):(underlying t).run P w=.ok i.desc w:=by simp[underlying,h.RS]
def du.jV(h:du P t i):(isAgg t).run P w=.ok i.agg w:=by have:=h.agg;unfold Go.isAgg;rw[bU,h.run_underlying];cases a:i.desc<;>rw[a]at this<;>simp[zW]at this<;>simp[this]
def du.run_sizeOf(h:du P t i):(sizeOf t).run P w=.ok i.size w:=by obtain⟨a,z,h1,h2,_⟩:=h.info;simp[sizeOf,typeInfo,h1,h2]
def ky{σ:List bm}{s:St}:∀{vs:List aj}{cs:List C},vs.map qJ=cs.map aa->dT σ s vs (cs.map A.c)
 |[],[],_=>trivial
 |[],_::_,h=>by grind
 |_::_,[],h=>by grind
 |v::vs,c::cs,h=>by simp only[kZ,List.cons.injEq]at h;exact⟨Rd.qJ h.1,ky h.2⟩
def du.Jw(h:du P t i)(σ:List bm)(s:St):∃z,(zeroValue t).run P w=.ok z w/\dT σ s z.cells.toList (i.zero.map A.c):=by obtain⟨d,z,h1,h2,e,a,b,_⟩:=h.info;exact⟨z,by simp[zeroValue,typeInfo,h1,a],ky b⟩
end
def lC:D->Option (List A)
 |.e (.one a)=>aa [a]
 |.e (.agg cs)=>aa cs
 |_=>af
theorem mP{d:D}{cs:List A}(h:lC d=aa cs)(r:dk σ s v d):dT σ s v.cells.toList cs:=by
 cases d with
 |e x =>
  cases x with
  |one a =>
   cases h;have:=gD.cell r;cases v<;>first|exact⟨r,aq⟩|cases this
  |agg c =>
   cases h;obtain⟨vs,rfl,b⟩:=r;simpa[Value.cells]using b
 |fK xs=>cases h
 |any=>cases h
def bF.newVar{P:aK}{o:aD}{η:aE->D}{σ:List bm}{E:av}{cs:List A}(h:∀s a,aF σ s->(∀y,dk σ s (a y) (η y))->∃v:aj,(an a o).run P s.w=((do pure (.value (.pointer (aa (<-newVar E v))))):Sem Next).run P s.w/\dT σ s v.cells.toList cs/\(an a o).events P s.w #[]=#[]):
  bF P o η σ (.e (.one (.ptr σ.length 0))) (σ++[.cells E cs]):=by
 intro s a hh hr;obtain⟨v,h1,h2,b⟩:=h s a hh hr;refine⟨.value (.pointer (aa ⟨s.w.heap.size,0,af⟩)),s.fT E v.cells.toList,?_,?_,hh.fT h2,.fT s E _ _,by rw[b];exact .nil⟩
 .rw[h1];simp[Go.newVar,newRow,St.fT]
 .refine⟨by simp,⟨.pointer (aa ⟨s.w.heap.size,0,af⟩),[s.w.heap.size]⟩,s.w.heap.size,?_,rfl,rfl⟩;simp[St.fT,<-hh.len]
theorem bF.alloc{P:aK}{T:List (Nat×TI)}(d:dj P T){o:aD}{η:aE->D}{σ:List bm}{E:av}(h:o.op=.alloc E){i:TI}(hi:bG T E=aa i):
  bF P o η σ (.e (.one (.ptr σ.length 0))) (σ++[.cells E (i.zero.map A.c)]):=by refine .newVar λs f _ _=>?_;obtain⟨z,a,b⟩:=(d E i hi).Jw (w:=s.w) σ s;exact⟨z,by simp[an,h,Instr.alloc,a],b,by simp[an,h,Instr.alloc,a,Go.newVar,newRow]⟩
theorem bF.box{P:aK}{o:aD}{η:aE->D}{σ:List bm}{E:av}{x:aE}(h:o.op=.box E x){cs:List A}(a:lC (η x)=aa cs):
  bF P o η σ (.e (.one (.ptr σ.length 0))) (σ++[.cells E cs]) :=
 .newVar λs c _ b=>⟨c x,by simp[an,h,Instr.box],mP a (b x),by simp[an,h,Instr.box,Go.newVar,newRow]⟩
def og{α:Type}:Nat->List α->Option (List α)
 |0,_=>aa []
 |n+1,x::xs=>match og n xs with|some r=>aa (x::r)|none=>af
 |_+1,[]=>af
def mS{α:Type}:∀{n:Nat}{l r:List α},og n l=aa r->r=l.take n/\r.length=n
 |0,l,r,h=>by cases h;simp
 |n+1,[],r,h=>by simp[og]at h
 |n+1,x::xs,r,h=>by
  simp only[og]at h;cases a:og n xs with
  |none=>grind
  |some q =>
   simp[a]at h;subst h;obtain⟨c,b⟩:=mS a;grind
def eB{α:Type}:Nat->List α->Option α
 |_,[]=>af
 |0,x::_=>aa x
 |n+1,_::xs=>eB n xs
theorem cU{α:Type}:∀{n:Nat}{l:List α}{x:α},eB n l=aa x->l[n]?=aa x
 |_,[],_,h=>by simp[eB]at h
 |0,x::_,_,h=>by simpa[eB]using h
 |n+1,_::xs,_,h=>by simpa using cU (n:=n) (l:=xs) h
def g8{α:Type}:Nat->List α->List α
 |0,l=>l
 |_+1,[]=>[]
 |n+1,_::xs=>g8 n xs
def m7{α:Type}:∀(n:Nat)(l:List α),g8 n l=l.drop n
 |0,_=>by simp[g8]
 |_+1,[]=>by simp[g8]
 |n+1,_::xs=>by simp[g8,m7 n xs]
def mR(i:TI)(cs:List A):Option E1 :=
 match i.agg with
 |true=>match og i.size cs with|some r=>aa (.agg r)|none=>af
 |false=>match eB 0 cs with|some a=>aa (.one a)|none=>af
def oV{i:TI}(k:du P t i){cs:List A}{e:E1}(u:∀(j:Nat) (v:aj),vs[j]?=aa v->s.w.cell? ⟨b,off+j,af⟩=aa v)(l:dT σ s vs cs)(f:mR i cs=aa e):
  ∃v,(loadVar t ⟨b,off,af⟩).run P s.w=.ok v s.w/\nq σ s v e:=by
 simp only[loadVar,bU,k.jV,cw];cases o:i.agg<;>simp only[mR,o]at f
 .cases g:eB 0 cs with
  |none=>grind
  |some a =>
   simp[g]at f;subst f;obtain⟨v,q,h⟩:=l.get (cU g);refine⟨v,?_,h⟩;grind[run_load]
 .cases g:og i.size cs with
  |none=>grind
  |some r =>
   simp[g]at f;subst f;obtain⟨p,m⟩:=mS g;have c:=l.take i.size;rw[<-p]at c;have n:(vs.take i.size).length=i.size:=by rw[c.length,m]
   have d:=run_loadCells_list (P:=P) s.w ⟨b,off,af⟩ (vs.take i.size) (λj v x=>by grind[de])
   rw[n]at d;refine⟨.agg (vs.take i.size).toArray,?_,vs.take i.size,rfl,c⟩;simp[k.run_sizeOf,d]
def jW{i:TI}(d:du P t i)(g:∀j,j<n->∃v,w.cell? ⟨b,off+j,af⟩=aa v)(c:(if i.agg then i.size else 1)<=n):
  ∀e∈(loadVar t ⟨b,off,af⟩).events P w #[],∃j,j<n/\e=zi b (off+j):=by
 intro e a;simp only[loadVar,aP,d.jV,aV,events_isAgg]at a;cases k:i.agg
 .rw[k]at c a;obtain⟨v,f⟩:=g 0 (by grind);simp only[fS]at f;simp only[iG,b6,zl f]at a;rcases Array.mem_push.1 a with h|rfl
  .grind
  .exact⟨0,by grind,rfl⟩
 .rw[k]at c a;simp only[bY]at c;simp only[bY,aP,d.run_sizeOf,aV,events_sizeOf]at a;have key:∀e∈(loadCells ⟨b,off,af⟩ i.size).events P w #[],∃j,j<n/\e=zi b (off+j):=by
   intro e a;rcases rF (P:=P) (λj l=>g j (by omega)) e a with h|⟨j,l,rfl⟩
   .grind
   grind
  apply key;generalize(loadCells ⟨b,off,af⟩ i.size).run P w=r at a;cases r with
  |ok v w'=>simpa using a
  |halt x w'=>simpa using a
theorem rL{i:TI}{cs:List A}{e:E1}(h:mR i cs=aa e):(if i.agg then i.size else 1)<=cs.length:=by
 unfold mR at h;cases a:i.agg<;>rw[a]at h
 .cases cs with
  |nil=>simp[eB]at h
  |cons c cs=>simp
 .simp only at h;cases b:og i.size cs with
  |none=>grind
  |some r =>
   obtain⟨f,d⟩:=mS b;grind
theorem bF.FD{T:List (Nat×TI)}(q:dj P T)(h:o.op=.load t x){cs:List A}{i:TI}{e:E1}(D:η x=.e (.one (.ptr l off)))(C:σ[l]?=aa (.cells E cs))(hi:bG T t=aa i)(B:mR i (g8 off cs)=aa e):bF P o η σ (.e e) σ:=by
 refine .nL λs F hh hr=>?_
 have h1:=hr x;rw[D]at h1;obtain⟨_,L,b,r,f,y⟩:=h1;obtain⟨k,vs,rfl,z,g,_⟩:=hh.box l _ L C r;simp at f;subst f;rw[m7]at B;obtain⟨v,a,m⟩:=oV (s:=s) (σ:=σ) (P:=P) (q t i hi) (b:=k) (off:=off) (vs:=vs.drop off) (cs:=cs.drop off) (e:=e) (λj v hj=>by
  simp only[aR,z]
  grind) (g.drop off) B
 refine⟨v,by simp[an,h,y,Instr.loadAt,Instr.sureAddr,a],m,λu d=>?_⟩;have c:u∈(loadVar t ⟨k,off,af⟩).events P s.w #[]:=by
  have e:an F o=(do pure (.value (<-loadVar t ⟨k,off,af⟩))):=by simp[an,h,y,Instr.loadAt,Instr.sureAddr]
  rw[e]at d;simpa[a]using d
 have p:(vs.drop off).length=(cs.drop off).length:=(g.drop off).length;obtain⟨j,hj,rfl⟩:=jW (q t i hi) (n:=(vs.drop off).length) (λj hj=>by refine⟨(vs.drop off)[j],?_⟩;simp only[aR,z];simp at hj⊢<;>omega) (by grind[rL]) u c
 exact rJ (bL r) (by simp)
theorem bF.IY{T:List (Nat×TI)}(r:dj P T)(h:o.op=.load t x){cs:List C}{i:TI}{e:E1}(D:η x=.e (.one (.c (.rp cs))))(hi:bG T t=aa i)(y:mR i (cs.map A.c)=aa e):bF P o η σ (.e e) σ:=by
 refine .nL λs B hh hr=>?_;have h1:=hr x;rw[D]at h1;have h2:=fM h1;generalize k:B x=vx at h2;cases h2;rename_i b off f hm LU;have p:∀(n:Nat) (ds:List C),(∀j c,ds[j]?=aa c->Rd s.M (f (n+j)) c)->dT σ s ((bg ds.length).map λj=>f (n+j)) (ds.map A.c):=by
  intro n ds;induction ds generalizing n with
  |nil=>intro _;trivial
  |cons d ds ih =>
   intro z;rw[en,y4];refine⟨z 0 d rfl,?_⟩;have:=ih (n+1) (λj c hj=>by have:=z (j+1) c (by grind);grind);grind[Function.comp_def]
 obtain⟨v,g,q⟩:=oV (s:=s) (σ:=σ) (P:=P) (r t i hi) (b:=b) (off:=off) (vs:=(bg cs.length).map λj=>f (0+j)) (cs:=cs.map A.c) (e:=e) (λj v hj=>by
  simp only[nD,bz]at hj;by_cases a:j<cs.length
  .simp[a]at hj;subst hj;exact hh.mem _ _ _ (hm j cs[j] (bn a))
  grind) (p 0 cs (by grind)) y
 refine⟨v,by simp[an,h,k,Instr.loadAt,Instr.sureAddr,g],q,λu m=>?_⟩;have l:u∈(loadVar t ⟨b,off,af⟩).events P s.w #[]:=by
  have e:an B o=(do pure (.value (<-loadVar t ⟨b,off,af⟩))):=by simp[an,h,k,Instr.loadAt,Instr.sureAddr]
  rw[e]at m;simpa[g]using m
 obtain⟨j,hj,rfl⟩:=jW (r t i hi) (n:=cs.length) (λj hj=>⟨f j,hh.mem _ _ _ (hm j cs[j] (bn hj))⟩) (by have:=rL y;grind) u l;exact A1 (hm j cs[j] (bn hj))
def fh{α:Type}:Nat->List α->List α->Option (List α)
 |0,[],l=>aa l
 |0,n::ns,_::cs=>match fh 0 ns cs with|some r=>aa (n::r)|none=>af
 |k+1,ns,c::cs=>match fh k ns cs with|some r=>aa (c::r)|none=>af
 |_,_,[]=>af
def pX{α:Type}:∀{off:Nat}{new l r:List α},fh off new l=aa r->off+new.length<=l.length/\r=l.take off++new++l.drop (off+new.length)
 |0,[],l,r,h=>by cases l<;>cases h<;>simp
 |0,n::ns,c::cs,r,h=>by
  simp only[fh]at h;cases a:fh 0 ns cs with
  |none=>grind
  |some q =>
   simp[a]at h;subst h;obtain⟨d,b⟩:=pX a;grind
 |0,n::ns,[],r,h=>by simp[fh]at h
 |k+1,ns,c::cs,r,h=>by
  simp only[fh]at h;cases a:fh k ns cs with
  |none=>grind
  |some q =>
   simp[a]at h;subst h;obtain⟨d,b⟩:=pX a;grind
 |k+1,ns,[],r,h=>by simp[fh]at h
def dT.fh{new:List aj}{cs Qh r:List A}(h:AM.fh off Qh cs=aa r)(h1:dT σ s vs cs)(h2:dT σ s new Qh):
  off+new.length<=vs.length/\dT σ s (vs.take off++new++vs.drop (off+new.length)) r:=by obtain⟨k1,rfl⟩:=pX h;rw[h2.length,h1.length];refine⟨k1,((h1.take off).append h2).append (by have:=h1.drop (off+Qh.length);exact this)⟩
theorem bF.store{T:List (Nat×TI)}(F:dj P T)(h:o.op=.store t x y){cs new lZ:List A}{i:TI}(K:η x=.e (.one (.ptr l off)))(z:σ[l]?=aa (.cells E cs))(hi:bG T t=aa i)(J:lC (η y)=aa new)(D:new.length=i.size)(M:fh off new cs=aa lZ):
  bF P o η σ .any (σ.set l (.cells E lZ)):=by
 intro s d hh hr;have h1:=hr x;rw[K]at h1;obtain⟨_,L,b,u,n,B⟩:=h1;obtain⟨p,vs,rfl,C,q,g⟩:=hh.box l _ L z u;simp at n;subst n;have a:=mP J (hr y);obtain⟨k1,H⟩:=dT.fh M q a;obtain⟨w1,w2⟩:=hh.write z u rfl H;refine⟨.skip,_,?_,rfl,w1,w2,?_⟩
 rotate_left
 .intro G c;have f:(d y).cells.size=i.size:=by rw[<-D,<-a.length,iW]
  have e:an d o=(do storeVar t ⟨p,off,af⟩ (d y);pure .skip):=by simp[an,h,B,Instr.storeAt,Instr.sureAddr]
  rw[e]at c;have k:G∈(storeCells ⟨p,off,af⟩ (d y).cells.toList).events P s.w #[]:=by
   simp only[storeVar,aP,(F t i hi).run_sizeOf,f,aV,events_sizeOf,cT,fD,b6,bU,cw,Sem.events_pure]at c;generalize(storeCells ⟨p,off,af⟩ (d y).cells.toList).run P s.w=r at c;cases r with
   |ok v w'=>simpa using c
   |halt x w'=>simpa using c
  rcases eh (d y).cells.toList 0 vs.toArray s.w #[] C (by grind) a.cell G k with I|⟨j,_,_,rfl⟩
  .grind
  .exact k7 (bL u) (by simp) (g _)
 have m:=run_storeCells_at P p off E (d y).cells.toList 0 vs.toArray s.w C (by grind) (a.cell);have f:(d y).cells.size=i.size:=by rw[<-D,<-a.length,iW]
 simp only[fS]at m;simp[an,h,B,Instr.storeAt,Instr.sureAddr,storeVar,(F t i hi).run_sizeOf,f,m]
def jA(T:List (Nat×TI))(t:av)(f:Nat):Option (Nat×TI) :=
 match bG T t with
 |some i=>match i.desc with
  |.struct fs=>match eB f fs.toList with
   |some fl=>match bG T fl.type with
    |some j=>cond (az j.size 0) af (aa (fl.offset,j))
    |none=>af
   |none=>af
  |_=>af
 |none=>af
def sX{T:List (Nat×TI)}(c:dj P T){f:Nat}{j:TI}(h:jA T t f=aa (off,j)):
  ∃i fs fl,bG T t=aa i/\i.desc=.struct fs/\fs[f]?=aa fl/\fl.offset=off/\bG T fl.type=aa j/\j.size≠0/\du P t i/\du P fl.type j:=by
 unfold jA at h;split at h
 .rename_i i hi;split at h
  .rename_i fs Wj;split at h
   .rename_i fl hfl;split at h
    .rename_i d b;cases a:az d.size 0<;>simp[a]at h
     obtain⟨rfl,rfl⟩:=h;refine⟨i,fs,fl,hi,Wj,by simpa using cU hfl,rfl,b,?_,c _ _ hi,c _ _ b⟩;intro e;rw[e]at a;cases a
    grind
   grind
  grind
 grind
def mh{T:List (Nat×TI)}(d:dj P T){f:Nat}{j:TI}(h:jA T t f=aa (off,j))(b o:Nat)(w:aA):
  (Instr.fieldAt t (.pointer (aa ⟨b,o,af⟩)) f).run P w=.ok (.pointer (aa ⟨b,o+off,af⟩)) w:=by obtain⟨i,fs,fl,m,e,c,k,l,g,a,g2⟩:=sX d h;simp[Instr.fieldAt,a.run_underlying,e,c,Instr.sureAddr,fieldPlace,g2.run_sizeOf,g,de,k]
def nV{T:List (Nat×TI)}(d:dj P T){f:Nat}{j:TI}(h:jA T t f=aa (off,j))(b o:Nat)(w:aA)(es:Array Event):
  (Instr.fieldAt t (.pointer (aa ⟨b,o,af⟩)) f).events P w es=es:=by obtain⟨i,fs,fl,m,e,c,l,k,g,a,g2⟩:=sX d h;simp[Instr.fieldAt,a.run_underlying,e,c,Instr.sureAddr,fieldPlace,g2.run_sizeOf,g]
def bF.rT{T:List (Nat×TI)}(c:dj P T){f:Nat}(h:o.op=.fieldAddr t x f){j:TI}(m:η x=.e (.one (.ptr l off)))(d:jA T t f=aa (k,j)):bF P o η σ (.e (.one (.ptr l (off+k)))) σ:=by refine .quiet λs p hh hr=>?_;have h1:=hr x;rw[m]at h1;obtain⟨n,L,b,i,a,g⟩:=h1;exact⟨.pointer (aa ⟨b,off+k,af⟩),by simp[an,h,g,mh c d],⟨n,L,b,i,a,rfl⟩,by simp[an,h,g,nV c d]⟩
theorem bF.tK{T:List (Nat×TI)}(d:dj P T){f:Nat}(h:o.op=.fieldAddr t x f){cs:List C}{j:TI}(l:η x=.e (.one (.c (.rp cs))))(g:jA T t f=aa (k,j)):bF P o η σ (.e (.one (.c (.rp (g8 k cs))))) σ:=by
 refine .quiet λs m hh hr=>?_;have h1:=hr x;rw[l]at h1;have h2:=fM h1;generalize a:m x=vx at h2;cases h2;rename_i b o i hm LU;refine⟨.pointer (aa ⟨b,o+k,af⟩),by simp[an,h,a,mh d g],?_,by simp[an,h,a,nV d g]⟩;rw[m7];refine Rd.rp b (o+k) (λj=>i (k+j)) (λj c hj=>?_) (λj c hj=>?_)
 .grind
 grind
def Jx{i:TI}(g:du P t i){cs:List A}(r:dT σ s vs cs){e:E1}(b:mR i (g8 off cs)=aa e)(w:aA):
  ∃v,(part t vs.toArray off).run P w=.ok v w/\nq σ s v e/\∀es,(part t vs.toArray off).events P w es=es:=by
 simp only[part,bU,g.jV,cw,aP,aV,events_isAgg];rw[m7]at b;cases j:i.agg<;>simp only[mR,j]at b
 .cases d:eB 0 (cs.drop off)with
  |none=>grind
  |some a =>
   simp[d]at b;subst b;obtain⟨v,h,f⟩:=(r.drop off).get (cU d);simp at h;refine⟨v,?_,f,λes=>?_⟩<;>simp[h]
 .cases d:og i.size (cs.drop off)with
  |none=>grind
  |some q =>
   simp[d]at b;subst b;obtain⟨k,l⟩:=mS d;have c:=(r.drop off).take i.size;rw[<-k]at c;refine⟨.agg (vs.toArray.extract off (off+i.size)),by simp[g.run_sizeOf],⟨(vs.drop off).take i.size,?_,c⟩,λes=>by simp⟩;simp
theorem bF.field{P:aK}{T:List (Nat×TI)}(p:dj P T){o:aD}{η:aE->D}{σ:List bm}{t:av}{x:aE}{f:Nat}(h:o.op=.field t x f){cs:List A}{k:Nat}{j:TI}{e:E1}(r:η x=.e (.agg cs))(q:jA T t f=aa (k,j))(u:mR j (g8 k cs)=aa e):bF P o η σ (.e e) σ:=by refine .quiet λs B hh hr=>?_;have h1:=hr x;rw[r]at h1;obtain⟨vs,m,a⟩:=h1;obtain⟨i,fs,fl,h1,h2,l,n,y,z,g,g2⟩:=sX p q;obtain⟨v,b,c,d⟩:=Jx g2 a u s.w;exact⟨v,by simp[an,h,m,Instr.field,g.run_underlying,h2,l,asAgg,n,b],c,by simp[an,h,m,Instr.field,g.run_underlying,h2,l,asAgg,n,d]⟩
theorem bF.tM(h:o.op=.nilCheck x)(d:η x=.e (.one (.ptr l off))):bF P o η σ (.e (.one (.ptr l off))) σ:=by refine .quiet λs g hh hr=>?_;have h1:=hr x;rw[d]at h1;have a:=h1;obtain⟨j,L,b,i,f,c⟩:=h1;exact⟨g x,by simp[an,h,c],a,by simp[an,h,c]⟩
theorem bF.vR(h:o.op=.nilCheck x){cs:List C}(d:η x=.e (.one (.c (.rp cs)))):bF P o η σ (.e (.one (.c (.rp cs)))) σ:=by refine .quiet λs b hh hr=>?_;have h1:=hr x;rw[d]at h1;have h2:=fM h1;generalize a:b x=vx at h2;cases h2;exact⟨_,by simp[an,h,a];rfl,by grind,by simp[an,h,a]⟩
def G2(new:List aj):∀(j off:Nat)(cs:Array aj),off+j+new.length<=cs.size ->
  ((new.zipIdx j).foldl (λcs (x:aj×Nat)=>cs.setIfInBounds (off+x.2) x.1) cs).toList=cs.toList.take (off+j)++new++cs.toList.drop (off+j+new.length):=by
 induction new with
 |nil=>intro j off cs _;simp
 |cons v vs ih =>
  intro j off cs h;simp only[List.zipIdx_cons,jq];rw[ih (j+1) off _ (by grind)];have:=list_seg_step cs.toList (off+j) v vs (by grind);simpa[Array.toList_setIfInBounds,Nat.add_assoc]using this
def ym(place:Nat->Option (Nat×Nat)):List (Nat×List A)->List A->Option (List A)
 |[],cs=>aa cs
 |(i,new)::rest,cs=>match place i with
  |some (off,size)=>match az new.length size with
   |true=>match fh off new cs with
    |some r=>ym place rest r
    |none=>af
   |false=>af
  |none=>af
def wm{σ:List bm}{s:St}{place place':Nat->Option (Nat×Nat)}(t:∀i p,place i=aa p->place' i=aa p):∀{parts:List (Nat×List A)}{vparts:List (Nat×aj)}{cs r:List A}{vs:Array aj},
  ym place parts cs=aa r->vparts.map (·.1)=parts.map (·.1)->(∀(k:Nat) (p:Nat×List A) (q:Nat×aj),parts[k]?=aa p->vparts[k]?=aa q->dT σ s q.2.cells.toList p.2)->dT σ s vs.toList cs ->
  ∃d,Instr.fill place' vs vparts=aa d/\dT σ s d.toList r
 |[],[],cs,r,vs,h,_,_,c=>by cases h;exact⟨vs,rfl,c⟩
 |[],_::_,cs,r,vs,h,a,_,c=>by grind
 |_::_,[],cs,r,vs,h,a,_,c=>by grind
 |(i,new)::rest,(g,v)::Td,cs,r,vs,h,a,j,c=>by
  simp only[kZ,List.cons.injEq]at a;obtain⟨rfl,a⟩:=a;simp only[ym]at h;cases b:place g with
  |none=>grind
  |some p =>
   obtain⟨off,size⟩:=p;simp only[b]at h;cases n:az new.length size with
   |false=>grind
   |true =>
    simp only[n]at h;cases m:fh off new cs with
    |none=>grind
    |some q =>
     simp only[m]at h;have f:=j 0 (g,new) (g,v) rfl rfl;simp only at f;have B:=f.length;have l:new.length=size:=b5 n;obtain⟨k1,y⟩:=dT.fh m c f;have z:=G2 v.cells.toList 0 off vs (by grind);have e:v.cells.size=size:=by grind
     have u:off+size<=vs.size:=by grind
     obtain⟨d,w,o⟩:=wm (σ:=σ) (s:=s) t (parts:=rest) (vparts:=Td) (cs:=q) (r:=r)
      (vs:=v.cells.zipIdx.foldl (λcs (x:aj×Nat)=>cs.setIfInBounds (off+x.2) x.1) vs) h a (λk p q w o=>j (k+1) p q (by grind) (by grind)) (by grind[Array.toList_zipIdx])
     refine⟨d,?_,o⟩;simp only[Instr.fill,t _ _ b,e,cT,fD,l7,Bool.false_or,bh];grind
def pY(T:List (Nat×TI)):List Field->Option (List (Nat×Nat))
 |[]=>aa []
 |f::fs=>match bG T f.type with
  |some j=>match pY T fs with
   |some r=>aa ((f.offset,j.size)::r)
   |none=>af
  |none=>af
def wo{P:aK}{T:List (Nat×TI)}(a:dj P T):∀{fs:List Field}{r:List (Nat×Nat)},pY T fs=aa r->fs.mapM (λf=>(P.info? f.type).map λi=>(f.offset,i.size))=aa r
 |[],r,h=>by cases h;simp
 |f::fs,r,h=>by
  simp only[pY]at h;cases b:bG T f.type with
  |none=>grind
  |some j =>
   cases c:pY T fs with
   |none=>grind
   |some q =>
    simp[b,c]at h;subst h;obtain⟨e,z,g,d,_⟩:=(a _ _ b).info;simp[nB,g,d,wo a c]
def oX(η:aE->D):List (Nat×aE)->Option (List (Nat×List A))
 |[]=>aa []
 |(i,x)::r=>match lC (η x)with
  |some cs=>match oX η r with
   |some q=>aa ((i,cs)::q)
   |none=>af
  |none=>af
def sY{σ:List bm}{s:St}{a:aE->aj}{η:aE->D}(d:∀y,dk σ s (a y) (η y)):∀{l:List (Nat×aE)}{q:List (Nat×List A)},oX η l=aa q ->
  (l.map λ(i,x)=>(i,a x)).map (·.1)=q.map (·.1)/\∀(k:Nat) (p:Nat×List A) (u:Nat×aj),q[k]?=aa p->(l.map λ(i,x)=>(i,a x))[k]?=aa u->dT σ s u.2.cells.toList p.2
 |[],q,h=>by cases h;simp
 |(i,x)::r,q,h=>by
  simp only[oX]at h;cases c:lC (η x)with
  |none=>grind
  |some cs =>
   cases b:oX η r with
   |none=>grind
   |some q' =>
    simp[c,b]at h;subst h;obtain⟨f,e⟩:=sY d b;grind[mP]
def zE(T:List (Nat×TI))(η:aE->D)(t:av)(parts:List (Nat×aE)):Option (List A) :=
 match bG T t with
 |some i=>match i.desc with
  |.struct fs=>match pY T fs.toList with
   |some pl=>match oX η parts with
    |some ps=>ym (λk=>eB k pl) ps (i.zero.map A.c)
    |none=>af
   |none=>af
  |_=>af
 |none=>af
theorem bF.build{P:aK}{T:List (Nat×TI)}(g:dj P T){o:aD}{η:aE->D}{σ:List bm}{t:av}{parts:Array (Nat×aE)}(h:o.op=.build t parts){cs:List A}(b:zE T η t parts.toList=aa cs):bF P o η σ (.e (.agg cs)) σ:=by
 refine .quiet λs v hh hr=>?_;unfold zE at b;cases hi:bG T t with
 |none=>grind
 |some i =>
  simp only[hi]at b;cases j:i.desc with
  |struct fs =>
   simp only[j]at b;cases f:pY T fs.toList with
   |none=>grind
   |some pl =>
    simp only[f]at b;cases d:oX η parts.toList with
    |none=>grind
    |some ps =>
     simp only[d]at b;obtain⟨q,z,m,C,G,l,u,E,F⟩:=(g t i hi).info;obtain⟨r,p2⟩:=sY (σ:=σ) (s:=s) hr d;obtain⟨c,y,n⟩:=wm (σ:=σ) (s:=s) (place':=λk=>pl.toArray[k]?) (λk p B=>by grind[cU]) b r p2 (ky u);have hb:P.built t (parts.map λ(i,x)=>(i,v x)).toList=aa c:=by unfold Program.built;have a:=(g t i hi).RS;rw[j]at a;simp only[m,a,l,wo g f];simpa using y
     refine⟨.agg c,?_,⟨c.toList,by simp,n⟩,?_⟩
     .simp only[an,h,bU,run_build s.w t _ c hb,cw,cY]
     .simp only[an,h,aP,run_build s.w t _ c hb,aV,Sem.events_pure];exact c9.build s.w #[]
  |_=>grind
theorem Qq(hi:i<n)(a:j<k):i*k+j<n*k:=by have b:(i+1)*k<=n*k:=ek k (by omega);grind
theorem M5(a:j<k):(i*k+j) / k=i:=by grind[Nat.mul_comm,Nat.mul_add_div,Nat.div_eq_of_lt]
theorem M6(a:j<k):(i*k+j) % k=j:=by rw[Nat.mul_comm,Nat.mul_add_mod,Nat.mod_eq_of_lt a]
def Flat.nil:Flat M k 0 es []:=⟨by simp,by omega,by omega⟩
def cR(n:Nat)(f g:Nat->List C):Nat->List C:=λi=>if i<n then f i else g (i-n)
def Flat.append{m:Nat}{es':Nat->List C}{b:List aj}(h:Flat M k n es vs)(d:Flat M k m es' b):Flat M k (n+m) (cR n es es') (vs++b):=by
 refine⟨by simp[h.len,d.len,gI],λi hi=>?_,λi hi j c hj=>?_⟩
 .simp only[cR];split
  .rename_i a;exact h.width i a
  .exact d.width _ (by omega)
 .simp only[cR]at hj;split at hj
  .rename_i a;obtain⟨v,h1,h2⟩:=h.rd i a j c hj;grind
  .rename_i e;obtain⟨v,h1,h2⟩:=d.rd _ (by omega) j c hj;refine⟨v,?_,h2⟩;have e1:i*k+j=vs.length+((i-n)*k+j):=by rw[h.len,<-Nat.add_assoc,<-gI,zb (by omega)]
   grind
def Flat.cell{M:Mem}{k n:Nat}{es:Nat->List C}{vs:List aj}(h:Flat M k n es vs):∀v∈vs,v.oneCell'=ab:=by
 intro v b;obtain⟨p,c,rfl⟩:=dL b;rw[h.len]at c;have a:0<k:=by grind
 have hi:p / k<n:=rl (by grind);have hj:p % k<k:=iO _ a;have d:=h.width _ hi;obtain⟨v,h1,h2⟩:=h.rd (p / k) hi (p % k) ((es (p / k))[p % k]'(by omega)) (bn (by omega));have e:p / k*k+p % k=p:=rr p k;rw[e]at h1;rw[bn (by grind)]at h1;simp at h1;rw[h1];have:=Rd.cell h2;cases v<;>simp_all[dn,Value.oneCell']
def Rd.flat{t:Bool}(h:Rd M v (.sl t k n es)):
  ∃a cap vs,v=.slice a n cap/\n<=cap/\cap<=9223372036854775807/\(t=ab->cap=n)/\Flat M k n es vs/\∀p u,vs[p]?=aa u->∃b off,a=aa ⟨b,off,af⟩/\M b (off+p)=aa u:=by
 cases h with
 |@sl a _ cap _ _ _ b off f c hb ht hk ha hm hr =>
  refine⟨a,cap,(bg (n*k)).map λp=>f (p / k) (p % k),rfl,c,hb,ht,⟨by simp,hk,?_⟩,?_⟩
  .grind [Qq,M5,M6]
  .intro p u g;simp only[nD]at g;by_cases d:p<n*k
   .simp[d]at g;subst g;have e:0<k:=by grind
    have hi:p / k<n:=rl (by grind);have hj:p % k<k:=iO _ e;have i:=hk _ hi;have:=hm (p / k) hi (p % k) ((es (p / k))[p % k]'(by omega)) (bn (by omega));refine⟨b,off,ha (Nat.lt_of_le_of_lt (j9 _) hi),?_⟩;grind[Nat.div_add_mod']
   grind
def Rd.mE(h:Flat M k n es vs){a:Option Addr}{cap:Nat}{t:Bool}(e:0<n->a=aa ⟨b,off,af⟩)(d:n<=cap)(hb:cap<=9223372036854775807)(f:t=ab->cap=n)(hm:∀p u,vs[p]?=aa u->M b (off+p)=aa u):Rd M (.slice a n cap) (.sl t k n es):=by
 refine .sl b off (λi j=>(vs[i*k+j]?).getD ai) d hb f h.width e (λi hi j c hj=>?_) (λi hi j c hj=>?_)
 .obtain⟨v,h1,h2⟩:=h.rd i hi j c hj;grind
 .obtain⟨v,h1,h2⟩:=h.rd i hi j c hj;grind
def dE(i:aF σ s){t:Bool}(h:Rd s.M v (.sl t k n es)):
  ∃vs,Flat s.M k n es vs/\(Builtin.firstCells k n v).run P s.w=.ok vs.toArray s.w/\Builtin.lenOf v=pure n:=by
 obtain⟨a,cap,vs,rfl,e,p,o,d,f⟩:=h.flat;refine⟨vs,d,?_,rfl⟩;have m:vs.length=n*k:=d.len;cases a with
 |none =>
  have:vs=[]:=by
   cases vs with
   |nil=>rfl
   |cons u q=>obtain⟨b,off,c,_⟩:=f 0 u rfl;cases c
  subst this;rfl
 |some ad =>
  simp only[Builtin.firstCells];rw[<-m];refine run_loadCells_list s.w ad vs λj u l=>?_;obtain⟨b,off,c,g⟩:=f j u l;cases c;rw[de];exact i.mem _ _ _ g
def bF.IW{T:List (Nat×TI)}(g:dj P T)(h:o.op=.index t x y){l:List UInt8}{j:Int}{k:IntKind}{i:TI}{m:Nat}(hi:bG T t=aa i)(n:i.desc=.string)(r:η x=.e (.one (.c (.str l))))(q:η y=.e (.one (.c (.int k j))))(hj:j=m)(hm:m<l.length):bF P o η σ (.e (.one (.c (.int .u8 (l[m]).toNat)))) σ:=by
 refine .quiet λs p hh hr=>?_;have h1:=hr x;have h2:=hr y;rw[r]at h1;rw[q]at h2;replace h1:=fM h1;replace h2:=fM h2;generalize b:p x=vx at h1;generalize d:p y=vy at h2;cases h1 with
 |@str sb _ u hl =>
 cases h2;subst u;have f:sb[m]?=aa (sb.data.toList[m]):=by
  have hm':m<sb.size:=by have e:sb.data.toList.length=sb.size:=iW;omega
  rw[getElem?_pos sb m hm'];congr 1
 refine⟨.int .u8 (sb.data.toList[m]).toNat,?_,Rd.int ?_,?_⟩
 rotate_left 2
 .have a:=(g t i hi).run_underlying (w:=s.w);rw[n]at a;simp[an,h,b,d,Instr.index,asIntOf,a,hj,f]
 .have a:=(g t i hi).run_underlying (w:=s.w);rw[n]at a;simp[an,h,b,d,Instr.index,asIntOf,a,hj,f]
 .have:=(sb.data.toList[m]).toNat_lt;simp only[bt];omega
def bF.indexAddr{T:List (Nat×TI)}(z:dj P T)(h:o.op=.indexAddr t x y){i ie:TI}(hi:bG T t=aa i)(G:i.desc=.slice E)(D:bG T E=aa ie){tt:Bool}{j:Int}{k:IntKind}{m:Nat}(F:∀s v,dk σ s v (η x)->Rd s.M v (.sl tt ie.size n es))(C:η y=.e (.one (.c (.int k j))))(hj:j=m)(d:m<n):
  bF P o η σ (.e (.one (.c (.rp (es m))))) σ:=by
 refine .quiet λs B hh hr=>?_;have h1:=F s _ (hr x);have h2:=hr y;rw[C]at h2;replace h2:=fM h2;generalize g:B x=vx at h1;generalize r:B y=vy at h2;cases h2;cases h1 with
 |@sl a _ cap _ _ _ b off f A hb ht hk ha hm' LU =>
 have p:0<n:=by omega
 have u:=(z t i hi).run_underlying (w:=s.w);rw[G]at u;refine⟨.pointer (aa ⟨b,off+m*ie.size,af⟩),?_,Rd.rp b (off+m*ie.size) (f m) (λq c l=>hm' m d q c l) (λq c l=>LU m d q c l),?_⟩<;>
 simp[an,h,g,r,Instr.indexAt,asIntOf,u,hj,ha p,(z E ie D).run_sizeOf,de,d]
def bF.SJ{T:List (Nat×TI)}(j:dj P T)(h:o.op=.call {callee:=.builtin .len,args:=#[x],argTypes:=jN})(g:jN[0]?=aa t){i:TI}(hi:bG T t=aa i)(p:i.desc=.slice E){tt:Bool}(l:∀s v,dk σ s v (η x)->Rd s.M v (.sl tt k n es)):bF P o η σ (.e (.one (.c (.int .i64 n)))) σ:=by
 refine .quiet λs q hh hr=>?_;obtain⟨a,cap,vs,m,f,hb,_⟩:=(l s _ (hr x)).flat;have d:=(j t i hi).run_underlying (w:=s.w);rw[p]at d;have b:jN[0]?=aa t:=g;refine⟨.int .i64 n,?_,Rd.int (by simp only[bt];omega),?_⟩<;>
 simp[an,h,resolve,invoke,builtin,Builtin.len_,m,d,goInt,b]
theorem bF.PO{T:List (Nat×TI)}(j:dj P T)(h:o.op=.call {callee:=.builtin .len,args:=#[x],argTypes:=jN})(g:jN[0]?=aa t){i:TI}(hi:bG T t=aa i)(n:i.desc=.string){l:List UInt8}(k:η x=.e (.one (.c (.str l)))):bF P o η σ (.e (.one (.c (.int .i64 l.length)))) σ:=by
 refine .quiet λs p hh hr=>?_;have h1:=hr x;rw[k]at h1;replace h1:=fM h1;generalize d:p x=vx at h1;cases h1 with
 |@str sb _ m hl =>
 have f:=(j t i hi).run_underlying (w:=s.w);rw[n]at f;have b:jN[0]?=aa t:=g;have a:sb.size=l.length:=by rw[<-m];exact iW.symm
 refine⟨.int .i64 l.length,?_,Rd.int (by simp only[bt];omega),?_⟩<;>
 simp[an,h,resolve,invoke,builtin,Builtin.len_,d,f,goInt,b,a]
def St.newRow(s:St)(E:av)(vs:List aj):St :=
 {β:=s.β,M:=λb o=>if b=s.w.heap.size then vs[o]? else s.M b o,w:=s.w.alloc (.cells vs.toArray E),own:=s.own}
def aF.newRow{σ:List bm}{s:St}(h:aF σ s)(E:av)(vs:List aj):aF σ (s.newRow E vs)/\Step σ s σ (s.newRow E vs):=by
 refine h.grow (by simp) (λb hb=>cZ _ _ hb) (λb hb o=>by grind) (λb hb o v hm=>?_) rfl rfl rfl;by_cases e:b=s.w.heap.size
 .subst e;simp at hm;show aR (s.w.alloc (.cells vs.toArray E)) ⟨s.w.heap.size,o,af⟩=aa v;unfold aR;grind[ei]
 .simp only[e,b6]at hm;have:=h.block hm;omega
def G3(s:St)(E:av)(vs:List aj):∀p u,vs[p]?=aa u->(s.newRow E vs).M s.w.heap.size (0+p)=aa u:=by intro p u h;simpa[St.newRow]using h
def gU:List A->Option (List C)
 |[]=>aa []
 |.c c::r=>match gU r with|some q=>aa (c::q)|none=>af
 |.vec _ k n es::r=>match gU r with|some q=>aa (.sl ae k n es::q)|none=>af
 |_::_=>af
def lj{σ:List bm}{s:St}:∀{cs:List A}{r:List C}{vs:List aj},gU cs=aa r->dT σ s vs cs->dT σ s vs (r.map A.c)
 |[],r,vs,h,a=>by cases h;exact a
 |_::_,_,[],_,a=>a.elim
 |.c c::al,r,v::vs,h,a=>by
  simp only[gU]at h;cases b:gU al with
  |none=>grind
  |some q=>simp[b]at h;subst h;exact⟨a.1,lj b a.2⟩
 |.vec l k n es::al,r,v::vs,h,a=>by
  simp only[gU]at h;cases b:gU al with
  |none=>grind
  |some q=>simp[b]at h;subst h;exact⟨a.1.1,lj b a.2⟩
 |.ptr l o::al,r,v::vs,h,a=>by simp[gU]at h
 |.ref l::al,r,v::vs,h,a=>by simp[gU]at h
 |.bp l w::al,r,v::vs,h,a=>by simp[gU]at h
 |.any::al,r,v::vs,h,a=>by simp[gU]at h
def sZ{α:Type}(k:Nat):Nat->List α->Option (List (List α))
 |0,[]=>aa []
 |0,_::_=>af
 |n+1,l=>match og k l with
  |some c=>match sZ k n (g8 k l)with
   |some r=>aa (c::r)
   |none=>af
  |none=>af
def dT.closed:∀{vs:List aj}{cs:List C},dT σ s vs (cs.map A.c)->∀(j:Nat)(c:C),cs[j]?=aa c->∃v,vs[j]?=aa v/\Rd s.M v c:=by intro vs cs h j c hj;obtain⟨v,h1,h2⟩:=h.get (j:=j) (a:=.c c) (by grind);exact⟨v,h1,h2⟩
def yn{M:Mem}{k:Nat}:∀{n:Nat}{cs:List C}{es:List (List C)}{vs:List aj},sZ k n cs=aa es->vs.length=cs.length->(∀(j:Nat)(c:C),cs[j]?=aa c->∃v,vs[j]?=aa v/\Rd M v c)->es.length=n/\Flat M k n (λi=>es.getD i []) vs
 |0,[],es,vs,h,a,d=>by cases h;simp at a;subst a;exact⟨rfl,.nil⟩
 |0,_::_,es,vs,h,a,d=>by cases h
 |n+1,cs,es,vs,h,a,d=>by
  simp only[sZ]at h;cases g:og k cs with
  |none=>grind
  |some c =>
   simp only[g]at h;cases b:sZ k n (g8 k cs)with
   |none=>grind
   |some q =>
    simp[b]at h;subst h;obtain⟨p,f⟩:=mS g;rw[m7]at b;obtain⟨s,l⟩:=yn (vs:=vs.drop k) b (by grind) (λj c o=>by
     obtain⟨v,p,f⟩:=d (k+j) c (by grind)
     exact⟨v,by grind,f⟩)
    refine⟨by grind,?_⟩;have r:k<=cs.length:=by grind
    have m:Flat M k 1 (λ_=>c) (vs.take k):=by refine⟨by grind,by grind,λi hi j x o=>?_⟩;grind
    have:=m.append l;rw[Nat.add_comm 1 n]at this;have e:cR 1 (λ_=>c) (λi=>q.getD i [])=λi=>(c::q).getD i []:=by funext i;cases i<;>simp[cR]
    rw[e]at this;simpa using this
def Mw(T:List (Nat×TI))(η:aE->D)(t:av)(n:Nat)(parts:List (Nat×aE)):Option (Nat×List (List C)) :=
 match bG T t with
 |some i=>match i.desc with
  |.slice E=>match bG T E with
   |some ie=>match az ie.size 0 with
    |true=>af
    |false=>match bC (n*ie.size) 16777216 with
     |true=>match oX η parts with
      |some ps=>match ym (λk=>aa (k*ie.size,ie.size)) ps (List.replicate (n*ie.size) A.any)with
       |some cs=>match gU cs with
        |some r=>match sZ ie.size n r with
         |some es=>aa (ie.size,es)
         |none=>af
        |none=>af
       |none=>af
      |none=>af
     |false=>af
   |none=>af
  |_=>af
 |none=>af
theorem bF.buildSlice{P:aK}{T:List (Nat×TI)}(N:dj P T){o:aD}{η:aE->D}{σ:List bm}{t:av}{n:Nat}{parts:Array (Nat×aE)}(h:o.op=.buildSlice t n parts){k:Nat}{es:List (List C)}(a:Mw T η t n parts.toList=aa (k,es)):bF P o η σ (.e (.one (.c (.sl ab k n λi=>es.getD i [])))) σ:=by
 intro s O hh hr;unfold Mw at a;cases hi:bG T t with
 |none=>grind
 |some i =>
  simp only[hi]at a;cases W:i.desc with
  |slice E =>
   simp only[W]at a;cases L:bG T E with
   |none=>grind
   |some ie =>
    simp only[L]at a;cases R:az ie.size 0 with
    |true=>grind
    |false =>
     simp only[R]at a;cases B:bC (n*ie.size) 16777216 with
     |false=>grind
     |true =>
      simp only[B]at a;cases y:oX η parts.toList with
      |none=>grind
      |some ps =>
       simp only[y]at a;cases G:ym (λk=>aa (k*ie.size,ie.size)) ps (List.replicate (n*ie.size) A.any)with
       |none=>grind
       |some cs =>
        simp only[G]at a;cases l:gU cs with
        |none=>grind
        |some r =>
         simp only[l]at a;cases H:sZ ie.size n r with
         |none=>grind
         |some es' =>
          simp only[H,dm,lu]at a;obtain⟨rfl,rfl⟩:=a;have Y:ie.size≠0:=λe=>by rw[e]at R;cases R
          have V:=ez B;obtain⟨inf,z,z1,z2,z3,Z,X,z6,z7⟩:=(N E ie L).info;have hzs:z.cells.size=ie.size:=by have:=dA List.length X;grind
          have Zh:∀v∈z.cells.toList,dn v=ab:=by intro v J;have d:qJ v∈z.cells.toList.map qJ:=nG.2 ⟨v,J,rfl⟩;rw[X]at d;obtain⟨c,_,hc⟩:=nG.1 d;exact(Rd.qJ (M:=s.M) hc.symm).cell
          have g:∀m,(∀v∈(bg m).map (λq=>z.cells[q % z.cells.size]!),dn v=ab):=by grind[Nat.mod_lt]
          have F:∀vs:List aj,(∀v∈vs,dn v=ab)->dT σ s vs (List.replicate vs.length A.any):=by
           intro vs;induction vs with
           |nil=>intro _;trivial
           |cons v vs ih=>intro J;exact⟨J v (by simp),ih λu K=>J u (by grind)⟩
          obtain⟨p1,p2⟩:=sY (σ:=σ) (s:=s) hr y;have U:dT σ s ((Array.range (n*ie.size)).map (λq=>z.cells[q % z.cells.size]!)).toList (List.replicate (n*ie.size) A.any):=by have:=F _ (g (n*ie.size));simpa using this
          obtain⟨j,u1,u2⟩:=wm (σ:=σ) (s:=s) (place':=λk=>aa (k*ie.size,ie.size)) (λk p hk=>hk) G p1 p2 U;have u3:=lj l u2;obtain⟨c1,c2⟩:=yn (M:=s.M) (vs:=j.toList) H (by simpa using u3.length) u3.closed;obtain⟨g1,g2⟩:=hh.newRow E j.toList;refine⟨.value (.slice (aa ⟨s.w.heap.size,0,af⟩) n n),s.newRow E j.toList,?_,?_,g1,g2,?_⟩
          rotate_left 2
          .have e:(an O o).events P s.w #[]=#[]:=by simp only[an,h];exact c9.bind c9.buildSlice (λ_=>c9.pure) _ _
           rw[e];exact .nil
          .have K:=(N t i hi).run_underlying (w:=s.w);rw[W]at K;have S:(zeroValue E).run P s.w=.ok z s.w:=by simp[zeroValue,typeInfo,z1,Z]
           have f:Instr.fill (λk=>aa (k*ie.size,ie.size)) ((Array.range (n*ie.size)).map (λq=>z.cells[q % z.cells.size]!)) (parts.map λ(i,x)=>(i,O x)).toList=aa j:=by simpa using u1
           by_cases h0:n*ie.size=0
           .have Q:n=0:=by grind[Nat.mul_eq_zero]
            subst Q;have I:Array.range 0=#[]:=rfl;simp[I]at f;simp[an,h,Instr.buildSlice,K,(N E ie L).run_sizeOf,I,f,Go.newRow,St.newRow]
           .rw[show an O o=(do pure (.value (<-Instr.buildSlice t n (parts.map λ(i,x)=>(i,O x))))) by simp[an,h]];simp only[Instr.buildSlice,bU,K,cw,(N E ie L).run_sizeOf,h0,b6,S,show¬n*ie.size>2 ^ 24 by omega,pE,f,cY];simp[Go.newRow,St.newRow]
          .refine Rd.mE (c2.mono g2.mem) (b:=s.w.heap.size) (off:=0) (λ_=>rfl) (ba _) ?_ (λ_=>rfl) (G3 s E j.toList);have:n<=n*ie.size:=uH n (by omega);omega
  |_=>grind
def Ext.trans{σ σ1 σ2:List bm}{s a s2:St}(h:Ext σ s σ1 a)(k:Ext σ1 a σ2 s2):Ext σ s σ2 s2:=by refine⟨λb o v n=>k.mem _ _ _ (h.mem _ _ _ n),λl B L j e=>?_⟩;obtain⟨B1,L1,h1,h2,c⟩:=h.box l B L j e;obtain⟨f,p,k1,m,q⟩:=k.box l B1 L1 h1 h2;exact⟨f,p,k1,m,c.trans q⟩
def gj{l:List α}{x y:α}{i:Nat}(h:(l++[x])[i]?=aa y):l[i]?=aa y∨(i=l.length/\y=x):=by grind
def aF.hU{a:St}(h1:aF σ a)(st:Step σ s σ a)(n:a.β=s.β)(hh:aF σ s){B:bm}{L:Loc}(p:eQ (σ++[B]) {a with β:=a.β++[L]} B L)(f:∀b∈L.bs,s.w.heap.size<=b/\b<a.w.heap.size):aF (σ++[B]) {a with β:=a.β++[L]}/\Step σ s (σ++[B]) {a with β:=a.β++[L]}:=by
 have ex:Ext σ a (σ++[B]) {a with β:=a.β++[L]}:=by refine⟨λ_ _ _ h=>h,λl B' L' lW gh=>?_⟩;have hl:l<a.β.length:=(cf.1 gh).1;have m:l<σ.length:=(cf.1 lW).1;exact⟨B',L',by grind,by grind,.refl _ _⟩
 have e2:=st.ext.trans ex;refine⟨⟨h1.mem,by simp[h1.len],?_,?_,?_,?_⟩,⟨st.size,st.keep,st.mem,st.iI,?_,e2.box,st.os,st.tape,st.output,st.own⟩⟩
 .intro l B' L' lW gh;rcases gj lW with k|⟨rfl,rfl⟩
  .have hl:l<a.β.length:=by rw[h1.len];grind
   rw[iE hl]at gh;exact(h1.box l B' L' k gh).carry ex h1.len λ_ _=>⟨rfl,λ_=>rfl⟩
  .rcases gj gh with c|⟨_,rfl⟩
   .have:=(cf.1 c).1;rw[h1.len]at this;omega
   grind
 .intro l l' L1 L2 c j b hb oB;rcases gj c with k1|⟨rfl,rfl⟩<;>rcases gj j with o|⟨rfl,rfl⟩
  .exact h1.fY l l' L1 L2 k1 o b hb oB
  .have a1:=f b oB;have a2:=hh.lt L1 (by grind) b hb;omega
  .have a1:=f b hb;have a2:=hh.lt L2 (by grind) b oB;omega
  .rfl
 .intro L' gh b hb;simp only[ff,iX]at gh;rcases gh with gh|rfl
  .exact h1.lt L' gh b hb
  grind
 .intro b hb;refine⟨(h1.own b hb).1,λL' gh Pm=>?_⟩;simp only[ff,iX]at gh;rcases gh with gh|rfl
  .exact(h1.own b hb).2 L' gh Pm
  .have e:=st.own;simp only at hb;rw[e]at hb;have:=(hh.own b hb).1;grind
 grind
def aF.gy{M':Mem}(hh:aF σ s){B B':bm}{L L':Loc}(n:σ[l]?=aa B)(f:s.β[l]?=aa L)(D:hX B L B' L')(p:s.w.heap.size<=w'.heap.size)(G:∀b,b<s.w.heap.size->b∉L.bs->w'.heap[b]?=s.w.heap[b]?)(K:∀b,b<s.w.heap.size->b∉L.bs->∀o,M' b o=s.M b o)(j:∀b o v,s.M b o=aa v->M' b o=aa v)(F:∀b o v,M' b o=aa v->w'.cell? ⟨b,o,af⟩=aa v)(A:∀b∈L'.bs,(b∈L.bs∨s.w.heap.size<=b)/\b<w'.heap.size)(ho:w'.os=s.w.os)(C:w'.tape=s.w.tape)(E:w'.output=s.w.output)(I:eQ (σ.set l B') ⟨s.β.set l L',M',w',s.own⟩ B' L'):aF (σ.set l B') ⟨s.β.set l L',M',w',s.own⟩/\Step σ s (σ.set l B') ⟨s.β.set l L',M',w',s.own⟩:=by
 have x:l<σ.length:=(cf.1 n).1;have z:l<s.β.length:=(cf.1 f).1;have a:∀i X,(s.β.set l L')[i]?=aa X->(i=l/\X=L')∨(i≠l/\s.β[i]?=aa X):=by grind
 have ex:Ext σ s (σ.set l B') ⟨s.β.set l L',M',w',s.own⟩:=by
  refine⟨j,λi X Y c m=>?_⟩;by_cases e:l=i
  .grind
  .exact⟨X,Y,by grind,by grind,.refl _ _⟩
 have out:∀i X,i≠l->s.β[i]?=aa X->∀b∈X.bs,b<s.w.heap.size/\b∉L.bs:=by intro i X hi c b hb;exact⟨hh.lt X (bL c) b hb,λq=>hi (hh.fY i l X L c f b hb q)⟩
 refine⟨⟨F,by simp[hh.len],?_,?_,?_,?_⟩,⟨p,?_,j,?_,?_,ex.box,ho,C,E,rfl⟩⟩
 .intro i X Y c m;rcases a i Y m with⟨rfl,rfl⟩|⟨hi,m⟩
  .grind
  .rw[kM (λe=>hi e.symm)]at c;refine(hh.box i X Y c m).carry ex hh.len λb hb=>?_;grind
 .intro i y X u c k b hb oB;rcases a i X c with⟨rfl,rfl⟩|⟨hi,r⟩<;>rcases a y u k with⟨rfl,rfl⟩|⟨t,h⟩
  .rfl
  .grind
  .grind
  .exact hh.fY i y X u r h b hb oB
 .intro X c b hb;obtain⟨i,hi,rfl⟩:=dL c;rcases a i _ (bn hi)with⟨rfl,e⟩|⟨t,k⟩
  .grind
  grind
 .intro b hb;obtain⟨H,J⟩:=hh.own b hb;grind
 .grind
 .grind
 grind
def rE{a old bytes:Nat}(h:old<a)(b:a*bytes<=140737488355328):¬Builtin.nextslicecap a old*bytes>2 ^ 48:=by have:=growslice_fits h b;omega
section
variable {T:List (Nat×TI)}(g:dj P T){d:av}{i i2 ie:TI}
def iP(hi:du P t i)(v:i.desc=.slice E)(f:du P d i2)(h:i2.desc=.slice E)(q:du P E ie)(u:aF σ s){a:Option Addr}{cap:Nat}(e:n<=cap){x:aj}{es':Nat->List C}(o:Rd s.M x (.sl tx ie.size 0 es')):
  (bj #[t,d] ty #[.slice a n cap,x]).run P s.w=.ok (.slice a n cap) s.w:=by obtain⟨b,p,r,l⟩:=dE (P:=P) u o;have m:=hi.run_underlying (w:=s.w);have c:=f.run_underlying (w:=s.w);rw[v]at m;rw[h]at c;obtain⟨a',k,vs,rfl,_⟩:=o.flat;have j:b=[]:=iV (by simpa using p.len);subst j;cases a<;>simp[bj,m,c,q.run_sizeOf,Builtin.lenOf,e,r,storeCells]
def ib(hi:du P t i)(R:i.desc=.slice E)(y:du P d i2)(D:i2.desc=.slice E)(O:du P E ie)(hh:aF σ s){a:Option Addr}{cap m:Nat}{X:Bool}{es':Nat->List C}{x:aj}(U:Rd s.M (.slice a n cap) (.sl X ie.size n es))(hx:Rd s.M x (.sl tx ie.size m es'))(hg:cap<n+m)(L:(n+m)*ie.bytes<=140737488355328)(H:ie.bytes≠0):
  ∃vs zs GB,Flat s.M ie.size (n+m) (cR n es es') vs/\n+m<=GB/\GB<=9223372036854775807/\(vs++zs).length=GB*ie.size /\
   (bj #[t,d] ty #[.slice a n cap,x]).run P s.w=.ok (.slice (aa ⟨s.w.heap.size,0,af⟩) (n+m) GB) (s.w.drew.alloc (.cells (vs++zs).toArray E)):=by
 have q:aF σ {s with w:=s.w.drew}:=hh.same rfl;obtain⟨b,J,I,j⟩:=dE (P:=P) q (v:=x) hx;obtain⟨c,r,f,S⟩:=dE (P:=P) q (v:=.slice a n cap) U;have N:=hi.run_underlying (w:=s.w);have k:=y.run_underlying (w:=s.w);rw[R]at N;rw[D]at k;obtain⟨l,z,K,z2,z3,Q,z5,z6,z7⟩:=O.info;have Y:n+m<=140737488355328:=fG (uH _ (Nat.pos_of_ne_zero H)) L;have A:z.cells.size=ie.size:=by have:=dA List.length z5;grind
 refine⟨c++b,(Builtin.zeroCells z.cells (grownCap s.w (n+m) cap E-(n+m))).toList,grownCap s.w (n+m) cap E,r.append J,grownCap_ge _ _ _ _,?_,?_,?_⟩
 .have:=grownCap_le_maxLen s.w (n+m) cap E (by unfold maxLen;omega);unfold maxLen at this;omega
 .have V:=grownCap_ge s.w (n+m) cap E;simp only[bT,r.len,J.len,iW,size_zeroCells,A,<-gI];grind
 .have W:=rE hg L;have o:¬Builtin.nextslicecap (n+m) cap*l.bytes>2 ^ 48:=by grind
  have p:¬n+m<=cap:=by omega
  have G:¬((n+m:Nat):Int)>IntKind.i64.max:=by have e:IntKind.i64.max=9223372036854775807:=rfl;grind
  have B:∀u,(typeInfo E).run P u=.ok l u:=λu=>by simp[typeInfo,K]
  have F:∀u,(zeroValue E).run P u=.ok z u:=λu=>by simp[zeroValue,typeInfo,K,Q]
  have h:(Builtin.lenOf x).run P s.w=.ok m s.w:=by rw[j];rfl
  replace I:(Builtin.firstCells ie.size m x).run P s.w.drew=.ok b.toArray s.w.drew:=I;replace f:(Builtin.firstCells ie.size n (.slice a n cap)).run P s.w.drew=.ok c.toArray s.w.drew:=f
  unfold bj;simp only[gT,iF,kL,bU,N,k,cw,O.run_sizeOf,cY,iG,b6,h,p,
   G,false_and,B,o,run_choose,Question.forced,run_askRoom,pE,World.drew_eq,f,I,fE,bY,F]
  simp[Go.newRow,grownCap];have e:∀Z:Array aj,(c++b).toArray++Z=(c++(b++Z.toList)).toArray:=λZ=>by grind
  rw[e];rfl
def jU(hi:du P t i)(y:i.desc=.slice E)(l:du P d i2)(p:i2.desc=.slice E)(A:du P E ie)(F:aF σ s){cap m:Nat}{v:av}{c:List aj}(z:s.w.heap[b]?=aa (.cells c.toArray v (0,0)))(j:c.length=cap*ie.size){es':Nat->List C}{x:aj}(B:Rd s.M x (.sl tx ie.size m es'))(u:n+m<=cap):
  ∃a,Flat s.M ie.size m es' a/\(bj #[t,d] ty #[.slice (aa ⟨b,0,af⟩) n cap,x]).run P s.w=.ok (.slice (aa ⟨b,0,af⟩) (n+m) cap) (s.w.setRow b (c.take (n*ie.size)++a++c.drop (n*ie.size+a.length)).toArray):=by
 obtain⟨a,o,D,f⟩:=dE (P:=P) F B;have r:=hi.run_underlying (w:=s.w);have h:=l.run_underlying (w:=s.w);rw[y]at r;rw[p]at h;have q:n*ie.size+a.length<=c.length:=by rw[o.len,j,<-gI];exact ek _ u
 have k:=run_storeCells_at P b (n*ie.size) v a 0 c.toArray s.w z (by grind) o.cell;simp only[fS]at k;have e:(Builtin.lenOf x).run P s.w=.ok m s.w:=by rw[f];rfl
 refine⟨a,o,?_⟩;unfold bj;simp only[gT,iF,kL,bU,r,h,cw,A.run_sizeOf,cY,iG,b6,e,u,bY,fE,D,de,bz,k]
end
def Dp{x:Sem α}{es:Array Event}{e:Event}(h:e∈x.events P w es):e∈es∨e∈x.events P w #[]:=by grind[Sem.events_acc]
def Xw(s:St)(e:Event):Prop:=∃b o u,e=zi b o/\s.M b o=aa u
def gi(B:aF σ s){t:Bool}(h:Rd s.M v (.sl t k n es))(z:w.heap=s.w.heap):
  ∀e∈(Builtin.firstCells k n v).events P w #[],Xw s e:=by
 obtain⟨a,cap,vs,rfl,q,E,D,y,C⟩:=h.flat;have F:vs.length=n*k:=y.len;intro e f;cases a with
 |none=>simp[Builtin.firstCells]at f
 |some ad =>
  simp only[Builtin.firstCells]at f;have c:∀j,j<n*k->∃b off u,ad=⟨b,off,af⟩/\s.M b (off+j)=aa u:=by intro j o;obtain⟨b,off,G,m⟩:=C j (vs[j]'(by omega)) (bn (by omega));grind
  by_cases r:n*k=0
  .rw[r]at f;simp[loadCells,loadCellsFrom]at f
  .obtain⟨b,off,_,rfl,_⟩:=c 0 (by omega);have A:∀j,j<n*k->∃v,w.cell? ⟨b,off+j,af⟩=aa v:=by intro j o;obtain⟨x,l,u,p,m⟩:=c j o;cases p;have:=B.mem _ _ _ m;exact⟨u,by simp only[aR,z]at this⊢;exact this⟩
   rcases rF (P:=P) A e f with h|⟨j,o,rfl⟩
   .grind
   .obtain⟨x,l,u,p,m⟩:=c j o;cases p;exact⟨_,_,u,rfl,m⟩
theorem qE{e:Event}(h:Xw s e):nJ s e:=by obtain⟨b,o,u,rfl,a⟩:=h;exact A1 a
section
variable {d:av}{i i2 ie:TI}
def ju(hi:du P t i)(A:i.desc=.slice E)(h:du P d i2)(k:i2.desc=.slice E)(v:du P E ie)(r:aF σ s){a:Option Addr}{cap:Nat}(f:n<=cap){x:aj}{es':Nat->List C}(j:Rd s.M x (.sl tx ie.size 0 es')):
  eN s ((bj #[t,d] ty #[.slice a n cap,x]).events P s.w #[]):=by obtain⟨b,u,y,p⟩:=dE (P:=P) r j;have m:=gi (P:=P) r j (w:=s.w) rfl;have q:=hi.run_underlying (w:=s.w);have c:=h.run_underlying (w:=s.w);rw[A]at q;rw[k]at c;obtain⟨a',o,vs,rfl,_⟩:=j.flat;have l:b=[]:=iV (by simpa using u.len);subst l;intro e z;refine qE (m e ?_);cases a<;>simpa[bj,q,c,v.run_sizeOf,Builtin.lenOf,f,y,storeCells]using z
def iJ(hi:du P t i)(Z:i.desc=.slice E)(F:du P d i2)(H:i2.desc=.slice E)(V:du P E ie)(N:aF σ s){a:Option Addr}{cap m:Nat}{td:Bool}{es':Nat->List C}{x:aj}(S:Rd s.M (.slice a n cap) (.sl td ie.size n es))(W:Rd s.M x (.sl tx ie.size m es'))(hg:cap<n+m)(R:(n+m)*ie.bytes<=140737488355328)(K:ie.bytes≠0):
  eN s ((bj #[t,d] ty #[.slice a n cap,x]).events P s.w #[]):=by
 have B:aF σ {s with w:=s.w.drew}:=N.same rfl;obtain⟨q,hF,L,b⟩:=dE (P:=P) B (v:=x) W;obtain⟨D,hFo,c,hlo⟩:=dE (P:=P) B (v:=.slice a n cap) S;have Oq:=gi (P:=P) N W (w:=s.w.drew) rfl;have X:=gi (P:=P) N S (w:=s.w.drew) rfl;have U:=hi.run_underlying (w:=s.w);have p:=F.run_underlying (w:=s.w);rw[Z]at U;rw[H]at p;obtain⟨j,z,Q,z2,z3,Y,z5,z6,z7⟩:=V.info;have hle:n+m<=140737488355328:=fG (uH _ (Nat.pos_of_ne_zero K)) R;have Y2:=rE hg R;have y:¬Builtin.nextslicecap (n+m) cap*j.bytes>2 ^ 48:=by grind
 have A:¬n+m<=cap:=by omega
 have J:¬((n+m:Nat):Int)>IntKind.i64.max:=by have e:IntKind.i64.max=9223372036854775807:=rfl;grind
 have G:∀u,(typeInfo E).run P u=.ok j u:=λu=>by simp[typeInfo,Q]
 have I:∀u,(zeroValue E).run P u=.ok z u:=λu=>by simp[zeroValue,typeInfo,Q,Y]
 have l:(Builtin.lenOf x).run P s.w=.ok m s.w:=by rw[b];rfl
 have k:(Builtin.lenOf x).events P s.w #[]=#[]:=by rw[b];rfl
 replace L:(Builtin.firstCells ie.size m x).run P s.w.drew=.ok q.toArray s.w.drew:=L;replace c:(Builtin.firstCells ie.size n (.slice a n cap)).run P s.w.drew=.ok D.toArray s.w.drew:=c
 intro e o;unfold bj at o;simp only[gT,iF,kL,aP,bU,U,p,cw,aV,V.run_sizeOf,cY,iG,b6,l,k,A,
  J,false_and,G,y,run_choose,Question.forced,run_askRoom,pE,Sem.events_ite,World.drew_eq,c,L,fE,bY,I,events_underlying,events_sizeOf,events_typeInfo,events_choose,events_zeroValue,Sem.events_pure]at o
 have O:∀(x:Nat) (w:aA) (e:Event),e∈(askRoom x).events P w #[]->e=⟨.mark .noRoom,ae,ab⟩:=by intro x w e h;unfold askRoom at h;simp_all
 rw[c9.newRow (P:=P)]at o;generalize(Go.newRow E _).run P s.w.drew=r at o;have f:e∈(Builtin.firstCells ie.size m x).events P s.w.drew ((Builtin.firstCells ie.size n (.slice a n cap)).events P s.w.drew ((askRoom ((Question.appendCap (n+m) cap E).cut (s.w.tape s.w.drawn (Question.appendCap (n+m) cap E))*j.bytes)).events P s.w.drew #[])):=by
  cases r with
  |ok v w'=>simpa using o
  |halt v w'=>simpa using o
 rcases Dp f with f|f
 .rcases Dp f with f|f
  .rw[O _ _ _ f];exact .inl rfl
  grind[qE]
 grind[qE]
def lz(hi:du P t i)(K:i.desc=.slice E)(u:du P d i2)(y:i2.desc=.slice E)(O:du P E ie)(J:aF σ s){cap m:Nat}{I:av}{c:List aj}(B:s.w.heap[b]?=aa (.cells c.toArray I (0,0)))(q:c.length=cap*ie.size){es':Nat->List C}{x:aj}(H:Rd s.M x (.sl tx ie.size m es'))(G:n+m<=cap){L:Loc}(V:L∈s.β)(Q:b∈L.bs)(z:∀o,n*ie.size<=o->s.M b o=af):
  eN s ((bj #[t,d] ty #[.slice (aa ⟨b,0,af⟩) n cap,x]).events P s.w #[]):=by
 obtain⟨a,v,R,f⟩:=dE (P:=P) J H;have N:=gi (P:=P) J H (w:=s.w) rfl;have F:=hi.run_underlying (w:=s.w);have p:=u.run_underlying (w:=s.w);rw[K]at F;rw[y]at p;have D:n*ie.size+a.length<=c.length:=by rw[v.len,q,<-gI];exact ek _ G
 have r:=run_storeCells_at P b (n*ie.size) I a 0 c.toArray s.w B (by grind) v.cell;simp only[fS]at r;have l:(Builtin.lenOf x).run P s.w=.ok m s.w:=by rw[f];rfl
 have k:(Builtin.lenOf x).events P s.w #[]=#[]:=by rw[f];rfl
 intro e A;unfold bj at A;simp only[gT,iF,kL,aP,bU,F,p,aV,O.run_sizeOf,cY,iG,b6,l,k,G,bY,fE,R,de,bz,r,
  pE,Sem.events_ite,events_underlying,events_sizeOf,Sem.events_pure]at A
 rcases eh a 0 c.toArray s.w _ B (by grind) v.cell e A with h|⟨j,U,S,rfl⟩
 .grind [qE]
 grind[k7]
end
structure ly(P:aK)(o:aD)(x y:aE)(E:av)(ie:TI):Prop where
 op:∃t d i i2,o.op=.call {callee:=.builtin .append,args:=#[x,y],argTypes:=#[t,d]}/\du P t i/\i.desc=.slice E/\du P d i2/\i2.desc=.slice E
 elem:du P E ie
 bytes:ie.bytes≠0
 size:ie.size≠0
def St.grown(s:St)(E:av)(vs zs:List aj)(β:List Loc):St :=
 {β:=β,M:=λb o=>if b=s.w.heap.size then vs[o]? else s.M b o,w:=s.w.drew.alloc (.cells (vs++zs).toArray E),own:=s.own}
def sH(h:aF σ s)(E:av)(vs zs:List aj):∀b o v,(if b=s.w.heap.size then vs[o]? else s.M b o)=aa v->(s.w.drew.alloc (.cells (vs++zs).toArray E)).cell? ⟨b,o,af⟩=aa v:=by
 intro b o v a;by_cases e:b=s.w.heap.size
 .subst e;simp only[bY]at a;unfold aR;have:(s.w.drew.alloc (.cells (vs++zs).toArray E)).heap[s.w.heap.size]?=aa (.cells (vs++zs).toArray E):=ei s.w.drew _;grind
 .simp only[e,b6]at a;have c:=h.block a;rw[<-h.mem b o v a];unfold aR;have:(s.w.drew.alloc (.cells (vs++zs).toArray E)).heap[b]?=s.w.heap[b]?:=cZ s.w.drew _ c;grind
def sI(h:aF σ s)(vs:List aj):∀b o v,s.M b o=aa v->(if b=s.w.heap.size then vs[o]? else s.M b o)=aa v:=by intro b o v a;have:=h.block a;grind
theorem et{m:Sem aj}(h:eN s (m.events P s.w #[])):eN s ((do pure (.value (<-m)):Sem Next).events P s.w #[]):=by simp_all
theorem cN{d:av}(h:o.op=.call {callee:=.builtin .append,args:=#[x,y],argTypes:=#[t,d]})(a:aE->aj):
  an a o=(do pure (.value (<-bj #[t,d] o.type #[a x,a y]))):=by simp[an,h,resolve,invoke,builtin]
def Rd.loose{t:Bool}(h:Rd M v (.sl t k n es)):Rd M v (.sl ae k n es):=by
 cases h with
 |sl b off f a hb ht hk ha hm hr=>exact .sl b off f a hb (by simp) hk ha hm hr
def Rd.Dl{t:Bool}{es':Nat->List C}(e:∀i,i<n->es i=es' i)(h:Rd M v (.sl t k n es)):Rd M v (.sl t k n es'):=by
 cases h with
 |sl b off f a hb ht hk ha hm hr=>exact .sl b off f a hb ht (λi hi=>by grind) ha (λi hi j c hj=>hm i hi j c (by grind)) (λi hi j c hj=>hr i hi j c (by grind))
def Rd.zf{k':Nat}(b:k=k'∨n=0)(h:Rd M v (.sl ab k n es)):Rd M v (.sl ab k' n es):=by
 rcases b with rfl|rfl
 .exact h
 .obtain⟨a,cap,vs,f,j,c,e,_⟩:=h.flat;grind[Rd.ic]
def pJ{L:Loc}(a:σ[l]?=aa (.vec E k n es))(b:s.β[l]?=aa L)(h:eQ σ s (.vec E k n es) L):gD σ s L.v (.vec l k n es):=by refine⟨h.1,(cf.1 a).1,λc k' n' es' he=>?_⟩;grind
def bF.oI{ie:TI}(h:ly P o x y E ie){m:Nat}{es':Nat->List C}(X:η x=.e (.one (.c (.sl ab k n es))))(R:k=ie.size∨n=0)(W:∀s v,dk σ s v (η y)->Rd s.M v (.sl tx ie.size m es'))(hb:(n+m)*ie.bytes<=140737488355328)(hz:n=0∨0<m):
  bF P o η σ (.e (.one (.vec σ.length ie.size (n+m) (cR n es es')))) (σ++[.vec E ie.size (n+m) (cR n es es')]):=by
 intro s ρ hh hr;obtain⟨t,d,i,i2,ho,hi,I,r,z⟩:=h.op;have h1:=hr x;rw[X]at h1;have j:=Rd.zf R (fM h1);have h2:=W s _ (hr y);obtain⟨a,cap,vs,V,A,Y,U,hF,hm⟩:=j.flat;have O:cap=n:=U rfl;subst O;rw[cN ho];rw[V]at j⊢;by_cases S:m=0
 .subst S;have q:=iP (P:=P) (ty:=o.type) hi I r z h.elem hh (a:=a) A h2;simp only[fS];have j:=Rd.Dl (es':=cR cap es es') (λi hi=>by grind) j;have G:eQ (σ++[.vec E ie.size cap (cR cap es es')]) {s with β:=s.β++[⟨.slice a cap cap,[]⟩]} (.vec E ie.size cap (cR cap es es')) ⟨.slice a cap cap,[]⟩:=⟨j.loose,.inl ⟨⟨rfl,by omega⟩,j⟩⟩
  obtain⟨N,g2⟩:=hh.hU (.refl _ _) rfl hh G (by simp);refine⟨.value (.slice a cap cap),_,?_,?_,N,g2,et (ju hi I r z h.elem hh A h2)⟩
  .simp[q]
  .exact pJ (by simp) (by simp[<-hh.len]) G
 .have Q:cap<cap+m:=by omega
  obtain⟨f,D,l,H,J,L,F,q⟩:=ib (P:=P) (ty:=o.type) hi I r z h.elem hh j h2 Q hb h.bytes;have B:aF σ (s.grown E f D s.β)/\Step σ s σ (s.grown E f D s.β) :=
   hh.grow (by simp) (λb hb=>cZ s.w.drew _ hb) (λb hb o=>by grind)
    (λb hb o v hm=>sH hh E f D b o v hm) rfl rfl rfl
  have K:Rd (s.grown E f D s.β).M (.slice (aa ⟨s.w.heap.size,0,af⟩) (cap+m) l) (.sl ae ie.size (cap+m) (cR cap es es')) :=
   Rd.mE (H.mono B.2.mem) (b:=s.w.heap.size) (off:=0) (λ_=>rfl) J L (by simp) (λp u Z=>by simpa[St.grown]using Z)
  have G:eQ (σ++[.vec E ie.size (cap+m) (cR cap es es')]) {(s.grown E f D s.β)with β:=(s.grown E f D s.β).β++[⟨.slice (aa ⟨s.w.heap.size,0,af⟩) (cap+m) l,[s.w.heap.size]⟩]} (.vec E ie.size (cap+m) (cR cap es es')) ⟨.slice (aa ⟨s.w.heap.size,0,af⟩) (cap+m) l,[s.w.heap.size]⟩:=by
   refine⟨K,.inr ⟨s.w.heap.size,l,f++D,rfl,ei s.w.drew _,F,λo ho=>?_⟩⟩;have hl:f.length<=o:=by rw[H.len];exact ho
   simp[St.grown,qC hl]
  obtain⟨N,g2⟩:=B.1.hU B.2 rfl hh G (λb hb=>by simp at hb;subst hb;refine⟨ba _,?_⟩;simp[St.grown])
  refine⟨.value (.slice (aa ⟨s.w.heap.size,0,af⟩) (cap+m) l),_,?_,?_,N,g2,et (iJ hi I r z h.elem hh j h2 Q hb h.bytes)⟩
  .simp[q];rfl
  .exact pJ (by simp) (by simp[St.grown,<-hh.len]) G
def bF.GC{ie:TI}(h:ly P o x y E ie){m:Nat}{es':Nat->List C}(hx:η x=.e (.one (.vec l ie.size n es)))(hl:σ[l]?=aa (.vec E ie.size n es))(hy:∀s v,dk σ s v (η y)->Rd s.M v (.sl tx ie.size m es'))(hb:(n+m)*ie.bytes<=140737488355328):
  bF P o η σ (.e (.one (.vec l ie.size (n+m) (cR n es es')))) (σ.set l (.vec E ie.size (n+m) (cR n es es'))):=by
 intro s ρ hh hr;obtain⟨t,d,i,i2,ho,hi,X,F,H⟩:=h.op;have Pn:l<σ.length:=(cf.1 hl).1;have h1:=hr x;rw[hx]at h1;obtain⟨O,_,Y3⟩:=h1;obtain⟨L,S,hv⟩:=(Y3 _ _ _ _ hl).2 rfl;have h2:=hy s _ (hr y);have Io:l<s.β.length:=(cf.1 S).1;have J:=hh.box l _ L hl S;obtain⟨a,cap,vs,Po,R,Ot,ht,hF,hm⟩:=O.flat;rw[cN ho,Po];rw[Po]at O;have Q:L.v=.slice a n cap:=by grind
 by_cases h0:m=0
 .subst h0;have z:=iP (P:=P) (ty:=o.type) hi X F H h.elem hh (a:=a) R h2;simp only[fS];have ha:∀i,i<n->es i=cR n es es' i:=λi hi=>by simp[cR,hi]
  have Z:eQ (σ.set l (.vec E ie.size n (cR n es es'))) ⟨s.β.set l L,s.M,s.w,s.own⟩ (.vec E ie.size n (cR n es es')) L:=by
   refine⟨J.1.Dl ha,?_⟩;rcases J.2 with⟨h3,h4⟩|h3
   .exact .inl ⟨h3,h4.Dl ha⟩
   grind
  have f:=hh.gy (M':=s.M) (w':=s.w) (B':=.vec E ie.size n (cR n es es')) (L':=L) hl S ⟨λ_=>rfl,ba _⟩ (ba _) (λ_ _ _=>rfl) (λ_ _ _ _=>rfl) (λ_ _ _ h=>h) hh.mem
   (λb hb=>⟨.inl hb,hh.lt L (bL S) b hb⟩) rfl rfl rfl Z
  refine⟨.value (.slice a n cap),_,?_,?_,f.1,f.2,et (ju hi X F H h.elem hh R h2)⟩
  .simp[z]
  .rw[<-Q];exact pJ (E:=E) (by grind) (by grind) Z
 .have N:¬(n+m=n):=by omega
  by_cases k:n+m<=cap
  .rcases J.2 with⟨Sk,B⟩|⟨b,Ik,q,rfl,hw,K,W⟩
   .rw[Q]at B;obtain⟨_,_,_,e,_,_,Y4,_⟩:=B.flat;grind
   .simp only at Q;cases Q;obtain⟨c,LR,z⟩:=jU (P:=P) (ty:=o.type) hi X F H h.elem hh hw K h2 k;have RR:c.length=m*ie.size:=LR.len;have Vl:b<s.w.heap.size:=(eX.1 hw).1;let M':Mem:=λD o=>if D=b/\n*ie.size<=o/\o<(n+m)*ie.size then c[o-n*ie.size]? else s.M D o;have LS:q.length=cap*ie.size:=K;have hnm:(n+m)*ie.size=n*ie.size+m*ie.size:=gI _ _ _;have Xx:(n+m)*ie.size<=cap*ie.size:=ek _ k;have Sl:∀D o v,s.M D o=aa v->M' D o=aa v:=by grind
    have Pl:∀p u,c[p]?=aa u->M' b (n*ie.size+p)=aa u:=by grind
    have U:Rd M' (.slice (aa ⟨b,0,af⟩) (n+m) cap) (.sl ae ie.size (n+m) (cR n es es')):=by refine Rd.mE (vs:=vs++c) ((hF.append LR).mono Sl) (b:=b) (off:=0) (λ_=>rfl) k Ot (by simp) (λp u hp=>?_);have Pk:vs.length=n*ie.size:=hF.len;grind
    have f:=hh.gy (M':=M') (w':=s.w.setRow b (q.take (n*ie.size)++c++q.drop (n*ie.size+c.length)).toArray) (B':=.vec E ie.size (n+m) (cR n es es')) (L':=⟨.slice (aa ⟨b,0,af⟩) (n+m) cap,[b]⟩) hl S
     ⟨λe=>absurd e N,by omega⟩ (by simp) (λD _ I=>setRow_other _ _ _ _ (by grind)) (λD _ I o=>by
      grind) Sl ?_ (λD I=>by simp at I;subst I;exact⟨.inl (by simp),by simpa using Vl⟩) rfl rfl rfl ?_
    .refine⟨.value (.slice (aa ⟨b,0,af⟩) (n+m) cap),_,?_,?_,f.1,f.2,et (lz hi X F H h.elem hh hw K h2 k (bL S) (by simp) W)⟩
     .simp[z]
     .exact pJ (L:=⟨.slice (aa ⟨b,0,af⟩) (n+m) cap,[b]⟩) (E:=E) (by grind) (by grind) (f.1.box l _ _ (by grind) (by grind))
    .intro D o v G;by_cases I:D=b
     .subst I;have V:∀j,(s.w.setRow D (q.take (n*ie.size)++c++q.drop (n*ie.size+c.length)).toArray).cell? ⟨D,j,af⟩=(q.take (n*ie.size)++c++q.drop (n*ie.size+c.length))[j]?:=by grind[cell_setRow_same]
      rw[V];simp only[M']at G;have hkl:(q.take (n*ie.size)).length=n*ie.size:=by rw[List.length_take];omega
      split at G
      .grind
      .rename_i hc;have h3:=hh.mem D o v G;have ho:o<n*ie.size:=by grind
       rw[jo,iE (by omega),eK,bc ho];simp only[aR,hw]at h3;grind
     .simp only[M']at G;rw[aW (by omega)]at G;rw[<-hh.mem D o v G];simp only[aR];grind[setRow_other]
    .refine⟨U,.inr ⟨b,cap,_,rfl,setRow_heap _ _ _ _ _ _ hw,?_,λo ho=>?_⟩⟩
     .grind
     grind
  .have hg:cap<n+m:=by omega
   obtain⟨r,zs,A,Xy,UF,UG,Y,z⟩:=ib (P:=P) (ty:=o.type) hi X F H h.elem hh O h2 hg hb h.bytes;have hbl:∀b∈L.bs,b<s.w.heap.size:=hh.lt L (bL S);have U:Rd (λb o=>if b=s.w.heap.size then r[o]? else s.M b o) (.slice (aa ⟨s.w.heap.size,0,af⟩) (n+m) A) (.sl ae ie.size (n+m) (cR n es es')) :=
    Rd.mE (Xy.mono (sI hh r)) (b:=s.w.heap.size) (off:=0) (λ_=>rfl) UF UG (by simp) (λp u hp=>by grind)
   have f:=hh.gy (M':=λb o=>if b=s.w.heap.size then r[o]? else s.M b o) (w':=s.w.drew.alloc (.cells (r++zs).toArray E)) (B':=.vec E ie.size (n+m) (cR n es es')) (L':=⟨.slice (aa ⟨s.w.heap.size,0,af⟩) (n+m) A,[s.w.heap.size]⟩) hl S
    ⟨λe=>absurd e N,by omega⟩ (by simp) (λb hb _=>cZ s.w.drew _ hb) (λb hb _ o=>by grind) (sI hh r) (sH hh E r zs) (λb hb=>by
     simp at hb;subst hb;exact⟨.inr (ba _),by simp⟩) rfl rfl rfl ⟨U,.inr ⟨s.w.heap.size,A,r++zs,rfl,ei s.w.drew _,Y,λo ho=>by
      have hl:r.length<=o:=by rw[Xy.len];exact ho
      grind⟩⟩
   refine⟨.value (.slice (aa ⟨s.w.heap.size,0,af⟩) (n+m) A),_,?_,?_,f.1,f.2,et (iJ hi X F H h.elem hh O h2 hg hb h.bytes)⟩
   .simp[z]
   .exact pJ (L:=⟨.slice (aa ⟨s.w.heap.size,0,af⟩) (n+m) A,[s.w.heap.size]⟩) (E:=E) (by grind) (by grind) (f.1.box l _ _ (by grind) (by grind))
def kh{α:Type}:List Nat->List α->Option (List α)
  | [],_=>aa []
  | k::ks,l=>match eB k l with
    | some x=>match kh ks l with
      | some r=>aa (x::r)
      | none=>af
    | none=>af
def fb{α:Type}:∀(n:Nat) (l:List α),eB n l=l[n]?
  | _,[]=>by simp[eB]
  | 0,x::_=>by simp[eB]
  | n+1,_::xs=>by simpa[eB]using fb n xs
def iw{α:Type}:∀{ks:List Nat} {l r:List α},kh ks l=aa r->r.length=ks.length/\∀(j k:Nat),ks[j]?=aa k->∃x,r[j]?=aa x/\l[k]?=aa x
  | [],l,r,h=>by cases h;simp
  | k::ks,l,r,h=>by
    simp only[kh]at h;cases b:eB k l with
    | none=>grind
    | some x =>
      cases a:kh ks l with
      | none=>grind
      | some q =>
        simp[b,a]at h;subst h;obtain⟨d,c⟩:=iw a;grind[cU]
def zo{α f:Type}:∀{ks:List Nat} {l r:List α} {l':List f},kh ks l=aa r->l'.length=l.length->∃r',kh ks l'=aa r'
  | [],l,r,l',_,_=>⟨[],rfl⟩
  | k::ks,l,r,l',h,b=>by
    simp only[kh]at h;cases d:eB k l with
    | none=>grind
    | some x =>
      cases e:kh ks l with
      | none=>grind
      | some q =>
        obtain⟨r',a⟩:=zo (l':=l') e b;have c:k<l'.length:=by rw[b];exact(cf.1 (cU d)).1
        exact⟨l'[k]::r',by simp[kh,fb,c,a]⟩
def ou(ks:List Nat):A->A
  | .ptr l o=>match eB l ks with|some k=>.ptr k o|none=>.any
  | .vec l k n es=>match eB l ks with|some m=>.vec m k n es|none=>.c (.sl ae k n es)
  | .ref l=>match eB l ks with|some k=>.ref k|none=>.any
  | .bp l w=>match eB l ks with|some k=>.bp k w|none=>.any
  | .c x=>.c x
  | .any=>.any
def Bc(ks:List Nat):List A->List A
  | []=>[]
  | a::r=>ou ks a::Bc ks r
def zp(ks:List Nat):E1->E1
  | .one a=>.one (ou ks a)
  | .agg cs=>.agg (Bc ks cs)
def ya(ks:List Nat):List E1->List E1
  | []=>[]
  | a::r=>zp ks a::ya ks r
def iL(ks:List Nat):D->D
  | .e x=>.e (zp ks x)
  | .fK xs=>.fK (ya ks xs)
  | .any=>.any
def g6(ks:List Nat):List D->List D
  | []=>[]
  | a::r=>iL ks a::g6 ks r
def Dw:A->Bool
  | .c _|.any=>ab
  | _=>ae
def zq:List A->Bool
  | []=>ab
  | a::r=>match Dw a with|true=>zq r|false=>ae
def vq:bm->Bool
  | .cells _ cs=>zq cs
  | .loop ..=>ae
  | _=>ab
def cV:List bm->Bool
  | []=>ab
  | a::r=>match vq a with|true=>cV r|false=>ae
def kA:∀{l:List bm},cV l=ab->∀B∈l,vq B=ab
  | [],_,B,a=>by grind
  | b::r,h,B,a=>by
    simp only[cV]at h;cases c:vq b with
    | false=>grind
    | true =>
      simp only[c]at h;rcases eY.1 a with rfl|a
      · exact c
      · exact kA h B a
def dT.plain{σ σ':List bm}{s s':St}(e:s'.M=s.M):∀{vs:List aj} {cs:List A},zq cs=ab->dT σ s vs cs->dT σ' s' vs cs
  | [],[],_,_=>trivial
  | [],_::_,_,h=>h.elim
  | _::_,[],_,h=>h.elim
  | v::vs,a::al,b,h=>by
    simp only[zq]at b;cases d:Dw a with
    | false=>grind
    | true =>
      simp only[d]at b;refine⟨?_,dT.plain e b h.2⟩;cases a with
      | c x=>have:=h.1;simp only[gD]at this⊢;grind
      | any=>exact h.1
      | _=>simp[Dw]at d
def eQ.plain{σ σ':List bm}{s s':St}(a:s'.M=s.M)(c:s'.w=s.w){B:bm}{L:Loc}(d:vq B=ab)(h:eQ σ s B L):eQ σ' s' B L:=by
  cases B with
  | cells E cs =>
    obtain⟨b,vs,h1,h2,e,f⟩:=h;exact⟨b,vs,h1,by grind,e.plain a d,λo=>by rw[a];grind⟩
  | vec E k n es=>simp only[eQ,a,c]at h⊢;exact h
  | dg H=>simp only[eQ,a,c]at h⊢;exact h
  | dead=>trivial
  | loop N φ r=>simp[vq]at d
  | rG=>simp only[eQ,a,c]at h⊢;exact h
  | buf E k n es=>simp only[eQ,a,c]at h⊢;exact h
def ix:Nat->List Nat->Bool
  | _,[]=>ae
  | k,x::r=>match az k x with|true=>ab|false=>ix k r
def dX:List Nat->Bool
  | []=>ab
  | k::r=>match ix k r with|true=>ae|false=>dX r
theorem uU:∀{k:Nat} {l:List Nat},k∈l->ix k l=ab
  | k,[],h=>by grind
  | k,x::r,h=>by
    simp only[ix];cases a:az k x with
    | true=>rfl
    | false =>
      rcases eY.1 h with rfl|h
      · grind[Nat.beq_refl]
      · exact uU h
def vr:∀{l:List Nat},dX l=ab->∀(i j k:Nat),l[i]?=aa k->l[j]?=aa k->i=j
  | [],_,i,j,k,hi,_=>by grind
  | x::r,h,i,j,k,hi,a=>by
    simp only[dX]at h;cases b:ix x r with
    | true=>grind
    | false =>
      simp only[b]at h;have no:∀q,r[q]?=aa x->False:=λq c=>by have:=uU (bL c);grind
      cases i with
      | zero =>
        grind
      | succ i =>
        cases j with
        | zero =>
          grind
        | succ j =>
          simp at hi a;rw[vr h i j k hi a]
def GH(n:Nat):A->Bool
  | .ptr l _|.vec l _ _ _|.ref l|.bp l _=>bC (l+1) n
  | _=>ab
def Fp(n:Nat):List A->Bool
  | []=>ab
  | a::r=>match GH n a with|true=>Fp n r|false=>ae
def Iz(n:Nat):E1->Bool
  | .one a=>GH n a
  | .agg cs=>Fp n cs
def xF(n:Nat):List E1->Bool
  | []=>ab
  | a::r=>match Iz n a with|true=>xF n r|false=>ae
def vt(n:Nat):D->Bool
  | .e x=>Iz n x
  | .fK xs=>xF n xs
  | .any=>ab
def mG(n:Nat):List D->Bool
  | []=>ab
  | a::r=>match vt n a with|true=>mG n r|false=>ae
section sub
variable {ks:List Nat}{β':List Loc}
def gD.sub(p:kh ks σ=aa σ')(m:kh ks s.β=aa β'){a:A}(d:gD σ s v (ou ks a))(e:GH ks.length a=ab):gD σ' {s with β:=β'} v a:=by
  obtain⟨z,i⟩:=iw p;obtain⟨u,g2⟩:=iw m;cases a with
  | c x=>exact d
  | any=>exact d
  | ptr l o =>
    have hl:l<ks.length:=ez e;simp only[ou,fb,bn hl]at d;obtain⟨h1,L,b,h2,h,t⟩:=d;obtain⟨x,j,r⟩:=i l _ (bn hl);obtain⟨y,g,f⟩:=g2 l _ (bn hl);rw[f]at h2;cases h2;exact⟨λB q=>h1 B (by grind),L,b,g,h,t⟩
  | vec l k n es =>
    have hl:l<ks.length:=ez e;simp only[ou,fb,bn hl]at d;obtain⟨h1,h2,h⟩:=d;obtain⟨x,j,r⟩:=i l _ (bn hl);obtain⟨y,g,f⟩:=g2 l _ (bn hl);refine⟨h1,by grind,λE k' n' es' q=>?_⟩;grind
  | ref l =>
    have hl:l<ks.length:=ez e;simp only[ou,fb,bn hl]at d;obtain⟨h1,L,h2,h,t⟩:=d;obtain⟨x,j,r⟩:=i l _ (bn hl);obtain⟨y,g,f⟩:=g2 l _ (bn hl);rw[f]at h2;cases h2;exact⟨λB q=>h1 B (by grind),L,g,h,t⟩
  | bp l w =>
    have hl:l<ks.length:=ez e;simp only[ou,fb,bn hl]at d;obtain⟨lv,h1,h2,h⟩:=d;obtain⟨x,j,r⟩:=i l _ (bn hl);obtain⟨y,g,f⟩:=g2 l _ (bn hl);refine⟨lv,h1,(cf.1 j).1,λE k n es q=>?_⟩;grind
def gD.mQ{σ2:List bm}{s2:St}(u:s2.M=s.M)(e:∀(j:Nat) (B:bm),σ[j]?=aa B->∃k,ks[j]?=aa k/\σ2[k]?=aa B)(g:∀(j:Nat) (L:Loc),s.β[j]?=aa L->∃k,ks[j]?=aa k/\s2.β[k]?=aa L)(t:s.β.length=σ.length){a:A}(f:gD σ s v a):gD σ2 s2 v (ou ks a):=by
  cases a with
  | c x=>simp only[ou,gD,u];exact f
  | any=>exact f
  | ptr l o =>
    obtain⟨h1,L,b,h2,h,r⟩:=f;obtain⟨k,k1,m⟩:=g l L h2;have hl:l<σ.length:=by grind
    obtain⟨k',d,q⟩:=e l _ (bn hl);rw[k1]at d;cases d;simp only[ou,fb,k1];refine⟨λB p=>?_,L,b,m,h,r⟩;grind
  | vec l k n es =>
    obtain⟨h1,h2,h⟩:=f;obtain⟨k1,i,p2⟩:=e l _ (bn h2);simp only[ou,fb,i];refine⟨by grind,(cf.1 p2).1,λE k' n' es' p=>?_⟩;grind
  | ref l =>
    obtain⟨h1,L,h2,h,r⟩:=f;obtain⟨k,k1,m⟩:=g l L h2;have hl:l<σ.length:=by grind
    obtain⟨k',d,q⟩:=e l _ (bn hl);rw[k1]at d;cases d;simp only[ou,fb,k1];refine⟨λB p=>?_,L,m,h,r⟩;grind
  | bp l w =>
    obtain⟨lv,h1,h2,h⟩:=f;obtain⟨k1,i,p2⟩:=e l _ (bn h2);simp only[ou,fb,i];refine⟨lv,h1,(cf.1 p2).1,λE k' n' es' p=>?_⟩;grind
def dT.sub(b:kh ks σ=aa σ')(c:kh ks s.β=aa β'):∀{vs:List aj} {cs:List A},dT σ s vs (Bc ks cs)->Fp ks.length cs=ab->dT σ' {s with β:=β'} vs cs
  | [],[],_,_=>trivial
  | [],_::_,h,_=>h.elim
  | _::_,[],h,_=>h.elim
  | v::vs,a::al,h,d=>by
    simp only[Fp]at d;cases e:GH ks.length a with
    | false=>grind
    | true=>simp only[e]at d;exact⟨h.1.sub b c e,dT.sub b c h.2 d⟩
def nq.sub(b:kh ks σ=aa σ')(c:kh ks s.β=aa β'){v:aj}{x:E1}(h:nq σ s v (zp ks x))(d:Iz ks.length x=ab):nq σ' {s with β:=β'} v x:=by
  cases x with
  | one a=>exact gD.sub b c h d
  | agg cs=>obtain⟨vs,h1,h2⟩:=h;exact⟨vs,h1,h2.sub b c d⟩
def gN.sub(b:kh ks σ=aa σ')(c:kh ks s.β=aa β'):∀{vs:List aj} {xs:List E1},gN σ s vs (ya ks xs)->xF ks.length xs=ab->gN σ' {s with β:=β'} vs xs
  | [],[],_,_=>trivial
  | [],_::_,h,_=>h.elim
  | _::_,[],h,_=>h.elim
  | v::vs,a::al,h,d=>by
    simp only[xF]at d;cases e:Iz ks.length a with
    | false=>grind
    | true=>simp only[e]at d;exact⟨h.1.sub b c e,gN.sub b c h.2 d⟩
def dk.sub(a:kh ks σ=aa σ')(b:kh ks s.β=aa β'){v:aj}{d:D}(h:dk σ s v (iL ks d))(c:vt ks.length d=ab):dk σ' {s with β:=β'} v d:=by
  cases d with
  | e x=>exact nq.sub a b h c
  | fK xs=>obtain⟨vs,h1,h2⟩:=h;exact⟨vs,h1,h2.sub a b c⟩
  | any=>trivial
def cn.sub(b:kh ks σ=aa σ')(c:kh ks s.β=aa β'):∀{vs:List aj} {ds:List D},cn σ s vs (g6 ks ds)->mG ks.length ds=ab->cn σ' {s with β:=β'} vs ds
  | [],[],_,_=>trivial
  | [],_::_,h,_=>h.elim
  | _::_,[],h,_=>h.elim
  | v::vs,a::al,h,d=>by
    simp only[mG]at d;cases e:vt ks.length a with
    | false=>grind
    | true=>simp only[e]at d;exact⟨h.1.sub b c e,cn.sub b c h.2 d⟩
variable {σ2:List bm}{s2:St}
def dT.mQ(d:s2.M=s.M)(b:∀(j:Nat) (B:bm),σ[j]?=aa B->∃k,ks[j]?=aa k/\σ2[k]?=aa B)(c:∀(j:Nat) (L:Loc),s.β[j]?=aa L->∃k,ks[j]?=aa k/\s2.β[k]?=aa L)(a:s.β.length=σ.length):
    ∀{vs:List aj} {cs:List A},dT σ s vs cs->dT σ2 s2 vs (Bc ks cs)
  | [],[],_=>trivial
  | [],_::_,h=>h.elim
  | _::_,[],h=>h.elim
  | _::_,_::_,h=>⟨h.1.mQ d b c a,dT.mQ d b c a h.2⟩
def nq.mQ(e:s2.M=s.M)(c:∀(j:Nat) (B:bm),σ[j]?=aa B->∃k,ks[j]?=aa k/\σ2[k]?=aa B)(d:∀(j:Nat) (L:Loc),s.β[j]?=aa L->∃k,ks[j]?=aa k/\s2.β[k]?=aa L)(b:s.β.length=σ.length){v:aj}{x:E1}(h:nq σ s v x):nq σ2 s2 v (zp ks x):=by
  cases x with
  | one a=>exact gD.mQ e c d b h
  | agg cs=>obtain⟨vs,h1,h2⟩:=h;exact⟨vs,h1,h2.mQ e c d b⟩
def gN.mQ(d:s2.M=s.M)(b:∀(j:Nat) (B:bm),σ[j]?=aa B->∃k,ks[j]?=aa k/\σ2[k]?=aa B)(c:∀(j:Nat) (L:Loc),s.β[j]?=aa L->∃k,ks[j]?=aa k/\s2.β[k]?=aa L)(a:s.β.length=σ.length):
    ∀{vs:List aj} {xs:List E1},gN σ s vs xs->gN σ2 s2 vs (ya ks xs)
  | [],[],_=>trivial
  | [],_::_,h=>h.elim
  | _::_,[],h=>h.elim
  | _::_,_::_,h=>⟨h.1.mQ d b c a,gN.mQ d b c a h.2⟩
def dk.mQ(f:s2.M=s.M)(b:∀(j:Nat) (B:bm),σ[j]?=aa B->∃k,ks[j]?=aa k/\σ2[k]?=aa B)(c:∀(j:Nat) (L:Loc),s.β[j]?=aa L->∃k,ks[j]?=aa k/\s2.β[k]?=aa L)(a:s.β.length=σ.length){v:aj}{d:D}(h:dk σ s v d):dk σ2 s2 v (iL ks d):=by
  cases d with
  | e x=>exact nq.mQ f b c a h
  | fK xs=>obtain⟨vs,h1,h2⟩:=h;exact⟨vs,h1,h2.mQ f b c a⟩
  | any=>trivial
end sub
def ee.sK{α:Type}:Nat->α->List α->List α
  | _,_,[]=>[]
  | 0,x,_::r=>x::r
  | k+1,x,y::r=>y::ee.sK k x r
def ee{α:Type}:List Nat->List α->List α->List α
  | [],new,old=>old++new
  | k::ks,x::new,old=>ee ks new (ee.sK k x old)
  | _::_,[],old=>old
theorem k8{α:Type}:∀(k:Nat) (x:α) (l:List α),ee.sK k x l=l.set k x
  | _,_,[]=>by simp[ee.sK]
  | 0,x,_::r=>by simp[ee.sK]
  | k+1,x,y::r=>by simp[ee.sK,k8 k x r]
def vu{α:Type}:∀{ks:List Nat} {new old:List α},dX ks=ab->(∀k∈ks,k<old.length)->ks.length<=new.length ->
    (ee ks new old).length=old.length+(new.length-ks.length)/\(∀(j k:Nat),ks[j]?=aa k->(ee ks new old)[k]?=new[j]?) /\
    (∀j,(ee ks new old)[old.length+j]?=new[ks.length+j]?)/\(∀l,l<old.length->l∉ks->(ee ks new old)[l]?=old[l]?)
  | [],new,old,_,_,_=>by
    refine⟨by simp[ee],by simp,λj=>?_,λl f _=>?_⟩
    · simp only[ee,hO,bz]
      grind
    · simp[ee,iE f]
  | k::ks,[],old,_,_,h=>by grind
  | k::ks,x::new,old,a,b,g=>by
    have c:=a;simp only[dX]at a;cases d:ix k ks with
    | true=>grind
    | false =>
      simp only[d]at a;have i:k<old.length:=b k (by simp);have e:k∉ks:=λh=>by grind[uU]
      obtain⟨p,n,m,o⟩:=vu (ks:=ks) (new:=new) (old:=old.set k x) a (λk' XB=>by grind) (by grind);simp only[ee,k8];grind
def Ev(X:Cx P)(f:aM)(args:List D)(σ:List bm)(res:D)(σ':List bm):Prop :=
  (∃fn,P.funcs[f]?=aa fn/\(fn.name== "runtime.NumGoroutine")=ae/\fn.body.isNone=ae) /\
  ∀s (vs:List aj),cn σ s vs args->aF σ s->∀(S:ak->St->Prop) (cs:List aU),
    (∀a v s',um P f a v s'->dk σ' s' v res->aF σ' s'->cO σ s σ' s'->fA X S (G a cs) s')->fA X S (G (Frame.enter P f vs.toArray .normal) cs) s
def dW(X:Cx P)(f:aM)(args:List D)(σ:List bm)(res:ι->D)(σ':ι->List bm):Prop :=
  (∃fn,P.funcs[f]?=aa fn/\(fn.name== "runtime.NumGoroutine")=ae/\fn.body.isNone=ae) /\
  ∀s (vs:List aj),cn σ s vs args->aF σ s->∀(S:ak->St->Prop) (cs:List aU),
    (∀i a v s',um P f a v s'->dk (σ' i) s' v (res i)->aF (σ' i) s'->cO σ s (σ' i) s'->fA X S (G a cs) s')->fA X S (G (Frame.enter P f vs.toArray .normal) cs) s
def Ev.Dx{X:Cx P}{f:aM}{args:List D}{res:D}(h:Ev X f args σ res σ'):dW (ι:=Unit) X f args σ (λ_=>res) (λ_=>σ') :=
  ⟨h.1,λs vs hr hh S cs hS=>h.2 s vs hr hh S cs (hS ())⟩
def dW.GI{X:Cx P}{f:aM}{args:List D}{res:D}(h:dW (ι:=Unit) X f args σ (λ_=>res) (λ_=>σ')):Ev X f args σ res σ' :=
  ⟨h.1,λs vs hr hh S cs hS=>h.2 s vs hr hh S cs (λ_=>hS)⟩
def zr(s:St)(a:List Loc):Nat->Prop:=λb=>s.own b∨((∃L∈s.β,b∈L.bs)/\∀L∈a,b∉L.bs)
def l0(n:Nat):Nat->List Nat
  | 0=>[]
  | m+1=>n::l0 (n+1) m
def Bd:∀(m n j:Nat),(l0 n m)[j]?=if j<m then aa (n+j)else af
  | 0,n,j=>by simp[l0]
  | m+1,n,0=>by simp[l0]
  | m+1,n,j+1=>by simp only[l0,kL,Bd m (n+1) j,Nat.add_lt_add_iff_right];grind
def frame{ks:List Nat}{σ1:List bm}{a:St}{p:List Loc}(q:aF σ s)(R:kh ks σ=aa σs)(Z:kh ks s.β=aa p)(hn:dX ks=ab)(hp:cV σ1=ab)(z:aF σ1 a)(st:cO σs {s with β:=p,own:=zr s p} σ1 a)(S:ks.length<=σ1.length){res:D}(hr:dk σ1 a v res):
    ∃s2:St,s2.w=a.w/\dk (ee ks σ1 σ) s2 v (iL (ks++l0 σ.length (σ1.length-ks.length)) res)/\aF (ee ks σ1 σ) s2/\cO σ s (ee ks σ1 σ) s2/\s2.M=a.M/\s2.own=s.own/\∀L∈s2.β,L∈a.β∨(L∈s.β/\∀b∈L.bs,∀L'∈p,b∉L'.bs):=by
  have I:∀k∈ks,k<σ.length:=by intro k N;obtain⟨j,n,rfl⟩:=dL N;obtain⟨x,_,h2⟩:=(iw R).2 j _ (bn n);grind
  have F:∀k∈ks,k<s.β.length:=by rw[q.len];exact I
  have K:ks.length<=a.β.length:=by rw[z.len];exact S
  obtain⟨a1,a2,a3,a4⟩:=vu (new:=σ1) (old:=σ) hn I S;obtain⟨b1,b2,b3,b4⟩:=vu (new:=a.β) (old:=s.β) hn F K;obtain⟨c1,c2⟩:=iw R;obtain⟨d1,d2⟩:=iw Z;let J:=ks++l0 σ.length (σ1.length-ks.length);have P:∀j,j<σ1.length->∃k,J[j]?=aa k/\(ee ks σ1 σ)[k]?=σ1[j]?/\(ee ks a.β s.β)[k]?=a.β[j]?:=by
    intro j n;rcases cM j ks.length with m|C
    · refine⟨ks[j],?_,a2 j _ (bn m),b2 j _ (bn m)⟩
      grind
    · refine⟨σ.length+(j-ks.length),?_,?_,?_⟩
      · simp only[J]
        rw[fR C,Bd,bc (by omega)]
      · rw[a3];grind
      · rw[<-q.len,b3];grind
  have f:∀l L,(ee ks a.β s.β)[l]?=aa L->(∃j,j<σ1.length/\a.β[j]?=aa L/\(∀B,(ee ks σ1 σ)[l]?=aa B->σ1[j]?=aa B)/\(∀k,ks[j]?=aa k->k=l)/\(j≥ks.length->l=σ.length+(j-ks.length))) ∨
      (l<σ.length/\l∉ks/\s.β[l]?=aa L/\(ee ks σ1 σ)[l]?=σ[l]?):=by
    intro l L c;have Y:l<(ee ks a.β s.β).length:=(cf.1 c).1;rcases cM l σ.length with m|C
    · by_cases r:l∈ks
      · obtain⟨j,n,rfl⟩:=dL r
        have N:=bn n;grind
      · exact .inr ⟨m,r,by rw[<-b4 l (by rw[q.len];exact m) r];exact c,a4 l m r⟩
    · rw[b1,z.len,q.len]at Y
      refine .inl ⟨ks.length+(l-σ.length),by omega,?_,λB t=>?_,λk N=>?_,λ_=>by omega⟩
      · rw[<-b3,q.len,zb C];exact c
      · rw[<-a3,zb C];exact t
      grind
  have E:∀L∈p,L∈s.β:=by
    intro L c;obtain⟨j,n,rfl⟩:=dL c;have A:j<ks.length:=by grind
    obtain⟨x,U,V⟩:=d2 j _ (bn A);grind
  have other:∀l L,l∉ks->s.β[l]?=aa L->∀b∈L.bs,b<s.w.heap.size/\∀L'∈p,b∉L'.bs:=by
    intro l L u c b d;refine⟨q.lt L (bL c) b d,λL' gh oB=>?_⟩;obtain⟨j,n,rfl⟩:=dL gh;have A:j<ks.length:=by grind
    obtain⟨x,U,V⟩:=d2 j _ (bn A);rw[bn n]at U;cases U;have:=q.fY l ks[j] L _ c V b d oB;grind
  have out:∀b,b<s.w.heap.size->(∀L∈s.β,b∉L.bs)->∀L∈p,b∉L.bs:=λb _ h L c=>h L (E L c);have ex:Ext σ s (ee ks σ1 σ) ⟨ee ks a.β s.β,a.M,a.w,s.own⟩:=by
    refine⟨st.mem,λl B L t c=>?_⟩;have m:l<σ.length:=(cf.1 t).1;by_cases r:l∈ks
    · obtain⟨j,n,rfl⟩:=dL r
      have N:=bn n;obtain⟨x,U,V⟩:=c2 j _ N;obtain⟨y,y1,y2⟩:=d2 j _ N;rw[t]at V;cases V;rw[c]at y2;cases y2;obtain⟨B',L',p1,p2,p3⟩:=st.box j B L U y1;grind
    · exact⟨B,L,by grind,by grind,.refl _ _⟩
  refine⟨⟨ee ks a.β s.β,a.M,a.w,s.own⟩,rfl,?_,⟨z.mem,?_,?_,?_,?_,?_⟩,⟨st.size,?_,st.mem,?_,?_,ex.box,st.os,st.tape,st.output,rfl⟩,rfl,rfl,?_⟩
  · refine dk.mQ (s:=a) (s2:=⟨ee ks a.β s.β,a.M,a.w,s.own⟩) (σ2:=ee ks σ1 σ) (ks:=J) rfl (λj B t=>?_) (λj L c=>?_) z.len hr
    · grind
    · obtain⟨k,k1,_,k3⟩:=P j (by rw[<-z.len];grind)
      grind
  · simp only;rw[a1,b1,z.len,q.len]
  · intro l B L t c
    rcases f l L c with⟨j,n,g,Q,_⟩|⟨u,r,gh,lW⟩
    · exact eQ.plain (σ:=σ1) (s:=a) (s':=⟨ee ks a.β s.β,a.M,a.w,s.own⟩) rfl rfl (kA hp B (bL (Q B t))) (z.box j B L (Q B t) g)
    · rw[lW]at t
      refine(q.box l B L t gh).carry ex q.len λb d=>?_;obtain⟨X,W⟩:=other l L r gh b d;exact⟨st.keep b (.inr ⟨⟨L,bL gh,d⟩,W⟩),st.iI b X W⟩
  · intro l l' L L' c gh b d oB
    rcases f l L c with⟨j,n,g,_,YW,Zi⟩|⟨u,r,i,_⟩<;>rcases f l' L' gh with⟨j',A,H,_,Zj,Zk⟩|⟨Df,hm',G,_⟩
    · have e:=z.fY j j' L L' g H b d oB
      grind
    · obtain⟨X,W⟩:=other l' L' hm' G b oB
      rcases st.uP L (bL g) b d with h|⟨L0,h0,O⟩
      · grind
      grind
    · obtain⟨X,W⟩:=other l L r i b d
      rcases st.uP L' (bL H) b oB with h|⟨L0,h0,O⟩
      · grind
      grind
    · exact q.fY l l' L L' i G b d oB
  · intro L c b d
    obtain⟨l,u,rfl⟩:=dL c;rcases f l _ (bn u)with⟨j,n,g,_⟩|⟨_,_,i,_⟩
    · exact z.lt _ (bL g) b d
    · have:=q.lt _ (bL i) b d
      have:=st.size;grind
  · intro b d
    refine⟨?_,λL c T=>?_⟩
    · have:=(q.own b d).1
      have:=st.size;grind
    · obtain⟨l,u,rfl⟩:=dL c
      rcases f l _ (bn u)with⟨j,n,g,_⟩|⟨_,_,i,_⟩
      · have ho:a.own b:=by rw[st.own];exact .inl d
        exact(z.own b ho).2 _ (bL g) T
      · exact(q.own b d).2 _ (bL i) T
  · intro b d
    exact st.keep b (.inl d)
  · intro b d Vr o
    exact st.iI b d (out b d Vr) o
  · intro L c b d
    obtain⟨l,u,rfl⟩:=dL c;rcases f l _ (bn u)with⟨j,n,g,_⟩|⟨_,_,i,_⟩
    · rcases st.uP _ (bL g) b d with h|⟨L0,h0,O⟩
      · grind
      grind
    grind
  · intro L c
    obtain⟨l,u,rfl⟩:=dL c;rcases f l _ (bn u)with⟨j,n,g,_⟩|⟨_,r,i,_⟩
    · grind
    grind
def eD:D->Option (aM×List C)
 |.e (.one (.c (.fn (.func f) [] cap)))=>aa (f,cap)
 |_=>af
theorem nI{σ:List bm}{s:St}{b:aE->aj}{η:aE->D}(a:∀y,dk σ s (b y) (η y)):∀l:List aE,cn σ s (l.map b) (l.map η)
 |[]=>trivial
 |x::r=>⟨a x,nI a r⟩
def cn.append{σ:List bm}{s:St}:∀{vs Vs:List aj}{ds Fo:List D},cn σ s vs ds->cn σ s Vs Fo->cn σ s (vs++Vs) (ds++Fo)
 |[],_,[],_,_,h=>h
 |[],_,_::_,_,h,_=>h.elim
 |_::_,_,[],_,h,_=>h.elim
 |_::_,_,_::_,_,h,a=>⟨h.1,cn.append h.2 a⟩
def Pu:A->A
 |.vec _ k n es=>.c (.sl ae k n es)
 |.c (.sl _ k n es)=>.c (.sl ae k n es)
 |a=>a
def Fq{a:A}(h:gD σ s v a):gD σ s v (Pu a):=by
 cases a with
 |vec l k n es=>exact h.1
 |c x=>cases x<;>first|exact h|exact Rd.loose h
 |_=>exact h
def Pv:List A->List A
 |[]=>[]
 |a::r=>Pu a::Pv r
def Fs{σ:List bm}{s:St}:∀{vs:List aj}{cs:List A},dT σ s vs cs->dT σ s vs (Pv cs)
 |[],[],_=>trivial
 |[],_::_,h=>h.elim
 |_::_,[],h=>h.elim
 |_::_,_::_,h=>⟨Fq h.1,Fs h.2⟩
def SA:D->D
 |.e (.one a)=>.e (.one (Pu a))
 |.e (.agg cs)=>.e (.agg (Pv cs))
 |d=>d
def Mk{d:D}(h:dk σ s v d):dk σ s v (SA d):=by
 cases d with
 |e x=>cases x with
  |one a=>exact Fq h
  |agg cs=>obtain⟨vs,c,b⟩:=h;exact⟨vs,c,Fs b⟩
 |fK xs=>exact h
 |any=>trivial
def oO:List D->List D
 |[]=>[]
 |a::r=>SA a::oO r
theorem vv{σ:List bm}{s:St}:∀{vs:List aj}{ds:List D},cn σ s vs ds->cn σ s vs (oO ds)
 |[],[],_=>trivial
 |[],_::_,h=>h.elim
 |_::_,[],h=>h.elim
 |_::_,_::_,h=>⟨Mk h.1,vv h.2⟩
def fX:List C->List D
 |[]=>[]
 |c::r=>.e (.one (.c c))::fX r
theorem lx{σ:List bm}{s:St}:∀{vs:List aj}{cs:List C},(∀(j:Nat)(c:C),cs[j]?=aa c->∃v,vs[j]?=aa v/\Rd s.M v c)->vs.length=cs.length->cn σ s vs (fX cs)
 |[],[],_,_=>trivial
 |[],_::_,_,h=>by grind
 |_::_,[],_,h=>by grind
 |v::vs,c::cs,h,e=>by obtain⟨u,a,b⟩:=h 0 c rfl;simp at a;subst a;exact⟨b,lx (λj c d=>by simpa using h (j+1) c (by grind)) (by grind)⟩
def zt{ks:List Nat}{l r:List α}(h:kh ks l=aa r):∀x∈r,x∈l:=by intro x b;obtain⟨f,a⟩:=iw h;obtain⟨j,e,rfl⟩:=dL b;obtain⟨y,d,c⟩:=a j _ (bn (by omega));grind
def aF.sub{ks:List Nat}{a:List Loc}(hh:aF σ s)(m:kh ks σ=aa σs)(e:kh ks s.β=aa a)(u:cV σs=ab)(t:dX ks=ab):
  aF σs {s with β:=a,own:=zr s a}/\eR s {s with β:=a,own:=zr s a}:=by
 obtain⟨c1,c2⟩:=iw m;obtain⟨d1,d2⟩:=iw e;have g:∀L∈a,L∈s.β:=zt e;refine⟨⟨hh.mem,by grind,?_,?_,?_,?_⟩,⟨rfl,λ_ _ _ h=>h,λ_ _ _=>rfl,hh.mem,?_⟩⟩
 .intro j B L q c;have hj:j<ks.length:=by grind
  obtain⟨x,r,v⟩:=c2 j _ (bn hj);obtain⟨y,f,p⟩:=d2 j _ (bn hj);rw[q]at r;cases r;simp only at c;rw[c]at f;cases f;exact eQ.plain (σ:=σ) (s:=s) (s':={s with β:=a,own:=zr s a}) rfl rfl (kA u B (bL q)) (hh.box _ B L v p)
 .intro j k L L' c i b hb oB;simp only at c i;have hj:j<ks.length:=by grind
  have l:k<ks.length:=by grind
  obtain⟨y,f,p⟩:=d2 j _ (bn hj);obtain⟨w,d,o⟩:=d2 k _ (bn l);rw[c]at f;cases f;rw[i]at d;cases d;have:=hh.fY _ _ L L' p o b hb oB;exact vr t j k ks[j] (bn hj) (by grind)
 .intro L c b hb;exact hh.lt _ (g L c) b hb
 .rintro b (hb|⟨⟨L,c,hb⟩,n⟩)
  .exact⟨(hh.own b hb).1,λL c=>(hh.own b hb).2 L (g L c)⟩
  .exact⟨hh.lt L c b hb,n⟩
 .rintro b ((hb|⟨⟨L,c,hb⟩,_⟩)|⟨L,c,hb⟩)
  .grind
  .grind
  grind
def eR.back{σ1:List bm}{c s2:St}{a:List Loc}(hh:aF σ s)(h1:aF σ1 c)(st:cO σs {s with β:=a,own:=zr s a} σ1 c)(i:s2.w=c.w)(e:s2.M=c.M)(ho:s2.own=s.own)(d:∀L∈s2.β,L∈c.β∨(L∈s.β/\∀b∈L.bs,∀L'∈a,b∉L'.bs)):eR c s2:=by
 refine⟨i,λb o v h=>by grind,λb _ o=>by rw[e],λb o v h=>by rw[e]at h;exact h1.mem b o v h,?_⟩;rintro b (hb|⟨L,f,hb⟩)
 .left;rw[st.own];exact .inl (by grind)
 .rcases d L f with h|⟨h,g⟩
  .grind
  .left;rw[st.own];exact .inr ⟨⟨L,h,hb⟩,g b hb⟩
def sL{X:Cx P}{b:aU}{k:List Item}{a:Act}{rest:List Nat}{ks:List Nat}{f:aM}(hb:b.kind≠.early)(ho:ops[i]?=aa o)(hw:a9 o (yielded ops a.tmps)=ab)(Y:aF σ s)(D:∀w,(an a.eval o).run P w=.ok (.enter f vs.toArray) w)(y:∀w,(an a.eval o).events P w #[]=#[])(K:dW X f cy σs res σ1)(r:cn σ s vs (g6 ks cy))(R:mG ks.length cy=ab)(n:kh ks σ=aa σs)(hp:cV σs=ab)(V:∀j,cV (σ1 j)=ab)(W:dX ks=ab)(I:∀j,ks.length<=(σ1 j).length)(h:∀j v s',dk (ee ks (σ1 j) σ) s' v (iL (ks++l0 σ.length ((σ1 j).length-ks.length)) (res j))->aF (ee ks (σ1 j) σ) s'->cO σ s (ee ks (σ1 j) σ) s'->fA X S (G (b.aT (a.put o.dst v) (.inRegion ops rest::k)) cs) s'):
  fA X S (G (b.aT a (.inRegion ops (i::rest)::k)) cs) s:=by
 obtain⟨_,q⟩:=K;refine .next rfl λg M=>?_;have H:=X.hZ M;have d:=Y.rely H;obtain⟨e,p⟩:=zo (l':=g.β) n d.len;obtain⟨x,J⟩:=d.sub n p hp W;have m:cn σ g vs (g6 ks cy):=r.mono H.stepW.ext Y.len;have A:cn σs {g with β:=e,own:=zr g e} vs cy:=(m.sub (s:=g) n p R).mono (σ:=σs) (s:={g with β:=e}) (σ':=σs) (s':={g with β:=e,own:=zr g e}) ⟨λ_ _ _ h=>h,λl B L hB hL=>⟨B,L,hB,hL,.refl _ _⟩⟩ x.len;refine⟨_,g,_,oH ho hw hb (D g.w),?_,.ghost J (q _ vs A x S _ λj fr v s2 hl lY Fa oq=>?_)⟩
 .refine⟨⟨σ,σ,d,d,.refl _ _⟩,eN.seen ?_⟩;rw[y];exact .nil
 refine pG (cs:=cs) (c:=b.aT a (.inRegion ops (i::rest)::k)) Fa hl λs3 t=>?_;have z:=Fa.rely t;have C:=oq.trans t.stepW;obtain⟨Z,O,T,E,N,Q,F,u⟩:=frame d n p W (V j) z C (I j) (lY.mono t.stepW.ext Fa.len);refine .ghost (eR.back d z C O Q F u) ?_;have U:=jd (b:=b) (a:=a) (k:=k) ops i rest v;rw[ho]at U;simp only[my]at U;rw[U];exact h j v Z T E (H.stepW.trans N)
def IA{X:Cx P}{b:aU}{k:List Item}{a:Act}{rest:List Nat}{ks:List Nat}{σ1:List bm}{f:aM}{res:D}(p:b.kind≠.early)(ho:ops[i]?=aa o)(q:a9 o (yielded ops a.tmps)=ab)(r:aF σ s)(e:∀w,(an a.eval o).run P w=.ok (.enter f vs.toArray) w)(d:∀w,(an a.eval o).events P w #[]=#[])(n:Ev X f cy σs res σ1)(c:cn σ s vs (g6 ks cy))(m:mG ks.length cy=ab)(g:kh ks σ=aa σs)(u:cV σs=ab)(l:cV σ1=ab)(t:dX ks=ab)(j:ks.length<=σ1.length)(h:∀v s',dk (ee ks σ1 σ) s' v (iL (ks++l0 σ.length (σ1.length-ks.length)) res)->aF (ee ks σ1 σ) s'->cO σ s (ee ks σ1 σ) s'->fA X S (G (b.aT (a.put o.dst v) (.inRegion ops rest::k)) cs) s'):
  fA X S (G (b.aT a (.inRegion ops (i::rest)::k)) cs) s :=
 sL p ho q r e d n.Dx c m g u (λ_=>l) t (λ_=>j) (λ_=>h)
theorem gQ(ho:o.op=.call {callee:=.value fo,args:=xs,argTypes:=jN}){f:aM}{fn:Func}(d:P.funcs[f]?=aa fn)(i:(fn.name== "runtime.NumGoroutine")=ae)(e:fn.body.isNone=ae){a:Act}{cs:List aj}(h:a.eval fo=.func (.func f) #[] cs.toArray)(w:aA):
  (an a.eval o).run P w=.ok (.enter f (xs.toList.map a.eval++cs).toArray) w/\(an a.eval o).events P w #[]=#[]:=by
 have g:(xs.map a.eval++cs.toArray)=(xs.toList.map a.eval++cs).toArray:=by grind
 have c:fn.name≠ "runtime.NumGoroutine":=by grind
 have b:fn.body≠af:=by grind
 constructor
 .simp[an,ho,resolve,h,Deferred.ofValue,invoke,callFunc,d,c,b,g]
 .simp[an,ho,resolve,h,Deferred.ofValue,invoke,callFunc,d,c,b]
def jl.Ft{X:Cx P}{Q:Fr->List bm->Prop}(M:∀σ s a,cx N σ s φ a->a9 o (yielded all.toArray a.tmps)=ab)(ho:o.op=.call {callee:=.value fo,args:=xs,argTypes:=jN}){f:aM}(y:eD (bO φ fo)=aa (f,cap))(ks:List Nat)(u:dW X f cy σs res σ1)(n:∀s vs,cn σ s vs (xs.toList.map (bO φ)++fX cap)->cn σ s vs (g6 ks cy))(F:mG ks.length cy=ab)(A:kh ks σ=aa σs)(T:cV σs=ab)(G:∀j,cV (σ1 j)=ab)(O:dX ks=ab)(B:∀j,ks.length<=(σ1 j).length)(d:Option Nat)(K:o.dst=d)(U:∀t,d=aa t->t<N)(k:∀j,jl X N all rest Q (kO d (iL (ks++l0 σ.length ((σ1 j).length-ks.length)) (res j)) φ) (ee ks (σ1 j) σ)):jl X N all (o::rest) Q φ σ:=by
 subst K;intro s a g hh b kk cs S idx hb ia hQ;cases idx with
 |nil=>exact ia.elim
 |cons i idx =>
 obtain⟨hi,ia⟩:=ia;have p:=dt g fo;unfold eD at y;split at y
 case h_2=>cases y
 case h_1 f' Ik he =>
  cases y;rw[he]at p;have l:=fM p;generalize I:a.eval fo=fv at l;cases l with
  |fn fs lZ hl Df f1 f2 h1 h2 r1 r2 =>
   have z:fs=[]:=iV hl;subst z;have m:cn σ s lZ (fX cap):=lx (λj c hj=>⟨f2 j,h2 j (by grind),r2 j c hj⟩) Df;have r:cn σ s (xs.toList.map a.eval++lZ) (g6 ks cy):=by exact n _ _ ((nI (dt g) xs.toList).append m)
   obtain⟨fn,x,h,e⟩:=u.1;refine sL hb hi (M _ _ _ g) hh (λw=>(gQ ho x h e I w).1) (λw=>(gQ ho x h e I w).2) u r F A T G O B λj v s' hr jL st=>?_;refine k j s' _ ?_ jL b kk cs S idx hb ia λC D R a3 q J L E=>hQ C D R a3 q J L (st.trans E);cases H:o.dst with
   |none=>exact g.mono st hh.len
   |some t=>exact(g.mono st hh.len).put (U t H) hr
def jl.Ox{X:Cx P}{Q:Fr->List bm->Prop}(n:∀σ s a,cx N σ s φ a->a9 o (yielded all.toArray a.tmps)=ab)(ho:o.op=.call {callee:=.value fo,args:=xs,argTypes:=jN}){f:aM}(p:eD (bO φ fo)=aa (f,cap))(ks:List Nat)(l:dW X f cy σs res σ1)(g:oO (xs.toList.map (bO φ)++fX cap)=g6 ks cy)(i:mG ks.length cy=ab)(b:kh ks σ=aa σs)(u:cV σs=ab)(e:∀j,cV (σ1 j)=ab)(q:dX ks=ab)(c:∀j,ks.length<=(σ1 j).length)(d:Option Nat)(r:o.dst=d)(m:∀t,d=aa t->t<N)(k:∀j,jl X N all rest Q (kO d (iL (ks++l0 σ.length ((σ1 j).length-ks.length)) (res j)) φ) (ee ks (σ1 j) σ)):jl X N all (o::rest) Q φ σ :=
 jl.Ft n ho p ks l (λs vs h=>by grind[vv]) i b u e q c d r m k
theorem jl.call{X:Cx P}{Q:Fr->List bm->Prop}(l:∀σ s a,cx N σ s φ a->a9 o (yielded all.toArray a.tmps)=ab)(ho:o.op=.call {callee:=.value fo,args:=xs,argTypes:=jN}){f:aM}(m:eD (bO φ fo)=aa (f,cap))(ks:List Nat){σ1:List bm}{res:D}(i:Ev X f cy σs res σ1)(b:oO (xs.toList.map (bO φ)++fX cap)=g6 ks cy)(h:mG ks.length cy=ab)(c:kh ks σ=aa σs)(q:cV σs=ab)(g:cV σ1=ab)(n:dX ks=ab)(e:ks.length<=σ1.length)(d:Option Nat)(p:o.dst=d)(j:∀t,d=aa t->t<N)(k:jl X N all rest Q (kO d (iL (ks++l0 σ.length (σ1.length-ks.length)) res) φ) (ee ks σ1 σ)):jl X N all (o::rest) Q φ σ :=
 jl.Ox l ho m ks i.Dx b h c q (λ_=>g) n (λ_=>e) d p j (λ_=>k)
def Names.range(all:List aD):Names all (bg all.toArray.size) all:=by
 have key:∀(l:List aD) (n:Nat),(∀j o,l[j]?=aa o->all[n+j]?=aa o)->Names all (List.range' n l.length) l:=by
  intro l;induction l with
  |nil=>intro n _;trivial
  |cons o r b =>
   intro n h;rw[en,List.range'_succ];refine⟨by simpa using h 0 o rfl,b (n+1) λj a hj=>?_⟩;have:=h (j+1) a (by grind);grind
 grind[List.range_eq_range']
theorem AW.region{X:Cx P}{Q:Post}{id:Nat}(h:jl X N ops.toList ops.toList (λφ σ=>Q .normal φ σ) φ σ):AW X N (.region id ops ae) Q φ σ:=by intro s a f hh b k cs S hb hQ;refine .ctl hh rfl (λ_=>pK) λd h1=>?_;have:=h d a (f.rely h1 hh) (hh.rely h1) b k cs S (bg ops.size) hb (by simpa using Names.range ops.toList) λφ' σ' s' a' q e c st=>hQ .normal φ' σ' s' a' q e c (h1.stepW.trans st);simpa using this
def jl.nil{P:aK}{X:Cx P}{N:Nat}{all:List aD}{Q:Fr->List bm->Prop}{φ:Fr}{σ:List bm}(h:Q φ σ):jl X N all [] Q φ σ:=by
 intro s a f hh b k cs S idx _ c e;cases idx with
 |cons i idx=>exact c.elim
 |nil=>exact .ctl hh rfl (λ_=>iK) λd h1=>e φ σ d a h (f.rely h1 hh) (hh.rely h1) h1.stepW
def jl.mono{X:Cx P}{Q c:Fr->List bm->Prop}(h:jl X N all rest Q φ σ)(e:∀φ σ,Q φ σ->c φ σ):jl X N all rest c φ σ :=
 λs a f hh b k cs S idx hb hi hQ=>h s a f hh b k cs S idx hb hi λφ' σ' s' a' q g d st=>hQ φ' σ' s' a' (e _ _ q) g d st
def je:Nat->List D->Fr
 |_,[]=>[]
 |i,d::r=>(i,d)::je (i+1) r
def nP:∀(ds:List D)(i t:Nat),look (je i ds) t=if i<=t then(ds[t-i]?).getD .any else .any
 |[],i,t=>by simp[je,look]
 |d::r,i,t=>by
  simp only[je,look];by_cases e:i=t
  .grind [Nat.beq_refl]
  .have:az i t=ae:=by grind[Nat.eq_of_beq_eq_true]
   rw[this];simp only[cond,nP r (i+1) t];grind
theorem cn.get{σ:List bm}{s:St}:∀{vs:List aj}{ds:List D},cn σ s vs ds->vs.length=ds.length/\∀(j:Nat),dk σ s ((vs[j]?).getD ai) ((ds[j]?).getD .any)
 |[],[],_=>⟨rfl,λj=>by simp[dk]⟩
 |[],_::_,h=>h.elim
 |_::_,[],h=>h.elim
 |v::vs,d::ds,h=>by
  obtain⟨h1,h2⟩:=cn.get h.2;refine⟨by grind,λj=>?_⟩;cases j with
  |zero=>simpa using h.1
  |succ j=>grind
def xG(φ:Fr):List ResultVar->Option (List D)
 |[]=>aa []
 |.tmp t::r=>match xG φ r with
  |some q=>aa (look φ t::q)
  |none=>af
 |.cell _ _::_=>af
def tH:List D->Option (List E1)
 |[]=>aa []
 |.e x::r=>match tH r with
  |some q=>aa (x::q)
  |none=>af
 |_::_=>af
def rK:List D->Option D
 |[d]=>aa d
 |ds=>match tH ds with
  |some es=>aa (.fK es)
  |none=>af
def gk(a:Act):ResultVar->Sem aj
 |ResultVar.tmp t=>pure (a.tmps.getD t ai)
 |ResultVar.cell ad t=>do loadVar t (<-asAddr (a.tmps.getD ad ai))
def Fu(P:aK){N:Nat}{σ:List bm}{s:St}{φ:Fr}{a:Act}(f:cx N σ s φ a):∀{rs:List ResultVar}{ds:List D},xG φ rs=aa ds ->
  ∃vs,(∀w,(rs.mapM (gk a)).run P w=Result.ok vs w)/\cn σ s vs ds/\c9 P (rs.mapM (gk a))
 |[],ds,h=>by cases h;exact⟨[],by simp,aq,by rw[List.mapM_nil];exact .pure⟩
 |.tmp t::r,ds,h=>by
  simp only[xG]at h;cases b:xG φ r with
  |none=>grind
  |some q =>
   simp[b]at h;subst h;obtain⟨vs,d,c,e⟩:=Fu P f b;refine⟨a.tmps.getD t ai::vs,?_,⟨f.slot t,c⟩,?_⟩
   .intro w;simp only[nB,bU,gk,cY,cw,d]
   .rw[nB];exact .bind .pure λ_=>.bind e λ_=>.pure
 |.cell ad t::r,ds,h=>by simp[xG]at h
def Be{σ:List bm}{s:St}:∀{vs:List aj}{ds:List D}{es:List E1},tH ds=aa es->cn σ s vs ds->gN σ s vs es
 |[],[],es,h,_=>by cases h;trivial
 |[],_::_,_,_,h=>h.elim
 |_::_,[],_,_,h=>h.elim
 |v::vs,.e x::r,es,h,a=>by
  simp only[tH]at h;cases b:tH r with
  |none=>grind
  |some q=>simp[b]at h;subst h;exact⟨a.1,Be b a.2⟩
 |_::_,.fK _::_,es,h,_=>by simp[tH]at h
 |_::_,.any::_,es,h,_=>by simp[tH]at h
def Bf{ds:List D}{d:D}(h:rK ds=aa d)(a:cn σ s vs ds):dk σ s (if h:vs.length=1 then vs[0]else .tuple vs.toArray) d:=by
 unfold rK at h;split at h
 .rename_i g;cases h
  match vs,a with
  |[v],a=>simpa using a.1
 .rename_i c;cases b:tH ds with
  |none=>grind
  |some es =>
   simp[b]at h;subst h;have f:vs.length≠1:=by
    intro e;rw[(cn.get a).1]at e
    match ds,e with
    |[x],_=>grind
   rw[dif_neg f];exact⟨vs,rfl,Be b a⟩
def Bg(P:aK)(fn:Func)(φ:Fr)(d:D):Prop:=∀{N:Nat}{σ:List bm}{s:St}{a:Act},cx N σ s φ a->∃v,dk σ s v d/\∀w,(∀b o u,s.M b o=aa u->w.cell? ⟨b,o,af⟩=aa u)->(results fn a.tmps).run P w=.ok v w/\∀e∈(results fn a.tmps).events P w #[],∃b o u,e=⟨.cell ⟨b,o,af⟩,ae,ae⟩/\s.M b o=aa u
def tI{a:Act}(f:cx N σ s φ a){fn:Func}{ds:List D}{d:D}(h:xG φ fn.results.toList=aa ds)(b:rK ds=aa d):
  ∃v,(∀w,(results fn a.tmps).run P w=.ok v w)/\dk σ s v d/\c9 P (results fn a.tmps):=by
 obtain⟨vs,i,c,g⟩:=Fu P f h;refine⟨_,λw=>?_,Bf b c,?_⟩
 .have e:(fn.results.mapM (gk a)).run P w=Result.ok vs.toArray w:=by grind[Array.mapM_eq_mapM_toList,Sem.run_map,Go.Result.andThen_ok]
  unfold results;rw[bU];refine(dA (λr=>Result.andThen r _) (Eq.trans ?_ e)).trans ?_
  .congr 2
  .simp
 .unfold results;have e:c9 P (fn.results.mapM (gk a)):=by rw[qB];exact .map g
  exact .bind e λ_=>.pure
def Bg.of{fn:Func}{ds:List D}{d:D}(h:xG φ fn.results.toList=aa ds)(hj:rK ds=aa d):Bg P fn φ d:=by intro N σ s a f;obtain⟨v,h1,h2,c⟩:=tI (P:=P) f h hj;exact⟨v,h2,λw _=>⟨h1 w,λe b=>by rw[c w #[]]at b;grind⟩⟩
section
def aF.kg(h:aF σ s):aF (σ.map λ_=>.dead) s:=by
 refine⟨h.mem,by simp[h.len],λl B L a c=>?_,h.fY,h.lt,h.own⟩;simp only[nD]at a;cases b:σ[l]? with
 |none=>grind
 |some x=>rw[b]at a;cases a;trivial
structure Oz(ls:List Nat)(s s':St):Prop where
 β:s'.β=s.β
 M:s'.M=s.M
 own:s'.own=s.own
 size:s.w.heap.size<=s'.w.heap.size
 keep:∀b,(s.own b∨∃(l:Nat) (L:Loc),s.β[l]?=aa L/\l∉ls/\b∈L.bs)->s'.w.heap[b]?=s.w.heap[b]?
 mem:∀b o v,s.M b o=aa v->s'.w.cell? ⟨b,o,af⟩=aa v
 os:s'.w.os=s.w.os
 tape:s'.w.tape=s.w.tape
 output:s'.w.output=s.w.output
def bZ.Zo(h:bZ s s')(ls:List Nat):Oz ls s s' :=
 ⟨h.β,h.M,h.own,h.size,λb hb=>h.keep b (hb.imp id λ⟨l,L,h1,_,a⟩=>⟨L,bL h1,a⟩),h.mem,h.os,h.tape,h.output⟩
theorem Oz.cat{ls:List Nat}{a s2:St}(h:Oz [l] s a)(k:Oz ls a s2):Oz (l::ls) s s2:=by refine⟨k.β.trans h.β,k.M.trans h.M,k.own.trans h.own,fG h.size k.size,λb hb=>?_,λb o v c=>k.mem b o v (by rw[h.M];exact c),k.os.trans h.os,k.tape.trans h.tape,k.output.trans h.output⟩;rw[k.keep b,h.keep b (hb.imp id λ⟨l',L,h1,h2,d⟩=>⟨l',L,h1,λe=>h2 (by grind),d⟩)];rw[h.own,h.β];grind
def IE{r:Nat}(a:w.heap[r]?=aa (.deferred (aa []))):
  (Instr.takeDeferred r).run P w=.ok [] {w with heap:=w.heap.setIfInBounds r (.deferred af)}/\(Instr.takeDeferred r).events P w #[]=#[⟨.obj r,ae,ae⟩,⟨.obj r,ab,ae⟩]:=by
 have b:(getObj r).run P w=.ok (.deferred (aa [])) w:=by simp only[getObj,Sem.run,a]
 have d:(setObj r (.deferred af)).run P w=.ok () {w with heap:=w.heap.setIfInBounds r (.deferred af)}:=by simp only[setObj,Sem.run,a]
 have c:∀es,(getObj r).events P w es=es.push ⟨.obj r,ae,ae⟩:=λes=>by simp only[getObj,Sem.events,Sem.runT,a];rfl
 have e:∀es,(setObj r (.deferred af)).events P w es=es.push ⟨.obj r,ab,ae⟩:=λes=>by simp only[setObj,Sem.events,Sem.runT,a];rfl
 constructor
 .simp[Instr.takeDeferred,b,d]
 .simp[Instr.takeDeferred,b,c,e]
variable {X:Cx P}{main:Bool}
def Mp{a:aU}{r:Nat}{ds:List Deferred}(d:a.mode=.returning)(c:a.defers={target:=.collected r,args:=#[]}::ds)(e:w.heap[r]?=aa (.deferred (aa []))):
  aH P main (G a cs) w=.go (G {a with defers:=ds} cs) {w with heap:=w.heap.setIfInBounds r (.deferred af)} (seen P a.fn #[⟨.obj r,ae,ae⟩,⟨.obj r,ab,ae⟩]):=by obtain⟨f,b⟩:=IE (P:=P) e;simp[G,aH,unwind,d,c,f,b,GStep.after]
def vE(s:St):List Deferred->List Nat->Prop
 |[],[]=>True
 |d::ds,l::ls=>(∃r:Nat,s.β[l]?=aa ⟨.int .i64 r,[r]⟩/\s.w.heap[r]?=aa (.deferred (aa []))/\(∀o,s.M r o=af)/\d={target:=.collected r,args:=#[]})/\l∉ls/\vE s ds ls
 |_,_=>False
def ov.taken{σ:List bm}{s:St}(hh:aF σ s):∀{ds:List Deferred}{ls:List Nat},ov σ s ds ls->vE s ds ls
 |[],[],_=>trivial
 |[],_::_,r=>r.elim
 |_::_,[],r=>r.elim
 |d::ds,l::ls,⟨⟨h1,L,r,h2,b,h⟩,a,f⟩=>by
  obtain⟨r',k1,c,g⟩:=hh.box l _ L h1 h2;subst k1;simp at b;have e:r'=r:=by omega
  subst e;exact⟨⟨r',h2,c,g,h⟩,a,ov.taken hh f⟩
def vE.mono{s s':St}{b:Nat}(h:Oz [b] s s'):∀{ds:List Deferred}{ls:List Nat},b∉ls->vE s ds ls->vE s' ds ls
 |[],[],_,_=>trivial
 |[],_::_,_,r=>r.elim
 |_::_,[],_,r=>r.elim
 |d::ds,l::ls,a,⟨⟨r,h1,h2,g,f⟩,c,e⟩=>by simp only[eY,not_or]at a;refine⟨⟨r,by rw[h.β];exact h1,by rw[h.keep r (.inr ⟨l,_,h1,by grind,by simp⟩)];exact h2,λo=>by rw[h.M];grind,f⟩,c,vE.mono h a.2 e⟩
def qN:∀(ls:List Nat)(g:aU)(s:St)(σ:List bm),aF σ s->(∀B∈σ,B=.dead)->g.mode=.returning->vE s g.defers ls ->
  (∀s',Oz ls s s'->fA X S (G {g with defers:=[]} cs) s')->fA X S (G g cs) s
 |[],g,s,σ,x,n,A,m,k=>by
  have p:g.defers=[]:=by
   cases p:g.defers with
   |nil=>rfl
   |cons d ds=>rw[p]at m;exact m.elim
  have:=k s ((bZ.refl x).Zo _);have e:{g with defers:=[]}=g:=by cases g;simp_all
  grind
 |l::ls,g,s,σ,x,n,A,m,k=>by
  cases p:g.defers with
  |nil=>rw[p]at m;exact m.elim
  |cons d ds =>
   rw[p]at m;obtain⟨⟨r,y,K,U,R⟩,T,Q⟩:=m;subst R;refine .next rfl λi D=>?_;have c:=X.hZ D;have a:=x.rely c;have F:i.β[l]?=aa ⟨.int .i64 r,[r]⟩:=by rw[c.β];exact y
   have H:i.w.heap[r]?=aa (.deferred (aa [])):=by rw[c.keep r (.inr ⟨_,bL y,by simp⟩)];exact K
   have N:∀o,i.M r o=af:=λo=>by rw[c.M];grind
   let s2:St:={i with w:={i.w with heap:=i.w.heap.setIfInBounds r (.deferred af)}}
   have I:∀b,b≠r->s2.w.heap[b]?=i.w.heap[b]?:=λb f=>by grind
   have j:∀b o v,i.M b o=aa v->s2.w.cell? ⟨b,o,af⟩=aa v:=by
    intro b o v C;have q:b≠r:=by grind
    rw[<-a.mem b o v C];simp only[aR];grind
   have t:aF σ s2:=by
    refine⟨j,a.len,λl' B L J z=>?_,a.fY,λL z b f=>?_,λb f=>⟨?_,(a.own b f).2⟩⟩
    .rw[n B (bL J)];trivial
    .have:=a.lt L z b f;grind
    .have:=(a.own b f).1;grind
   have u:∃L∈i.β,r∈L.bs:=⟨_,bL F,by simp⟩
   have st:Step σ i σ s2:=by refine⟨by grind,λb _ f=>I b ?_,λ_ _ _ h=>h,λ_ _ _ _=>rfl,λL z b f=>.inr ⟨L,z,f⟩,λ_ B L h O=>⟨B,L,h,O,.refl _ _⟩,rfl,rfl,rfl,rfl⟩;grind
   have un:Oz [l] s s2:=by
    refine⟨c.β,c.M,c.own,fG c.size (by grind),λb f=>?_,λb o v C=>j b o v (by rw[c.M];exact C),c.os,c.tape,c.output⟩;have q:b≠r:=by
     rintro rfl;rcases f with f|⟨l',L',E,p2,p3⟩
     .exact(x.own b f).2 _ (bL y) (by simp)
     .exact p2 (by simp;exact x.fY l' l L' _ E y b p3 (by simp))
    rw[I b q];exact c.keep b (f.imp id λ⟨l',L',E,_,p3⟩=>⟨L',bL E,p3⟩)
   refine⟨_,s2,_,Mp A p H,⟨⟨σ,σ,a,t,st⟩,eN.seen (.two ?_ ?_)⟩,?_⟩
   .exact⟨rfl,.inr u⟩
   .exact⟨rfl,.inr u⟩
   refine qN ls {g with defers:=ds} s2 σ t n A (Q.mono un T) λs' hu=>?_;exact k s' (un.cat hu)
end
def cq(n:Nat)(f g:Nat->List C):Prop:=∀i,i<n->f i=g i
def Flat.Dl{es':Nat->List C}(h:Flat M k n es vs)(a:cq n es es'):Flat M k n es' vs :=
 ⟨h.len,λi hi=>by rw[<-a i hi];exact h.width i hi,λi hi j c hj=>h.rd i hi j c (by rw[a i hi];exact hj)⟩
def Wh:C->C->Option (List Prop)
 |.int k n,.int k' n'=>match GZ k k' with|true=>aa [n=n']|false=>af
 |.bool b,.bool b'=>aa [b=b']
 |.str s,.str s'=>aa [s=s']
 |.sl t k n es,.sl t' k' n' es'=>match az k k' with
  |true=>match t,t' with
   |false,ab=>af
   |_,_=>aa [n=n',cq n es es']
  |false=>match t,t' with
   |true,_=>aa [n=0,n'=0]
   |_,_=>af
 |.val x,.val y=>aa [x=y]
 |x,y=>aa [x=y]
def Ji{x y:C}(h:Wh x y=aa ps)(c:ar ps)(r:Rd M v x):Rd M v y:=by
 unfold Wh at h;split at h
 .rename_i k n k' n';cases d:GZ k k'<;>simp[d]at h
  subst h;cases zR d;cases(show n=n' from c);exact r
 .cases h;rename_i b f;cases(show b=f from c);exact r
 .cases h;rename_i b f;cases(show b=f from c);exact r
 .rename_i t k n es t' k' n' es';cases d:az k k' with
  |true =>
   simp only[d]at h;have e:=b5 d;subst e;cases t<;>cases t'<;>simp at h
   all_goals (subst h;obtain⟨rfl,g⟩:=(show n=n'/\cq n es es' from c);first|exact r.Dl g|exact r.loose.Dl g)
  |false =>
   simp only[d]at h;cases t<;>simp at h
   subst h;obtain⟨rfl,rfl⟩:=(show n=0/\n'=0 from c)
   obtain⟨a,cap,vs,rfl,_,_,i,_⟩:=r.flat;grind[Rd.ic]
 .cases h;rename_i x y;cases(show x=y from c);exact r
 .cases h;cases c;exact r
def S8:A->A->Option (List Prop)
 |.c x,.c y=>Wh x y
 |.vec _ k n es,.c (.sl ae k' n' es')=>match az k k' with|true=>aa [n=n',cq n es es']|false=>af
 |.vec l k n es,.vec l' k' n' es'=>match az l l' with
  |true=>match az k k' with|true=>aa [n=n',cq n es es']|false=>af
  |false=>af
 |.ptr l o,.ptr l' o'=>match az l l' with|true=>(match az o o' with|true=>aa []|false=>af)|false=>af
 |.ref l,.ref l'=>match az l l' with|true=>aa []|false=>af
 |.bp l w,.bp l' w'=>match az l l' with|true=>aa [w=w']|false=>af
 |_,.any=>aa []
 |_,_=>af
def Jj{x y:A}(h:S8 x y=aa ps)(c:ar ps)(r:gD σ s v x):gD σ s v y:=by
 unfold S8 at h;split at h
 .exact Ji h c r
 .rename_i k n es k' n' es';cases a:az k k'<;>simp[a]at h
  subst h;have e:=b5 a;subst e;obtain⟨rfl,f⟩:=(show n=n'/\cq n es es' from c)
  exact r.1.Dl f
 .rename_i l k n es l' k' n' es';cases b:az l l'<;>simp[b]at h
  cases a:az k k'<;>simp[a]at h
  subst h;have e:=b5 a;have d:=b5 b;subst e d;obtain⟨rfl,f⟩:=(show n=n'/\cq n es es' from c)
  exact⟨r.1.Dl f,r.2.1,r.2.2⟩
 .grind [Nat.eq_of_beq_eq_true]
 .grind [Nat.eq_of_beq_eq_true]
 .rename_i l w l' w';cases b:az l l'<;>simp[b]at h
  have d:=b5 b;subst d;subst h;cases(show w=w' from c);exact r
 .exact gD.cell r
 grind
def jY:List Prop->List Prop->List Prop
 |[],q=>q
 |p::r,q=>p::jY r q
@[simp] theorem ar.cat{p q:List Prop}:ar (jY p q)↔ar p/\ar q:=by
 induction p with
 |nil=>simp[jY]
 |cons x r a=>simp only[jY,ar.cons,a,and_assoc]
def OP:List A->List A->Option (List Prop)
 |[],[]=>aa []
 |a::al,b::bs=>match S8 a b with
  |some p=>match OP al bs with
   |some q=>aa (jY p q)
   |none=>af
  |none=>af
 |_,_=>af
def DU{σ:List bm}{s:St}:∀{vs:List aj}{xs ys:List A}{ps:List Prop},OP xs ys=aa ps->ar ps->dT σ s vs xs->dT σ s vs ys
 |[],[],[],_,_,_,_=>trivial
 |_::_,[],_,_,_,_,h=>h.elim
 |[],_::_,_,_,_,_,h=>h.elim
 |[],[],_::_,_,h,_,_=>by simp[OP]at h
 |_::_,_::_,[],_,h,_,_=>by simp[OP]at h
 |v::vs,a::al,b::bs,ps,h,c,e=>by
  simp only[OP]at h;cases f:S8 a b with
  |none=>grind
  |some p =>
   cases d:OP al bs with
   |none=>grind
   |some q =>
    simp[f,d]at h;subst h;rw[ar.cat]at c;exact⟨Jj f c.1 e.1,DU d c.2 e.2⟩
def S9:E1->E1->Option (List Prop)
 |.one a,.one b=>S8 a b
 |.agg al,.agg bs=>OP al bs
 |_,_=>af
def Jk{x y:E1}(h:S9 x y=aa ps)(a:ar ps)(r:nq σ s v x):nq σ s v y:=by
 cases x<;>cases y<;>simp only[S9,reduceCtorEq]at h
 .exact Jj h a r
 .obtain⟨vs,c,b⟩:=r;exact⟨vs,c,DU h a b⟩
def DV:List E1->List E1->Option (List Prop)
 |[],[]=>aa []
 |a::al,b::bs=>match S9 a b with
  |some p=>match DV al bs with
   |some q=>aa (jY p q)
   |none=>af
  |none=>af
 |_,_=>af
def FO{σ:List bm}{s:St}:∀{vs:List aj}{xs ys:List E1}{ps:List Prop},DV xs ys=aa ps->ar ps->gN σ s vs xs->gN σ s vs ys
 |[],[],[],_,_,_,_=>trivial
 |_::_,[],_,_,_,_,h=>h.elim
 |[],_::_,_,_,_,_,h=>h.elim
 |[],[],_::_,_,h,_,_=>by simp[DV]at h
 |_::_,_::_,[],_,h,_,_=>by simp[DV]at h
 |v::vs,a::al,b::bs,ps,h,c,e=>by
  simp only[DV]at h;cases f:S9 a b with
  |none=>grind
  |some p =>
   cases d:DV al bs with
   |none=>grind
   |some q =>
    simp[f,d]at h;subst h;rw[ar.cat]at c;exact⟨Jk f c.1 e.1,FO d c.2 e.2⟩
def Dg:D->D->Option (List Prop)
 |.e x,.e y=>S9 x y
 |.fK xs,.fK ys=>DV xs ys
 |_,.any=>aa []
 |_,_=>af
theorem qI{x y:D}(h:Dg x y=aa ps)(a:ar ps)(r:dk σ s v x):dk σ s v y:=by
 cases x<;>cases y<;>simp only[Dg,reduceCtorEq]at h
 .exact Jk h a r
 .trivial
 .obtain⟨vs,c,b⟩:=r;exact⟨vs,c,FO h a b⟩
 .trivial
 .trivial
def qm(φ:Fr):Fr->Option (List Prop)
 |[]=>aa []
 |(i,d)::r=>match Dg (look φ i) d with
  |some p=>match qm φ r with
   |some q=>aa (jY p q)
   |none=>af
  |none=>af
def dw{φ:Fr}:∀{φ':Fr}{ps:List Prop},qm φ φ'=aa ps->ar ps->rY φ φ'
 |[],_,_,_=>λ_ _ _ _ _=>trivial
 |(i,d)::r,ps,h,b=>by
  simp only[qm]at h;cases e:Dg (look φ i) d with
  |none=>grind
  |some p =>
   cases a:qm φ r with
   |none=>grind
   |some q =>
    simp[e,a]at h;subst h;rw[ar.cat]at b;intro σ s v t c;simp only[look];cases f:az i t with
    |true =>
     grind[Nat.eq_of_beq_eq_true,qI]
    |false=>exact dw a b.2 σ s v t c
def kP(σ:List bm):Bool:=match cV σ with|true=>mU σ|false=>ae
def yh(h:kP σ=ab):cV σ=ab/\mU σ=ab:=by unfold kP at h;grind
def ov.BA{σ:List bm}{s:St}:∀{ds:List Deferred}{ls:List Nat},ov σ s ds ls->∀l∈ls,σ[l]?=aa .rG
 |[],[],_,l,hl=>by grind
 |[],_::_,r,_,_=>r.elim
 |_::_,[],r,_,_=>r.elim
 |d::ds,b::ls,⟨⟨h1,_⟩,_,a⟩,l,hl=>by
  rcases eY.1 hl with rfl|hl
  .exact h1
  .exact ov.BA a l hl
def cg(fn:Func)(a:Nat)(res:D)(σ':List bm):Post:=λe φ σ1 =>
 (e=.ret∨e=.normal)/\∃ks ds d ps,xG φ fn.results.toList=aa ds/\rK ds=aa d/\Dg d (iL ks res)=aa ps/\ar ps/\vt ks.length res=ab /\
  kh ks σ1=aa σ'/\kP σ'=ab/\dX ks=ab/\(∀j,j<a->ks[j]?=aa j)
def Bh(P:aK)(fn:Func)(a:Nat)(res:D)(σ':List bm):Post:=λe φ σ1 =>
 (e=.ret∨e=.normal)/\∃ks d ps,Bg P fn φ d/\Dg d (iL ks res)=aa ps/\ar ps/\vt ks.length res=ab /\
  kh ks σ1=aa σ'/\kP σ'=ab/\dX ks=ab/\(∀j,j<a->ks[j]?=aa j)
def cg.toJ{fn:Func}{a:Nat}{res:D}{e:Exit}{σ1:List bm}(h:cg fn a res σ' e φ σ1):Bh P fn a res σ' e φ σ1:=by obtain⟨b,ks,ds,d,ps,h1,h2,c⟩:=h;exact⟨b,ks,d,ps,Bg.of h1 h2,c⟩
def dW.Jl{X:Cx P}{f:aM}{fn:Func}{args:List D}{σ':ι->List bm}(hf:P.funcs[f]?=aa fn)(C:(fn.name== "runtime.NumGoroutine")=ae)(hb:fn.body=aa c)(Y:args.length<=fn.ntmps)(h:∀s a,cx fn.ntmps σ s (je 0 args) a->aF σ s->∀(b:aU) (k:List Item) (cs:List aU) (S:ak->St->Prop),b.kind≠.early->b.roundOf=af ->
  (∀e φ' σ1 s' a',(∃j,Bh P fn σ.length (res j) (σ' j) e φ' σ1)->cx fn.ntmps σ1 s' φ' a'->aF σ1 s'->cO σ s σ1 s'->ends X S b k cs e a' s')->fA X S (G (b.aT a (.code c::k)) cs) s):dW X f args σ res σ':=by
 refine⟨⟨fn,hf,C,by grind⟩,λs vs hr hh S cs hS=>?_⟩;obtain⟨hl,hg⟩:=cn.get hr;let b:aU:={fn:=f,tmps:=#[],todo:=[],defers:=[],mode:=.run,kind:=.normal,roundOf:=af}
 have r:Frame.enter P f vs.toArray .normal=b.aT {tmps:=vs.toArray++Array.replicate (fn.ntmps-vs.toArray.size) ai,defers:=[]} [.code c]:=by simp[Frame.enter,Frame.aT,hf,hb,b]
 rw[r];refine h s {tmps:=vs.toArray++Array.replicate (fn.ntmps-vs.toArray.size) ai,defers:=[]} ⟨by grind,⟨[],aq⟩,λt=>?_⟩ hh b [] cs S (by simp[b]) rfl ?_
 .rw[nP];simp only[j9,bY,l8];have:=hg t;rcases cM t vs.length with uS|RZ
  .have e:(vs.toArray++Array.replicate (fn.ntmps-vs.toArray.size) ai).getD t ai=(vs[t]?).getD ai:=by simp only[dK];grind
   grind
  .rw[qC (by omega)];trivial
 .rintro e φ' σ1 s1 a1 ⟨R,U,ks,d,ps,h1,h3,h4,h5,Q,V,h8,h9⟩ f' O st;obtain⟨h7,W⟩:=yh V;have fin:∀(fr:aU) s2,bZ s1 s2->fr.fn=f->fr.tmps=a1.tmps->fr.defers=a1.defers->fr.mode=.returning->fr.kind=.normal->fA X S (G fr cs) s2:=by
   intro fr s2 ri e1 e2 e3 e4 e5;have Z:=f'.rely ri O;have m:=O.rely ri;have g:=st.trans ri.stepW;obtain⟨v,r2,r1⟩:=h1 Z;obtain⟨i,z⟩:=zo (l':=s2.β) Q m.len;have r4:=(qI h3 h4 r2).sub Q z h5;obtain⟨c1,c2⟩:=iw Q;obtain⟨d1,d2⟩:=iw z;have K:∀L∈i,L∈s2.β:=zt z;have H:aF (σ' R) {s2 with β:=i}:=by obtain⟨J,_⟩:=m.sub Q z h7 h8;refine⟨J.mem,J.len,λj B L A q=>?_,J.fY,J.lt,λb hb=>⟨(m.own b hb).1,λL q=>(m.own b hb).2 L (K L q)⟩⟩;exact eQ.plain (σ:=σ' R) (s:={s2 with β:=i,own:=zr s2 i}) (s':={s2 with β:=i}) rfl rfl (kA h7 B (bL A)) (J.box j B L A q)
   have T:cO σ s (σ' R) {s2 with β:=i}:=by refine⟨g.size,g.keep,g.mem,g.iI,λL q b hb=>g.uP _ (K L q) b hb,λl B L A q=>?_,g.os,g.tape,g.output,g.own⟩;have hl:l<σ.length:=(cf.1 A).1;obtain⟨B',L',p1,p2,p3⟩:=g.box l B L A q;grind
   obtain⟨ls,E⟩:=Z.defers;refine qN ls fr s2 _ m.kg (by simp) e4 (by rw[e3];exact E.taken m) λN n=>?_;have p:bZ {s2 with β:=i} {N with β:=i}:=by
    refine⟨rfl,n.M,n.own,n.size,λb hb=>n.keep b (hb.imp id ?_),n.mem,n.os,n.tape,n.output⟩;rintro⟨L,q,hb⟩;obtain⟨j,hj,rfl⟩:=dL q;have F:j<ks.length:=by grind
    obtain⟨y,y1,y2⟩:=d2 j _ (bn F);obtain⟨x,x1,x2⟩:=c2 j _ (bn F);rw[bn hj]at y1;cases y1;refine⟨_,_,y2,λhc=>?_,hb⟩;rw[E.BA _ hc]at x2;cases x2;exact mV W _ (bL x1) rfl
   have hG:eR N {N with β:=i}:=⟨rfl,λ_ _ _ h=>h,λ_ _ _=>rfl,λb o v hv=>n.mem b o v (by rw[<-n.M];exact hv),λb hb=>hb.imp id λ⟨L,q,hb⟩=>⟨L,by rw[n.β];grind,hb⟩⟩
   refine .ghost hG (hS R _ v _ ⟨e1,e4,rfl,e5,fn,by grind,λw hw=>?_⟩ (r4.mono p.stepW.ext H.len) (H.rely p) (T.trans p.stepW));show(results fn fr.tmps).run P w=_/\∀e∈(results fn fr.tmps).events P w #[],_;rw[e2];have I:∀b o u,s2.M b o=aa u->w.cell? ⟨b,o,af⟩=aa u:=λb o u h=>hw b o u (by show N.M b o=aa u;rw[n.M];exact h);refine⟨(r1 w I).1,λe U=>?_⟩;obtain⟨b,o,u,q1,q2⟩:=(r1 w I).2 e U;exact⟨b,o,u,q1,by show N.M b o=aa u;rw[n.M];exact q2⟩
  rcases U with rfl|rfl
  .intro pre;exact .ctl O rfl (λ_=>Dq rfl) λs2 ri=>fin _ s2 ri rfl rfl (lr _) rfl rfl
  .exact .ctl O rfl (λ_=>Dr rfl) λs2 ri=>fin _ s2 ri rfl rfl (lr _) rfl rfl
def dW.OO{X:Cx P}{f:aM}{fn:Func}{args:List D}{σ':ι->List bm}(i:P.funcs[f]?=aa fn)(d:(fn.name== "runtime.NumGoroutine")=ae)(hb:fn.body=aa c)(g:args.length<=fn.ntmps)(h:∀s a,cx fn.ntmps σ s (je 0 args) a->aF σ s->∀(b:aU) (k:List Item) (cs:List aU) (S:ak->St->Prop),b.kind≠.early->b.roundOf=af ->
  (∀e φ' σ1 s' a',(∃j,cg fn σ.length (res j) (σ' j) e φ' σ1)->cx fn.ntmps σ1 s' φ' a'->aF σ1 s'->cO σ s σ1 s'->ends X S b k cs e a' s')->fA X S (G (b.aT a (.code c::k)) cs) s):dW X f args σ res σ' :=
 dW.Jl i d hb g λs a f hh b k cs S h1 h2 hQ=>h s a f hh b k cs S h1 h2 λe φ' σ1 s' a' ⟨j,q⟩=>hQ e φ' σ1 s' a' ⟨j,q.toJ⟩
def dW.Dy{X:Cx P}{f:aM}{fn:Func}{args:List D}{σ':ι->List bm}(l:P.funcs[f]?=aa fn)(g:(fn.name== "runtime.NumGoroutine")=ae)(hb:fn.body=aa c)(d:args.length<=fn.ntmps)(h:AW X fn.ntmps c (λe φ σ1=>∃j,Bh P fn σ.length (res j) (σ' j) e φ σ1) (je 0 args) σ):dW X f args σ res σ' :=
 dW.Jl l g hb d λs a f hh b k cs S i _ m=>h s a f hh b k cs S i m
def dW.intro{X:Cx P}{f:aM}{fn:Func}{args:List D}{σ':ι->List bm}(l:P.funcs[f]?=aa fn)(g:(fn.name== "runtime.NumGoroutine")=ae)(hb:fn.body=aa c)(d:args.length<=fn.ntmps)(h:AW X fn.ntmps c (λe φ σ1=>∃j,cg fn σ.length (res j) (σ' j) e φ σ1) (je 0 args) σ):dW X f args σ res σ' :=
 dW.OO l g hb d λs a f hh b k cs S i _ m=>h s a f hh b k cs S i m
def Ev.intro{P:aK}{X:Cx P}{f:aM}{fn:Func}{c:Code}{args:List D}{σ σ':List bm}{res:D}(d:P.funcs[f]?=aa fn)(a:(fn.name== "runtime.NumGoroutine")=ae)(hb:fn.body=aa c)(b:args.length<=fn.ntmps)(h:AW X fn.ntmps c (cg fn σ.length res σ') (je 0 args) σ):Ev X f args σ res σ' :=
 (dW.intro d a hb b (AW.mono h λ_ _ _ q=>⟨(),q⟩)).GI
inductive It where
 |code (c:Code)
 |blk (id:Nat)
 |ops (all rest:List aD)
def AK{P:aK}(X:Cx P)(N:Nat)(Qf:Post):List It->Post
 |[],e,φ,σ=>Qf e φ σ
 |.code c::K,.normal,φ,σ=>AW X N c (AK X N Qf K) φ σ
 |.code _::K,e,φ,σ=>AK X N Qf K e φ σ
 |.blk id::K,.exit Ig,φ,σ=>if Ig=id then AK X N Qf K .normal φ σ else AK X N Qf K (.exit Ig) φ σ
 |.blk _::K,e,φ,σ=>AK X N Qf K e φ σ
 |.ops all rest::K,.normal,φ,σ=>jl X N all rest (AK X N Qf K .normal) φ σ
 |.ops _ _::K,e,φ,σ=>AK X N Qf K e φ σ
section
variable {X:Cx P}{Qf:Post}{K:List It}
def AK.of_code(h:AK X N Qf [.code c] .normal φ σ):AW X N c Qf φ σ:=h
theorem AK.skip(h:AK X N Qf K .normal φ σ):AK X N Qf (.code .skip::K) .normal φ σ:=AW.skip h
theorem AK.seq{x y:Code}(h:AK X N Qf (.code x::.code y::K) .normal φ σ):AK X N Qf (.code (.seq x y)::K) .normal φ σ:=by refine AW.seq (AW.mono h ?_);intro e φ' σ' q;cases e<;>exact q
theorem AK.block{id:Nat}{c:Code}(h:AK X N Qf (.code c::.blk id::K) .normal φ σ):AK X N Qf (.code (.block id c)::K) .normal φ σ:=by refine AW.block (AW.mono h ?_);intro e φ' σ' q;cases e<;>exact q
theorem AK.Qo{id:Nat}(h:AK X N Qf K .normal φ σ):AK X N Qf (.blk id::K) .normal φ σ:=h
theorem AK.region{id:Nat}{ops:Array aD}(h:AK X N Qf (.ops ops.toList ops.toList::K) .normal φ σ):AK X N Qf (.code (.region id ops ae)::K) .normal φ σ:=AW.region h
theorem AK.Qp(h:AK X N Qf K .normal φ σ):AK X N Qf (.ops all []::K) .normal φ σ:=jl.nil h
def AK.rX:∀{K:List It},Qf .ret φ σ->AK X N Qf K .ret φ σ
 |[],h=>h
 |.code _::K,h=>AK.rX (K:=K) h
 |.blk _::K,h=>AK.rX (K:=K) h
 |.ops _ _::K,h=>AK.rX (K:=K) h
def AK.ret(h:Qf .ret φ σ):AK X N Qf (.code .ret::K) .normal φ σ:=AW.ret (AK.rX h)
def kD(id:Nat):List It->Option (List It)
 |[]=>af
 |.blk i::K=>match az id i with|true=>aa K|false=>kD id K
 |_::K=>kD id K
def AK.vZ{id:Nat}:∀{K a:List It},kD id K=aa a->AK X N Qf a .normal φ σ->AK X N Qf K (.exit id) φ σ
 |[],_,h,_=>by cases h
 |.blk i::K,a,h,q=>by
  simp only[kD]at h;cases hb:az id i with
  |true =>
   simp[hb]at h;subst h;have e:=b5 hb;simp only[AK,e,bY];exact q
  |false =>
   simp[hb]at h;have b:id≠i:=λe=>by grind[Nat.beq_refl]
   simp only[AK,b,b6];exact AK.vZ h q
 |.code _::K,a,h,q=>AK.vZ (K:=K) h q
 |.ops _ _::K,a,h,q=>AK.vZ (K:=K) h q
theorem AK.exit{id:Nat}{a:List It}(b:kD id K=aa a)(h:AK X N Qf a .normal φ σ):AK X N Qf (.code (.exit id)::K) .normal φ σ:=AW.exit (AK.vZ b h)
theorem AK.cond{c:aE}{x y:Code}{b:Bool}{t:Nat}(a:c=.tmp t)(hl:look φ t=.e (.one (.c (.bool b))))(f:b=ab->AK X N Qf (.code x::K) .normal φ σ)(d:b=ae->AK X N Qf (.code y::K) .normal φ σ):AK X N Qf (.code (.cond c x y)::K) .normal φ σ:=AW.cond a hl f d
def AK.loop{S:Type}{c:Code}(I:S->Prop)(fr:S->Fr)(st:S->List bm)(d:S->Nat)(x:S)(f:I x)(b:rY φ (fr x))(a:st x=σ)(round:∀x,I x->AK X N (λe φ' σ'=>match e with
   |.normal=>∃y,I y/\d y<d x/\rY φ' (fr y)/\σ'=st y
   |e=>AK X N Qf K e φ' σ') [.code c] .normal (fr x) (st x)):AK X N Qf (.code (.loop c)::K) .normal φ σ:=by refine AW.loop I fr st d x f b a λy g=>AW.mono (round y g) ?_;intro e φ' σ' q;cases e<;>exact q
end
def dq{α a:Type}:List α->(List α->Option a)->Option a
 |[],k=>k []
 |x::r,k=>dq r λq=>k (x::q)
theorem c7{a:Type}(l:List α)(k:List α->Option a):dq l k=k l:=by
 induction l generalizing k with
 |nil=>rfl
 |cons x r b=>simp[dq,b]
def zG(φ:Fr)(all:List aD)(j:Nat):Option (Option Bool) :=
 match eB j all with
 |some oj=>match oj.dst with
  |some d=>match look φ d with
   |.e (.one (.c (.bool ab)))=>aa (aa ab)
   |.e (.one (.c (.bool ae)))=>aa (aa ae)
   |.fK []=>aa af
   |_=>af
  |none=>af
 |none=>af
def pT{r:Option Bool}(h:zG φ all j=aa r){a:Act}(f:cx N σ s φ a):yielded all.toArray a.tmps j=r:=by
 unfold zG at h;rw[fb]at h;unfold yielded;cases ho:all[j]? with
 |none=>grind
 |some oj =>
  simp only[ho]at h;simp only[gT,ho,my];cases m:oj.dst with
  |none=>grind
  |some d =>
   simp only[m]at h;simp only[my];have c:=f.slot d;have key:∀v,a.tmps.getD d ai=v->v≠ai->a.tmps[d]?=aa v:=by intro v e l;simp only[dK]at e;grind
   split at h
   .rename_i g;cases h;rw[g]at c;have b:=fM c;generalize e:a.tmps.getD d ai=v at b;cases b;rw[key _ e (by simp[ai])]
   .rename_i g;cases h;rw[g]at c;have b:=fM c;generalize e:a.tmps.getD d ai=v at b;cases b;rw[key _ e (by simp[ai])]
   .rename_i g;cases h;rw[g]at c;obtain⟨vs,n,k⟩:=c;have i:vs=[]:=by cases vs with
     |nil=>rfl
     |cons _ _=>exact k.elim
    subst i;simp only[dK]at n;grind
   grind
def UQ(T:List (Nat×TI))(φ:Fr)(σ:List bm)(o:aD):Option (D×List bm×List Prop) :=
 match o.op with
 |.move x|.assign x=>aa (bO φ x,σ,[])
 |.pick c a b=>match bO φ c with
  |.e (.one (.c (.bool ab)))=>aa (bO φ a,σ,[])
  |.e (.one (.c (.bool ae)))=>aa (bO φ b,σ,[])
  |_=>af
 |.binOp op _ x y _=>match bO φ x,bO φ y with
  |.e (.one (.c a)),.e (.one (.c b))=>match Mv op a b with
   |some (c,obs)=>aa (.e (.one (.c c)),σ,obs)
   |none=>af
  |_,_=>af
 |.unOp op _ x=>match bO φ x with
  |.e (.one (.c a))=>match UP op a with
   |some c=>aa (.e (.one (.c c)),σ,[])
   |none=>af
  |_=>af
 |.extract x j=>match bO φ x with
  |.fK xs=>match eB j xs with
   |some e=>aa (.e e,σ,[])
   |none=>af
  |_=>af
 |.alloc E=>match bG T E with
  |some i=>dq (σ++[.cells E (i.zero.map A.c)]) λσ'=>aa (.e (.one (.ptr σ.length 0)),σ',[])
  |none=>af
 |.box E x=>match lC (bO φ x)with
  |some cs=>dq (σ++[.cells E cs]) λσ'=>aa (.e (.one (.ptr σ.length 0)),σ',[])
  |none=>af
 |.load t x=>match bG T t with
  |some i=>match bO φ x with
   |.e (.one (.ptr l off))=>match eB l σ with
    |some (.cells _ cs)=>match mR i (g8 off cs)with
     |some e=>aa (.e e,σ,[])
     |none=>af
    |_=>af
   |.e (.one (.c (.rp cs)))=>match mR i (cs.map A.c)with
    |some e=>aa (.e e,σ,[])
    |none=>af
   |_=>af
  |none=>af
 |.store t x y=>match bG T t with
  |some i=>match bO φ x with
   |.e (.one (.ptr l off))=>match eB l σ with
    |some (.cells E cs)=>match lC (bO φ y)with
     |some new=>match az new.length i.size with
      |true=>match fh off new cs with
       |some lZ=>dq (ee.sK l (.cells E lZ) σ) λσ'=>aa (.any,σ',[])
       |none=>af
      |false=>af
     |none=>af
    |_=>af
   |_=>af
  |none=>af
 |.fieldAddr t x f=>match jA T t f with
  |some (k,_)=>match bO φ x with
   |.e (.one (.ptr l off))=>aa (.e (.one (.ptr l (off+k))),σ,[])
   |.e (.one (.c (.rp cs)))=>aa (.e (.one (.c (.rp (g8 k cs)))),σ,[])
   |_=>af
  |none=>af
 |.field t x f=>match jA T t f with
  |some (k,j)=>match bO φ x with
   |.e (.agg cs)=>match mR j (g8 k cs)with
    |some e=>aa (.e e,σ,[])
    |none=>af
   |_=>af
  |none=>af
 |.nilCheck x=>match bO φ x with
  |.e (.one (.ptr l off))=>aa (.e (.one (.ptr l off)),σ,[])
  |.e (.one (.c (.rp cs)))=>aa (.e (.one (.c (.rp cs))),σ,[])
  |_=>af
 |.build t parts=>match zE T (bO φ) t parts.toList with
  |some cs=>aa (.e (.agg cs),σ,[])
  |none=>af
 |.buildSlice t n parts=>match Mw T (bO φ) t n parts.toList with
  |some (k,es)=>aa (.e (.one (.c (.sl ab k n λi=>es.getD i []))),σ,[])
  |none=>af
 |_=>af
theorem DK{T:List (Nat×TI)}(m:dj P T){x:D}(h:UQ T φ σ o=aa (x,σ',obs))(ho:ar obs):bF P o (bO φ) σ x σ':=by
 unfold UQ at h;split at h
 .grind [bF.move]
 .grind [bF.assign]
 .rename_i c a b d;split at h
  .rename_i e;cases h;exact bF.pick d e
  .rename_i e;cases h;exact bF.pick d e
  grind
 .grind [bF.binOp]
 .grind [bF.unOp]
 .grind [bF.extract,cU]
 .grind [c7,bF.alloc]
 .grind [c7,bF.box]
 .rename_i t y d;split at h
  .grind [bF.FD,cU,bF.IY]
  grind
 .rename_i t y z d;split at h
  .rename_i i hi;split at h
   .rename_i l off hx;split at h
    .grind [c7,k8,bF.store,cU,Nat.eq_of_beq_eq_true]
    grind
   grind
  grind
 .rename_i t y f d;split at h
  .rename_i k j g;split at h
   .rename_i l off hx;cases h;exact bF.rT m d hx g
   .grind [bF.tK]
   grind
  grind
 .grind [bF.field]
 .grind [bF.tM,bF.vR]
 .grind [bF.build]
 .grind [bF.buildSlice]
 grind
def gm(N:Nat):Option Nat->Bool
 |some d=>bC (d+1) N
 |none=>ab
def gM{d:Option Nat}(h:gm N d=ab):∀t,d=aa t->t<N:=by intro t a;subst a;exact ez h
theorem dD(h:o.guard=af){a:Act}:a9 o (yielded all.toArray a.tmps)=ab:=by simp[a9,h]
section
variable {T:List (Nat×TI)}
def uu(η:aE->D):Option aE->Option (Option Int)
 |none=>aa af
 |some x=>match η x with
  |.e (.one (.c (.int _ j)))=>aa (aa j)
  |_=>af
def iS{a:aE->aj}(d:∀y,dk σ s (a y) (η y)){x:Option aE}{b:Option Int}(h:uu η x=aa b):(x.map a=af/\b=af)∨∃k j,x.map a=aa (.int k j)/\b=aa j:=by
 cases x with
 |none=>cases h;grind
 |some y =>
  right;simp only[uu]at h;split at h
  .rename_i k j c;cases h;have:=d y;rw[c]at this;have:=fM this;generalize e:a y=v at this;cases this;grind
  grind
def cr(d:Nat):Option Int->Nat
 |none=>d
 |some j=>j.toNat
def jz(n:Nat):Option Int->Option Int->List Prop
 |none,af=>[]
 |some l,af=>[0<=l,l<=n]
 |none,aa h=>[0<=h,h<=n]
 |some l,aa h=>[0<=l,l<=h,h<=n]
def nN{isS:Bool}{cap:Nat}(m:n<=cap){lo hi:Option aj}{l h:Option Int}(g:(lo=af/\l=af)∨∃k j,lo=aa (.int k j)/\l=aa j)(f:(hi=af/\h=af)∨∃k j,hi=aa (.int k j)/\h=aa j)(ho:ar (jz n l h))(w:aA):(bk isS n cap lo hi af).run P w=.ok (cr 0 l,cr n h,cap) w/\cr 0 l<=cr n h/\cr n h<=n:=by
 rcases g with⟨rfl,rfl⟩|⟨d,l,rfl,rfl⟩<;>rcases f with⟨rfl,rfl⟩|⟨c,h,rfl,rfl⟩
 .exact⟨by simp[bk,cr],by simp[cr],by simp[cr]⟩
 .obtain⟨a,b⟩:0<=h/\h<=(n:Int):=ho;refine⟨?_,by simp[cr],by simp only[cr];omega⟩;simp[bk,cr,run_sliceBound (P:=P) w c h cap _ a (by omega)]
 .obtain⟨a,b⟩:0<=l/\l<=(n:Int):=ho;refine⟨?_,by simp only[cr];omega,by simp[cr]⟩;simp[bk,cr,run_sliceBound (P:=P) w d l n _ a b]
 .obtain⟨a,b,i⟩:0<=l/\l<=h/\h<=(n:Int):=ho;have e:((h.toNat:Nat):Int)=h:=ze (by omega);refine⟨?_,by simp only[cr];omega,by simp only[cr];omega⟩;simp[bk,cr,run_sliceBound (P:=P) w c h cap _ (by omega) (by omega),run_sliceBound (P:=P) w d l h.toNat _ a (by omega)]
def dM(w:aA)(k:IntKind)(i:Int)(y:Nat)(code:BoundsCode)(b:0<=i)(a:i<=(y:Int))(es:Array Event):(Instr.sliceBound (.int k i) y code).events P w es=es:=by simp[Instr.sliceBound,asIntOf,b,a]
def pM{isS:Bool}{cap:Nat}{lo hi:Option aj}{l h:Option Int}(p:n<=cap)(i:(lo=af/\l=af)∨∃k j,lo=aa (.int k j)/\l=aa j)(g:(hi=af/\h=af)∨∃k j,hi=aa (.int k j)/\h=aa j)(ho:ar (jz n l h))(w:aA)(es:Array Event):(bk isS n cap lo hi af).events P w es=es:=by
 have o:∀(isS:Bool) (v:Option aj) (d:Nat) (w:aA) (es:Array Event),v=af->(bk isS n cap af af af).events P w es=es:=λisS v d w es _=>by simp[bk]
 rcases i with⟨rfl,rfl⟩|⟨f,l,rfl,rfl⟩<;>rcases g with⟨rfl,rfl⟩|⟨b,h,rfl,rfl⟩
 .simp[bk]
 .obtain⟨a,c⟩:0<=h/\h<=(n:Int):=ho;simp[bk,dM (P:=P) w b h cap _ a (by omega)]
 .obtain⟨a,c⟩:0<=l/\l<=(n:Int):=ho;simp[bk,dM (P:=P) w f l n _ a c]
 .obtain⟨a,c,m⟩:0<=l/\l<=h/\h<=(n:Int):=ho;have e:((h.toNat:Nat):Int)=h:=ze (by omega);simp[bk,run_sliceBound (P:=P) w b h cap _ (by omega) (by omega),dM (P:=P) w b h cap _ (by omega) (by omega),dM (P:=P) w f l h.toNat _ a (by omega)]
def rR(s:List UInt8):Option Int->Option Int->List UInt8
 |none,af=>s
 |some l,af=>s.drop l.toNat
 |none,aa h=>s.take h.toNat
 |some l,aa h=>(s.take h.toNat).drop l.toNat
theorem bF.IV(r:dj P T){lo hi:Option aE}(h:o.op=.slice t x lo hi af){i:TI}(j:bG T t=aa i)(y:i.desc=.string){s:List UInt8}{l u:Option Int}(v:η x=.e (.one (.c (.str s))))(hl:uu η lo=aa l)(p:uu η hi=aa u)(ho:ar (jz s.length l u)):bF P o η σ (.e (.one (.c (.str (rR s l u))))) σ:=by
 refine .quiet λst ρ hh hr=>?_;have h1:=hr x;rw[v]at h1;replace h1:=fM h1;generalize d:ρ x=vx at h1;cases h1 with
 |@str sb _ q m =>
 have b:sb.size=s.length:=by rw[<-q];exact iW.symm
 obtain⟨hb,g,f⟩:=nN (P:=P) (isS:=ae) (n:=sb.size) (cap:=sb.size) (ba _) (iS hr hl) (iS hr p) (by grind) st.w;have a:=(r t i j).run_underlying (w:=st.w);rw[y]at a;have k:=pM (P:=P) (isS:=ae) (n:=sb.size) (cap:=sb.size) (ba _) (iS hr hl) (iS hr p) (by grind) st.w;refine⟨.string (sb.extract (cr 0 l) (cr sb.size u)),?_,Rd.str ?_ ?_,by simp[an,h,d,Instr.sliceAt,a,Instr.slice,k]⟩
 .simp[an,h,d,Instr.sliceAt,a,Instr.slice,hb]
 .rw[Lib.extract_data,q,b];rw[b]at g f;cases l<;>cases u<;>simp only[rR,cr]at g f⊢
  .simp
  .simp
  .grind [List.take_of_length_le]
  .rw[List.drop_take]
 .cases l<;>cases u<;>simp only[rR,ru,List.length_take]<;>omega
def k9(l:Nat)(f:Nat->List C):Nat->List C:=λi=>f (l+i)
def PI(tt:Bool):Option Int->Bool
 |none=>tt
 |some _=>ae
theorem bF.MF(r:dj P T){lo hi:Option aE}(h:o.op=.slice t x lo hi af){i ie:TI}(p:bG T t=aa i)(F:i.desc=.slice E)(B:bG T E=aa ie){tt:Bool}{l u:Option Int}(C:∀s v,dk σ s v (η x)->Rd s.M v (.sl tt ie.size n es))(hl:uu η lo=aa l)(q:uu η hi=aa u)(ho:ar (jz n l u)):
  bF P o η σ (.e (.one (.c (.sl (PI tt u) ie.size (cr n u-cr 0 l) (k9 (cr 0 l) es))))) σ:=by
 refine .quiet λst ρ hh hr=>?_;have h1:=C st _ (hr x);obtain⟨a,cap,vs,m,g,G,A,J,hm⟩:=h1.flat;rw[m]at h1;obtain⟨hb,H,D⟩:=nN (P:=P) (isS:=ab) g (iS hr hl) (iS hr q) ho st.w;have d:=(r t i p).run_underlying (w:=st.w);rw[F]at d;refine⟨.slice (if cap=cr 0 l then a else a.map (·.add (cr 0 l*ie.size))) (cr n u-cr 0 l) (cap-cr 0 l),?_,?_,by simp[an,h,m,Instr.sliceAt,d,Instr.slice,hb,pM (P:=P) (isS:=ab) g (iS hr hl) (iS hr q) ho st.w]⟩
 .simp[an,h,m,Instr.sliceAt,d,Instr.slice,hb,(r E ie B).run_sizeOf]
 .cases h1 with
  |sl b off f _ _ _ z I hm' LU =>
   refine Rd.sl b (off+cr 0 l*ie.size) (λi j=>f (cr 0 l+i) j) (by omega) (by omega) ?_ (λi hi=>z _ (by omega)) (λy=>?_) (λi hi j c hj=>?_) (λi hi j c hj=>LU _ (by omega) j c hj)
   .intro k;cases u with
    |none=>simp only[PI]at k;have:=A k;simp only[cr];omega
    |some u=>cases k
   .rw[aW (by omega),I (by omega)];simp[de]
   .have:=hm' (cr 0 l+i) (by omega) j c hj;grind
def bF.MD(l:dj P T){b dst:av}(h:o.op=.convert b dst x){i i2:TI}{k k':IntKind}{j:Int}(hi:bG T b=aa i)(g:bG T dst=aa i2)(n:i2.desc=.int k')(m:η x=.e (.one (.c (.int k j))))(ho:bt k' j):
  bF P o η σ (.e (.one (.c (.int k' j)))) σ:=by refine .quiet λst ρ hh hr=>?_;have h1:=hr x;rw[m]at h1;replace h1:=fM h1;generalize f:ρ x=vx at h1;cases h1;have d:=(l b i hi).run_underlying (w:=st.w);have a:=(l dst i2 g).run_underlying (w:=st.w);rw[n]at a;exact⟨.int k' j,by simp[an,h,f,convert,d,a,Conv.intToInt,ma ho],Rd.int ho,by simp[an,h,f,convert,d,a,Conv.intToInt]⟩
theorem bF.ME(k:dj P T){b dst:av}(h:o.op=.convert b dst x){i i2:TI}{s:List UInt8}(hi:bG T b=aa i)(j:bG T dst=aa i2)(m:i2.desc=.string)(l:η x=.e (.one (.c (.str s)))):
  bF P o η σ (.e (.one (.c (.str s)))) σ:=by refine .quiet λst ρ hh hr=>?_;have h1:=hr x;rw[l]at h1;have g:=fM h1;generalize f:ρ x=vx at g;cases g;have d:=(k b i hi).run_underlying (w:=st.w);have a:=(k dst i2 j).run_underlying (w:=st.w);rw[m]at a;exact⟨_,by simp[an,h,f,convert,d,a];rfl,by grind,by simp[an,h,f,convert,d,a]⟩
def vN(f:Nat->List C):Nat->Nat->Option (List UInt8)
 |_,0=>aa []
 |i,n+1=>match f i with
  |[.int .u8 v]=>match vN f (i+1) n with
   |some r=>aa (UInt8.ofNat v.toNat::r)
   |none=>af
  |_=>af
def yo{M:Mem}{f:Nat->List C}:∀{n i:Nat}{r:List UInt8}{vs:List aj},vN f i n=aa r->vs.length=n->(∀j,j<n->∀c,(f (i+j))[0]?=aa c->∃v,vs[j]?=aa v/\Rd M v c) ->
  ∃xs:List Int,vs=xs.map (Value.int .u8)/\r=xs.map (λx=>UInt8.ofNat x.toNat)
 |0,i,r,vs,h,b,_=>by cases h;exact⟨[],by grind,rfl⟩
 |n+1,i,r,[],h,b,_=>by grind
 |n+1,i,r,v::vs,h,b,a=>by
  simp only[vN]at h;split at h
  .rename_i x l;split at h
   .rename_i q g;cases h;obtain⟨u,d,e⟩:=a 0 (by omega) (.int .u8 x) (by grind)
    simp at d;subst d;cases e;obtain⟨xs,k,p⟩:=yo (vs:=vs) g (by grind) (λj o c m=>by
     have:=a (j+1) (by omega) c (by grind)
     simpa using this)
    exact⟨x::xs,by grind,by grind⟩
   grind
  grind
def oi{P:aK}(w:aA){F:aj->ByteArray->Sem (ForInStep ByteArray)}(a:∀x s,F (.int .u8 x) s=pure (.yield (s.push (UInt8.ofNat x.toNat)))):∀(xs:List Int)(s:ByteArray),
  (forIn (m:=Sem) (xs.map (Value.int .u8)) s F).run P w=.ok ⟨s.data++(xs.map λx=>UInt8.ofNat x.toNat).toArray⟩ w
 |[],s=>by simp
 |x::xs,s=>by simp only[kZ,List.forIn_cons,a,bU,cY,cw];rw[oi w a xs];congr 2;apply Array.ext';simp[ByteArray.push]
end
def OA(X:Cx P)(N:Nat)(all:List aD)(o:aD)(φ:Fr)(σ:List bm)(x:D)(σ':List bm):Prop :=
 ∀s a,cx N σ s φ a->aF σ s->∀(b:aU) (k:List Item) (cs:List aU) (S:ak->St->Prop) (i:Nat) (rest:List Nat),b.kind≠.early->all.toArray[i]?=aa o ->
  (∀v s',dk σ' s' v x->aF σ' s'->cO σ s σ' s'->fA X S (G (b.aT (a.put o.dst v) (.inRegion all.toArray rest::k)) cs) s')->fA X S (G (b.aT a (.inRegion all.toArray (i::rest)::k)) cs) s
section
variable {X:Cx P}{φ':Fr}{x:D}
theorem OA.mN(p:∀σ s a,cx N σ s φ a->a9 o (yielded all.toArray a.tmps)=ab)(h:bF P o (bO φ) σ x σ'):OA X N all o φ σ x σ':=by
 intro s a f hh b k cs S i rest hb hi hK;refine DQ hb hi (p _ _ _ f) λg d=>?_;have c:=hh.rely d;obtain⟨q,s',h1,h2,e,j,n⟩:=h g a.eval c (dt (f.rely d hh));have l:=d.stepW.trans (j.oe c);have m:qF g s' ((an a.eval o).events P g.w #[]):=⟨⟨σ,σ',c,e,j⟩,n⟩;cases q with
 |value v=>exact⟨_,s',v,h1,.inl rfl,m,hK v s' h2 e l⟩
 |skip=>simp only[Qd]at h2;subst h2;exact⟨_,s',ai,h1,.inr ⟨rfl,rfl⟩,m,hK ai s' aq e l⟩
 |_=>exact h2.elim
def OA.pass(d:∀σ s a,cx N σ s φ a->a9 o (yielded all.toArray a.tmps)=ae):OA X N all o φ σ (.fK []) σ:=by intro s a f hh b k cs S i rest hb hi hK;exact .ctl hh rfl (λ_=>L6 hi (d _ _ _ f)) λe c=>hK ai e ⟨[],rfl,aq⟩ (hh.rely c) c.stepW
def jl.zQ{Q:Fr->List bm->Prop}(h:OA X N all o φ σ x σ')(e:∀t,o.dst=aa t->t<N)(k:jl X N all rest Q (kO o.dst x φ) σ'):jl X N all (o::rest) Q φ σ:=by
 intro s a f hh b kk cs S idx hb ia hQ;cases idx with
 |nil=>exact ia.elim
 |cons i idx =>
 refine h s a f hh b kk cs S i idx hb ia.1 λv s' hv jL st=>k s' _ ?_ jL b kk cs S idx hb ia.2 λc σ2 s2 a2 q d h2 oq=>hQ c σ2 s2 a2 q d h2 (st.trans oq);cases g:o.dst with
 |none=>exact f.mono st hh.len
 |some t=>exact(f.mono st hh.len).put (e t g) hv
end
abbrev dv:=List D->List bm->Option (D×List bm×List Prop)
def yj:List (Nat×dv)->Nat->Option dv
 |[],_=>af
 |(i,g)::r,f=>cond (az i f) (aa g) (yj r f)
def dH(X:Cx P)(f:aM)(g:dv):Prop:=∀args σ res σ' obs,g args σ=aa (res,σ',obs)->ar obs->Ev X f args σ res σ'
def bR(X:Cx P)(CT:List (Nat×dv)):Prop:=∀f g,yj CT f=aa g->dH X f g
def bR.nil{X:Cx P}:bR X []:=λ_ _ h=>by cases h
def bR.cons{X:Cx P}{f:aM}{g:dv}{CT:List (Nat×dv)}(h:dH X f g)(r:bR X CT):bR X ((f,g)::CT):=by
 intro a g2 h2;simp only[yj]at h2;cases hb:az f a with
 |true=>grind[Nat.eq_of_beq_eq_true]
 |false=>rw[hb]at h2;exact r a g2 h2
def X8:A->List Nat->List Nat
 |.ptr l _,ks=>cond (ix l ks) ks (ks++[l])
 |.vec l _ _ _,ks=>cond (ix l ks) ks (ks++[l])
 |.ref l,ks=>cond (ix l ks) ks (ks++[l])
 |.bp l _,ks=>cond (ix l ks) ks (ks++[l])
 |_,ks=>ks
def X9:List A->List Nat->List Nat
 |[],ks=>ks
 |a::r,ks=>X9 r (X8 a ks)
def bxD:D->List Nat->List Nat
 |.e (.one a),ks=>X8 a ks
 |.e (.agg cs),ks=>X9 cs ks
 |_,ks=>ks
def Tc:List D->List Nat->List Nat
 |[],ks=>ks
 |a::r,ks=>Tc r (bxD a ks)
def Bp(l:Nat):List Nat->Nat->Option Nat
 |[],_=>af
 |k::r,i=>match az k l with|true=>aa i|false=>Bp l r (i+1)
def rZ{l:Nat}:∀{ks:List Nat}{i j:Nat},Bp l ks i=aa j->i<=j/\ks[j-i]?=aa l
 |[],_,_,h=>by cases h
 |k::r,i,j,h=>by
  simp only[Bp]at h;cases a:az k l with
  |true=>rw[a]at h;cases h;exact⟨ba _,by grind[Nat.eq_of_beq_eq_true]⟩
  |false =>
   rw[a]at h;obtain⟨c,b⟩:=rZ h;grind
def R3(ks:List Nat):A->Option A
 |.ptr l o=>match Bp l ks 0 with|some i=>aa (.ptr i o)|none=>af
 |.ref l=>match Bp l ks 0 with|some i=>aa (.ref i)|none=>af
 |.bp l w=>match Bp l ks 0 with|some i=>aa (.bp i w)|none=>af
 |.vec _ _ _ _=>af
 |.c x=>aa (.c x)
 |.any=>aa .any
def U0(ks:List Nat):List A->Option (List A)
 |[]=>aa []
 |a::r=>match R3 ks a with
  |some b=>match U0 ks r with
   |some q=>aa (b::q)
   |none=>af
  |none=>af
def Wo(ks:List Nat):D->Option D
 |.e (.one a)=>match R3 ks a with|some b=>aa (.e (.one b))|none=>af
 |.e (.agg cs)=>match U0 ks cs with|some b=>aa (.e (.agg b))|none=>af
 |.fK _=>af
 |.any=>aa .any
def G0(ks:List Nat):List D->Option (List D)
 |[]=>aa []
 |a::r=>match Wo ks a with
  |some b=>match G0 ks r with
   |some q=>aa (b::q)
   |none=>af
  |none=>af
def Jn{ks:List Nat}{a b:A}(h:R3 ks a=aa b):ou ks b=a/\GH ks.length b=ab:=by
 cases a with
 |ptr l o =>
  simp only[R3]at h;split at h
  .rename_i i hi;cases h;obtain⟨_,d⟩:=rZ hi;simp only[l8]at d;have e:i<ks.length:=(cf.1 d).1;exact⟨by simp[ou,fb,d],uI e⟩
  grind
 |ref l =>
  simp only[R3]at h;split at h
  .rename_i i hi;cases h;obtain⟨_,d⟩:=rZ hi;simp only[l8]at d;have e:i<ks.length:=(cf.1 d).1;exact⟨by simp[ou,fb,d],uI e⟩
  grind
 |bp l w =>
  simp only[R3]at h;split at h
  .rename_i i hi;cases h;obtain⟨_,d⟩:=rZ hi;simp only[l8]at d;have e:i<ks.length:=(cf.1 d).1;exact⟨by simp[ou,fb,d],uI e⟩
  grind
 |vec l k n es=>cases h
 |c x=>cases h;exact⟨rfl,rfl⟩
 |any=>cases h;exact⟨rfl,rfl⟩
def Jo{ks:List Nat}:∀{a b:List A},U0 ks a=aa b->Bc ks b=a/\Fp ks.length b=ab
 |[],b,h=>by cases h;exact⟨rfl,rfl⟩
 |a::r,b,h=>by
  simp only[U0]at h;split at h
  .rename_i x e;split at h
   .rename_i q g;cases h;obtain⟨i,d⟩:=Jn e;obtain⟨c,f⟩:=Jo g;exact⟨by simp[Bc,i,c],by simp[Fp,d,f]⟩
   grind
  grind
def Qe{ks:List Nat}{a b:D}(h:Wo ks a=aa b):iL ks b=a/\vt ks.length b=ab:=by
 unfold Wo at h;split at h
 .rename_i a;split at h
  .rename_i x d;cases h;obtain⟨e,c⟩:=Jn d;exact⟨by simp[iL,zp,e],by simp[vt,Iz,c]⟩
  grind
 .rename_i cs;split at h
  .rename_i x d;cases h;obtain⟨e,c⟩:=Jo d;exact⟨by simp[iL,zp,e],by simp[vt,Iz,c]⟩
  grind
 .cases h
 .cases h;exact⟨rfl,rfl⟩
def FR{ks:List Nat}:∀{a b:List D},G0 ks a=aa b->g6 ks b=a/\mG ks.length b=ab
 |[],b,h=>by cases h;exact⟨rfl,rfl⟩
 |a::r,b,h=>by
  simp only[G0]at h;split at h
  .rename_i x e;split at h
   .rename_i q g;cases h;obtain⟨i,d⟩:=Qe e;obtain⟨c,f⟩:=FR g;exact⟨by simp[g6,i,c],by simp[mG,d,f]⟩
   grind
  grind
def IT(CT:List (Nat×dv))(φ:Fr)(σ:List bm)(fo:aE)(xs:List aE):Option (D×List bm×List Prop) :=
 match eD (bO φ fo)with
 |none=>af
 |some (f,cap)=>match yj CT f with
  |none=>af
  |some g =>
   let args:=oO (xs.map (bO φ)++fX cap);let ks:=Tc args []
   match G0 ks args with
   |none=>af
   |some cy=>match kh ks σ with
    |none=>af
    |some σs=>match g cy σs with
     |none=>af
     |some (res,σ1,obs)=>match cV σs,cV σ1,dX ks,bC ks.length σ1.length with
      |true,ab,ab,ab=>aa (iL (ks++l0 σ.length (σ1.length-ks.length)) res,ee ks σ1 σ,obs)
      |_,_,_,_=>af
theorem OA.OQ{X:Cx P}{CT:List (Nat×dv)}(hC:bR X CT)(H:∀σ s a,cx N σ s φ a->a9 o (yielded all.toArray a.tmps)=ab)(ho:o.op=.call {callee:=.value fo,args:=xs,argTypes:=jN}){f:aM}(v:eD (bO φ fo)=aa (f,cap)){g:dv}(C:yj CT f=aa g){ks:List Nat}{σ1:List bm}{res:D}(B:G0 ks (oO (xs.toList.map (bO φ)++fX cap))=aa cy)(z:kh ks σ=aa σs)(n:g cy σs=aa (res,σ1,obs))(J:cV σs=ab)(F:cV σ1=ab)(I:dX ks=ab)(A:ks.length<=σ1.length)(t:ar obs):OA X N all o φ σ (iL (ks++l0 σ.length (σ1.length-ks.length)) res) (ee ks σ1 σ):=by
 obtain⟨m,E⟩:=FR B;intro s a l hh b kk cs S i rest hb hi hK;have r:=hC f g C _ _ _ _ _ n t;have p:=dt l fo;unfold eD at v;split at v
 case h_2=>cases v
 case h_1 f' Ik he =>
  cases v;rw[he]at p;have h:=fM p;generalize G:a.eval fo=fv at h;cases h with
  |fn fs lZ hl Df f1 f2 h1 h2 r1 r2 =>
   have y:fs=[]:=iV hl;subst y;have k:cn σ s lZ (fX cap):=lx (λj c hj=>⟨f2 j,h2 j (by grind),r2 j c hj⟩) Df;have q:cn σ s (xs.toList.map a.eval++lZ) (g6 ks cy):=by rw[m];exact vv ((nI (dt l) xs.toList).append k)
   obtain⟨fn,u,e,d⟩:=r.1;exact IA hb hi (H _ _ _ l) hh (λw=>(gQ ho u e d G w).1) (λw=>(gQ ho u e d G w).2) r q E z J F I A hK
theorem OA.call{X:Cx P}{CT:List (Nat×dv)}(hC:bR X CT){x:D}(e:∀σ s a,cx N σ s φ a->a9 o (yielded all.toArray a.tmps)=ab)(ho:o.op=.call {callee:=.value fo,args:=xs,argTypes:=jN})(b:IT CT φ σ fo xs.toList=aa (x,σ',obs))(c:ar obs):OA X N all o φ σ x σ':=by
 unfold IT at b;split at b
 .cases b
 rename_i f cap hf;split at b
 .cases b
 rename_i g d;simp only at b;split at b
 .cases b
 grind[OA.OQ,Nat.le_of_ble_eq_true]
def BD{d:D}(h:vt 0 d=ab):iL [] d=d:=by
 have i:∀{a:A},GH 0 a=ab->ou [] a=a:=by intro a b;cases a<;>simp only[GH]at b<;>first|rfl|(simp at b)
 have j:∀{l:List A},Fp 0 l=ab->Bc [] l=l:=by
  intro l;induction l with
  |nil=>intro _;rfl
  |cons a r f =>
   intro h;simp only[Fp]at h;cases b:GH 0 a with
   |false=>grind
   |true=>simp only[b]at h;simp[Bc,i b,f h]
 have g:∀{a:E1},Iz 0 a=ab->zp [] a=a:=by
  intro a b;cases a with
  |one a=>simp[zp,i b]
  |agg cs=>simp[zp,j b]
 have c:∀{l:List E1},xF 0 l=ab->ya [] l=l:=by
  intro l;induction l with
  |nil=>intro _;rfl
  |cons a r f =>
   intro h;simp only[xF]at h;cases b:Iz 0 a with
   |false=>grind
   |true=>simp only[b]at h;simp[ya,g b,f h]
 cases d with
 |e x=>simp[iL,g h]
 |fK xs=>simp[iL,c h]
 |any=>rfl
def Bm(CT:List (Nat×dv))(φ:Fr)(fo:aE)(xs:List aE):Option (D×List Prop) :=
 match eD (bO φ fo)with
 |none=>af
 |some (f,cap)=>match yj CT f with
  |none=>af
  |some g=>match G0 [] (oO (xs.map (bO φ)++fX cap))with
   |none=>af
   |some cy=>match g cy []with
    |some (res,[],obs)=>match vt 0 res with
     |true=>aa (res,obs)
     |false=>af
    |_=>af
theorem OA.Bm{P:aK}{X:Cx P}{N:Nat}{all:List aD}{φ:Fr}{σ:List bm}{o:aD}{CT:List (Nat×dv)}(hC:bR X CT){fo:aE}{xs:Array aE}{jN:Array av}{x:D}{obs:List Prop}(h:∀σ s a,cx N σ s φ a->a9 o (yielded all.toArray a.tmps)=ab)(ho:o.op=.call {callee:=.value fo,args:=xs,argTypes:=jN})(b:AM.Bm CT φ fo xs.toList=aa (x,obs))(c:ar obs):OA X N all o φ σ x σ:=by
 unfold AM.Bm at b;split at b
 .cases b
 rename_i f cap hf;split at b
 .cases b
 rename_i g d;split at b
 .cases b
 rename_i cy hun;split at b
 case h_2=>cases b
 rename_i res aat Wp;split at b
 case h_2=>cases b
 rename_i e;cases b;have:=OA.OQ (σ:=σ) hC h ho hf d hun rfl Wp rfl rfl rfl (ba _) c;simpa[l0,BD e,ee]using this
structure H9(N:Nat)(σ:List bm)(s:St)(V:Nat->D)(a:Act):Prop where
 size:a.tmps.size=N
 defers:∃ls,ov σ s a.defers ls
 slot:∀t,dk σ s (a.tmps.getD t ai) (V t)
def H9.IF{V:Nat->D}{a:Act}(f:H9 N σ s V a)(h:∀t σ s v,dk σ s v (V t)->dk σ s v (look φ t)):cx N σ s φ a :=
 ⟨f.size,f.defers,λt=>h t _ _ _ (f.slot t)⟩
def dh(e:Edge):Bool:=Region.binds .any e
structure vF{P:aK}(X:Cx P)(N:Nat)(ops:Array aD)(φ:Fr)(S:Nat->List bm)(x:Nat->D)(m:Nat->Fr)(free c:Nat->Bool)(p:Nat->Nat->Prop)(idx:Nat->Option Nat)(φ':Fr):Prop where
 fC:P.follows Departure.mixedOrders=ab
 back:∀i o,ops[i]?=aa o->∀e∈o.after,dh e=ab->e.on<i
 IG:∀i o d,ops[i]?=aa o->o.dst=aa d->idx d=aa i/\d<N
 xH:∀d i,idx d=aa i->∃o,ops[i]?=aa o/\o.dst=aa d
 quiet:∀i,c i=ae->S (i+1)=S i
 one:∀i o,ops[i]?=aa o->free i=ae->OA X N ops.toList o (m i) (S i) (x i) (S (i+1))
 all:∀i o,ops[i]?=aa o->free i=ab->c i=ae/\∀k,OA X N ops.toList o (m i) (S k) (x i) (S k)
 cl:∀L:Nat->Prop,(∀i o,ops[i]?=aa o->L i->∀e∈o.after,dh e=ab->L e.on)->∀i j,p i j->(L i->L j)/\∃o,ops[i]?=aa o/\((∀e∈o.after,dh e=ab->L e.on)->L j)
 comp:∀i f,i<ops.size->f<ops.size->c f=ab->i≠f->free i=ae->(f<i/\p i f)∨(i<f/\p f i)
 RU:∀i o,ops[i]?=aa o->∀t σ s v,dk σ s v (match idx t with|some j=>(if ∃e∈o.after,dh e=ab/\e.on=j then x j else if ∃oj,ops[j]?=aa oj/\∃e∈oj.after,dh e=ab/\e.on=i then look φ t else .any)|none=>look φ t)->dk σ s v (look (m i) t)
 fin:∀t σ s v,dk σ s v (match idx t with|some j=>x j|none=>look φ t)->dk σ s v (look φ' t)
open Classical in
noncomputable def gp(φ:Fr)(x:Nat->D)(idx:Nat->Option Nat)(L:Array Bool)(t:Nat):D :=
 match idx t with
 |some j=>if L.getD j ae=ab then x j else look φ t
 |none=>look φ t
theorem mem_ready:i∈aX .any ops L↔∃o,ops[i]?=aa o/\L.getD i ab=ae/\∀e∈o.after,dh e=ab->L.getD e.on ae=ab:=by
 unfold aX;simp only[nE,rA,bJ,hI];constructor
 .rintro⟨b,g,a⟩;rw[gg b]at a;simp only[mz,gx,Array.all_eq_true',mD,hI]at a;refine⟨ops[i],gg b,g,λe j f=>?_⟩;rcases a e j with h|h
  .unfold dh at f;grind
  grind
 .rintro⟨o,b,g,a⟩;have d:i<ops.size:=(eX.1 b).1;refine⟨d,g,?_⟩;rw[b];simp only[mz,gx,Array.all_eq_true',mD,hI];intro e j;cases f:Region.binds .any e with
  |false=>grind
  |true=>exact .inr (a e j f)
section
variable {X:Cx P}{φ':Fr}{S:Nat->List bm}{x:Nat->D}{m:Nat->Fr}{free c:Nat->Bool}{p:Nat->Nat->Prop}{idx:Nat->Option Nat}
def vF.chain(h:vF X N ops φ S x m free c p idx φ'){i:Nat}:∀{k:Nat},i<=k->(∀g,i<=g->g<k->c g=ae)->S k=S i
 |0,b,_=>by grind
 |k+1,b,a=>by
  rcases cM k i with hl|hl
  .grind
  .rw[h.quiet k (a k hl (by omega)),h.chain (k:=k) hl (λg h1 h2=>a g h1 (by omega))]
def vF.last(h:vF X N ops φ S x m free c p idx φ')(l:∀i,i<ops.size->L.getD i ae=ab){s0:St}{a:Act}(n:k<=ops.size)(q:∀f,f<ops.size->c f=ab->(L.getD f ae=ab↔f<k))(b:H9 N (S k) s (gp φ x idx L) a)(hh:aF (S k) s)(st:cO (S 0) s0 (S k) s):
  cx N (S ops.size) s φ' a/\aF (S ops.size) s/\cO (S 0) s0 (S ops.size) s:=by
 have d:S ops.size=S k:=h.chain n (λg h1 h2=>by grind)
 rw[<-d]at b hh st;refine⟨b.IF λt σ s v e=>h.fin t σ s v ?_,hh,st⟩;unfold gp at e;cases hi:idx t with
 |none=>grind
 |some j =>
  simp only[hi]at e⊢;obtain⟨o,ho,_⟩:=h.xH _ _ hi;grind
theorem eE(hi:i<L.size):(L.setIfInBounds i ab).getD j ae=ab↔j=i∨L.getD j ae=ab:=by simp only[dK];grind
theorem count_set:∀{l:List Bool}{i:Nat},l[i]?=aa ae->((l.set i ab).filter (λb=>!b)).length+1=(l.filter (λb=>!b)).length
 |[],_,h=>by grind
 |b::r,0,h=>by grind
 |b::r,i+1,h=>by simp at h;have:=count_set (l:=r) h;cases b<;>simp[List.set_cons_succ]<;>omega
theorem vG(t:Nat)(L:Array Bool):Region.linearise.go .any ops 0 t L []=[]:=by simp[Region.linearise.go]
theorem oP(n t:Nat)(L:Array Bool):Region.linearise.go .any ops (n+1) t L []=match(aX .any ops L)[t % (aX .any ops L).length]? with
  |some i=>i::Region.linearise.go .any ops n (t / (aX .any ops L).length) (L.setIfInBounds i ab) []
  |none=>[]:=by
 simp only[Region.linearise.go]
 change (match(aX .any ops L)[t % (aX .any ops L).length]? with
   |some i=>Region.linearise.go .any ops n (t / (aX .any ops L).length) (L.setIfInBounds i ab) [i]
   |none=>[].reverse)=_
 grind[linearise_go_acc]
def vF.arr(h:vF X N ops φ S x m free c p idx φ'){V:ak->St->Prop}{b:aU}{kk:List Item}(hb:b.kind≠.early){s0:St}(hQ:∀s a,cx N (S ops.size) s φ' a->aF (S ops.size) s->cO (S 0) s0 (S ops.size) s->fA X V (G (b.aT a kk) cs) s):
  ∀(l:Nat) (L:Array Bool),L.size=ops.size->(L.toList.filter (λb=>!b)).length<=l ->
   (∀i o,ops[i]?=aa o->L.getD i ae=ab->∀e∈o.after,dh e=ab->L.getD e.on ae=ab) ->
   ∀(k:Nat) (s:St) (a:Act),k<=ops.size->(∀f,f<ops.size->c f=ab->(L.getD f ae=ab↔f<k))->H9 N (S k) s (gp φ x idx L) a->aF (S k) s->cO (S 0) s0 (S k) s ->
   ∀t,fA X V (G (b.aT a (.inRegion ops (Region.linearise.go .any ops l t L [])::kk)) cs) s:=by
 have fin:∀(s:St) (a:Act),cx N (S ops.size) s φ' a->aF (S ops.size) s->cO (S 0) s0 (S ops.size) s->fA X V (G (b.aT a (.inRegion ops []::kk)) cs) s :=
  λs a a1 a2 a3=>.ctl a2 rfl (λ_=>iK) λs1 Q=>hQ s1 a (a1.rely Q a2) (a2.rely Q) (a3.trans Q.stepW)
 intro l;induction l with
 |zero =>
  intro L hs hf Z k s a W F q hh st;have A:∀i,i<ops.size->L.getD i ae=ab:=by
   intro i hi;have hm:L[i]'(by omega)∈L.toList:=by simp
   cases hb:L[i]'(by omega)with
   |true=>simp[dK,gg (by omega:i<L.size),hb]
   |false =>
    have:L[i]'(by omega)∈L.toList.filter (λb=>!b):=nE.2 ⟨hm,by grind⟩;grind
  intro t;rw[vG];obtain⟨a1,a2,a3⟩:=h.last A W F q hh st;grind
 |succ l ih =>
  intro L hs hf Z k s a W F q hh st;intro t;rw[oP];cases Vv:(aX .any ops L)[t % (aX .any ops L).length]? with
  |none =>
   have hr:aX .any ops L=[]:=by
    cases hr:aX .any ops L with
    |nil=>rfl
    |cons y ys =>
     grind[Nat.mod_lt]
   have A:∀i,i<ops.size->L.getD i ae=ab:=by
    intro i;induction i using Nat.strongRecOn with
    |_ i Zp =>
     intro hi;cases hb:L.getD i ae with
     |true=>rfl
     |false =>
      have hm:i∈aX .any ops L:=mem_ready.2 ⟨ops[i],gg hi,by
       grind,λe U Zq=>by
       have:=h.back i _ (gg hi) e U Zq
       grind⟩
      grind
   obtain⟨a1,a2,a3⟩:=h.last A W F q hh st;grind
  |some i =>
   have hi:=bL Vv;obtain⟨o,ho,UN,Mq⟩:=mem_ready.1 hi;have O:i<ops.size:=(eX.1 ho).1;have I:¬L.getD i ae=ab:=by grind
   have Vw:=h.cl (λj=>L.getD j ae=ab) Z;have XE:∀g,p g i->¬L.getD g ae=ab:=λg hg hL=>I ((Vw g i hg).1 hL);have hup:∀g,p i g->L.getD g ae=ab:=λg hg=>by grind
   have C:(L.setIfInBounds i ab).size=ops.size:=by grind
   have E:((L.setIfInBounds i ab).toList.filter (λb=>!b)).length<=l:=by
    have h1:L.toList[i]?=aa ae:=by rw[y7,gg (by omega:i<L.size)];simpa[dK,gg (by omega:i<L.size)]using I
    grind[count_set]
   have Vx:∀j o',ops[j]?=aa o'->(L.setIfInBounds i ab).getD j ae=ab->∀e∈o'.after,dh e=ab->(L.setIfInBounds i ab).getD e.on ae=ab:=by grind[eE]
   have Zr:cx N (S k) s (m i) a:=q.IF λt σ s v T=>h.RU i o ho t σ s v (by
    unfold gp at T;cases u:idx t with
    |none=>grind
    |some j =>
     simp only[u]at T⊢;split
     .grind
     .split
      .grind
      .trivial)
   have M:∀(σ':List bm) (s':St) (v:aj),cO (S k) s σ' s'->dk σ' s' v (x i)->H9 N σ' s' (gp φ x idx (L.setIfInBounds i ab)) (a.put o.dst v):=by
    intro σ' s' v r T;cases hd:o.dst with
    |none =>
     refine⟨q.size,q.defers.imp λ_ h1=>h1.mono r.ext,λt=>?_⟩;have z:=(q.slot t).mono r.ext hh.len;simp only[Act.put];unfold gp at z⊢;cases u:idx t with
     |none=>grind
     |some j =>
      simp only[u]at z⊢;obtain⟨oj,Vy,Vz⟩:=h.xH _ _ u;grind[eE]
    |some d =>
     obtain⟨Zs,Zt⟩:=h.IG i o d ho hd;refine⟨by simp[Act.put,q.size],q.defers.imp λ_ h1=>h1.mono r.ext,λt=>?_⟩;simp only[Act.put];by_cases e:d=t
     .subst e;have Zu:d<a.tmps.size:=by rw[q.size];exact Zt
      simp only[dK,vj Zu,gx];unfold gp;simp only[Zs];rw[bc ((eE (by omega)).2 (.inl rfl))];exact T
     .have z:=(q.slot t).mono r.ext hh.len;simp only[dK]at z⊢;rw[nv e];unfold gp at z⊢;cases u:idx t with
      |none=>grind
      |some j =>
       simp only[u]at z⊢;obtain⟨oj,Vy,Vz⟩:=h.xH _ _ u;grind[eE]
   have B:∀(k':Nat),k'<=ops.size->OA X N ops.toList o (m i) (S k) (x i) (S k')->(∀f,f<ops.size->c f=ab->((L.setIfInBounds i ab).getD f ae=ab↔f<k')) ->
     fA X V (G (b.aT a (.inRegion ops (i::Region.linearise.go .any ops l (t / (aX .any ops L).length) (L.setIfInBounds i ab) [])::kk)) cs) s:=by intro k' XB Zv VA;have:=Zv s a Zr hh b kk cs V i (Region.linearise.go .any ops l (t / (aX .any ops L).length) (L.setIfInBounds i ab) []) hb (by grind);simp only[pw]at this;exact this λv s' T jL r=>ih _ C E Vx k' s' _ XB VA (M _ _ _ r T) jL (st.trans r) _
   have same:c i=ae->∀f,f<ops.size->c f=ab->((L.setIfInBounds i ab).getD f ae=ab↔f<k):=by grind[eE]
   cases n:free i with
   |true =>
    obtain⟨hq,Y⟩:=h.all i o ho n;exact B k W (Y k) (same hq)
   |false =>
    have w:=h.one i o ho n;have K:S i=S k:=by
     rcases Nat.le_total k i with R|R
     .refine h.chain R λg h1 h2=>?_;cases U:c g with
      |false=>rfl
      |true =>
       exfalso;rcases h.comp i g O (by omega) U (by omega) n with⟨_,hc⟩|⟨hc,_⟩
       .grind
       .omega
     .refine(h.chain R λg h1 h2=>?_).symm;cases U:c g with
      |false=>rfl
      |true =>
       exfalso;have hLg:=(F g (by omega) U).2 h2;by_cases PC:g=i
       .grind
       .rcases h.comp i g O (by omega) U (λe=>PC e.symm) n with⟨hc,_⟩|⟨_,hc⟩
        .omega
        grind
    rw[K]at w;cases H:c i with
    |false =>
     rw[h.quiet i H,K]at w;exact B k W w (same H)
    |true =>
     refine B (i+1) (by omega) w λf RV XF=>?_;rw[eE (by omega)];by_cases J:f=i
     .grind
     .simp only[J,false_or];rcases h.comp i f O RV XF (λe=>J e.symm) n with⟨h1,hc⟩|⟨h1,hc⟩
      .grind
      grind
end
def Jy(P:aK):List TypeDesc->List Field->Nat->Prop
 |[],[],_=>True
 |d::ds,f::fs,i=>f.name≠ "_"/\f.offset=i/\P.underlying f.type=aa d/\(match d with|.int _|.string|.bool=>True|_=>False)/\Jy P ds fs (i+1)
 |_,_,_=>False
def Te(d:Nat)(xs ys:Array aj)(f:Field)(_:Option Bool×Unit):Sem (ForInStep (Option Bool×Unit)) :=
 if f.name= "_" then pure (ForInStep.yield (af,()))
 else do
  let a<-part f.type xs f.offset;let b<-part f.type ys f.offset;let r<-Op.equalIn d f.type a b
  if r=ae then pure (ForInStep.done (aa ae,()))else pure (ForInStep.yield (af,()))
def r5{P:aK}(w:aA)(d:Nat)(xs ys:Array aj):∀{ds:List TypeDesc}{fs:List Field}{i:Nat}{vs ws:List aj}{b:Bool},Jy P ds fs i->jD ds vs ws=aa b->(∀j v,vs[j]?=aa v->xs[i+j]?=aa v)->(∀j v,ws[j]?=aa v->ys[i+j]?=aa v) ->
  (Op.eqFields (d+1) xs ys fs).run P w=.ok b w/\∀es,(forIn fs (af,()) (Te (d+1) xs ys)).events P w es=es
 |[],[],i,[],[],b,_,h,_,_=>by cases h;simp[Op.eqFields]
 |[],[],i,_::_,_,b,_,h,_,_=>by cases h
 |[],[],i,[],_::_,b,_,h,_,_=>by cases h
 |[],_::_,i,_,_,b,s,_,_,_=>s.elim
 |_::_,[],i,_,_,b,s,_,_,_=>s.elim
 |t::ds,f::fs,i,[],_,b,_,h,_,_=>by cases h
 |t::ds,f::fs,i,_::_,[],b,_,h,_,_=>by cases h
 |t::ds,f::fs,i,v::vs,u::us,b,⟨A,x,p,F,G⟩,h,C,B=>by
  simp only[jD]at h;cases m:qR t v u with
  |none=>grind
  |some a =>
   cases y:jD ds vs us with
   |none=>grind
   |some b' =>
    simp[m,y]at h;subst h;obtain⟨H,o⟩:=r5 w d xs ys G y (λj v E=>by have:=C (j+1) v (by grind);grind) (λj v E=>by have:=B (j+1) v (by grind);grind);have e:xs[i]?=aa v:=by simpa using C 0 v rfl
    have c:ys[i]?=aa u:=by simpa using B 0 u rfl
    have l:(isAgg f.type).run P w=.ok ae w:=by unfold isAgg underlying;cases t<;>simp at F<;>simp[p]
    have n:∀(g:Array aj) (z:aj),g[i]?=aa z->(part f.type g f.offset).run P w=.ok z w:=by intro g z q;unfold part;simp[l,x,q]
    have k:∀(g:Array aj) (z:aj),g[i]?=aa z->∀es,(part f.type g f.offset).events P w es=es:=by intro g z q es;unfold part;simp[l,x,q]
    have r:∀es,(Op.equalIn (d+1) f.type v u).events P w es=es:=by
     intro es;unfold qR at m;split at m<;>first
      |(cases m;done)
      |(unfold Op.equalIn;simp[underlying,p];done)
      |(unfold Op.equalIn;simp[underlying,p];split<;>rfl)
    have D:(Op.equalIn (d+1) f.type v u).run P w=.ok a w:=by unfold qR at m;grind[run_equalIn_int,run_equalIn_string,run_equalIn_bool]
    refine⟨?_,λes=>?_⟩
    .rw[Op.eqFields.eq_2,bc A];simp only[bU,n xs v e,n ys u c,D,cw];cases a
     .simp
     grind
    .rw[List.forIn_cons];simp only[Te,A,b6,aP,bU,n xs v e,n ys u c,D,cw,aV,k xs v e,k ys u c,r];cases a
     .simp
     .simpa using o es
def lL{fs:List Field}{ds:List TypeDesc}(d:P.underlying t=aa (.struct fs.toArray))(c:P.stoodInHeld t=ae)(f:P.eqGuardType P.depth t=ae)(g:Jy P ds fs 0):
  P.eqGuardType P.depth t=ae/\∀(w:aA) (vs ws:List aj) (b:Bool),jD ds vs ws=aa b->(Op.equal t (.agg vs.toArray) (.agg ws.toArray)).run P w=.ok b w/\∀es,(Op.equal t (.agg vs.toArray) (.agg ws.toArray)).events P w es=es:=by
 refine⟨f,λw vs ws b h=>?_⟩;have e:P.fieldsOf t=fs.toArray:=by unfold Program.fieldsOf;rw[d]
 have key:=r5 w 9998 vs.toArray ws.toArray g h (λj v k=>by grind) (λj v k=>by grind);refine⟨?_,λes=>?_⟩
 rotate_left
 .show (Op.equalIn (9999+1) t _ _).events P w es=es;have i:=key.2 es;unfold Op.equalIn;simp[underlying,d,c];show Result.evThen ((forIn fs (af,()) (Te 9999 vs.toArray ws.toArray)).run P w) ((forIn fs (af,()) (Te (9998+1) vs.toArray ws.toArray)).events P w es) _=es;rw[i];cases(forIn fs (af,()) (Te 9999 vs.toArray ws.toArray)).run P w with
  |ok a w'=>obtain⟨o,_⟩:=a;cases o<;>rfl
  |halt x w'=>rfl
 show(Op.equalIn (9999+1) t _ _).run P w=_;grind[run_equalIn_agg]
def OF:List TypeDesc->List A->List A->Option Bool
 |[],[],[]=>aa ab
 |.int _::ds,.c (.int k a)::cs,.c (.int k' b)::es=>match GZ k k' with
  |true=>match OF ds cs es with
   |some r=>aa ((a==b)&&r)
   |none=>af
  |false=>af
 |.string::ds,.c (.str a)::cs,.c (.str b)::es=>match OF ds cs es with
  |some r=>aa ((a==b)&&r)
  |none=>af
 |.bool::ds,.c (.bool a)::cs,.c (.bool b)::es=>match OF ds cs es with
  |some r=>aa ((a==b)&&r)
  |none=>af
 |_,_,_=>af
def DY:∀{ds:List TypeDesc}{cs es:List A}{b:Bool}{vs ws:List aj},OF ds cs es=aa b->dT σ s vs cs->dT σ s ws es->jD ds vs ws=aa b:=by
 intro ds;induction ds with
 |nil =>
  intro cs es b vs ws h c e;cases cs<;>cases es<;>simp only[OF,reduceCtorEq]at h
  cases vs<;>cases ws<;>first|exact c.elim|exact e.elim|(simpa[jD]using h)
 |cons d ds ih =>
  intro cs es b vs ws h c e;unfold OF at h;split at h
  .grind
  .rename_i m i k a j k' b' es' heq;cases heq;split at h
   .rename_i l;cases zR l;split at h
    .rename_i r f;cases h;cases vs with
     |nil=>exact c.elim
     |cons v vs=>cases ws with
      |nil=>exact e.elim
      |cons w ws =>
       obtain⟨v1,g⟩:=c;obtain⟨w1,w2⟩:=e;cases(show Rd s.M v (.int k a)from v1);cases(show Rd s.M w (.int k b')from w1);simp[jD,qR,ih f g w2]
    grind
   grind
  .rename_i i a j b' es' heq;cases heq;split at h
   .rename_i r f;cases h;cases vs with
    |nil=>exact c.elim
    |cons v vs=>cases ws with
     |nil=>exact e.elim
     |cons w ws =>
      obtain⟨v1,g⟩:=c;obtain⟨w1,w2⟩:=e;cases(show Rd s.M v (.str a)from v1)with
      |str hx _ =>
      cases(show Rd s.M w (.str b')from w1)with
      |str hy _ =>
      simp only[jD,qR,ih f g w2];grind[ByteArray.toList_eq]
   grind
  .rename_i i a j b' es' heq;cases heq;split at h
   .rename_i r f;cases h;cases vs with
    |nil=>exact c.elim
    |cons v vs=>cases ws with
     |nil=>exact e.elim
     |cons w ws =>
      obtain⟨v1,g⟩:=c;obtain⟨w1,w2⟩:=e;cases(show Rd s.M v (.bool a)from v1);cases(show Rd s.M w (.bool b')from w1);simp[jD,qR,ih f g w2]
   grind
  grind
section
variable {T:List (Nat×TI)}
def lF:BinOp->Bool->Option Bool
 |.eql,b=>aa b
 |.neq,b=>aa (!b)
 |_,_=>af
def tS{x y:aj}{b c:Bool}(d:match x,y with|.agg _,.agg _=>True|.bool _,.bool _=>True|_,_=>False)(a:(Op.equal t x y).run P w=.ok b w)(h:lF op b=aa c):
  (binOp op t x y).run P w=.ok (.bool c) w:=by
 cases op<;>simp only[lF,reduceCtorEq,dm]at h
 .subst h;cases x<;>cases y<;>simp only at d<;>simp[binOp,a]
 .subst h;cases x<;>cases y<;>simp only at d<;>simp[binOp,a]
def oY{x y:aj}{b c:Bool}(d:match x,y with|.agg _,.agg _=>True|.bool _,.bool _=>True|_,_=>False)(e:(Op.equal t x y).run P w=.ok b w)(a:∀es,(Op.equal t x y).events P w es=es)(h:lF op b=aa c)(es:Array Event):
  (binOp op t x y).events P w es=es:=by cases op<;>simp only[lF,reduceCtorEq,dm]at h<;>(cases x<;>cases y<;>simp only at d<;>simp[binOp,a])
def wq(op:BinOp)(t:av)(x y:aE)(xs ys:Array aj)(w:aA)(a:P.eqGuardType P.depth t=ae)(es:Array Event):(eqGuard op t x y (.agg xs) (.agg ys)).events P w es=es:=by cases op<;>simp[eqGuard,a]
theorem bF.structEq(u:dj P T)(h:o.op=.binOp op t x y ty){i:TI}(hi:bG T t=aa i)(m:i.eq≠[]){cs es:List A}{b c:Bool}(v:η x=.e (.agg cs))(r:η y=.e (.agg es))(l:OF i.eq cs es=aa b)(q:lF op b=aa c):bF P o η σ (.e (.one (.c (.bool c)))) σ:=by refine .quiet λs z hh hr=>?_;have h1:=hr x;have h2:=hr y;rw[v]at h1;rw[r]at h2;obtain⟨vs,n,g⟩:=h1;obtain⟨j,p,d⟩:=h2;obtain⟨k,heq⟩:=(u t i hi).eqs m;have a:=tS (x:=.agg vs.toArray) (y:=.agg j.toArray) aq (heq s.w vs j b (DY l g d)).1 q;have f:=oY (x:=.agg vs.toArray) (y:=.agg j.toArray) aq (heq s.w vs j b (DY l g d)).1 (heq s.w vs j b (DY l g d)).2 q;refine⟨.bool c,?_,Rd.bool,by simp only[an,h,n,p,aP,run_eqGuard_agg s.w op t x y _ _ k,wq op t x y _ _ s.w k,aV,bU,cw,a,f,Sem.events_pure]⟩;simp only[an,h,n,p,bU,run_eqGuard_agg s.w op t x y _ _ k,cw,a,cY]
theorem bF.PR(q:dj P T)(h:o.op=.binOp op t x y ty){i:TI}(hi:bG T t=aa i)(u:i.desc=.bool){a b c:Bool}(r:η x=.e (.one (.c (.bool a))))(p:η y=.e (.one (.c (.bool b))))(m:lF op (a==b)=aa c):bF P o η σ (.e (.one (.c (.bool c)))) σ:=by
 refine .quiet λs n hh hr=>?_;have h1:=hr x;have h2:=hr y;rw[r]at h1;rw[p]at h2;replace h1:=fM h1;replace h2:=fM h2;generalize g:n x=vx at h1;generalize j:n y=vy at h2;cases h1;cases h2;have k:P.underlying t=aa .bool:=by rw[(q t i hi).RS,u]
 have d:=tS (P:=P) (w:=s.w) (x:=.bool a) (y:=.bool b) aq (run_equal_bool s.w t a b k) m;have l:∀es,(Op.equal t (.bool a) (.bool b)).events P s.w es=es:=λes=>by show(Op.equalIn (9999+1) t _ _).events P s.w es=es;unfold Op.equalIn;simp[underlying,k]
 have f:=oY (P:=P) (w:=s.w) (x:=.bool a) (y:=.bool b) aq (run_equal_bool s.w t a b k) l m;refine⟨.bool c,?_,Rd.bool,by simp only[an,h,g,j,aP,eqGuard_at_bool,Sem.events_pure,cY,aV,bU,cw,d,f]⟩;simp only[an,h,g,j,bU,eqGuard_at_bool,cY,cw,d]
def bF.SK(h:o.op=.binOp .xor t x y ty){a b:Int}(p:η x=.e (.one (.c (.int .i64 a))))(m:η y=.e (.one (.c (.int .i64 b))))(q:0<=a)(h1:0<=b):
  bF P o η σ (.e (.one (.c (.int .i64 ((a.toNat ^^^ b.toNat:Nat):Int))))) σ:=by
 refine .quiet λs l hh hr=>?_;have e1:=hr x;have e2:=hr y;rw[p]at e1;rw[m]at e2;replace e1:=fM e1;replace e2:=fM e2;generalize f:l x=vx at e1;generalize g:l y=vy at e2;cases e1 with|int ha =>
 cases e2 with|int hb =>
 have n:a.toNat ^^^ b.toNat<2 ^ 63:=by apply Nat.xor_lt_two_pow<;>simp only[bt]at ha hb<;>omega
 have k:bt .i64 ((a.toNat ^^^ b.toNat:Nat):Int):=by simp only[bt];omega
 refine⟨.int .i64 ((a.toNat ^^^ b.toNat:Nat):Int),?_,.int k,?_⟩
 rotate_left
 .simp only[an,h,f,g,aP,gE,jy,aV,Go.binOp,cT,fD,b6,Op.intBits,bU,cw,cY,Sem.events_pure]
 have d:((BitVec.ofInt 64 a) ^^^ (BitVec.ofInt 64 b)).toNat=a.toNat ^^^ b.toNat:=by rw[BitVec.toNat_xor,BitVec.toNat_ofInt,BitVec.toNat_ofInt];simp only[bt]at ha hb;congr 1<;>omega
 have i:(BitVec.ofInt IntKind.i64.bits a ^^^ BitVec.ofInt IntKind.i64.bits b).toNat=a.toNat ^^^ b.toNat:=d;have j:(Go.binOp .xor t (.int .i64 a) (.int .i64 b)).run P s.w=.ok (.int .i64 ((a.toNat ^^^ b.toNat:Nat):Int)) s.w:=by simp only[Go.binOp,cT,fD,b6,Op.intBits,cY];grind[ma]
 simp only[an,h,f,g,bU,gE,cw,j,cY]
def bF.GK(G:dj P T){k dst:av}(h:o.op=.convert k dst x){i i2 ie:TI}(hi:bG T k=aa i)(y:bG T dst=aa i2)(K:i.desc=.slice E)(z:i2.desc=.string)(L:bG T E=aa ie)(F:ie.desc=.int .u8){tt:Bool}{r:List UInt8}(N:∀s v,dk σ s v (η x)->Rd s.M v (.sl tt 1 n es))(hb:vN es 0 n=aa r):bF P o η σ (.e (.one (.c (.str r)))) σ:=by
 refine .nL λs U hh hr=>?_;have h1:=N s _ (hr x);obtain⟨vs,I,b⟩:=dE (P:=P) hh h1;obtain⟨a,cap,Q,q,J,O,_⟩:=h1.flat;have H:n<=9223372036854775807:=by omega
 have A:vs.length=n:=by rw[I.len];omega
 obtain⟨xs,e1,e2⟩:=yo (M:=s.M) (vs:=vs) hb A (λj hj c S=>by
  obtain⟨v,R,p2⟩:=I.rd j hj 0 c (by grind)
  grind)
 have C:=(G k i hi).run_underlying (w:=s.w);have f:=(G dst i2 y).run_underlying (w:=s.w);have l:=(G E ie L).run_underlying (w:=s.w);rw[K]at C;rw[z]at f;rw[F]at l;have D:r.length<=9223372036854775807:=by grind
 have g:∃u:ByteArray,(Conv.bytesToString (.slice a n cap)).run P s.w=.ok (.string u) s.w/\u.data.toList=r:=by
  cases a with
  |none =>
   have p:r=[]:=by
    have:vs=[]:=by rw[q]at b;have h2:=b.1;simp[Builtin.firstCells]at h2;grind
    grind
   exact⟨ByteArray.empty,by simp[Conv.bytesToString],by rw[p];rfl⟩
  |some ad =>
   rw[q]at b;have h2:=b.1;simp only[Builtin.firstCells,k6]at h2;refine⟨⟨#[]++(xs.map λx=>UInt8.ofNat x.toNat).toArray⟩,?_,by grind⟩;simp only[Conv.bytesToString,bU,h2,cw,e1];rw[List.forIn_toArray,oi (P:=P) s.w (λ_ _=>rfl) xs ByteArray.empty];rfl
 obtain⟨u,m,B⟩:=g;refine⟨.string u,?_,Rd.str B D,?_⟩
 rotate_left
 .intro e d;simp only[an,h,q,aP,convert,C,f,aV,cw,l,m,bU,events_underlying,Sem.events_pure]at d;cases a with
  |none=>simp[Conv.bytesToString]at d
  |some ad =>
   have t:=gi (P:=P) hh (h1.Dl (λ_ _=>rfl)) (w:=s.w) rfl;rw[q]at b t;have h2:=b.1;simp only[Builtin.firstCells,k6]at h2 t;unfold Conv.bytesToString at d;simp only at d;rw[aP,h2,aV,c9.bind (P:=P) ?_ λ_=>.pure]at d
   .grind [qE]
   .rw[List.forIn_toArray];refine c9.IN (λx s=>?_) _ _;split
    .exact .pure
    .exact .bind .stuck λ_=>.pure
 simp only[an,h,q,bU,convert,C,f,cw,l,m,cY]
end
def vO(η:aE->D):List aE->Option (List C)
 |[]=>aa []
 |x::r=>match η x with
  |.e (.one (.c c))=>match vO η r with
   |some q=>aa (c::q)
   |none=>af
  |_=>af
def wu{σ:List bm}{s:St}{a:aE->aj}{η:aE->D}(d:∀y,dk σ s (a y) (η y)):∀{xs:List aE}{cs:List C},vO η xs=aa cs->xs.length=cs.length/\∀(j:Nat)(c:C),cs[j]?=aa c->∃v,(xs.map a)[j]?=aa v/\Rd s.M v c
 |[],cs,h=>by cases h;grind
 |x::r,cs,h=>by
  simp only[vO]at h;split at h
  .rename_i c e;split at h
   .rename_i q f;cases h;obtain⟨k,i⟩:=wu d f;refine⟨by grind,λj g b=>?_⟩;cases j with
    |zero =>
     simp at b;subst b;have:=d x;rw[e]at this;exact⟨a x,by simp,fM this⟩
    |succ j=>grind
   grind
  grind
section
variable {T:List (Nat×TI)}
theorem bF.makeFunc{fn:Fn}{a b:Array aE}(h:o.op=.makeFunc fn a b){g f:List C}(l:vO η a.toList=aa g)(hb:vO η b.toList=aa f):bF P o η σ (.e (.one (.c (.fn fn g f)))) σ:=by
 refine .quiet λs d hh hr=>?_;obtain⟨a1,a2⟩:=wu hr l;obtain⟨n,m⟩:=wu hr hb;have k:a.map d=(a.toList.map d).toArray:=by grind
 have i:b.map d=(b.toList.map d).toArray:=by grind
 refine⟨.func fn (a.toList.map d).toArray (b.toList.map d).toArray,?_,?_,by simp only[an,h,Instr.makeFunc];rfl⟩
 .simp only[an,h,Instr.makeFunc,k,i];rfl
 .refine Rd.fn _ _ (by grind) (by grind) (λj=>((a.toList.map d)[j]?).getD ai) (λj=>((b.toList.map d)[j]?).getD ai) ?_ ?_ ?_ ?_
  .grind
  .grind
  .grind
  grind
def Bn:TypeDesc->Bool
 |.interface _=>ab
 |_=>ae
def uY(t:av):D->Option C
 |.e (.one (.c c))=>aa (.ifs t c)
 |.e (.agg cs)=>match gU cs with
  |some q=>aa (.Mo t q)
  |none=>af
 |_=>af
def DZ{d:D}{c:C}(h:uY t d=aa c)(r:dk σ s v d):Rd s.M (.iface t v) c:=by
 unfold uY at h;split at h
 .cases h;exact Rd.ifs (fM r) (fM r).cell
 .split at h
  .rename_i q i;cases h;obtain⟨vs,rfl,f⟩:=r;have b:=lj i f;refine Rd.Mo (by have:=b.length;grind) (λj=>(vs[j]?).getD ai) (λj g=>by grind) λj c g=>?_;obtain⟨v,k,e⟩:=b.get (j:=j) (a:=.c c) (by grind);rw[k];exact e
  grind
 grind
theorem bF.makeInterface(f:dj P T){t:av}{x:aE}(h:o.op=.makeInterface t x){i:TI}(hi:bG T t=aa i)(b:Bn i.desc=ae){c:C}(g:uY t (η x)=aa c):bF P o η σ (.e (.one (.c c))) σ:=by
 refine .quiet λs j hh hr=>?_;have d:=(f t i hi).run_underlying (w:=s.w);refine⟨.iface t (j x),?_,DZ g (hr x),?_⟩
 rotate_left
 .simp only[an,h,Instr.makeInterface,aP,bU,d,aV,cw,events_underlying];cases a:i.desc<;>rw[a]at b<;>first|(cases b;done)|simp
 simp only[an,h,Instr.makeInterface,bU,d,cw];cases a:i.desc<;>rw[a]at b<;>first|(cases b;done)|simp
end
def A4(op:BinOp)(k:IntKind)(a:Int)(k':IntKind)(b:Int):Option (Int×List Prop) :=
 match k with
 |.u64=>match op with
  |.shl=>aa (((a.toNat*2 ^ b.toNat % 18446744073709551616:Nat):Int),[0<=b,b<=64])
  |.shr=>aa (((a.toNat / 2 ^ b.toNat:Nat):Int),[0<=b,b<=64])
  |.and=>match k' with|.u64=>aa (((a.toNat &&& b.toNat:Nat):Int),[])|_=>af
  |.xor=>match k' with|.u64=>aa (((a.toNat ^^^ b.toNat:Nat):Int),[])|_=>af
  |_=>af
 |_=>af
section
variable {T:List (Nat×TI)}
theorem bits_nat{a:Int}(h:bt .u64 a):(BitVec.ofInt IntKind.u64.bits a).toNat=a.toNat:=by rw[BitVec.toNat_ofInt];simp only[bt]at h;simp only[IntKind.bits];omega
def GD{k k':IntKind}{a b c:Int}(t:av)(f:A4 op k a k' b=aa (c,obs))(ho:ar obs)(g:bt k a)(m:bt k' b)(w:aA):
  bt k c/\(Go.binOp op t (.int k a) (.int k' b)).run P w=.ok (.int k c) w/\(Go.binOp op t (.int k a) (.int k' b)).events P w #[]=#[]:=by
 unfold A4 at f;split at f
 .split at f
  .cases f;obtain⟨l,j⟩:0<=b/\b<=64:=ho;have p:a.toNat*2 ^ b.toNat % 18446744073709551616<18446744073709551616:=iO _ (by decide);simp only[bt]at g;refine⟨by simp only[bt];omega,?_⟩;have h:IntKind.wrap .u64 (a*2 ^ (min b.toNat IntKind.u64.bits))=((a.toNat*2 ^ b.toNat % 18446744073709551616:Nat):Int):=by
    have i:min b.toNat IntKind.u64.bits=b.toNat:=by rw[show IntKind.u64.bits=64 from rfl];omega
    have n:a=(a.toNat:Int):=by omega
    rw[i,n];simp only[IntKind.wrap,IntKind.bits,IntKind.signed,bD];grind
   simp only[Go.binOp,Op.shift,aW (show¬b<0 by omega),h];exact⟨rfl,rfl⟩
  .cases f;obtain⟨l,j⟩:0<=b/\b<=64:=ho;simp only[bt]at g;have o:a.toNat / 2 ^ b.toNat<=a.toNat:=Nat.div_le_self _ _;refine⟨by simp only[bt];grind,?_⟩;have h:a.fdiv (2 ^ (min b.toNat IntKind.u64.bits))=((a.toNat / 2 ^ b.toNat:Nat):Int):=by
    have i:min b.toNat IntKind.u64.bits=b.toNat:=by rw[show IntKind.u64.bits=64 from rfl];omega
    grind
   simp only[Go.binOp,Op.shift,aW (show¬b<0 by omega),h];exact⟨rfl,rfl⟩
  .split at f
   .cases f;have j:a.toNat &&& b.toNat<=a.toNat:=Nat.and_le_left;have d:bt .u64 ((a.toNat &&& b.toNat:Nat):Int):=by simp only[bt]at g⊢;omega
    refine⟨d,?_⟩;have e:(BitVec.ofInt IntKind.u64.bits a &&& BitVec.ofInt IntKind.u64.bits b).toNat=a.toNat &&& b.toNat:=by grind[bits_nat]
    simp only[Go.binOp,cT,fD,b6,Op.intBits,e,ma d];exact⟨rfl,rfl⟩
   grind
  .split at f
   .cases f;have d:bt .u64 ((a.toNat ^^^ b.toNat:Nat):Int):=by simp only[bt]at g m⊢;have:a.toNat ^^^ b.toNat<2 ^ 64:=Nat.xor_lt_two_pow (by omega) (by omega);omega
    refine⟨d,?_⟩;have e:(BitVec.ofInt IntKind.u64.bits a ^^^ BitVec.ofInt IntKind.u64.bits b).toNat=a.toNat ^^^ b.toNat:=by grind[bits_nat]
    simp only[Go.binOp,cT,fD,b6,Op.intBits,e,ma d];exact⟨rfl,rfl⟩
   grind
  grind
 grind
theorem bF.bits{k k':IntKind}{a b c:Int}(h:o.op=.binOp op t x y ty)(l:η x=.e (.one (.c (.int k a))))(j:η y=.e (.one (.c (.int k' b))))(m:A4 op k a k' b=aa (c,obs))(ho:ar obs):
  bF P o η σ (.e (.one (.c (.int k c)))) σ:=by
 refine .quiet λs i hh hr=>?_;have h1:=hr x;have h2:=hr y;rw[l]at h1;rw[j]at h2;replace h1:=fM h1;replace h2:=fM h2;generalize d:i x=vx at h1;generalize f:i y=vy at h2;cases h1 with|int ha =>
 cases h2 with|int hb =>
 obtain⟨n,g,p⟩:=GD (P:=P) t m ho ha hb s.w;exact⟨.int k c,by simp only[an,h,bU,d,f,gE,cw,g,cY],.int n,by simp[an,h,d,f,gE,jy,g,p]⟩
end
def mZ(i:Nat)(ci:List C)(es:Nat->List C):Nat->List C:=λj=>if j=i then ci else es j
def nQ(lo hi:Nat)(z:List C)(es:Nat->List C):Nat->List C:=λj=>if lo<=j/\j<hi then z else es j
section
variable {T:List (Nat×TI)}{g:Nat}
def JF(y:aF σ s)(h:σ[l]?=aa (.buf E k n es)){k' f:Nat}(t:gD σ s v (.bp l (.el g k' i f)))(p:g=n):
  ∃b c vs zs,s.β[l]?=aa ⟨.slice (aa ⟨b,0,af⟩) 0 c,[b]⟩/\v=.pointer (aa ⟨b,i*k'+f,af⟩)/\s.w.heap[b]?=aa (.cells (vs++zs).toArray E (0,0))/\(vs++zs).length=c*k/\n<=c/\c<=9223372036854775807/\Flat s.M k n es vs/\∀o,s.M b o=af:=by
 obtain⟨C,⟨b,c,d,r⟩,_,u⟩:=t;obtain⟨L,e,a⟩:=(u _ _ _ _ h).2 p;rw[d]at a;rcases y.box l _ L h e with⟨_,rfl⟩|⟨B,c1,vs,zs,rfl,j,A,m,z,q,x⟩
 .cases a
 .cases a;exact⟨b,c,vs,zs,e,r,j,A,m,z,q,x⟩
def JG{g:Nat->aj}:∀{ds:List C}{m:Nat},(∀j c,ds[j]?=aa c->Rd s.M (g (m+j)) c)->dT σ s ((bg ds.length).map λj=>g (m+j)) (ds.map A.c)
 |[],m,_=>trivial
 |d::ds,m,h=>by rw[en,y4];refine⟨h 0 d rfl,?_⟩;have:=JG (ds:=ds) (m:=m+1) (λj c a=>by have:=h (j+1) c (by grind);rwa [show m+1+j=m+(j+1) by omega]);grind[Function.comp_def]
theorem bF.VP(B:dj P T)(h:o.op=.indexAddr t x y){i ie:TI}(hi:bG T t=aa i)(G:i.desc=.slice E)(K:bG T E=aa ie){q m:Nat}{j:Int}{kk:IntKind}(L:η x=.e (.one (.bp l (.sl g ie.size q m))))(J:η y=.e (.one (.c (.int kk j))))(N:0<=j)(h1:j<m):bF P o η σ (.e (.one (.bp l (.el g ie.size (q+j.toNat) 0)))) σ:=by
 refine .quiet λs C hh hr=>?_;have f:=hr x;rw[L]at f;have h2:=hr y;rw[J]at h2;replace h2:=fM h2;generalize z:C y=vy at h2;cases h2;have d:=f;change gD σ s (C x) (.bp l _)at d;obtain⟨lv,⟨a,a0,cap,M,H,F,I,D,u,p⟩,n,v⟩:=d;obtain⟨b,rfl,rfl⟩:=p (by omega);have A:=(B t i hi).run_underlying (w:=s.w);rw[G]at A;obtain⟨k,rfl⟩:∃k:Nat,j=k:=⟨j.toNat,by omega⟩
 have r:k<m:=by omega
 refine⟨.pointer (aa ⟨b,(q+k)*ie.size,af⟩),?_,⟨lv,⟨b,M,u,by simp⟩,n,v⟩,?_⟩<;>
 simp[an,h,H,z,Instr.indexAt,asIntOf,A,(B E ie K).run_sizeOf,de,r,gI]
def bF.PT(n:dj P T){f:Nat}(h:o.op=.fieldAddr t x f){k q:Nat}{j:TI}(u:η x=.e (.one (.bp l (.el g k i q))))(p:jA T t f=aa (off,j)):bF P o η σ (.e (.one (.bp l (.el g k i (q+off))))) σ:=by refine .quiet λs v hh hr=>?_;have h1:=hr x;rw[u]at h1;have a:=h1;change gD σ s (v x) (.bp l _)at a;obtain⟨lv,⟨b,w,d,r⟩,c,m⟩:=a;exact⟨.pointer (aa ⟨b,i*k+q+off,af⟩),by simp[an,h,r,mh n p],⟨lv,⟨b,w,d,by grind⟩,c,m⟩,by simp[an,h,r,nV n p]⟩
theorem bF.VQ(h:o.op=.nilCheck x){d q:Nat}(n:η x=.e (.one (.bp l (.el g d i q)))):bF P o η σ (.e (.one (.bp l (.el g d i q)))) σ:=by refine .quiet λs j hh hr=>?_;have h1:=hr x;rw[n]at h1;have c:=h1;have a:=h1;change gD σ s (j x) (.bp l _)at a;obtain⟨lv,⟨b,r,m,f⟩,k,p⟩:=a;exact⟨j x,by simp[an,h,f],c,by simp[an,h,f]⟩
theorem bF.VR(p:dj P T)(h:o.op=.call {callee:=.builtin .len,args:=#[x],argTypes:=jN})(k:jN[0]?=aa t){i:TI}(hi:bG T t=aa i)(C:i.desc=.slice E){n q m:Nat}(u:η x=.e (.one (.bp l (.sl g n q m)))):bF P o η σ (.e (.one (.c (.int .i64 m)))) σ:=by
 refine .quiet λs D hh hr=>?_;have h1:=hr x;rw[u]at h1;have b:=h1;change gD σ s (D x) (.bp l _)at b;obtain⟨lv,⟨a,a0,cap,F,v,A,B,y,r,j⟩,f,z⟩:=b;have d:=(p t i hi).run_underlying (w:=s.w);rw[C]at d;refine⟨.int .i64 m,?_,Rd.int (by simp only[bt];omega),?_⟩<;>
 simp[an,h,resolve,invoke,builtin,Builtin.len_,v,d,goInt,k]
theorem bF.sliceB(B:dj P T){lo hi:Option aE}(h:o.op=.slice t x lo hi af){i ie:TI}(v:bG T t=aa i)(C:i.desc=.slice E)(F:bG T E=aa ie){q m:Nat}{d u:Option Int}(G:η x=.e (.one (.bp l (.sl g ie.size q m))))(hl:uu η lo=aa d)(A:uu η hi=aa u)(ho:ar (jz m d u)):bF P o η σ (.e (.one (.bp l (.sl g ie.size (q+cr 0 d) (cr m u-cr 0 d))))) σ:=by
 refine .quiet λst ρ hh hr=>?_;have h1:=hr x;rw[G]at h1;have f:=h1;change gD σ st (ρ x) (.bp l _)at f;obtain⟨lv,⟨a,a0,cap,J,z,j,D,p,r,n⟩,k,s⟩:=f;obtain⟨hb,I,H⟩:=nN (P:=P) (isS:=ab) j (iS hr hl) (iS hr A) ho st.w;have c:=(B t i v).run_underlying (w:=st.w);rw[C]at c;refine⟨.slice (if cap=cr 0 d then a else a.map (·.add (cr 0 d*ie.size))) (cr m u-cr 0 d) (cap-cr 0 d),?_,⟨lv,⟨_,a0,_,J,rfl,by omega,by omega,p,r,λy=>?_⟩,k,s⟩,by simp[an,h,z,Instr.sliceAt,c,Instr.slice,hb,pM (P:=P) (isS:=ab) j (iS hr hl) (iS hr A) ho st.w]⟩
 .simp[an,h,z,Instr.sliceAt,c,Instr.slice,hb,(B E ie F).run_sizeOf]
 .obtain⟨b,rfl,rfl⟩:=n (by omega);refine⟨b,rfl,?_⟩;rw[aW (by omega)];simp[de,gI]
def bF.SL(I:dj P T)(h:o.op=.load t x){f:Nat}{B:TI}{e:E1}(N:η x=.e (.one (.bp l (.el g k i f))))(z:g=n)(hl:σ[l]?=aa (.buf E k n es))(hi:bG T t=aa B)(H:mR B ((g8 f (es i)).map A.c)=aa e)(y:i<n):bF P o η σ (.e e) σ:=by
 refine .nL λs Q hh hr=>?_;have h1:=hr x;rw[N]at h1;obtain⟨b,X,vs,V,O,G,d,L,K,R,F,W⟩:=JF hh hl h1 z;have U:=F.width i y;let g:Nat->aj:=λj=>vs.getD (i*k+j) ai;have z:∀j c,(g8 f (es i))[j]?=aa c->vs[i*k+(f+j)]?=aa (g (f+j))/\Rd s.M (g (f+j)) c:=by intro j c hj;rw[m7,oF]at hj;obtain⟨v,v1,S⟩:=F.rd i y (f+j) c hj;grind
 have D:=JG (σ:=σ) (s:=s) (g:=g) (ds:=g8 f (es i)) (m:=f) (λj c hj=>(z j c hj).2);have a:∀(j:Nat) (v:aj),((bg (g8 f (es i)).length).map λj=>g (f+j))[j]?=aa v->s.w.cell? ⟨b,i*k+f+j,af⟩=aa v:=by
  intro j v hj;simp only[nD]at hj;by_cases p:j<(g8 f (es i)).length
  .simp[p]at hj;subst hj;have h2:=(z j _ (bn p)).1;simp only[aR,d];grind
  grind
 obtain⟨v,q,C⟩:=oV (s:=s) (σ:=σ) (P:=P) (I t B hi) (b:=b) (off:=i*k+f) (e:=e) a D H;refine⟨v,by simp[an,h,G,Instr.loadAt,Instr.sureAddr,q],C,λJ r=>?_⟩;have u:J∈(loadVar t ⟨b,i*k+f,af⟩).events P s.w #[]:=by
  have e:an Q o=(do pure (.value (<-loadVar t ⟨b,i*k+f,af⟩))):=by simp[an,h,G,Instr.loadAt,Instr.sureAddr]
  rw[e]at r;simpa[q]using r
 obtain⟨j,hj,rfl⟩:=jW (I t B hi) (n:=(g8 f (es i)).length) (λj hj=>⟨_,a j (g (f+j)) (by grind)⟩) (by have:=rL H;grind) J u;exact rJ (bL O) (by simp)
def Flat.put{ot:List aj}{f:Nat}{cc ci:List C}(h:Flat M k n es vs)(hi:i<n)(o:fh f cc (es i)=aa ci)(hl:ot.length=cc.length)(s:∀(j:Nat)(c:C),cc[j]?=aa c->∃v,ot[j]?=aa v/\Rd M v c):
  i*k+f+ot.length<=vs.length/\Flat M k n (mZ i ci es) (vs.take (i*k+f)++ot++vs.drop (i*k+f+ot.length)):=by
 obtain⟨h1,h2⟩:=pX o;have w:=h.width i hi;have hb:i*k+k<=n*k:=by have:=ek k (show i+1<=n by omega);grind
 have r:=h.len;have m:i*k+f+ot.length<=vs.length:=by omega
 have d:∀p,(vs.take (i*k+f)++ot++vs.drop (i*k+f+ot.length))[p]?=if p<i*k+f then vs[p]? else if p<i*k+f+ot.length then ot[p-(i*k+f)]? else vs[p]?:=by
  intro p;have x:(vs.take (i*k+f)).length=i*k+f:=by grind
  by_cases c1:p<i*k+f
  .grind
  .rw[aW c1];by_cases c2:p<i*k+f+ot.length
   .grind
   .rw[aW c2,fR (by grind),oF];grind
 refine⟨m,⟨by grind,λb a=>?_,λb a j c hj=>?_⟩⟩
 .simp only[mZ];split
  .grind
  .exact h.width b a
 .simp only[mZ]at hj;rw[d];split at hj
  .rename_i e;subst e;rw[h2]at hj;by_cases c1:j<f
   .rw[jo,iE (by grind),eK,bc c1]at hj;rw[bc (by omega)];exact h.rd b hi j c hj
   .by_cases c2:j<f+cc.length
    .rw[jo,fR (by grind),iE (by grind)]at hj;obtain⟨v,v1,q⟩:=s _ c hj;refine⟨v,?_,q⟩;rw[aW (by omega),bc (by omega),<-v1];congr 1;grind
    .rw[fR (by grind),oF]at hj;rw[aW (by omega),aW (by omega)];refine h.rd b hi j c ?_;grind
  .rename_i e;have u:j<k:=by have:=(cf.1 hj).1;have:=h.width b a;omega
   rcases cM b i with l|t
   .have:(b+1)*k<=i*k:=ek k l;rw[gI,Nat.one_mul]at this;rw[bc (by omega)];exact h.rd b a j c hj
   .have:(i+1)*k<=b*k:=ek k (by omega);rw[gI,Nat.one_mul]at this;rw[aW (by omega),aW (by omega)];exact h.rd b a j c hj
def aF.ee(hh:aF σ s)(hl:σ[l]?=aa (.buf E k n es)){d a:List aj}{i:Nat}(B:s.β[l]?=aa ⟨.slice (aa ⟨b,0,af⟩) 0 i,[b]⟩)(D:(vs++d).length=i*k)(p:n<=i)(q:i<=9223372036854775807){es':Nat->List C}(f:s.w.heap[b]?=aa (.cells (vs++d).toArray E (0,0)))(t:Flat s.M k n es' a)(x:a.length=vs.length)(A:∀o,s.M b o=af):
  aF (σ.set l (.buf E k n es')) {s with w:=s.w.setRow b (a++d).toArray}/\Step σ s (σ.set l (.buf E k n es')) {s with w:=s.w.setRow b (a++d).toArray}:=by
 have j:(s.w.setRow b (a++d).toArray).heap[b]?=aa (.cells (a++d).toArray E (0,0)):=setRow_heap s.w b _ _ E _ f;have m:∀c,c≠b->(s.w.setRow b (a++d).toArray).heap[c]?=s.w.heap[c]?:=λc e=>setRow_other s.w b c _ e;have r:s.β.set l ⟨.slice (aa ⟨b,0,af⟩) 0 i,[b]⟩=s.β:=by apply g9;grind
 obtain⟨H,F⟩:=hh.gy (M':=s.M) (w':=s.w.setRow b (a++d).toArray) (B':=.buf E k n es') (L':=⟨.slice (aa ⟨b,0,af⟩) 0 i,[b]⟩) hl B ⟨λ_=>rfl,ba _⟩ (by simp[World.setRow])
  (λc e G=>m c (by grind)) (λ_ _ _ _=>rfl) (λ_ _ _ h=>h) (λc z v y=>by
   have u:c≠b:=by grind
   have:=hh.mem c z v y;rw[<-this];simp only[aR]
   grind) (λc e=>⟨.inl e,by grind⟩) rfl rfl rfl
  (.inr ⟨b,i,a,d,rfl,j,by grind,p,q,t,A⟩)
 grind
def rU{α:Type}:∀{new l:List α},new.length=l.length->fh 0 new l=aa new
 |[],[],_=>rfl
 |[],_::_,h=>by grind
 |_::_,[],h=>by grind
 |n::ns,c::cs,h=>by simp only[fh,rU (new:=ns) (l:=cs) (by grind)]
def bF.IX(S:dj P T)(h:o.op=.store t x y){f:Nat}{H:TI}{new:List A}{cc ci:List C}(hx:η x=.e (.one (.bp l (.el g k i f))))(hg:g=n)(hl:σ[l]?=aa (.buf E k n es))(hi:bG T t=aa H)(Y:lC (η y)=aa new)(hn:new.length=H.size)(M:gU new=aa cc)(J:(es i).length=k->fh f cc (es i)=aa ci)(F:i<n):
  bF P o η σ .any (σ.set l (.buf E k n (mZ i ci es))):=by
 intro s c hh hr;have h1:=hr x;rw[hx]at h1;obtain⟨b,c0,vs,z,U,Q,a,L,I,N,O,R⟩:=JF hh hl h1 hg;have m:=mP Y (hr y);have q:=lj M m;have K:=dT.closed q;have p:(c y).cells.toList.length=cc.length:=by have:=q.length;grind
 replace J:=J (O.width i F);obtain⟨q1,q2⟩:=O.put F J p K;have B:(c y).cells.size=H.size:=by rw[<-hn,<-m.length,iW]
 obtain⟨Z,W⟩:=hh.ee hl U L I N a q2 (by grind) R;have G:=run_storeCells_at P b (i*k+f) E (c y).cells.toList 0 (vs++z).toArray s.w a (by grind) m.cell;have u:((vs++z).toArray.toList.take (i*k+f+0)++(c y).cells.toList++(vs++z).toArray.toList.drop (i*k+f+0+(c y).cells.toList.length))=vs.take (i*k+f)++(c y).cells.toList++vs.drop (i*k+f+(c y).cells.toList.length)++z:=by grind
 rw[u]at G;refine⟨.skip,_,?_,rfl,Z,W,?_⟩
 .simp[an,h,Q,Instr.storeAt,Instr.sureAddr,storeVar,(S t H hi).run_sizeOf,B,G]
 .intro V d;have e:an c o=(do storeVar t ⟨b,i*k+f,af⟩ (c y);pure .skip):=by simp[an,h,Q,Instr.storeAt,Instr.sureAddr]
  rw[e]at d;have D:V∈(storeCells ⟨b,i*k+f,af⟩ (c y).cells.toList).events P s.w #[]:=by
   simp only[storeVar,aP,(S t H hi).run_sizeOf,B,aV,events_sizeOf,cT,fD,b6,bU,cw,Sem.events_pure]at d;generalize(storeCells ⟨b,i*k+f,af⟩ (c y).cells.toList).run P s.w=r at d;cases r with
   |ok v w'=>simpa using d
   |halt x w'=>simpa using d
  rcases eh (c y).cells.toList 0 (vs++z).toArray s.w #[] a (by grind) m.cell V D with X|⟨j,_,_,rfl⟩
  .grind
  .exact k7 (bL U) (by simp) (R _)
end
section
def aF.zh(hh:aF σ s)(g:∀o,s.M b o=af)(i:∀o v,vs[o]?=aa v->s.w.cell? ⟨b,o,af⟩=aa v):
  aF (σ.map λ_=>.dead) {s with M:=λa o=>if a=b then vs[o]? else s.M a o}/\∀a o v,s.M a o=aa v->(if a=b then vs[o]? else s.M a o)=aa v:=by
 have c:=hh.kg;refine⟨⟨λa o v d=>?_,c.len,λl B L f h=>?_,c.fY,c.lt,c.own⟩,λa o v d=>?_⟩
 .by_cases e:a=b
  .grind
  .simp only[e,b6]at d;exact c.mem a o v d
 .have:=bL f;simp at this;rw[<-this.2];trivial
 grind
def eN.vk{M':Mem}{es:Array Event}(h:eN {s with M:=M'} es){L:Loc}(j:L∈s.β)(hb:b∈L.bs)(i:∀c o v,s.M c o=aa v->M' c o=aa v)(d:∀c o v,M' c o=aa v->c=b∨s.M c o=aa v):eN s es:=by
 intro e g;have h1:=h e g;unfold nJ at h1⊢;split at h1
 .obtain⟨a1,a2,a3⟩:=h1;refine⟨a1,a2,?_⟩;rcases a3 with a3|⟨a3,a4⟩|⟨a3,v,a4⟩
  .grind
  .refine .inr (.inl ⟨a3,λf=>?_⟩);have:=a4 f;rename_i a _;cases hm:s.M a.block a.off with
   |none=>rfl
   |some v=>grind
  grind
 all_goals exact h1
end
def H8(k:Nat)(f:Nat->Nat->aj):Nat->List C:=λi=>(bg k).map λj=>.val (f i j)
theorem pH{f:Nat->Nat->aj}{c:C}(h:(H8 k f i)[j]?=aa c):j<k/\c=.val (f i j):=by
 have a:j<k:=by have:=(cf.1 h).1;simpa[H8]using this
 simp[H8,a]at h;grind
def Dn{f:Nat->Nat->aj}(h:j<k):(H8 k f i)[j]?=aa (.val (f i j)):=by simp[H8,h]
def Rd.exact{M:Mem}{v:aj}{t:Bool}{k n:Nat}{es:Nat->List C}(h:Rd M v (.sl t k n es)):
  ∃f:Nat->Nat->aj,Rd M v (.sl t k n (H8 k f))/\(∀i,i<n->(es i).length=k)/\∀i,i<n->∀j c,(es i)[j]?=aa c->Rd M (f i j) c:=by
 cases h with
 |sl b off f a hb ht hk ha hm hr =>
  have d:∀i,i<n->∀j,j<k->∃c,(es i)[j]?=aa c:=λi hi j hj=>⟨_,bn (by grind)⟩
  refine⟨f,.sl b off f a hb ht (λi _=>by simp[H8]) ha (λi hi j c hj=>?_) (λi hi j c hj=>?_),hk,hr⟩
  .grind [pH]
  .obtain⟨h1,rfl⟩:=pH hj;obtain⟨e,h2⟩:=d i hi j h1;exact .val (hr i hi j e h2).cell
def z9{L:Loc}{a c:Option Addr}{cap:Nat}(d:σ[l]?=aa (.buf E k n es))(e:s.β[l]?=aa L)(f:L.v=.slice c 0 cap)(i:n<=cap)(g:cap<=9223372036854775807)(m:0<cap->∃b,c=aa ⟨b,0,af⟩/\a=aa ⟨b,0,af⟩):gD σ s (.slice a n cap) (.bp l (.sl n k 0 n)) :=
 ⟨L.v,⟨a,c,cap,cap,rfl,i,by omega,g,f,λh=>by grind⟩,(cf.1 d).1,λj k' n' es' he=>by rw[d]at he;cases he;exact⟨ba _,λ_=>⟨L,e,rfl⟩⟩⟩
def rD{ie:TI}(h:ly P o x y E ie){k:Nat}{es':Nat->List C}{ρ:aE->aj}(p:aF σ s)(h1:gD σ s (ρ x) (.bp l (.sl n ie.size 0 n)))(hl:σ[l]?=aa (.buf E ie.size n es))(V:Rd s.M (ρ y) (.sl tx ie.size k es'))(H:(n+k)*ie.bytes<=140737488355328):
  ∃nx s',(an ρ o).run P s.w=.ok nx s'.w/\Qd (σ.set l (.buf E ie.size (n+k) (cR n es es'))) s' nx (.e (.one (.bp l (.sl (n+k) ie.size 0 (n+k)))))/\aF (σ.set l (.buf E ie.size (n+k) (cR n es es'))) s'/\Step σ s (σ.set l (.buf E ie.size (n+k) (cR n es es'))) s'/\eN s ((an ρ o).events P s.w #[]):=by
 obtain⟨t,t2,i,i2,ho,hi,hd,u,r⟩:=h.op;have D:l<σ.length:=(cf.1 hl).1;obtain⟨lv,⟨a,a0,cap,q,hv,J,RQ,I,GA,Vh⟩,_,UB⟩:=h1;obtain⟨L,hL,U2⟩:=(UB _ _ _ _ hl).2 rfl;rw[GA]at U2;have Oo:q=cap:=by omega
 subst Oo;have N:0<q->∃b,a0=aa ⟨b,0,af⟩/\a=aa ⟨b,0,af⟩:=λh=>by grind
 have Q:l<s.β.length:=(cf.1 hL).1;have Y:=bL hL;have O:=p.box l _ L hl hL;rw[cN ho,hv];have row:0<q->∃b vs zs,a=aa ⟨b,0,af⟩/\L=⟨.slice (aa ⟨b,0,af⟩) 0 q,[b]⟩/\s.w.heap[b]?=aa (.cells (vs++zs).toArray E (0,0))/\(vs++zs).length=q*ie.size/\Flat s.M ie.size n es vs/\∀o,s.M b o=af:=by
  intro B;obtain⟨b,e1,e2⟩:=N B;rcases O with⟨_,rfl⟩|⟨m,c1,vs,zs,rfl,h3,h4,h5,h6,h7,h8⟩
  .grind
  grind
 by_cases h0:k=0
 .subst h0;have g:=iP (P:=P) (ty:=o.type) hi hd u r h.elem p (a:=a) J V;simp only[fS];have ha:cq n es (cR n es es'):=λi hi=>by simp[cR,hi]
  have hLB:eQ (σ.set l (.buf E ie.size n (cR n es es'))) ⟨s.β.set l L,s.M,s.w,s.own⟩ (.buf E ie.size n (cR n es es')) L:=by
   rcases O with h3|⟨m,c1,vs,zs,V,h3,h4,h5,h6,h7,h8⟩
   .exact .inl h3
   .exact .inr ⟨m,c1,vs,zs,V,h3,h4,h5,h6,h7.Dl ha,h8⟩
  have FI:=p.gy (M':=s.M) (w':=s.w) (B':=.buf E ie.size n (cR n es es')) (L':=L) hl hL ⟨λ_=>rfl,ba _⟩ (ba _) (λ_ _ _=>rfl) (λ_ _ _ _=>rfl) (λ_ _ _ h=>h) p.mem
   (λb H=>⟨.inl H,p.lt L Y b H⟩) rfl rfl rfl hLB
  refine⟨.value (.slice a n q),_,?_,?_,FI.1,FI.2,et (ju hi hd u r h.elem p J V)⟩
  .simp[g]
  .exact z9 (E:=E) (by rw[gw D]) (by grind) U2 J I N
 .by_cases f:n+k<=q
  .obtain⟨b,vs,zs,rfl,rfl,hw,F,hF,hM⟩:=row (by omega);obtain⟨d,LR,g⟩:=jU (P:=P) (ty:=o.type) hi hd u r h.elem p hw F V f;have Pk:vs.length=n*ie.size:=hF.len;have RR:d.length=k*ie.size:=LR.len;have Xx:n*ie.size+k*ie.size<=q*ie.size:=by rw[<-gI];exact ek _ f
   have X:((vs++zs).take (n*ie.size)++d++(vs++zs).drop (n*ie.size+d.length))=(vs++d)++zs.drop d.length:=by rw[<-Pk];simp[List.drop_append]
   rw[X]at g;have Mc:=setRow_heap s.w b _ ((vs++d)++zs.drop d.length).toArray E _ hw;have Du:∀m,m≠b->(s.w.setRow b ((vs++d)++zs.drop d.length).toArray).heap[m]?=s.w.heap[m]?:=λm K=>setRow_other s.w b m _ K;obtain⟨t1,W⟩:=p.gy (M':=s.M) (w':=s.w.setRow b ((vs++d)++zs.drop d.length).toArray) (B':=.buf E ie.size (n+k) (cR n es es')) (L':=⟨.slice (aa ⟨b,0,af⟩) 0 q,[b]⟩) hl hL ⟨λ_=>rfl,by omega⟩ (by simp[World.setRow])
    (λm K hn=>Du m (by grind)) (λ_ _ _ _=>rfl) (λ_ _ _ h=>h) (λm o' v hmv=>by
     have Bi:m≠b:=by grind
     have:=p.mem m o' v hmv;rw[<-this];simp only[aR]
     grind) (λm K=>⟨.inl K,by grind⟩) rfl rfl rfl
    (.inr ⟨b,q,vs++d,zs.drop d.length,rfl,Mc,by grind,f,I,hF.append LR,hM⟩)
   refine⟨.value (.slice (aa ⟨b,0,af⟩) (n+k) q),_,?_,?_,t1,W,et (lz hi hd u r h.elem p hw F V f Y (by simp) (λo _=>hM o))⟩
   .simp[g]
   .exact z9 (E:=E) (by rw[gw D]) (by simp only;rw[gw Q]) rfl f I λ_=>⟨b,rfl,rfl⟩
  .have hg:q<n+k:=by omega
   obtain⟨f2,h2x,V8,ri⟩:=V.exact;have gq:∃(M':Mem) (f0:Nat->Nat->aj),aF (σ.map λ_=>.dead) {s with M:=M'}/\(∀m o v,s.M m o=aa v->M' m o=aa v)/\Rd M' (.slice a n q) (.sl ae ie.size n (H8 ie.size f0))/\(∀{es},eN {s with M:=M'} es->eN s es) /\
     (∀i,i<n->(es i).length=ie.size)/\∀i,i<n->∀j c,(es i)[j]?=aa c->Rd s.M (f0 i j) c:=by
    by_cases B:0<q
    .obtain⟨b,vs,zs,rfl,rfl,hw,F,hF,hM⟩:=row B;obtain⟨c1,c2⟩:=p.zh (b:=b) (vs:=vs) hM (λo v ho=>by
      simp only[aR,hw]
      grind)
     have R:∀i,i<n->∀j c,(es i)[j]?=aa c->vs[i*ie.size+j]?=aa (vs.getD (i*ie.size+j) ai)/\Rd s.M (vs.getD (i*ie.size+j) ai) c:=by intro i hi j c A;obtain⟨v,v1,v2⟩:=hF.rd i hi j c A;grind
     have Mi:∀i,i<n->∀j,j<ie.size->∃c,(es i)[j]?=aa c:=λi hi j A=>⟨_,bn (by rw[hF.width i hi];exact A)⟩
     refine⟨_,λi j=>vs.getD (i*ie.size+j) ai,c1,c2,.sl b 0 (λi j=>vs.getD (i*ie.size+j) ai) J I (by simp) (λi _=>by simp[H8]) (λ_=>rfl) (λi hi j c A=>?_) (λi hi j c A=>?_),λhe=>?_,hF.width,λi hi j c A=>(R i hi j c A).2⟩
     .obtain⟨e1,_⟩:=pH A;grind
     .obtain⟨e1,rfl⟩:=pH A;obtain⟨c',e2⟩:=Mi i hi j e1;exact .val (R i hi j c' e2).2.cell
     .exact he.vk (b:=b) Y (by simp) c2 λm o v hv=>by grind
    .have e1:q=0:=by omega
     have e2:n=0:=by omega
     subst e1 e2;have z:=p.kg;exact⟨s.M,λ_ _=>ai,⟨z.mem,z.len,z.box,z.fY,z.lt,z.own⟩,λ_ _ _ h=>h,Rd.ic,λh=>h,λi hi=>by omega,λi hi=>by omega⟩
   obtain⟨M',f0,c1,c2,hR,UH,Vq,hr0⟩:=gq;have Vt:Rd ({s with M:=M'}:St).M (ρ y) (.sl tx ie.size k (H8 ie.size f2)):=h2x.mono c2;obtain⟨U,zs,G,S,UF,UG,hlen,g⟩:=ib (P:=P) (s:={s with M:=M'}) (ty:=o.type) hi hd u r h.elem c1 hR Vt hg H h.bytes;have Oq:=iJ (P:=P) (s:={s with M:=M'}) (ty:=o.type) hi hd u r h.elem c1 hR Vt hg H h.bytes;have hFs:Flat s.M ie.size (n+k) (cR n es es') U:=by
    refine⟨S.len,λi hi=>?_,λi hi j c A=>?_⟩
    .by_cases e:i<n
     .simp only[cR,e,bY];grind
     .simp only[cR,e,b6];grind
    .by_cases e:i<n
     .simp only[cR,e,bY]at A;have Z:j<ie.size:=by grind
      obtain⟨v,v1,v2⟩:=S.rd i hi j (.val (f0 i j)) (by simp only[cR,e,bY];exact Dn Z);grind[Rd.fN]
     .simp only[cR,e,b6]at A;have Z:j<ie.size:=by grind
      obtain⟨v,v1,v2⟩:=S.rd i hi j (.val (f2 (i-n) j)) (by simp only[cR,e,b6];exact Dn Z);grind[Rd.fN]
   have nM:∀o,s.M s.w.heap.size o=af:=λo=>by
    cases hm:s.M s.w.heap.size o with
    |none=>rfl
    |some v=>have:=p.block hm;omega
   obtain⟨t1,W⟩:=p.gy (M':=s.M) (w':=s.w.drew.alloc (.cells (U++zs).toArray E)) (B':=.buf E ie.size (n+k) (cR n es es')) (L':=⟨.slice (aa ⟨s.w.heap.size,0,af⟩) 0 G,[s.w.heap.size]⟩) hl hL
    ⟨λe=>absurd e (by omega),by omega⟩ (by simp) (λb H _=>cZ s.w.drew _ H) (λ_ _ _ _=>rfl) (λ_ _ _ h=>h) (λb o v hm=>by
     have uS:=p.block hm;rw[<-p.mem b o v hm];simp only[aR];rw[cZ s.w.drew _ uS];rfl) (λb H=>by simp at H;subst H;exact⟨.inr (ba _),by simp⟩) rfl rfl rfl (.inr ⟨s.w.heap.size,G,U,zs,rfl,ei s.w.drew _,hlen,UF,UG,hFs,nM⟩)
   refine⟨.value (.slice (aa ⟨s.w.heap.size,0,af⟩) (n+k) G),_,?_,?_,t1,W,et (UH Oq)⟩
   .simp only at g;simp[g]
   .exact z9 (E:=E) (by rw[gw D]) (by simp only;rw[gw Q]) rfl UF UG λ_=>⟨_,rfl,rfl⟩
def bF.MB{ie:TI}(h:ly P o x y E ie){a:Nat}{es':Nat->List C}(c:η x=.e (.one (.bp l (.sl n ie.size 0 n))))(hl:σ[l]?=aa (.buf E ie.size n es))(b:∀s v,dk σ s v (η y)->Rd s.M v (.sl tx ie.size a es'))(hb:(n+a)*ie.bytes<=140737488355328):
  bF P o η σ (.e (.one (.bp l (.sl (n+a) ie.size 0 (n+a))))) (σ.set l (.buf E ie.size (n+a) (cR n es es'))) :=
 λs d hh hr=>rD h hh (by have:=hr x;rw[c]at this;exact this) hl (b s _ (hr y)) hb
section
variable {T:List (Nat×TI)}
def bF.VS(f:dj P T)(h:o.op=.call {callee:=.builtin .len,args:=#[x],argTypes:=jN})(d:jN[0]?=aa t){i:TI}(hi:bG T t=aa i)(k:i.desc=.slice E){a:Option Addr}{cap:Nat}(g:η x=.e (.one (.c (.val (.slice a n cap)))))(l:n<=9223372036854775807):bF P o η σ (.e (.one (.c (.int .i64 n)))) σ:=by
 refine .quiet λs m hh hr=>?_;have h1:=hr x;rw[g]at h1;have j:=Rd.fN (fM h1);have b:=(f t i hi).run_underlying (w:=s.w);rw[k]at b;refine⟨.int .i64 n,?_,Rd.int (by simp only[bt];omega),?_⟩<;>
 simp[an,h,resolve,invoke,builtin,Builtin.len_,j,b,goInt,d]
theorem bF.Bp(l:dj P T)(h:o.op=.indexAddr t x y){i ie:TI}(hi:bG T t=aa i)(u:i.desc=.slice E)(p:bG T E=aa ie){cap:Nat}{j:Int}{kk:IntKind}(q:η x=.e (.one (.c (.val (.slice (aa ⟨b,off,af⟩) n cap)))))(m:η y=.e (.one (.c (.int kk j))))(z:0<=j)(h1:j<n):bF P o η σ (.e (.one (.c (.val (.pointer (aa ⟨b,off+j.toNat*ie.size,af⟩)))))) σ:=by
 refine .quiet λs v hh hr=>?_;have a:=hr x;rw[q]at a;have r:=Rd.fN (fM a);have h2:=hr y;rw[m]at h2;replace h2:=fM h2;generalize g:v y=vy at h2;cases h2;have k:=(l t i hi).run_underlying (w:=s.w);rw[u]at k;obtain⟨d,rfl⟩:∃d:Nat,j=d:=⟨j.toNat,by omega⟩
 have f:d<n:=by omega
 refine⟨.pointer (aa ⟨b,off+d*ie.size,af⟩),?_,Rd.val rfl,?_⟩<;>
 simp[an,h,r,g,Instr.indexAt,asIntOf,k,(l E ie p).run_sizeOf,de,f]
def bF.PU(a:dj P T){f:Nat}(h:o.op=.fieldAddr t x f){j:TI}(i:η x=.e (.one (.c (.val (.pointer (aa ⟨b,off,af⟩))))))(d:jA T t f=aa (k,j)):bF P o η σ (.e (.one (.c (.val (.pointer (aa ⟨b,off+k,af⟩)))))) σ:=by refine .quiet λs l hh hr=>?_;have h1:=hr x;rw[i]at h1;have g:=Rd.fN (fM h1);exact⟨.pointer (aa ⟨b,off+k,af⟩),by simp[an,h,g,mh a d],Rd.val rfl,by simp[an,h,g,nV a d]⟩
def bF.slice3(H:dj P T){z:aE}(h:o.op=.slice t x af (aa y) (aa z)){i ie:TI}(D:bG T t=aa i)(J:i.desc=.slice E)(N:bG T E=aa ie){tt:Bool}{r q:IntKind}{j m:Int}(O:∀s v,dk σ s v (η x)->Rd s.M v (.sl tt k n es))(L:η y=.e (.one (.c (.int r j))))(K:η z=.e (.one (.c (.int q m))))(B:0<=j)(h1:j<=m)(h2:m<=n):bF P o η σ (.e (.one (.c (.sl ae k j.toNat es)))) σ:=by
 refine .quiet λst ρ hh hr=>?_;have p:=O st _ (hr x);have l:=hr y;rw[L]at l;replace l:=fM l;generalize A:ρ y=vy at l;cases l;have d:=hr z;rw[K]at d;replace d:=fM d;generalize u:ρ z=vz at d;cases d;obtain⟨a,cap,vs,C,G,R,V,U,hm⟩:=p.flat;rw[C]at p;have g:=(H t i D).run_underlying (w:=st.w);rw[J]at g;have em:((m.toNat:Nat):Int)=m:=ze (by omega);have hb:(bk ab n cap af (aa (.int r j)) (aa (.int q m))).run P st.w=.ok (0,j.toNat,m.toNat) st.w:=by simp[bk,run_sliceBound (P:=P) st.w q m cap _ (by omega) (by omega),run_sliceBound (P:=P) st.w r j m.toNat _ B (by omega)]
 have Q:(bk ab n cap af (aa (.int r j)) (aa (.int q m))).events P st.w #[]=#[]:=by simp[bk,run_sliceBound (P:=P) st.w q m cap _ (by omega) (by omega),run_sliceBound (P:=P) st.w r j m.toNat _ B (by omega),dM (P:=P) st.w q m cap _ (by omega) (by omega),dM (P:=P) st.w r j m.toNat _ B (by omega)]
 refine⟨.slice a j.toNat m.toNat,?_,?_,by simp[an,h,C,A,u,Instr.sliceAt,g,Instr.slice,hb,Q]⟩
 .simp[an,h,C,A,u,Instr.sliceAt,g,Instr.slice,hb,(H E ie N).run_sizeOf];intro _;rcases a with _|⟨b,off,sp⟩<;>simp[Addr.add]
 .cases p with
  |sl b off f _ _ _ I S hm' LU =>
   exact Rd.sl b off f (by omega) (by omega) (by simp) (λi hi=>I i (by omega)) (λF=>S (by omega)) (λi hi j c hj=>hm' i (by omega) j c hj) (λi hi j c hj=>LU i (by omega) j c hj)
end
def Flat.Sg{q m:Nat}{Dm:Nat->List C}{ot:List aj}(h:Flat M k n es vs)(b:Flat M k m Dm ot)(f:q+m<=n):
  Flat M k n (λi=>if q<=i/\i<q+m then Dm (i-q)else es i) (vs.take (q*k)++ot++vs.drop (q*k+ot.length)):=by
 have hl:=h.len;have g:=b.len;have hb:q*k+m*k<=n*k:=by rw[<-gI];exact ek k f
 have o:(vs.take (q*k)).length=q*k:=by grind
 have a:∀p,(vs.take (q*k)++ot++vs.drop (q*k+ot.length))[p]?=if p<q*k then vs[p]? else if p<q*k+m*k then ot[p-q*k]? else vs[p]?:=by
  intro p;by_cases c1:p<q*k
  .grind
  .rw[aW c1];by_cases c2:p<q*k+m*k
   .grind
   .rw[aW c2,fR (by grind),oF];grind
 refine⟨by grind,λi hi=>?_,λi hi j c hj=>?_⟩
 .by_cases e:q<=i/\i<q+m
  .rw[bc e];exact b.width _ (by omega)
  .rw[aW e];exact h.width i hi
 .rw[a];by_cases e:q<=i/\i<q+m
  .rw[bc e]at hj;have d:j<k:=by have:=(cf.1 hj).1;rw[b.width _ (by omega)]at this;exact this
   have e1:q*k<=i*k:=ek k e.1;have e2:i*k+k<=q*k+m*k:=by rw[<-gI,<-kN];exact ek k e.2
   rw[aW (by omega),bc (by omega)];obtain⟨v,v1,l⟩:=b.rd (i-q) (by omega) j c hj;grind[Nat.sub_mul]
  .rw[aW e]at hj;have d:j<k:=by have:=(cf.1 hj).1;rw[h.width i hi]at this;exact this
   have:i*k+j<q*k∨q*k+m*k<=i*k+j:=by
    by_cases c1:i<q
    .left;have:i*k+k<=q*k:=by rw[<-kN];exact ek k c1
     omega
    .right;have:(q+m)*k<=i*k:=ek k (by omega);grind
   rcases this with c1|c1
   .rw[bc c1];exact h.rd i hi j _ hj
   .rw[aW (by omega),aW (by omega)];exact h.rd i hi j _ hj
def uO{E k':Nat}{d:Nat->List C}{β:List Loc}(g:Rd s.M v (.sl ab k' 0 d))(e:σ'[l]?=aa (.buf E k 0 es))(c:β[l]?=aa ⟨.slice af 0 0,[]⟩):gD σ' {s with β:=β} v (.bp l (.sl 0 k 0 0)):=by obtain⟨a,cap,vs,f,_,_,b,_,_⟩:=g.flat;have:=b rfl;subst this;refine⟨.slice af 0 0,⟨a,af,0,0,f,by omega,rfl,by omega,rfl,λh=>absurd h (by omega)⟩,(cf.1 e).1,λE2 k2 n2 Dm h=>?_⟩;rw[e]at h;cases h;exact⟨ba _,λ_=>⟨_,c,rfl⟩⟩
def eN.Si{β:List Loc}{es:Array Event}(h:eN {s with β:=β++[⟨v,[]⟩]} es)(c:s.β=β):eN s es:=by
 intro e a;have h1:=h e a;have key:∀b,(∃L∈β++[(⟨v,[]⟩:Loc)],b∈L.bs)->∃L∈s.β,b∈L.bs:=λb ⟨L,d,hb⟩=>by grind
 unfold nJ at h1⊢;grind
def bF.Gz{ie:TI}(h:ly P o x y E ie){m:Nat}{es':Nat->List C}(p:η x=.e (.one (.c (.sl ab k 0 es))))(i:∀s v,dk σ s v (η y)->Rd s.M v (.sl tx ie.size m es'))(hb:(0+m)*ie.bytes<=140737488355328):
  bF P o η σ (.e (.one (.bp σ.length (.sl (0+m) ie.size 0 (0+m))))) (σ++[.buf E ie.size (0+m) (cR 0 es es')]):=by
 intro s t hh hr;have h1:=hr x;rw[p]at h1;have h2:=i s _ (hr y);obtain⟨n,g2⟩:=hh.hU (B:=.buf E ie.size 0 es) (L:=⟨.slice af 0 0,[]⟩) (.refl _ _) rfl hh (.inl ⟨rfl,rfl⟩) (by simp);have b:gD (σ++[.buf E ie.size 0 es]) {s with β:=s.β++[⟨.slice af 0 0,[]⟩]} (t x) (.bp σ.length (.sl 0 ie.size 0 0)):=uO (E:=E) (es:=es) (fM h1) (by simp) (by simp[<-hh.len]);obtain⟨q,s',r,d,g,f,j⟩:=rD (P:=P) (σ:=σ++[.buf E ie.size 0 es]) (s:={s with β:=s.β++[⟨.slice af 0 0,[]⟩]}) (l:=σ.length) (es:=es) h n b (by simp) h2 hb;have a:(σ++[bm.buf E ie.size 0 es]).set σ.length (.buf E ie.size (0+m) (cR 0 es es'))=σ++[.buf E ie.size (0+m) (cR 0 es es')]:=by simp
 rw[a]at d g f;exact⟨q,s',r,d,g,g2.trans f,j.Si rfl⟩
def zg(i j m:Nat)(es:Nat->List C):Nat->List C:=λq=>if i<=q/\q<i+m then es (j+(q-i))else es q
def bF.Il{ie:TI}(h:ly P o x y E ie){m:Nat}(hx:η x=.e (.one (.bp l (.sl n ie.size 0 i))))(hy:η y=.e (.one (.bp l (.sl n ie.size j m))))(hl:σ[l]?=aa (.buf E ie.size n es))(Xv:i+m<=n)(YN:j+m<=n):
  bF P o η σ (.e (.one (.bp l (.sl n ie.size 0 (i+m))))) (σ.set l (.buf E ie.size n (zg i j m es))):=by
 intro s ρ hh hr;obtain⟨t,t2,ti,ti2,ho,hi,hd,O,J⟩:=h.op;have h1:=hr x;rw[hx]at h1;change gD σ s (ρ x) (.bp l _)at h1;have h2:=hr y;rw[hy]at h2;change gD σ s (ρ y) (.bp l _)at h2;obtain⟨lv,⟨a,a0,cap,C,hv,K,RQ,Y,GA,Vh⟩,_,UB⟩:=h1;obtain⟨L,hL,U⟩:=(UB _ _ _ _ hl).2 rfl;rw[GA]at U;obtain⟨lv',⟨a',a0',f,c0',UC,Vi,YO,YP,Vj,YQ⟩,_,X⟩:=h2;obtain⟨L',gh,H⟩:=(X _ _ _ _ hl).2 rfl;rw[hL]at gh;cases gh;rw[Vj,U]at H;cases H;have YR:=bL hL;have hu:=hi.run_underlying (w:=s.w);have V:=O.run_underlying (w:=s.w);rw[hd]at hu;rw[J]at V;rw[cN ho,hv,UC];by_cases YS:n=0
 .have e1:i=0:=by omega
  have e2:m=0:=by omega
  subst YS e1 e2;have Im:σ.set l (.buf E ie.size 0 (zg 0 j 0 es))=σ:=by
   have:zg 0 j 0 es=es:=by funext q;simp only[zg];grind
   rw[this];apply g9;grind
  have hz:Rd s.M (.slice a' 0 f) (.sl ae ie.size 0 λ_=>[]):=.sl 0 0 (λ_ _=>ai) (by omega) (by omega) (by simp) (λi hi=>by omega) (λh=>by omega) (λi hi=>by omega) (λi hi=>by omega);have I:=iP (P:=P) (ty:=o.type) hi hd O J h.elem hh (a:=a) K hz;rw[Im];refine⟨.value (.slice a 0 cap),s,?_,?_,hh,.refl _ _,et (ju hi hd O J h.elem hh K hz)⟩
  .simp[I]
  .exact⟨lv,⟨a,a0,cap,C,rfl,K,RQ,Y,GA,Vh⟩,(cf.1 hl).1,UB⟩
 rcases hh.box l _ L hl hL with⟨e,_⟩|⟨b,c1,vs,N,rfl,g,YT,YU,YV,W,hM⟩
 .grind
 cases U;have S:0<cap:=by omega
 obtain⟨b1,e1,rfl⟩:=Vh S;cases e1;have Oo:C=cap:=by omega
 subst Oo;rw[show b=b from rfl];have Pk:vs.length=n*ie.size:=W.len;have k:i+m<=C:=by omega
 have hik:i*ie.size+m*ie.size<=n*ie.size:=by rw[<-gI];exact ek _ Xv
 have YW:j*ie.size+m*ie.size<=n*ie.size:=by rw[<-gI];exact ek _ YN
 obtain⟨c1,c2⟩:=hh.zh (b:=b) (vs:=vs) hM (λq v F=>by
  simp only[aR,g]
  grind)
 let d:=(vs.drop (j*ie.size)).take (m*ie.size);have RR:d.length=m*ie.size:=by grind
 have YX:∀p,p<m*ie.size->d[p]?=vs[j*ie.size+p]?:=λp B=>by grind
 have LR:Flat s.M ie.size m (λq=>es (j+q)) d:=by
  refine⟨RR,λq F=>W.width _ (by omega),λq F p c B=>?_⟩;have hpk:p<ie.size:=by have:=(cf.1 B).1;rw[W.width _ (by omega)]at this;exact this
  obtain⟨v,v1,v2⟩:=W.rd (j+q) (by omega) p c B;refine⟨v,?_,v2⟩;have YY:q*ie.size+ie.size<=m*ie.size:=by rw[<-kN];exact ek _ F
  grind
 have r:∀v∈d,v.oneCell'=ab:=LR.cell;have UD:Rd (λu q=>if u=b then vs[q]? else s.M u q) (.slice a' m f) (.sl ae ie.size m (H8 ie.size λq p=>vs.getD ((j+q)*ie.size+p) ai)):=by
  refine .sl b (j*ie.size) (λq p=>vs.getD ((j+q)*ie.size+p) ai) Vi (by omega) (by simp) (λq _=>by simp[H8]) (λB=>?_) (λq F p c B=>?_) (λq F p c B=>?_)
  .grind
  .obtain⟨p1,_⟩:=pH B;have YY:q*ie.size+ie.size<=m*ie.size:=by rw[<-kN];exact ek _ F
   grind
  .obtain⟨p1,rfl⟩:=pH B;obtain⟨c',Vk⟩:∃c',(es (j+q))[p]?=aa c':=⟨_,bn (by rw[W.width _ (by omega)];exact p1)⟩
   obtain⟨v,v1,v2⟩:=W.rd (j+q) (by omega) p c' Vk;have e:vs.getD ((j+q)*ie.size+p) ai=v:=by grind
   rw[e];exact .val v2.cell
 obtain⟨A,Z,hf,G⟩:=dE (P:=P) (s:={s with M:=λu q=>if u=b then vs[q]? else s.M u q}) c1 UD;have YZ:A=d:=by
  apply g9;intro p;have Df:A.length=m*ie.size:=Z.len;by_cases B:p<m*ie.size
  .have hk:0<ie.size:=by grind
   have F:p / ie.size<m:=rl (by grind);have Sj:p / ie.size*ie.size+p % ie.size=p:=rr p ie.size;obtain⟨v,v1,v2⟩:=Z.rd _ F (p % ie.size) _ (Dn (iO _ hk));rw[Sj]at v1;rw[v1,YX p B,Rd.fN v2];rw[gI,Nat.add_assoc,Sj,ah,bn (by omega)];rfl
  grind
 subst YZ;have Oq:=gi (P:=P) (s:={s with M:=λu q=>if u=b then vs[q]? else s.M u q}) c1 UD (w:=s.w) rfl;replace hf:(Builtin.firstCells ie.size m (.slice a' m f)).run P s.w=.ok d.toArray s.w:=hf;have Y0:i*ie.size+d.length<=(vs++N).length:=by grind
 have D:=run_storeCells_at P b (i*ie.size) E d 0 (vs++N).toArray s.w g (by grind) r;simp only[fS]at D;have Pl:((vs++N).toArray.toList.take (i*ie.size)++d++(vs++N).toArray.toList.drop (i*ie.size+d.length))=vs.take (i*ie.size)++d++vs.drop (i*ie.size+d.length)++N:=by grind
 rw[Pl]at D;have q2:=W.Sg LR Xv;have he:(λq=>if i<=q/\q<i+m then(λq=>es (j+q)) (q-i)else es q)=zg i j m es:=rfl;rw[he]at q2;obtain⟨t1,Y1⟩:=hh.ee hl hL YT YU YV g q2 (by grind) hM;have z:(Builtin.lenOf (.slice a' m f)).run P s.w=.ok m s.w:=by rw[G];rfl
 have Q:(Builtin.lenOf (.slice a' m f)).events P s.w #[]=#[]:=by rw[G];rfl
 refine⟨.value (.slice (aa ⟨b,0*ie.size,af⟩) (i+m) C),_,?_,?_,t1,Y1,et ?_⟩
 .have I:(bj #[t,t2] o.type #[.slice (aa ⟨b,0*ie.size,af⟩) i C,.slice a' m f]).run P s.w=.ok (.slice (aa ⟨b,0*ie.size,af⟩) (i+m) C) (s.w.setRow b (vs.take (i*ie.size)++d++vs.drop (i*ie.size+d.length)++N).toArray):=by unfold bj;simp only[gT,iF,kL,bU,hu,V,cw,h.elem.run_sizeOf,cY,iG,b6,z,k,bY,fE,hf,de,Nat.zero_mul,bz,D]
  grind[Go.Sem.run_bind,Go.Result.andThen_ok,Go.Sem.run_pure]
 .exact⟨.slice (aa ⟨b,0,af⟩) 0 C,⟨_,_,C,C,rfl,k,by omega,Y,rfl,λ_=>⟨b,rfl,rfl⟩⟩,by grind,λE2 k2 n2 Dm UE=>by rw[gw (cf.1 hl).1]at UE;cases UE;exact⟨ba _,λ_=>⟨_,hL,rfl⟩⟩⟩
 .intro e R;unfold bj at R;simp only[gT,iF,kL,aP,bU,hu,V,aV,h.elem.run_sizeOf,cY,iG,b6,z,Q,k,bY,fE,hf,de,Nat.zero_mul,bz,D,
   pE,Sem.events_ite,events_underlying,events_sizeOf,Sem.events_pure]at R
  rcases eh d 0 (vs++N).toArray s.w _ g (by grind) r e R with h3|⟨p,_,_,rfl⟩
  .have h4:eN {s with M:=λu q=>if u=b then vs[q]? else s.M u q} #[e]:=eN.one (qE (Oq e h3))
   exact h4.vk (b:=b) YR (by simp) c2 (λu q v hv=>by grind) e (by simp)
  grind[k7]
section
variable {T:List (Nat×TI)}
theorem bF.slice3B(H:dj P T){w z:aE}(h:o.op=.slice t x (aa w) (aa y) (aa z)){D ie:TI}(F:bG T t=aa D)(L:D.desc=.slice E)(S:bG T E=aa ie){g q:Nat}{u v s:IntKind}{i j m:Int}(U:η x=.e (.one (.bp l (.sl g k q n))))(N:η w=.e (.one (.c (.int u i))))(R:η y=.e (.one (.c (.int v j))))(Q:η z=.e (.one (.c (.int s m))))(W:0<=i)(h1:i<=j)(h2:j<=m)(X:m<=n):bF P o η σ (.e (.one .any)) σ:=by
 refine .quiet λst ρ hh hr=>?_;have r:=hr x;rw[U]at r;change gD σ st (ρ x) (.bp l _)at r;obtain⟨lv,⟨a,a0,cap,Y,G,K,O,J,M,I⟩,_,_⟩:=r;have b:=hr w;rw[N]at b;replace b:=fM b;generalize B:ρ w=vw at b;cases b;have f:=hr y;rw[R]at f;replace f:=fM f;generalize C:ρ y=vy at f;cases f;have d:=hr z;rw[Q]at d;replace d:=fM d;generalize A:ρ z=vz at d;cases d;have p:=(H t D F).run_underlying (w:=st.w);rw[L]at p;have hb:(bk ab n cap (aa (.int u i)) (aa (.int v j)) (aa (.int s m))).run P st.w=.ok (i.toNat,j.toNat,m.toNat) st.w:=by simp[bk,run_sliceBound (P:=P) st.w s m cap _ (by omega) (by omega),run_sliceBound (P:=P) st.w v j m.toNat _ (by omega) (by omega),run_sliceBound (P:=P) st.w u i j.toNat _ (by omega) (by omega)]
 have V:(bk ab n cap (aa (.int u i)) (aa (.int v j)) (aa (.int s m))).events P st.w #[]=#[]:=by
  simp[bk,run_sliceBound (P:=P) st.w s m cap _ (by omega) (by omega),run_sliceBound (P:=P) st.w v j m.toNat _ (by omega) (by omega),run_sliceBound (P:=P) st.w u i j.toNat _ (by omega) (by omega),
   dM (P:=P) st.w s m cap _ (by omega) (by omega),dM (P:=P) st.w v j m.toNat _ (by omega) (by omega),dM (P:=P) st.w u i j.toNat _ (by omega) (by omega)]
 refine⟨.slice (if m.toNat=i.toNat then a else a.map (·.add (i.toNat*ie.size))) (j.toNat-i.toNat) (m.toNat-i.toNat),?_,rfl,by simp[an,h,G,B,C,A,Instr.sliceAt,p,Instr.slice,hb,V]⟩;simp[an,h,G,B,C,A,Instr.sliceAt,p,Instr.slice,hb,(H E ie S).run_sizeOf]
end
section drop
variable {σ1 rest:List bm}
def St.cut(s:St)(n:Nat):St:={s with β:=s.β.take n}
def gD.drop{a:A}(r:gD (σ1++rest) s v a)(d:GH σ1.length a=ab):gD σ1 (s.cut σ1.length) v a:=by
 have lt:∀{l:Nat},bC (l+1) σ1.length=ab->l<σ1.length:=λh=>ez h;cases a with
 |c x=>exact r
 |any=>exact r
 |ptr l o =>
  have hl:=lt d;obtain⟨f,L,b,i,g⟩:=r;refine⟨λB m=>f B (by grind),L,b,?_,g⟩;simp only[St.cut,eK,hl,bY];exact i
 |ref l =>
  have hl:=lt d;obtain⟨f,L,i,g⟩:=r;refine⟨λB m=>f B (by grind),L,?_,g⟩;simp only[St.cut,eK,hl,bY];exact i
 |bp l w =>
  have hl:=lt d;obtain⟨lv,f,_,g⟩:=r;refine⟨lv,f,hl,λE k' n' es' m=>?_⟩;obtain⟨h1,h2⟩:=g E k' n' es' (by grind);refine⟨h1,λe=>?_⟩;obtain⟨L,j,p⟩:=h2 e;refine⟨L,?_,p⟩;simp only[St.cut,eK,hl,bY];exact j
 |vec l k n es =>
  have hl:=lt d;obtain⟨f,_,g⟩:=r;refine⟨f,hl,λE k' n' es' m=>?_⟩;obtain⟨h1,h2⟩:=g E k' n' es' (by grind);refine⟨h1,λe=>?_⟩;obtain⟨L,j,p⟩:=h2 e;refine⟨L,?_,p⟩;simp only[St.cut,eK,hl,bY];exact j
def dT.xK:∀{vs:List aj}{cs:List A},dT (σ1++rest) s vs cs->Fp σ1.length cs=ab->dT σ1 (s.cut σ1.length) vs cs
 |[],[],_,_=>trivial
 |[],_::_,r,_=>r.elim
 |_::_,[],r,_=>r.elim
 |v::vs,c::cs,r,h=>by
  simp only[Fp]at h;cases a:GH σ1.length c with
  |false=>grind
  |true=>simp only[a]at h;exact⟨r.1.drop a,dT.xK r.2 h⟩
def nq.xK{v:aj}{e:E1}(r:nq (σ1++rest) s v e)(h:Iz σ1.length e=ab):nq σ1 (s.cut σ1.length) v e:=by
 cases e with
 |one a=>exact gD.drop r h
 |agg cs=>obtain⟨vs,h1,h2⟩:=r;exact⟨vs,h1,dT.xK h2 h⟩
def gN.xK:∀{vs:List aj}{cs:List E1},gN (σ1++rest) s vs cs->xF σ1.length cs=ab->gN σ1 (s.cut σ1.length) vs cs
 |[],[],_,_=>trivial
 |[],_::_,r,_=>r.elim
 |_::_,[],r,_=>r.elim
 |v::vs,c::cs,r,h=>by
  simp only[xF]at h;cases a:Iz σ1.length c with
  |false=>grind
  |true=>simp only[a]at h;exact⟨nq.xK r.1 a,gN.xK r.2 h⟩
def dk.drop{d:D}(r:dk (σ1++rest) s v d)(h:vt σ1.length d=ab):dk σ1 (s.cut σ1.length) v d:=by
 cases d with
 |e x=>exact nq.xK r h
 |fK xs=>obtain⟨vs,h1,h2⟩:=r;exact⟨vs,h1,gN.xK h2 h⟩
 |any=>trivial
def cO.drop{σ0:List bm}{s0:St}(st:cO σ0 s0 (σ1++rest) s)(c:σ0.length<=σ1.length):cO σ0 s0 σ1 (s.cut σ1.length):=by refine⟨st.size,st.keep,st.mem,st.iI,λL a b hb=>st.uP L (jR a) b hb,?_,st.os,st.tape,st.output,st.own⟩;intro l B L d a;obtain⟨B',L',h1,h2,e⟩:=st.box l B L d a;have hl:l<σ1.length:=cA (cf.1 d).1 c;rw[iE hl]at h1;exact⟨B',L',h1,by simp only[St.cut,eK,hl,bY];exact h2,e⟩
def gD.rQ{a:A}(hl:s.β.length=σ.length)(r:gD σ s v a):GH σ.length a=ab:=by
 have ok:∀{l:Nat},l<σ.length->bC (l+1) σ.length=ab:=λh=>uI h;have lt:∀{l:Nat} {L:Loc},s.β[l]?=aa L->l<σ.length:=λh=>by grind
 cases a with
 |c x=>rfl
 |any=>rfl
 |ptr l o=>obtain⟨_,L,b,d,_⟩:=r;exact ok (lt d)
 |ref l=>obtain⟨_,L,d,_⟩:=r;exact ok (lt d)
 |bp l w=>obtain⟨lv,_,h,_⟩:=r;exact ok h
 |vec l k n es=>exact ok r.2.1
def dT.rQ{σ:List bm}(hl:s.β.length=σ.length):∀{vs:List aj}{cs:List A},dT σ s vs cs->Fp σ.length cs=ab
 |[],[],_=>rfl
 |[],_::_,r=>r.elim
 |_::_,[],r=>r.elim
 |v::vs,c::cs,r=>by simp only[Fp,r.1.rQ hl];exact dT.rQ hl r.2
def nq.rQ{σ:List bm}(hl:s.β.length=σ.length){v:aj}{e:E1}(r:nq σ s v e):Iz σ.length e=ab:=by
 cases e with
 |one a=>exact gD.rQ hl r
 |agg cs=>obtain⟨vs,_,h⟩:=r;exact dT.rQ hl h
def gN.rQ{σ:List bm}(hl:s.β.length=σ.length):∀{vs:List aj}{cs:List E1},gN σ s vs cs->xF σ.length cs=ab
 |[],[],_=>rfl
 |[],_::_,r=>r.elim
 |_::_,[],r=>r.elim
 |v::vs,c::cs,r=>by simp only[xF,nq.rQ hl r.1];exact gN.rQ hl r.2
def dk.rQ{σ:List bm}(hl:s.β.length=σ.length){v:aj}{d:D}(r:dk σ s v d):vt σ.length d=ab:=by
 cases d with
 |e x=>exact nq.rQ hl r
 |fK xs=>obtain⟨vs,_,h⟩:=r;exact gN.rQ hl h
 |any=>rfl
def PG(n:Nat)(σ0:List bm)(l:Nat)(B:bm):Prop:=(∃E cs,B=.cells E cs/\Fp n cs=ab)∨σ0[l]?=aa B∨(∃N φ r r',B=.loop N φ r/\σ0[l]?=aa (.loop N φ r'))∨((∀E cs,B≠.cells E cs)/\∀N φ r,B≠.loop N φ r)
def aF.SF{s0:St}{σ0:List bm}(i:aF σ0 s0)(a:σ0.length=σ1.length)(v:∀(l:Nat)(B:bm),σ1[l]?=aa B->PG σ1.length σ0 l B)(h:aF (σ1++rest) s):aF σ1 (s.cut σ1.length):=by
 have hl:σ1.length<=s.β.length:=by rw[h.len];simp
 refine⟨h.mem,by simp[St.cut,hl],?_,?_,?_,λb hb=>⟨(h.own b hb).1,λL d=>(h.own b hb).2 L (jR d)⟩⟩
 .intro l B L p d;have j:l<σ1.length:=(cf.1 p).1;simp only[St.cut,eK,j,bY]at d;have c:=h.box l B L (by grind) d;have f:∃m,s0.β[l]?=aa m:=⟨_,bn (by rw[i.len,a];exact j)⟩
  obtain⟨m,f⟩:=f;have y:=i.len.trans a;cases B with
  |cells E cs =>
   obtain⟨b,vs,h1,h2,o,u⟩:=c;refine⟨b,vs,h1,h2,dT.xK o ?_,u⟩;rcases v l _ p with⟨_,_,e,q⟩|q|⟨_,_,_,_,e,_⟩|q
   .grind
   .obtain⟨_,_,_,_,z,_⟩:=i.box l _ m q f;exact a▸z.rQ i.len
   .cases e
   grind
  |vec E k n es=>exact c
  |dg H=>exact c
  |dead=>trivial
  |loop N φ r =>
   obtain⟨l',tmps,fn,A,h1,h2,o,u,w⟩:=c;have key:∃r',σ0[l]?=aa (.loop N φ r'):=by
    rcases v l _ p with⟨_,_,e,_⟩|q|⟨_,_,_,r',e,q⟩|q
    .cases e
    .grind
    .grind
    grind
   obtain⟨r',q⟩:=key;obtain⟨_,_,_,_,_,_,_,x,_⟩:=i.box l _ m q f;exact⟨l',tmps,fn,A,h1,h2,o,λt=>(u t).drop (a▸(x t).rQ i.len),w⟩
  |rG=>exact c
  |buf E k n es=>exact c
 .intro l l' L L' d g b hb oB;simp only[St.cut,eK]at d g;split at d<;>split at g<;>first|exact h.fY l l' L L' d g b hb oB|grind|grind
 .intro L d b hb;exact h.lt L (jR d) b hb
def aF.SG{s0:St}(a:aF σ1 s0)(h:aF (σ1++rest) s):aF σ1 (s.cut σ1.length):=a.SF rfl (λ_ _ h=>.inr (.inl h)) h
def OA.SH{X:Cx P}(h:OA X N all o φ σ (.e (.one (.vec σ.length k n es))) (σ++[.vec E k n es])):OA X N all o φ σ (.e (.one (.c (.sl ae k n es)))) σ:=by
 intro s a f hh b kk cs S i rest hb hi hK;refine h s a f hh b kk cs S i rest hb hi λv s' hv jL st=>?_;have g:eR s' (s'.cut σ.length):=⟨rfl,λ_ _ _ h=>h,λ_ _ _=>rfl,jL.mem,λb hb=>hb.imp id λ⟨L,d,hb⟩=>⟨L,jR d,hb⟩⟩
 exact .ghost g (hK v (s'.cut σ.length) hv.1 (hh.SG jL) (st.drop (ba _)))
end drop
end Go.AM
