/- Part 1. No condition. -/
import Derived.Tactics2
import Derived.Conc.Own
import Derived.Conc.Events
import Derived.Conc.Listed
import Derived.Laws.CopyRow
import Derived.Laws.AppendOwn
import Derived.Laws.Rows
import Derived.Laws.Strings
import Derived.Laws.Cells
import Derived.Lib.Strings
import Derived.Laws.Slices
import Derived.Orders
import Derived.Laws.StructEq
set_option linter.all false
set_option maxHeartbeats 8000000
open Go.Conc (G)
open Go renaming Value → aj, TypeId → aw, Frame → aV, FuncId → aK, execOp → ak, undef → ah, Operand → aC, World → aA, Program → aO, Oper → aB, Goroutine → aq, stepG → aH
open Option renaming some → aa, none → af
open Bool renaming true → ab, false → ae
open Go.Region renaming wanted → aZ, ready → aY
open Go.World renaming cell? → aW
open List renaming getD_eq_getElem?_getD → ai, range → bk
open Go.Sem renaming events_bind → aP
open Go.Result renaming evThen_ok → aU
open Go.Instr renaming sliceBounds → bh
open Nat renaming beq → av, ble → bz
open Go.Op renaming bytesLess → bd
set_option linter.defProp false
set_option linter.deprecated false
namespace Go
def ar:=@_root_.trivial
def bg:=@_root_.List.getElem?_eq_getElem
def bq:=@_root_.decide_eq_true_eq
def aE:=@_root_.and_true
def aF:=@_root_.true_and
def b8:=@_root_.List.getElem?_eq_some_iff
def bL:=@_root_.List.mem_of_getElem?
def cd:=@_root_.decide_eq_false_iff_not
def b7:=@_root_.Nat.eq_of_beq_eq_true
def bM:=@_root_.Int.toNat_natCast
def ba:=@_root_.Nat.le_refl
def bR:=@_root_.Bool.and_eq_true
def bA:=@_root_.Nat.zero_add
def cf:=@_root_.List.length_append
def cm:=@_root_.Go.Result.andThen_ok
def dL:=@_root_.Array.getD_eq_getD_getElem?
def cB:=@_root_.Nat.lt_of_lt_of_le
def cC:=@_root_.List.take_length
def bT:=@_root_.Go.Sem.run_bind
def dM:=@_root_.Nat.le_of_ble_eq_true
def dH:=@_root_.List.getElem_of_mem
def dq:=@_root_.Option.some.injEq
def fb:=@_root_.Array.getElem?_eq_some_iff
def fA:=@_root_.List.getElem?_append_right
def a9:=@_root_.if_neg
def ey:=@_root_.List.length_singleton
def ez:=@_root_.Nat.mul_le_mul_right
def dc:=@_root_.decide_eq_true
def cG:=@_root_.Nat.lt_or_ge
def fN:=@_root_.Array.getElem?_eq_getElem
def br:=@_root_.if_pos
def cV:=@_root_.Go.Sem.run_pure
def eW:=@_root_.beq_eq_false_iff_ne
def fO:=@_root_.List.getElem?_set_self
def bS:=@_root_.if_false
def eX:=@_root_.List.getElem?_take
def dC:=@_root_.List.mem_cons
def jr:=@_root_.List.eq_nil_of_length_eq_zero
def fe:=@_root_.not_true_eq_false
def eJ:=@_root_.List.mem_append
def bY:=@_root_.if_true
def dT:=@_root_.Nat.le_trans
def hX:=@_root_.List.getElem?_toArray
def js:=@_root_.List.getElem?_append_left
def fQ:=@_root_.List.length_cons
def ju:=@_root_.List.getElem?_cons_zero
def gN:=@_root_.List.mem_singleton
def gO:=@_root_.Bool.false_eq_true
def ga:=@_root_.Option.getD_some
def gQ:=@_root_.List.ext_getElem?
def jw:=@_root_.List.take_append_drop
def fC:=@_root_.Bool.true_and
def iG:=@_root_.List.mem_cons_self
def iY:=@_root_.Array.length_toList
def gx:=@_root_.decide_eq_false
def jy:=@_root_.List.mem_of_mem_take
def nE:=@_root_.Array.getElem?_setIfInBounds_ne
def gR:=@_root_.Nat.not_lt_zero
def oP:=@_root_.List.findIdx?_eq_some_iff_getElem
def dy:=@_root_.congrArg
def iZ:=@_root_.Bool.not_eq_true'
def kH:=@_root_.List.length_filter_le
def hZ:=@_root_.List.mem_filter
def mE:=@_root_.List.pairwise_iff_getElem
def kI:=@_root_.List.mem_cons_of_mem
def kJ:=@_root_.List.getElem?_set_ne
def mF:=@_root_.Array.getElem?_replicate
def iH:=@_root_.List.foldl_cons
def jU:=@_root_.List.take_add_one
def ly:=@_root_.List.mem_iff_getElem
def jV:=@_root_.List.append_assoc
def jz:=@_root_.List.length_nil
def jW:=@_root_.beq_self_eq_true
def nF:=@_root_.List.getElem?_cons_succ
def ia:=@_root_.Nat.add_zero
def lz:=@_root_.List.pairwise_cons
def gT:=@_root_.Nat.add_mul
def vm:=@_root_.Array.getElem?_setIfInBounds_self_of_lt
def gy:=@_root_.beq_iff_eq
def jA:=@_root_.List.map_cons
def kK:=@_root_.List.append_nil
def qP:=@_root_.Array.mapM_eq_mapM_toList
def mG:=@_root_.bne_self_eq_false
def jB:=@_root_.Nat.beq_refl
def jC:=@_root_.List.mem_map
def nG:=@_root_.Nat.eq_zero_or_pos
def mH:=@_root_.Option.bind_some
def kL:=@_root_.Bool.not_true
def oQ:=@_root_.List.filter_eq_self
def mI:=@_root_.Option.map_some
def mJ:=@_root_.List.length_map
def mK:=@_root_.Bool.or_eq_true
def sQ:=@_root_.List.drop_eq_getElem_cons
def qQ:=@_root_.List.getElem?_eq_none
def nH:=@_root_.List.getElem_mem
def oS:=@_root_.List.getElem?_drop
def nI:=@_root_.List.filter_cons
def lA:=@_root_.Prod.mk.injEq
def kM:=@_root_.Nat.succ_mul
def qR:=@_root_.Array.toArray_toList
def l6:=@_root_.not_false_eq_true
def l7:=@_root_.List.flatMap_cons
def kV:=@_root_.Option.some.inj
def cU:=@_root_.ne_eq
def pL:=@_root_.Option.map_eq_some_iff
def iT:=@_root_.Nat.zero_le
def l8:=@_root_.Bool.not_eq_true
def iA:=@_root_.Nat.mod_lt
def kW:=@_root_.List.mapM_cons
def kX:=@_root_.Bool.not_false
def pM:=@_root_.Array.mem_of_getElem?
def pO:=@_root_.Nat.div_lt_of_lt_mul
def pP:=@_root_.List.pairwise_append
def nJ:=@_root_.List.getElem?_map
def pQ:=@_root_.List.map_congr_left
def nK:=@_root_.List.not_mem_nil
def kY:=@_root_.decide_false
def kZ:=@_root_.Nat.sub_zero
def pR:=@_root_.Nat.add_sub_cancel
def rA:=@_root_.Nat.ble_eq_true_of_le
def rB:=@_root_.Bool.and_eq_false_iff
def pT:=@_root_.of_decide_eq_true
def pU:=@_root_.Nat.div_add_mod'
def pV:=@_root_.List.mem_flatMap
def uN:=@_root_.Nat.lt_succ_iff_lt_or_eq
def pW:=@_root_.UInt8.toNat_inj
def pX:=@_root_.Bool.eq_iff_iff
def rC:=@_root_.Int.emod_lt_of_pos
def rD:=@_root_.Bool.not_eq_false'
def l9:=@_root_.decide_true
def uO:=@_root_.Nat.le_mul_of_pos_right
def ma:=@_root_.Nat.not_lt
def rE:=@_root_.List.length_drop
def zm:=@_root_.List.find?_eq_some_iff_getElem
def rF:=@_root_.List.drop_length
def rG:=@_root_.Int.emod_nonneg
def uP:=@_root_.Nat.mul_le_mul_left
def rH:=@_root_.List.mem_range
def zn:=@_root_.List.length_eraseIdx_of_lt
def rI:=@_root_.Bool.false_and
def zo:=@_root_.List.findIdx?_eq_none_iff
def uQ:=@_root_.List.foldl_append
def zp:=@_root_.Nat.add_sub_cancel_left
def uR:=@_root_.List.ext_getElem
def pY:=@_root_.bne_iff_ne
def zq:=@_root_.List.take_of_length_le
def zr:=@_root_.List.range_succ_eq_map
def zt:=@_root_.Array.getElem?_eq_none
def uS:=@_root_.Nat.le_antisymm
def uT:=@_root_.List.nil_append
def zu:=@_root_.List.contains_iff_mem
def zv:=@_root_.Array.getElem?_toList
def zw:=@_root_.Array.getElem?_modify
def zx:=@_root_.List.mem_of_mem_drop
def rJ:=@_root_.Int.le_refl
def zy:=@_root_.Nat.add_sub_cancel'
def zz:=@_root_.List.length_pos_iff
def zA:=@_root_.Int.toNat_of_nonneg
def rK:=@_root_.Go.Sem.run_ite
end Go
namespace Go.AM
inductive C where
  | int (k:IntKind) (n:Int)
  | bool (b:Bool)
  | str (s:List UInt8)
  | sl (tight:Bool) (k n:Nat) (es:Nat->List C)
  | rp (cs:List C)
  | oY
  | ifs (t:aw) (c:C)
  | M3 (t:aw) (cs:List C)
  | o0
  | fn (f:Fn) (first cap:List C)
  | zH
  | val (x:aj)
inductive BP where
  | sl (g k o n:Nat)
  | el (g k i f:Nat)
def BP.g:BP->Nat
  | .sl g _ _ _=>g
  | .el g _ _ _=>g
def BP.K:BP->aj->aj->Prop
  | .sl _ k o n,lv,v=>∃a a0 cap c0,v=.slice a n cap/\n<=cap/\o+cap=c0/\c0<=9223372036854775807/\lv=.slice a0 0 c0/\(0<cap->∃b,a0=aa ⟨b,0,af⟩/\a=aa ⟨b,o*k,af⟩)
  | .el _ k i f,lv,v=>∃b c0,lv=.slice (aa ⟨b,0,af⟩) 0 c0/\v=.pointer (aa ⟨b,i*k+f,af⟩)
inductive A where
  | c (x:C)
  | ptr (l off:Nat)
  | vec (l k n:Nat) (es:Nat->List C)
  | ref (l:Nat)
  | bp (l:Nat) (w:BP)
  | any
abbrev A.v(x:aj):A:=.c (.val x)
inductive E1 where
  | one (a:A)
  | agg (cs:List A)
inductive D where
  | e (x:E1)
  | fz (xs:List E1)
  | any
abbrev Fr:=List (Nat×D)
def look:Fr->Nat->D
  | [],_=>.any
  | (i,d)::r,t=>cond (av i t) d (look r t)
inductive bm where
  | cells (E:aw) (cs:List A)
  | vec (E:aw) (k n:Nat) (es:Nat->List C)
  | cq (H:aj->(Nat->Option Obj)->Prop)
  | dead
  | loop (N:Nat) (φ:Fr) (r:Loop)
  | qT
  | buf (E:aw) (k n:Nat) (es:Nat->List C)
@[simp] def bm.gr:bm->Bool
  | .vec _ _ _ _=>ab
  | .buf _ _ _ _=>ab
  | _=>ae
structure Loc where
  v:aj
  bs:List Nat
abbrev Mem:=Nat->Nat->Option aj
structure St where
  β:List Loc
  M:Mem
  w:aA
  own:Nat->Prop
def bx:IntKind->Int->Prop
  | .i8,n=>-128<=n/\n<=127
  | .i16,n=>-32768<=n/\n<=32767
  | .i32,n=>-2147483648<=n/\n<=2147483647
  | .i64,n=>-9223372036854775808<=n/\n<=9223372036854775807
  | .u8,n=>0<=n/\n<=255
  | .u16,n=>0<=n/\n<=65535
  | .u32,n=>0<=n/\n<=4294967295
  | .u64,n=>0<=n/\n<=18446744073709551615
def cZ:aj->Bool
  | .agg _|.tuple _=>ae
  | _=>ab
def BP.K.cell{w:BP}{lv v:aj}(h:w.K lv v):cZ v=ab:=by
  cases w with
  | sl=>obtain⟨_,_,_,_,rfl,_⟩:=h;rfl
  | el=>obtain⟨_,_,_,rfl⟩:=h;rfl
inductive Rd (M:Mem):aj->C->Prop
  | int {k:IntKind} {n:Int} (h:bx k n):Rd M (.int k n) (.int k n)
  | bool {b:Bool}:Rd M (.bool b) (.bool b)
  | str {s:ByteArray} {l:List UInt8} (h:s.data.toList=l) (hl:l.length<=9223372036854775807):Rd M (.string s) (.str l)
  | sl {a:Option Addr} {n cap:Nat} {tight:Bool} {k:Nat} {es:Nat->List C} (b off:Nat) (f:Nat->Nat->aj)
      (GN:n<=cap) (hb:cap<=9223372036854775807) (ht:tight=ab->cap=n) (hk:∀i,i<n->(es i).length=k)
      (ha:0<n->a=aa ⟨b,off,af⟩)
      (hm:∀i,i<n->∀j c,(es i)[j]?=aa c->M b (off+i*k+j)=aa (f i j))
      (hr:∀i,i<n->∀j c,(es i)[j]?=aa c->Rd M (f i j) c):Rd M (.slice a n cap) (.sl tight k n es)
  | rp {cs:List C} (b off:Nat) (f:Nat->aj)
      (hm:∀j c,cs[j]?=aa c->M b (off+j)=aa (f j))
      (hr:∀j c,cs[j]?=aa c->Rd M (f j) c):Rd M (.pointer (aa ⟨b,off,af⟩)) (.rp cs)
  | oY:Rd M (.pointer af) .oY
  | ifs {t:aw} {v:aj} {c:C} (h:Rd M v c) (hc:cZ v=ab):Rd M (.iface t v) (.ifs t c)
  | M3 {t:aw} {vs:List aj} {cs:List C} (hl:vs.length=cs.length)
      (f:Nat->aj) (hf:∀j,j<vs.length->vs[j]?=aa (f j)) (hr:∀j c,cs[j]?=aa c->Rd M (f j) c):Rd M (.iface t (.agg vs.toArray)) (.M3 t cs)
  | o0:Rd M .nilIface .o0
  | fn {g:Fn} {first cap:List C} (fs cs:List aj) (hl:fs.length=first.length) (Dr:cs.length=cap.length) (f1 f2:Nat->aj)
      (h1:∀j,j<fs.length->fs[j]?=aa (f1 j)) (h2:∀j,j<cs.length->cs[j]?=aa (f2 j))
      (r1:∀j c,first[j]?=aa c->Rd M (f1 j) c) (r2:∀j c,cap[j]?=aa c->Rd M (f2 j) c):Rd M (.func g fs.toArray cs.toArray) (.fn g first cap)
  | zH:Rd M .nilFunc .zH
  | val {x:aj} (h:cZ x=ab):Rd M x (.val x)
theorem Rd.fu{M:Mem}{v x:aj}(h:Rd M v (.val x)):v=x:=by cases h;rfl
def Rd.cell{M:Mem}{v:aj}{c:C}(h:Rd M v c):cZ v=ab:=by cases h<;>first|rfl|assumption
def Rd.mono{M M':Mem}(d:∀b o v,M b o=aa v->M' b o=aa v){v:aj}{c:C}(h:Rd M v c):Rd M' v c:=by
  induction h with
  | int h=>exact .int h
  | bool=>exact .bool
  | str h hl=>exact .str h hl
  | sl b off f a hb ht hk ha hm hr ih =>
    exact .sl b off f a hb ht hk ha (λi hi j c hj=>d _ _ _ (hm i hi j c hj)) (λi hi j c hj=>ih i hi j c hj)
  | rp b off f hm hr ih=>exact .rp b off f (λj c hj=>d _ _ _ (hm j c hj)) (λj c hj=>ih j c hj)
  | oY=>exact .oY
  | ifs h e ih=>exact .ifs ih e
  | M3 hl f g hr ih=>exact .M3 hl f g (λj c hj=>ih j c hj)
  | o0=>exact .o0
  | fn fs cs hl Dr f1 f2 h1 h2 r1 r2 ih1 ih2=>exact .fn fs cs hl Dr f1 f2 h1 h2 (λj c hj=>ih1 j c hj) (λj c hj=>ih2 j c hj)
  | zH=>exact .zH
  | val h=>exact .val h
def gb(σ:List bm)(s:St)(v:aj):A->Prop
  | .c x=>Rd s.M v x
  | .ptr l off=>(∀B,σ[l]?=aa B->B.gr=ae)/\∃L b,s.β[l]?=aa L/\L.v=.pointer (aa ⟨b,0,af⟩)/\v=.pointer (aa ⟨b,off,af⟩)
  | .vec l k n es=>Rd s.M v (.sl ae k n es)/\l<σ.length/\∀E k' n' es',σ[l]?=aa (bm.vec E k' n' es')->n<=n'/\(n'=n->∃L,s.β[l]?=aa L/\v=L.v)
  | .ref l=>(∀B,σ[l]?=aa B->B.gr=ae)/\∃L,s.β[l]?=aa L/\v=L.v/\cZ v=ab
  | .bp l w=>∃a,w.K a v/\l<σ.length/\∀E k n es,σ[l]?=aa (bm.buf E k n es)->w.g<=n/\(w.g=n->∃L,s.β[l]?=aa L/\L.v=a)
  | .any=>cZ v=ab
def eb(σ:List bm)(s:St):List aj->List A->Prop
  | [],[]=>True
  | v::vs,a::al=>gb σ s v a/\eb σ s vs al
  | _,_=>False
def nD(σ:List bm)(s:St)(v:aj):E1->Prop
  | .one a=>gb σ s v a
  | .agg cs=>∃vs:List aj,v=.agg vs.toArray/\eb σ s vs cs
def gF(σ:List bm)(s:St):List aj->List E1->Prop
  | [],[]=>True
  | v::vs,a::al=>nD σ s v a/\gF σ s vs al
  | _,_=>False
def dm(σ:List bm)(s:St)(v:aj):D->Prop
  | .e x=>nD σ s v x
  | .fz xs=>∃vs:List aj,v=.tuple vs.toArray/\gF σ s vs xs
  | .any=>True
def cn(σ:List bm)(s:St):List aj->List D->Prop
  | [],[]=>True
  | v::vs,a::al=>dm σ s v a/\cn σ s vs al
  | _,_=>False
structure Flat(M:Mem)(k n:Nat)(es:Nat->List C)(vs:List aj):Prop where
  len:vs.length=n*k
  width:∀i,i<n->(es i).length=k
  rd:∀i,i<n->∀(j:Nat) (c:C),(es i)[j]?=aa c->∃v,vs[i*k+j]?=aa v/\Rd M v c
def Flat.mono{M M':Mem}(a:∀b o v,M b o=aa v->M' b o=aa v){k n:Nat}{es:Nat->List C}{vs:List aj}(h:Flat M k n es vs):Flat M' k n es vs :=
  ⟨h.len,h.width,λi hi j c hj=>let ⟨v,h1,h2⟩:=h.rd i hi j c hj;⟨v,h1,h2.mono a⟩⟩
def eK(σ:List bm)(s:St):bm->Loc->Prop
  | .cells E cs,L=>∃b vs,L=⟨.pointer (aa ⟨b,0,af⟩),[b]⟩/\s.w.heap[b]?=aa (.cells (List.toArray vs) E (0,0))/\eb σ s vs cs/\∀o,s.M b o=af
  | .vec E k n es,L=>Rd s.M L.v (.sl ae k n es) /\
      (((L.bs=[]/\n=0)/\Rd s.M L.v (.sl ab k n es)) ∨
       ∃b cap vs,L=⟨.slice (aa ⟨b,0,af⟩) n cap,[b]⟩/\s.w.heap[b]?=aa (.cells (List.toArray vs) E (0,0))/\vs.length=cap*k/\∀o,n*k<=o->s.M b o=af)
  | .cq H,L=>∃c,H L.v c/\(∀(b:Nat) (o:Obj),c b=aa o->s.w.heap[b]?=aa o)/\(∀b,b∈L.bs↔(c b).isSome=ab)/\∀b∈L.bs,∀o,s.M b o=af
  | .dead,_=>True
  | .loop N φ r,L=>∃l tmps fn df,L=⟨.func (.yield l) #[] #[],[l]⟩/\s.w.heap[l]?=aa (.loop {r with tmps:=tmps,fn:=fn,defers:=df})/\tmps.size=N/\(∀t,dm σ s (tmps.getD t ah) (look φ t))/\∀o,s.M l o=af
  | .qT,L=>∃r:Nat,L=⟨.int .i64 r,[r]⟩/\s.w.heap[r]?=aa (.deferred (aa []))/\∀o,s.M r o=af
  | .buf E k n es,L=>(n=0/\L=⟨.slice af 0 0,[]⟩)∨∃b a vs zs,L=⟨.slice (aa ⟨b,0,af⟩) 0 a,[b]⟩/\s.w.heap[b]?=aa (.cells (List.toArray (vs++zs)) E (0,0))/\(vs++zs).length=a*k/\n<=a/\a<=9223372036854775807/\Flat s.M k n es vs/\∀o,s.M b o=af
structure aD(σ:List bm)(s:St):Prop where
  mem:∀b o v,s.M b o=aa v->s.w.cell? ⟨b,o,af⟩=aa v
  len:s.β.length=σ.length
  box:∀(l:Nat) (B:bm) (L:Loc),σ[l]?=aa B->s.β[l]?=aa L->eK σ s B L
  eZ:∀(l l':Nat) (L L':Loc),s.β[l]?=aa L->s.β[l']?=aa L'->∀b∈L.bs,b∈L'.bs->l=l'
  lt:∀L∈s.β,∀b∈L.bs,b<s.w.heap.size
  own:∀b,s.own b->b<s.w.heap.size/\∀L∈s.β,b∉L.bs
def ic:bm->Loc->bm->Loc->Prop
  | .vec _ _ n _,L,.vec _ _ a _,L'=>(a=n->L'.v=L.v)/\n<=a
  | .vec _ _ _ _,_,.dead,_=>True
  | .vec _ _ _ _,_,_,_=>False
  | .buf _ _ n _,L,.buf _ _ a _,L'=>(a=n->L'.v=L.v)/\n<=a
  | .buf _ _ _ _,_,.dead,_=>True
  | .buf _ _ _ _,_,_,_=>False
  | _,_,.vec _ _ _ _,_=>False
  | _,_,.buf _ _ _ _,_=>False
  | .dead,L,.dead,L'=>L'.v=L.v
  | .dead,_,_,_=>False
  | .qT,L,.qT,L'=>L'.v=L.v
  | .qT,_,_,_=>False
  | _,_,.qT,_=>False
  | _,L,_,L'=>L'.v=L.v
structure Ext(σ:List bm)(s:St)(σ':List bm)(s':St):Prop where
  mem:∀b o v,s.M b o=aa v->s'.M b o=aa v
  box:∀(l:Nat) (B:bm) (L:Loc),σ[l]?=aa B->s.β[l]?=aa L->∃B' L',σ'[l]?=aa B'/\s'.β[l]?=aa L'/\ic B L B' L'
structure Step(σ:List bm)(s:St)(σ':List bm)(s':St):Prop where
  size:s.w.heap.size<=s'.w.heap.size
  keep:∀b,b<s.w.heap.size->(∀L∈s.β,b∉L.bs)->s'.w.heap[b]?=s.w.heap[b]?
  mem:∀b o v,s.M b o=aa v->s'.M b o=aa v
  iO:∀b,b<s.w.heap.size->(∀L∈s.β,b∉L.bs)->∀o,s'.M b o=s.M b o
  uW:∀L'∈s'.β,∀b∈L'.bs,s.w.heap.size<=b∨∃L∈s.β,b∈L.bs
  box:∀(l:Nat) (B:bm) (L:Loc),σ[l]?=aa B->s.β[l]?=aa L->∃B' L',σ'[l]?=aa B'/\s'.β[l]?=aa L'/\ic B L B' L'
  os:s'.w.os=s.w.os
  tape:s'.w.tape=s.w.tape
  output:s'.w.output=s.w.output
  own:s'.own=s.own
structure cR(σ:List bm)(s:St)(σ':List bm)(s':St):Prop where
  size:s.w.heap.size<=s'.w.heap.size
  keep:∀b,s.own b->s'.w.heap[b]?=s.w.heap[b]?
  mem:∀b o v,s.M b o=aa v->s'.M b o=aa v
  iO:∀b,b<s.w.heap.size->(∀L∈s.β,b∉L.bs)->∀o,s'.M b o=s.M b o
  uW:∀L'∈s'.β,∀b∈L'.bs,s.w.heap.size<=b∨∃L∈s.β,b∈L.bs
  box:∀(l:Nat) (B:bm) (L:Loc),σ[l]?=aa B->s.β[l]?=aa L->∃B' L',σ'[l]?=aa B'/\s'.β[l]?=aa L'/\ic B L B' L'
  os:s'.w.os=s.w.os
  tape:s'.w.tape=s.w.tape
  output:s'.w.output=s.w.output
  own:s'.own=s.own
structure b6(s s':St):Prop where
  β:s'.β=s.β
  M:s'.M=s.M
  own:s'.own=s.own
  size:s.w.heap.size<=s'.w.heap.size
  keep:∀b,(s.own b∨∃L∈s.β,b∈L.bs)->s'.w.heap[b]?=s.w.heap[b]?
  mem:∀b o v,s.M b o=aa v->s'.w.cell? ⟨b,o,af⟩=aa v
  os:s'.w.os=s.w.os
  tape:s'.w.tape=s.w.tape
  output:s'.w.output=s.w.output
def oG(s:St)(e:Event):Prop :=
  match e.loc with
  | .cell a=>e.sync=ae/\a.spot=af/\(False∨((∃L∈s.β,a.block∈L.bs)/\(e.write=ab->s.M a.block a.off=af))∨(e.write=ae/\∃v,s.M a.block a.off=aa v))
  | .obj r=>e.sync=ae/\(False∨∃L∈s.β,r∈L.bs)
  | .mark m=>m=.noRoom∨∃f,m=.extern f
  | _=>False
def eB(s:St)(es:Array Event):Prop:=∀e∈es,oG s e
def eB.nil{s:St}:eB s #[]:=by intro e h;grind
def ic.refl(B:bm)(L:Loc):ic B L B L:=by cases B<;>simp[ic]
def ic.trans{B B' We:bm}{L L' Yi:Loc}(h:ic B L B' L')(a:ic B' L' We Yi):ic B L We Yi:=by
  cases B<;>cases B'<;>cases We<;>simp_all[ic]
  all_goals
    grind
def Step.refl(σ:List bm)(s:St):Step σ s σ s :=
  ⟨ba _,λ_ _ _=>rfl,λ_ _ _ h=>h,λ_ _ _ _=>rfl,λL h b hb=>.inr ⟨L,h,hb⟩,λ_ B L h a=>⟨B,L,h,a,.refl _ _⟩,rfl,rfl,rfl,rfl⟩
def Step.trans{σ σ1 σ2:List bm}{s c s2:St}(h:Step σ s σ1 c)(k:Step σ1 c σ2 s2):Step σ s σ2 s2:=by
  have out:∀b,b<s.w.heap.size->(∀L∈s.β,b∉L.bs)->∀L∈c.β,b∉L.bs:=by
    intro b hb hn L a d;rcases h.uW L a b d with h1|⟨u,q,n⟩
    · omega
    grind
  refine⟨dT h.size k.size,?_,λb o v g=>k.mem _ _ _ (h.mem _ _ _ g),?_,?_,?_,k.os.trans h.os,k.tape.trans h.tape,k.output.trans h.output,k.own.trans h.own⟩
  · intro b hb hn
    rw[k.keep b (cB hb h.size) (out b hb hn),h.keep b hb hn]
  · intro b hb hn o
    rw[k.iO b (cB hb h.size) (out b hb hn),h.iO b hb hn]
  · intro L a b hb
    rcases k.uW L a b hb with h1|⟨L1,p,f⟩
    · exact .inl (dT h.size h1)
    grind
  · intro l B L m a
    obtain⟨B1,L1,h1,h2,i⟩:=h.box l B L m a;obtain⟨t,j,k1,e,r⟩:=k.box l B1 L1 h1 h2;exact⟨t,j,k1,e,i.trans r⟩
def cR.refl(σ:List bm)(s:St):cR σ s σ s :=
  ⟨ba _,λ_ _=>rfl,λ_ _ _ h=>h,λ_ _ _ _=>rfl,λL h b hb=>.inr ⟨L,h,hb⟩,λ_ B L h a=>⟨B,L,h,a,.refl _ _⟩,rfl,rfl,rfl,rfl⟩
def cR.trans{σ σ1 σ2:List bm}{s c s2:St}(h:cR σ s σ1 c)(k:cR σ1 c σ2 s2):cR σ s σ2 s2:=by
  have out:∀b,b<s.w.heap.size->(∀L∈s.β,b∉L.bs)->∀L∈c.β,b∉L.bs:=by
    intro b hb hn L a d;rcases h.uW L a b d with h1|⟨u,q,n⟩
    · omega
    grind
  refine⟨dT h.size k.size,?_,λb o v g=>k.mem _ _ _ (h.mem _ _ _ g),?_,?_,?_,k.os.trans h.os,k.tape.trans h.tape,k.output.trans h.output,k.own.trans h.own⟩
  · intro b hb
    rw[k.keep b (by rw[h.own];exact hb),h.keep b hb]
  · intro b hb hn o
    rw[k.iO b (cB hb h.size) (out b hb hn),h.iO b hb hn]
  · intro L a b hb
    rcases k.uW L a b hb with h1|⟨L1,p,f⟩
    · exact .inl (dT h.size h1)
    grind
  · intro l B L m a
    obtain⟨B1,L1,h1,h2,i⟩:=h.box l B L m a;obtain⟨t,j,k1,e,r⟩:=k.box l B1 L1 h1 h2;exact⟨t,j,k1,e,i.trans r⟩
def Step.ow{σ σ':List bm}{s s':St}(hh:aD σ s)(h:Step σ s σ' s'):cR σ s σ' s' :=
  ⟨h.size,λb hb=>h.keep b (hh.own b hb).1 (hh.own b hb).2,h.mem,h.iO,h.uW,h.box,h.os,h.tape,h.output,h.own⟩
def cR.ext{σ σ':List bm}{s s':St}(h:cR σ s σ' s'):Ext σ s σ' s':=⟨h.mem,h.box⟩
def b6.refl{σ:List bm}{s:St}(hh:aD σ s):b6 s s:=⟨rfl,rfl,rfl,ba _,λ_ _=>rfl,hh.mem,rfl,rfl,rfl⟩
def b6.stepW{σ:List bm}{s s':St}(h:b6 s s'):cR σ s σ s' :=
  ⟨h.size,λb hb=>h.keep b (.inl hb),λb o v d=>by rw[h.M];exact d,λ_ _ _ _=>by rw[h.M],λL a b hb=>.inr ⟨L,by rw[<-h.β];exact a,hb⟩,
    λl B L c a=>⟨B,L,c,by rw[h.β];exact a,.refl _ _⟩,h.os,h.tape,h.output,h.own⟩
def Step.ext{σ σ':List bm}{s s':St}(h:Step σ s σ' s'):Ext σ s σ' s':=⟨h.mem,h.box⟩
section mono
variable {σ σ':List bm}{s s':St}
def Ext.ML(h:Ext σ s σ' s'){l:Nat}{L:Loc}(b:s.β[l]?=aa L)(hl:s.β.length=σ.length)(d:∀B,σ[l]?=aa B->B.gr=ae):
    (∀B,σ'[l]?=aa B->B.gr=ae)/\∃L',s'.β[l]?=aa L'/\L'.v=L.v:=by
  have a:l<σ.length:=by grind
  obtain⟨B',L',k1,e,f⟩:=h.box l (σ[l]) L (bg a) b;have c:=d _ (bg a);generalize σ[l]=B at *;rw[k1];cases B<;>cases B'<;>simp_all[ic,bm.gr]
def gb.mono(h:Ext σ s σ' s')(hl:s.β.length=σ.length){v:aj}{a:A}(r:gb σ s v a):gb σ' s' v a:=by
  cases a with
  | c x=>exact Rd.mono h.mem r
  | any=>exact r
  | ptr l off =>
    obtain⟨o,L,b,h1,h2,m⟩:=r;obtain⟨f,L',k1,i⟩:=h.ML h1 hl o;exact⟨f,L',b,k1,by grind,m⟩
  | vec l k n es =>
    obtain⟨j,e,t⟩:=r;obtain⟨B',L',k1,i,g⟩:=h.box l (σ[l]) (s.β[l]'(by omega)) (bg e) (bg (by omega));have d:l<σ'.length:=(b8.1 k1).1;refine⟨Rd.mono h.mem j,d,λE k' f es' he=>?_⟩;rw[he]at k1;cases k1;have q:=bg e;generalize σ[l]=B at *;cases B with
    | vec E0 k0 n0 Yj =>
      obtain⟨p,q2⟩:=g;grind
    | _=>simp[ic]at g
  | ref l =>
    obtain⟨o,L,h1,h2,m⟩:=r;obtain⟨f,L',k1,i⟩:=h.ML h1 hl o;exact⟨f,L',k1,by grind,m⟩
  | bp l w =>
    obtain⟨lv,j,e,t⟩:=r;obtain⟨B',L',k1,i,g⟩:=h.box l (σ[l]) (s.β[l]'(by omega)) (bg e) (bg (by omega));have d:l<σ'.length:=(b8.1 k1).1;refine⟨lv,j,d,λE k' f es' he=>?_⟩;rw[he]at k1;cases k1;have q:=bg e;generalize σ[l]=B at *;cases B with
    | buf E0 k0 n0 Yj =>
      obtain⟨p,q2⟩:=g;grind
    | _=>simp[ic]at g
def eb.mono(h:Ext σ s σ' s')(hl:s.β.length=σ.length){vs:List aj}{cs:List A}(r:eb σ s vs cs):eb σ' s' vs cs:=by
  induction vs generalizing cs with
  | nil=>cases cs<;>simp_all[eb]
  | cons v vs ih =>
    cases cs with
    | nil=>simp[eb]at r
    | cons a cs=>exact⟨r.1.mono h hl,ih r.2⟩
def nD.mono(h:Ext σ s σ' s')(hl:s.β.length=σ.length){v:aj}{x:E1}(r:nD σ s v x):nD σ' s' v x:=by
  cases x with
  | one a=>exact gb.mono h hl r
  | agg cs=>obtain⟨vs,h1,h2⟩:=r;exact⟨vs,h1,h2.mono h hl⟩
def gF.mono(h:Ext σ s σ' s')(hl:s.β.length=σ.length){vs:List aj}{xs:List E1}(r:gF σ s vs xs):gF σ' s' vs xs:=by
  induction vs generalizing xs with
  | nil=>cases xs<;>simp_all[gF]
  | cons v vs ih =>
    cases xs with
    | nil=>simp[gF]at r
    | cons a cs=>exact⟨r.1.mono h hl,ih r.2⟩
def dm.mono(h:Ext σ s σ' s')(hl:s.β.length=σ.length){v:aj}{d:D}(r:dm σ s v d):dm σ' s' v d:=by
  cases d with
  | e x=>exact nD.mono h hl r
  | fz xs=>obtain⟨vs,h1,h2⟩:=r;exact⟨vs,h1,h2.mono h hl⟩
  | any=>trivial
def cn.mono(h:Ext σ s σ' s')(hl:s.β.length=σ.length){vs:List aj}{xs:List D}(r:cn σ s vs xs):cn σ' s' vs xs:=by
  induction vs generalizing xs with
  | nil=>cases xs<;>simp_all[cn]
  | cons v vs ih =>
    cases xs with
    | nil=>simp[cn]at r
    | cons a cs=>exact⟨r.1.mono h hl,ih r.2⟩
end mono
def oI(σ:List bm)(s:St):List Deferred->List Nat->Prop
  | [],[]=>True
  | d::ds,l::ls=>(σ[l]?=aa .qT/\∃(L:Loc) (r:Nat),s.β[l]?=aa L/\L.v=.int .i64 r/\d={target:=.collected r,args:=#[]})/\l∉ls/\oI σ s ds ls
  | _,_=>False
def oI.mono{σ σ':List bm}{s s':St}(h:Ext σ s σ' s'):∀{ds:List Deferred} {ls:List Nat},oI σ s ds ls->oI σ' s' ds ls
  | [],[],_=>trivial
  | [],_::_,r=>r.elim
  | _::_,[],r=>r.elim
  | d::ds,l::ls,⟨⟨h1,L,r,h2,g,c⟩,e,a⟩=>by
    obtain⟨B',L',k1,b,f⟩:=h.box l _ L h1 h2;cases B'<;>simp[ic]at f
    exact⟨⟨k1,L',r,b,by grind,c⟩,e,oI.mono h a⟩
def mY:List bm->Bool
  | []=>ab
  | .qT::_=>ae
  | _::r=>mY r
def mZ:∀{l:List bm},mY l=ab->∀B∈l,B≠.qT
  | [],_,B,a=>by grind
  | b::r,h,B,a=>by
    have c:b≠.qT/\mY r=ab:=by cases b<;>simp_all[mY]
    rcases dC.1 a with rfl|a
    · exact c.1
    · exact mZ c.2 B a
theorem gH{s:St}{r:Nat}{wr:Bool}{L:Loc}(a:L∈s.β)(b:r∈L.bs):oG s ⟨.obj r,wr,ae⟩:=⟨rfl,.inr ⟨L,a,b⟩⟩
def eB.one{s:St}{e:Event}(h:oG s e):eB s #[e]:=by intro x a;grind
def eB.two{s:St}{e a:Event}(h:oG s e)(b:oG s a):eB s #[e,a]:=by intro x c;grind
variable {n k l b i j:Nat}{E:aw}{H:aj->(Nat->Option Obj)->Prop}{L:Array Bool}{M:Mem}{N:Nat}{P:aO}{S:aq->St->Prop}{c:Code}{g:aq}{o:aB}{s:St}{t:aw}{v:aj}{w:aA}{x y:aC}{α:Type}{η:aC->D}{ι:Type}{σ:List bm}{φ:Fr}{all:List aB}{jP:Array aw}{cap:List C}{cu:List D}{cs:List aV}{ds:List (Nat×Bool)}{es:Nat->List C}{fo:aC}{gs:Array aq}{obs:List Prop}{off:Nat}{op:BinOp}{ops:Array aB}{ps:List Prop}{rest:List aB}{s':St}{ty:aw}{val:Nat->Nat->aj}{vs:List aj}{w':aA}{xs:Array aC}{σ' σs:List bm}{res:ι->D}{σ1:ι->List bm}
section
open Go.Conc (G listed)
def qS(s s':St)(es:Array Event):Prop:=(∃σ σ',aD σ s/\aD σ' s'/\Step σ s σ' s')/\eB s es
structure Cx(P:aO) where
 main:Bool
 rely:St->St->Prop
 vo:aq->St->(aq->St->Prop)->Prop
 ij:∀{s s'},rely s s'->b6 s s'
 Bn:Prop
class Cx.im {P:aO} (X:Cx P):Prop where
 ok:X.Bn
structure eO(s s':St):Prop where
 w:s'.w=s.w
 mem:∀b o v,s.M b o=aa v->s'.M b o=aa v
 iO:∀b,(∀L∈s.β,b∉L.bs)->∀o,s'.M b o=s.M b o
 cell:∀b o v,s'.M b o=aa v->s.w.cell? ⟨b,o,af⟩=aa v
 blk:∀b,(s'.own b∨∃L∈s'.β,b∈L.bs)->s.own b∨∃L∈s.β,b∈L.bs
structure mL(s s':St):Prop where
 w:s'.w=s.w
 β:s'.β=s.β
 own:s'.own=s.own
 less:∀b o v,s'.M b o=aa v->s.M b o=aa v
 mem:∀b o v,s.M b o=aa v->s'.M b o=aa v∨s.own b
inductive fy {P:aO} (X:Cx P) (S:aq->St->Prop):aq->St->Prop
 |stop {g:aq} {s:St}:S g s->fy X S g s
 |step {g:aq} {s:St} (ng:St->aq) (ns:St->St) (ne:St->Array Event):g.status=.running ->
   (∀s1,X.rely s s1->aH P X.main g s1.w=.go (ng s1) (ns s1).w (ne s1))->(∀s1,X.rely s s1->qS s1 (ns s1) (ne s1))->(∀s1,X.rely s s1->fy X S (ng s1) (ns s1))->fy X S g s
 |ghost {g:aq} {s s':St}:eO s s'->fy X S g s'->fy X S g s
 |forget {g:aq} {s s':St}:X.Bn->mL s s'->fy X S g s'->fy X S g s
 |vo {g:aq} {s:St} {T:aq->St->Prop}:X.vo g s T->(∀g' s',T g' s'->fy X S g' s')->fy X S g s
section
variable {X:Cx P}
def fy.next(f:g.status=.running)(h:∀c,X.rely s c->∃g' s' es,aH P X.main g c.w=.go g' s'.w es/\qS c s' es/\fy X S g' s'):fy X S g s:=by
 classical
 have hh:∀c,∃r:aq×St×Array Event,X.rely s c->aH P X.main g c.w=.go r.1 r.2.1.w r.2.2/\qS c r.2.1 r.2.2/\fy X S r.1 r.2.1:=by
  intro c;by_cases e:X.rely s c
  .obtain⟨g',s',es,h1⟩:=h c e;exact⟨(g',s',es),λ_=>h1⟩
  .exact⟨(g,c,#[]),λd=>absurd d e⟩
 refine .step (λc=>(Classical.choose (hh c)).1) (λc=>(Classical.choose (hh c)).2.1) (λc=>(Classical.choose (hh c)).2.2) f ?_ ?_ ?_
 .grind
 .grind
 grind
theorem eO.of(hh:aD σ s)(c:aD σ' s')(f:s'.w=s.w)(st:cR σ s σ' s'):eO s s':=by
 have i:∀b o v,s'.M b o=aa v->s.w.cell? ⟨b,o,af⟩=aa v:=λb o v h=>by rw[<-f];exact c.mem b o v h
 have d:∀b o v,s.w.cell? ⟨b,o,af⟩=aa v->b<s.w.heap.size:=by
  intro b o v h;rcases cG b s.w.heap.size with h1|h1
  .exact h1
  .simp[aW,zt h1]at h
 refine⟨f,st.mem,λb hb o=>?_,i,λb hb=>?_⟩
 .rcases cG b s.w.heap.size with h1|h1
  .exact st.iO b h1 hb o
  .cases h2:s'.M b o with
   |some v=>grind
   |none=>cases g:s.M b o with
    |none=>rfl
    |some v=>have:=d _ _ _ (hh.mem _ _ _ g);omega
 .rcases hb with hb|⟨L,e,hb⟩
  .exact .inl (by rw[<-st.own];exact hb)
  .rcases st.uW L e b hb with h1|h1
   .have:=c.lt L e b hb;grind
   grind
def aD.rely(hh:aD σ s)(h:b6 s s'):aD σ s':=by
 have ex:Ext σ s σ s':=h.stepW.ext;have y:∀v a,gb σ s v a->gb σ s' v a:=λv a r=>r.mono ex hh.len;refine⟨λb o v hm=>h.mem b o v (by rw[<-h.M];exact hm),by rw[h.β];exact hh.len,?_,by rw[h.β];exact hh.eZ,?_,?_⟩
 .intro l B L j e;rw[h.β]at e;have hb:=hh.box l B L j e;have z:∀b∈L.bs,s'.w.heap[b]?=s.w.heap[b]?:=λb hb=>h.keep b (.inr ⟨L,bL e,hb⟩);cases B with
  |cells E cs =>
   obtain⟨b,vs,h1,h2,c,d⟩:=hb;subst h1;exact⟨b,vs,rfl,by grind,c.mono ex hh.len,λo=>by rw[h.M,d]⟩
  |vec E k n es =>
   obtain⟨h1,h2⟩:=hb;refine⟨by rw[h.M];exact h1,?_⟩;rcases h2 with⟨h2,c⟩|⟨b,cap,vs,h2,c,d,f⟩
   .exact .inl ⟨h2,by rw[h.M];exact c⟩
   .subst h2;exact .inr ⟨b,cap,vs,rfl,by grind,d,λo ho=>by rw[h.M,f o ho]⟩
  |cq H =>
   obtain⟨ch,h1,h2,c,d⟩:=hb;refine⟨ch,h1,λb o m=>?_,c,λb g o=>by rw[h.M,d b g]⟩;grind
  |dead=>trivial
  |loop N φ r =>
   obtain⟨l,tmps,fn,q,h1,h2,c,d,f⟩:=hb;subst h1;exact⟨l,tmps,fn,q,rfl,by grind,c,λt=>(d t).mono ex hh.len,λo=>by rw[h.M,f]⟩
  |qT =>
   obtain⟨r,h1,h2,c⟩:=hb;subst h1;exact⟨r,rfl,by grind,λo=>by rw[h.M,c]⟩
  |buf E k n es =>
   rcases hb with hb|⟨b,u,vs,p,h1,h2,c,d,f,i,x⟩
   .exact .inl hb
   .subst h1;exact .inr ⟨b,u,vs,p,rfl,by grind,c,d,f,by rw[h.M];exact i,λo=>by rw[h.M,x]⟩
 .intro L e b hb;rw[h.β]at e;exact cB (hh.lt L e b hb) h.size
 .intro b hb;rw[h.own]at hb;rw[h.β];exact⟨cB (hh.own b hb).1 h.size,(hh.own b hb).2⟩
def qS.quiet(hh:aD σ s):qS s s #[]:=⟨⟨σ,σ,hh,hh,.refl _ _⟩,.nil⟩
def _root_.Go.Frame.aT(b:aV)(a:Act)(todo:List Item):aV:={b with tmps:=a.tmps,todo:=todo,defers:=a.defers++b.defers,mode:=.run}
variable {b:aV}{a:Act}{k:List Item}{main:Bool}
def Fl(b:aV)(a:Act)(c:List Item):(b.aT a c).eval=a.eval:=by funext x;cases x<;>rfl
def Fo:aH P main (G (b.aT a (.code .skip::k)) cs) w=.go (G (b.aT a k) cs) w:=by simp[G,aH,stepG.exec,Frame.aT]
def qU{id:Nat}:aH P main (G (b.aT a (.inBlock id::k)) cs) w=.go (G (b.aT a k) cs) w:=by simp[G,aH,stepG.exec,Frame.aT]
theorem nO{x y:Code}:aH P main (G (b.aT a (.code (.seq x y)::k)) cs) w=.go (G (b.aT a (.code x::.code y::k)) cs) w:=by simp[G,aH,stepG.exec,Frame.aT]
def uX{c:aC}{x y:Code}{t:Bool}(h:a.eval c=.bool t):
  aH P main (G (b.aT a (.code (.cond c x y)::k)) cs) w=.go (G (b.aT a (.code (if t then x else y)::k)) cs) w:=by
 have d:(b.aT a (.code (.cond c x y)::k)).eval c=.bool t:=by rw[Fl];exact h
 simp only[Frame.aT]at d;simp[G,aH,stepG.exec,Frame.aT,d]
def rP{id:Nat}:aH P main (G (b.aT a (.code (.block id c)::k)) cs) w=.go (G (b.aT a (.code c::.inBlock id::k)) cs) w:=by simp[G,aH,stepG.exec,Frame.aT]
def Fp:aH P main (G (b.aT a (.code (.loop c)::k)) cs) w=.go (G (b.aT a (.code c::.inLoop c::k)) cs) w:=by simp[G,aH,stepG.exec,Frame.aT]
def yo:aH P main (G (b.aT a (.inLoop c::k)) cs) w=.go (G (b.aT a (.code c::.inLoop c::k)) cs) w:=by simp[G,aH,stepG.exec,Frame.aT]
def zE{id:Nat}{k':List Item}(h:exitTo id k=aa k'):aH P main (G (b.aT a (.code (.exit id)::k)) cs) w=.go (G (b.aT a k') cs) w:=by simp[G,aH,stepG.exec,Frame.aT,h]
def qa{id:Nat}:aH P main (G (b.aT a (.code (.region id ops ae)::k)) cs) w=.go (G (b.aT a (.inRegion ops (bk ops.size)::k)) cs) w:=by simp[G,aH,stepG.exec,Frame.aT]
def lE{id:Nat}:aH P main (G (b.aT a (.code (.region id ops ab)::k)) cs) w =
  .go (G (b.aT a (.inRegion ops (Region.schedule (P.follows .mixedOrders) ops (w.tape w.drawn (.order b.fn id)))::k)) cs) {w with drawn:=w.drawn+1}:=by simp[G,aH,stepG.exec,Frame.aT,choose,Sem.run,Question.forced,Question.cut]
def iQ:aH P main (G (b.aT a (.inRegion ops []::k)) cs) w=.go (G (b.aT a k) cs) w:=by simp[G,aH,stepG.exec,Frame.aT]
def DD(h:b.roundOf=af):aH P main (G (b.aT a (.code .ret::k)) cs) w=.go (G {b.aT a (.code .ret::k)with mode:=.returning} cs) w:=by simp[G,aH,stepG.exec,Frame.aT,h]
def DF(h:b.roundOf=af):aH P main (G (b.aT a []) cs) w=.go (G {b.aT a []with mode:=.returning} cs) w:=by simp[G,aH,stepG.exec,Frame.aT,h]
def jg(ops:Array aB)(i:Nat)(rest:List Nat)(v:aj):
  (b.aT a (.inRegion ops (i::rest)::k)).finish v=b.aT (a.put ((ops[i]?).bind (·.dst)) v) (.inRegion ops rest::k):=by cases h:(ops[i]?).bind (·.dst)<;>simp[Frame.finish,Frame.aT,Act.put,h]
def MJ{rest:List Nat}(ho:ops[i]?=aa o)(d:aZ o (yielded ops a.tmps)=ae):
  aH P main (G (b.aT a (.inRegion ops (i::rest)::k)) cs) w=.go (G (b.aT (a.put o.dst ah) (.inRegion ops rest::k)) cs) w:=by have c:=jg (b:=b) (a:=a) (k:=k) ops i rest ah;rw[ho]at c;simp only[mH]at c;rw[<-c];simp[G,aH,stepG.exec,Frame.aT,ho,d]
theorem rQ{g:aC->aj}{c:Call}(h:o.op=.defer c){i:Next}(e:(ak g o).run P w=.ok i w'):∃d,i=.defer d:=by
 simp only[ak,h,bT]at e;cases f:(resolve g c o.type).run P w with
 |ok d w2=>rw[f]at e;simp at e;grind
 |halt x w2=>rw[f]at e;simp at e
def qb{rest:List Nat}(ho:ops[i]?=aa o)(e:aZ o (yielded ops a.tmps)=ab)(f:∀c,o.op≠.defer c):
  aH P main (G (b.aT a (.inRegion ops (i::rest)::k)) cs) w=stepG.apply P ab (b.aT a (.inRegion ops (i::rest)::k)) cs af (ak a.eval o) w:=by have d:=Fl b a (.inRegion ops (i::rest)::k);simp only[Frame.aT]at d;simp[G,aH,stepG.exec,stepG.oper,Frame.oper?,Frame.aT,ho,e,d];grind
theorem Bo{rest:List Nat}(ho:ops[i]?=aa o)(f:aZ o (yielded ops a.tmps)=ab)(h:b.kind≠.early)(g:(ak a.eval o).run P w=.ok (.value v) w'):
  aH P main (G (b.aT a (.inRegion ops (i::rest)::k)) cs) w=.go (G (b.aT (a.put o.dst v) (.inRegion ops rest::k)) cs) w' (listed P b.fn a o w):=by
 have d:=jg (b:=b) (a:=a) (k:=k) ops i rest v;rw[ho]at d;simp only[mH]at d;have e:(b.kind==CallKind.early)=ae:=by grind
 rw[qb ho f (λc j=>by grind[rQ]),<-d];simp[stepG.apply,g,G,Frame.aT,e,GStep.after,listed]
theorem Fq{rest:List Nat}(ho:ops[i]?=aa o)(f:aZ o (yielded ops a.tmps)=ab)(h:b.kind≠.early)(g:(ak a.eval o).run P w=.ok .skip w'):
  aH P main (G (b.aT a (.inRegion ops (i::rest)::k)) cs) w=.go (G (b.aT (a.put o.dst ah) (.inRegion ops rest::k)) cs) w' (listed P b.fn a o w):=by
 have d:=jg (b:=b) (a:=a) (k:=k) ops i rest ah;rw[ho]at d;simp only[mH]at d;have e:(b.kind==CallKind.early)=ae:=by grind
 rw[qb ho f (λc j=>by grind[rQ]),<-d];simp[stepG.apply,g,G,Frame.aT,e,GStep.after,listed]
def oT{rest:List Nat}{f:aK}{args:Array aj}(ho:ops[i]?=aa o)(e:aZ o (yielded ops a.tmps)=ab)(j:b.kind≠.early)(g:(ak a.eval o).run P w=.ok (.enter f args) w'):
  aH P main (G (b.aT a (.inRegion ops (i::rest)::k)) cs) w=.go (G (Frame.enter P f args .normal) (b.aT a (.inRegion ops (i::rest)::k)::cs)) w' (listed P b.fn a o w):=by
 have d:(b.kind==CallKind.early)=ae:=by grind
 rw[qb ho e (λc h=>by grind[rQ])];simp[stepG.apply,g,G,Frame.aT,d,GStep.after,listed]
structure uw(P:aO)(f:aK)(fr:aV)(v:aj)(s:St):Prop where
 ZT:fr.fn=f
 mode:fr.mode=.returning
 defers:fr.defers=[]
 kind:fr.kind=.normal
 fn:∃fn,P.funcs[fr.fn]?=aa fn/\∀w,(∀b o u,s.M b o=aa u->w.cell? ⟨b,o,af⟩=aa u)->(results fn fr.tmps).run P w=.ok v w/\∀e∈(results fn fr.tmps).events P w #[],∃b o u,e=⟨.cell ⟨b,o,af⟩,ae,ae⟩/\s.M b o=aa u
def uw.mono{f:aK}{fr:aV}(h:uw P f fr v s)(j:∀b o u,s.M b o=aa u->s'.M b o=aa u):uw P f fr v s':=by obtain⟨h1,h2,c,d,fn,e,g⟩:=h;refine⟨h1,h2,c,d,fn,e,λw i=>?_⟩;grind
def eB.seen{s:St}{es:Array Event}{fn:aK}(h:eB s es):eB s (seen P fn es):=λe c=>h e (Go.Conc.mem_seen c)
def Iz{f:aK}{g c:aV}(h:uw P f g v s)(w:aA)(l:∀b o u,s.M b o=aa u->w.cell? ⟨b,o,af⟩=aa u):∃es,aH P main (G g (c::cs)) w=.go (G (c.finish v) cs) w es/\∀e∈es,∃b o u,e=⟨.cell ⟨b,o,af⟩,ae,ae⟩/\s.M b o=aa u:=by obtain⟨fn,j,d⟩:=h.fn;obtain⟨n,i⟩:=d w l;refine⟨seen P g.fn ((results fn g.tmps).events P w #[]),?_,λe m=>i e (Go.Conc.mem_seen m)⟩;simp[G,aH,unwind,doReturn,h.mode,h.defers,h.kind,j,n,GStep.after]
end
end
structure cr(N:Nat)(σ:List bm)(s:St)(φ:Fr)(a:Act):Prop where
 size:a.tmps.size=N
 defers:∃ls,oI σ s a.defers ls
 slot:∀t,dm σ s (a.tmps.getD t ah) (look φ t)
def cr.mono{N:Nat}{σ σ':List bm}{s s':St}{φ:Fr}{a:Act}(h:cR σ s σ' s')(hl:s.β.length=σ.length)(f:cr N σ s φ a):cr N σ' s' φ a :=
 ⟨f.size,f.defers.imp λ_ h1=>h1.mono h.ext,λt=>(f.slot t).mono h.ext hl⟩
def cr.rely{a:Act}(h:b6 s s')(hh:aD σ s)(f:cr N σ s φ a):cr N σ s' φ a:=f.mono h.stepW hh.len
def cr.put{N:Nat}{σ:List bm}{s:St}{φ:Fr}{a:Act}(f:cr N σ s φ a){d:Nat}(c:d<N){v:aj}{x:D}(r:dm σ s v x):cr N σ s ((d,x)::φ) (a.put (aa d) v):=by
 refine⟨by simp[Act.put,f.size],f.defers,λt=>?_⟩;simp only[Act.put,look];by_cases e:d=t
 .subst e;rw[show av d d=ab from jB d];have g:d<a.tmps.size:=by rw[f.size];exact c
  simp only[dL,vm g,ga,cond];exact r
 .have:av d t=ae:=by grind[Nat.eq_of_beq_eq_true]
  rw[this];have h:=f.slot t;simp only[dL]at h⊢;grind
def se(φ φ':Fr):Prop:=∀σ s v t,dm σ s v (look φ t)->dm σ s v (look φ' t)
def cr.le{φ':Fr}{a:Act}(h:se φ φ')(f:cr N σ s φ a):cr N σ s φ' a :=
 ⟨f.size,f.defers,λt=>h _ _ _ _ (f.slot t)⟩
abbrev Post:=Exit->Fr->List bm->Prop
def ends(X:Cx P)(S:aq->St->Prop)(b:aV)(k:List Item)(cs:List aV):Exit->Act->St->Prop
 |.normal,a,s=>fy X S (G (b.aT a k) cs) s
 |.exit id,a,s=>∀pre,(∀k',exitTo id (pre++k')=exitTo id k')->fy X S (G (b.aT a (.code (.exit id)::(pre++k))) cs) s
 |.ret,a,s=>∀pre,fy X S (G (b.aT a (.code .ret::pre)) cs) s
 |.panic ch,a,s=>∀c,fy X S (G {b.aT a c with mode:=.panicking ch} cs) s
 |_,_,_=>False
section
variable {X:Cx P}{b:aV}{k:List Item}{a:Act}
def ends.cons{x:Item}(d:∀id k',exitTo id (x::k')=exitTo id k'){e:Exit}(c:e≠.normal)(h:ends X S b k cs e a s):ends X S b (x::k) cs e a s:=by
 cases e with
 |normal=>grind
 |exit id =>
  intro pre hp;have:=h (pre++[x]) (λk'=>by grind);grind
 |ret=>exact h
 |panic ch=>exact h
 |goto l=>exact h
 |outgrown=>exact h
def fy.ctl{g':aq}(hh:aD σ s)(e:g.status=.running)(d:∀w,aH P X.main g w=.go g' w #[])(h:∀c,b6 s c->fy X S g' c):fy X S g s :=
 .next e λc h1=>⟨g',c,#[],d c.w,.quiet (hh.rely (X.ij h1)),h c (X.ij h1)⟩
def pZ{f:aK}{j c:aV}(m:aD σ s)(h:uw P f j v s)(k:∀d,b6 s d->fy X S (G (c.finish v) cs) d):fy X S (G j (c::cs)) s:=by refine .next rfl λd q=>?_;have i:=X.ij q;have g:=m.rely i;obtain⟨es,l,r⟩:=Iz (main:=X.main) (c:=c) (cs:=cs) h d.w i.mem;refine⟨_,d,es,l,⟨⟨σ,σ,g,g,.refl _ _⟩,λe p=>?_⟩,k d i⟩;obtain⟨b,o,u,rfl,n⟩:=r e p;exact⟨rfl,rfl,.inr (.inr ⟨rfl,u,by rw[i.M];exact n⟩)⟩
def wh(I:Nat->Act->St->Prop)(i:∀n a s,I n a s->∃σ,aD σ s/\∀d,b6 s d->I n a d)(round:∀n a s,I n a s->(∀a' s' m,m<n->I m a' s'->fy X S (G (b.aT a' (.inLoop c::k)) cs) s')->fy X S (G (b.aT a (.code c::.inLoop c::k)) cs) s)(j:I n a s):
  fy X S (G (b.aT a (.code (.loop c)::k)) cs) s:=by
 have key:∀n a s,I n a s->fy X S (G (b.aT a (.inLoop c::k)) cs) s:=by
  intro n;induction n using Nat.strongRecOn with
  |_ n o =>
   intro a s hi;obtain⟨σ,f,h⟩:=i n a s hi;exact .ctl f rfl (λw=>yo) λd g=>round n a d (h d g) λa' s' m l e=>o m l a' s' e
 obtain⟨σ,f,h⟩:=i n a s j;exact .ctl f rfl (λw=>Fp) λd g=>round n a d (h d g) λa' s' m _ e=>key m a' s' e
end
def AW(X:Cx P)(N:Nat)(c:Code)(Q:Post)(φ:Fr)(σ:List bm):Prop :=
 ∀s a,cr N σ s φ a->aD σ s->∀(b:aV) (k:List Item) (cs:List aV) (S:aq->St->Prop),b.kind≠.early ->
  (∀e φ' σ' s' a',Q e φ' σ'->cr N σ' s' φ' a'->aD σ' s'->cR σ s σ' s'->ends X S b k cs e a' s')->fy X S (G (b.aT a (.code c::k)) cs) s
def Names(all:List aB):List Nat->List aB->Prop
 |[],[]=>True
 |i::idx,o::rest=>all.toArray[i]?=aa o/\Names all idx rest
 |_,_=>False
def jm(X:Cx P)(N:Nat)(all rest:List aB)(Q:Fr->List bm->Prop)(φ:Fr)(σ:List bm):Prop :=
 ∀s a,cr N σ s φ a->aD σ s->∀(b:aV) (k:List Item) (cs:List aV) (S:aq->St->Prop) (idx:List Nat),b.kind≠.early->Names all idx rest ->
  (∀φ' σ' s' a',Q φ' σ'->cr N σ' s' φ' a'->aD σ' s'->cR σ s σ' s'->fy X S (G (b.aT a' k) cs) s')->fy X S (G (b.aT a (.inRegion all.toArray idx::k)) cs) s
section rules
variable {X:Cx P}{Q:Post}
def AW.mono{d:Post}(h:AW X N c Q φ σ)(j:∀e φ σ,Q e φ σ->d e φ σ):AW X N c d φ σ :=
 λs a g hh b k cs S hb hQ=>h s a g hh b k cs S hb λe φ' σ' s' a' q i f st=>hQ e φ' σ' s' a' (j _ _ _ q) i f st
def AW.le{c:Code}{φ':Fr}(h:AW X N c Q φ' σ)(hl:se φ φ'):AW X N c Q φ σ :=
 λs a d hh b k cs S hb hQ=>h s a (d.le hl) hh b k cs S hb hQ
theorem AW.skip(h:Q .normal φ σ):AW X N .skip Q φ σ:=λs a d hh b k cs S _ c =>
 .ctl hh rfl (λ_=>Fo) λe h1=>c .normal φ σ e a h (d.rely h1 hh) (hh.rely h1) h1.stepW
def AW.ret(h:Q .ret φ σ):AW X N .ret Q φ σ:=λs a d hh b k cs S _ c=>c .ret φ σ s a h d hh (.refl _ _) k
theorem AW.exit{id:Nat}(h:Q (.exit id) φ σ):AW X N (.exit id) Q φ σ:=λs a d hh b k cs S _ c=>by have:=c (.exit id) φ σ s a h d hh (.refl _ _) [] (λ_=>rfl);grind
def FV(next:Fr->List bm->Prop)(Q:Post):Post
 |.normal,φ,σ=>next φ σ
 |e,φ,σ=>Q e φ σ
theorem AW.seq{x y:Code}(h:AW X N x (FV (AW X N y Q) Q) φ σ):AW X N (.seq x y) Q φ σ:=by
 intro s a i hh b k cs S hb hQ;refine .ctl hh rfl (λ_=>nO) λj h1=>?_;refine h j a (i.rely h1 hh) (hh.rely h1) b (.code y::k) cs S hb ?_;intro e φ' σ' s' a' q g f st;have c:=h1.stepW.trans st;cases e with
 |normal=>exact q s' a' g f b k cs S hb λe d σ2 s2 a2 q2 f2 h2 oE=>hQ e d σ2 s2 a2 q2 f2 h2 (c.trans oE)
 |_=>exact ends.cons (λ_ _=>rfl) (by simp) (hQ _ _ _ _ _ q g f c)
theorem AW.cond{c:aC}{x y:Code}{t:Bool}{u:Nat}(o:c=.tmp u)(hl:look φ u=.e (.one (.c (.bool t))))(j:t=ab->AW X N x Q φ σ)(m:t=ae->AW X N y Q φ σ):AW X N (.cond c x y) Q φ σ:=by
 intro s a f hh b k cs S hb hQ;have g:=f.slot u;rw[hl]at g;have h:a.eval c=.bool t:=by subst o;generalize h:a.tmps.getD u ah=v at g;simp only[dm,nD,gb]at g;cases g;exact h
 refine .ctl hh rfl (λ_=>uX h) λi h1=>?_;have d:∀e φ' σ' s' a',Q e φ' σ'->cr N σ' s' φ' a'->aD σ' s'->cR σ i σ' s'->ends X S b k cs e a' s':=λe φ' σ' s' a' q n l st=>hQ e φ' σ' s' a' q n l (h1.stepW.trans st);cases t
 .exact m rfl i a (f.rely h1 hh) (hh.rely h1) b k cs S hb d
 .exact j rfl i a (f.rely h1 hh) (hh.rely h1) b k cs S hb d
def Ak(id:Nat)(Q:Post):Post
 |.exit Ir,φ,σ=>if Ir=id then Q .normal φ σ else Q (.exit Ir) φ σ
 |e,φ,σ=>Q e φ σ
theorem AW.block{id:Nat}(h:AW X N c (Ak id Q) φ σ):AW X N (.block id c) Q φ σ:=by
 intro s a i hh b k cs S hb hQ;refine .ctl hh rfl (λ_=>rP) λm h1=>?_;refine h m a (i.rely h1 hh) (hh.rely h1) b (.inBlock id::k) cs S hb ?_;intro e φ' σ' s' a' q g f st;have d:=h1.stepW.trans st;cases e with
 |normal =>
  exact .ctl f rfl (λ_=>qU) λs2 h2=>hQ .normal φ' σ' s2 a' q (g.rely h2 f) (f.rely h2) (d.trans h2.stepW)
 |exit Ir =>
  simp only[Ak]at q;split at q
  .rename_i e;subst e;intro pre hp;refine .ctl f rfl (λ_=>zE (k':=k) (by rw[hp];simp[exitTo])) λs2 h2=>?_;exact hQ .normal φ' σ' s2 a' q (g.rely h2 f) (f.rely h2) (d.trans h2.stepW)
  .rename_i j
   intro pre hp;have:=hQ (.exit Ir) φ' σ' s' a' q g f d (pre++[.inBlock id]) (λk'=>by
    rw[jV,hp];have:(id==Ir)=ae:=by grind
    simp[exitTo,this])
   grind
 |ret=>exact hQ _ _ _ _ _ q g f d
 |panic ch=>exact hQ _ _ _ _ _ q g f d
 |goto l=>exact hQ _ _ _ _ _ q g f d
 |outgrown=>exact hQ _ _ _ _ _ q g f d
def AW.loop{S:Type}(I:S->Prop)(fr:S->Fr)(st:S->List bm)(h:S->Nat)(x:S)(t:I x)(o:se φ (fr x))(i:st x=σ)(round:∀x,I x->AW X N c (FV (λφ' σ'=>∃y,I y/\h y<h x/\se φ' (fr y)/\σ'=st y) Q) (fr x) (st x)):AW X N (.loop c) Q φ σ:=by
 intro s a u hh b k cs S hb hQ;subst i;refine wh (λn a' s'=>∃y,I y/\cr N (st y) s' (fr y) a'/\aD (st y) s'/\cR (st x) s (st y) s'/\h y=n) ?_ ?_ ⟨x,t,u.le o,hh,.refl _ _,rfl⟩
 .rintro n a' s' ⟨y,j,l,f,d,e⟩;exact⟨st y,f,λA h1=>⟨y,j,l.rely h1 f,f.rely h1,d.trans h1.stepW,e⟩⟩
 rintro n a' s' ⟨y,j,l,f,d,rfl⟩ w;refine round y j s' a' l f b (.inLoop c::k) cs S hb ?_;intro e v σ2 s2 a2 q p h2 oE;cases e with
 |normal =>
  obtain⟨z,r,m,g,rfl⟩:=q;exact w a2 s2 (h z) m ⟨z,r,p.le g,h2,d.trans oE,rfl⟩
 |_=>exact ends.cons (λ_ _=>rfl) (by simp) (hQ _ _ _ _ _ q p h2 (d.trans oE))
end rules
def eb.length{σ:List bm}{s:St}{vs:List aj}{cs:List A}(r:eb σ s vs cs):vs.length=cs.length:=by
 induction vs generalizing cs with
 |nil=>cases cs<;>simp_all[eb]
 |cons v vs ih =>
  cases cs with
  |nil=>simp[eb]at r
  |cons a cs=>simp[ih r.2]
def gb.cell{σ:List bm}{s:St}{v:aj}{a:A}(r:gb σ s v a):cZ v=ab:=by
 cases a with
 |c x=>exact Rd.cell r
 |ptr l off=>obtain⟨_,_,_,_,_,rfl⟩:=r;rfl
 |vec l k n es=>exact Rd.cell r.1
 |ref l=>obtain⟨_,_,_,_,h⟩:=r;exact h
 |bp l w=>obtain⟨_,h,_⟩:=r;exact h.cell
 |any=>exact r
theorem eb.get{cs:List A}(r:eb σ s vs cs){a:A}(h:cs[j]?=aa a):∃v,vs[j]?=aa v/\gb σ s v a:=by
 induction vs generalizing cs j with
 |nil=>cases cs<;>simp_all[eb]
 |cons v vs ih =>
  cases cs with
  |nil=>grind
  |cons b cs =>
   cases j with
   |zero=>simp at h;subst h;exact⟨v,rfl,r.1⟩
   |succ j=>simp at h;obtain⟨u,c,d⟩:=ih r.2 h;grind
def eb.cell{σ:List bm}{s:St}{vs:List aj}{cs:List A}(r:eb σ s vs cs):∀v∈vs,v.oneCell'=ab:=by
 induction vs generalizing cs with
 |nil=>simp
 |cons v vs ih =>
  cases cs with
  |nil=>simp[eb]at r
  |cons a cs =>
   intro u b;rcases dC.1 b with rfl|b
   .have:=gb.cell r.1;cases u<;>simp_all[cZ,Value.oneCell']
   .exact ih r.2 u b
def eb.append{b:List aj}{cs lY:List A}(r:eb σ s vs cs)(r':eb σ s b lY):eb σ s (vs++b) (cs++lY):=by
 induction vs generalizing cs with
 |nil=>cases cs<;>simp_all[eb]
 |cons v vs ih =>
  cases cs with
  |nil=>simp[eb]at r
  |cons a cs=>exact⟨r.1,ih r.2⟩
def eb.take{σ:List bm}{s:St}{vs:List aj}{cs:List A}(r:eb σ s vs cs)(k:Nat):eb σ s (vs.take k) (cs.take k):=by
 induction vs generalizing cs k with
 |nil=>cases cs<;>simp_all[eb]
 |cons v vs ih =>
  cases cs with
  |nil=>simp[eb]at r
  |cons a cs=>cases k with
   |zero=>simp[eb]
   |succ k=>exact⟨r.1,ih r.2 k⟩
def eb.drop{σ:List bm}{s:St}{vs:List aj}{cs:List A}(r:eb σ s vs cs)(k:Nat):eb σ s (vs.drop k) (cs.drop k):=by
 induction vs generalizing cs k with
 |nil=>cases cs<;>simp_all[eb]
 |cons v vs ih =>
  cases cs with
  |nil=>simp[eb]at r
  |cons a cs=>cases k with
   |zero=>exact r
   |succ k=>simpa using ih r.2 k
theorem aD.block(h:aD σ s){o:Nat}(hm:s.M b o=aa v):b<s.w.heap.size:=by
 have:=h.mem b o v hm;rcases cG b s.w.heap.size with h|h
 .exact h
 .simp[aW,zt h]at this
theorem aD.same(h:aD σ s)(f:w'.heap=s.w.heap):aD σ {s with w:=w'}:=by
 have p:∀a,w'.cell? a=s.w.cell? a:=λa=>by simp[aW,f]
 have i:∀v a,gb σ s v a->gb σ {s with w:=w'} v a:=λv a r=>by cases a<;>exact r
 have e:∀vs al,eb σ s vs al->eb σ {s with w:=w'} vs al:=by
  intro vs;induction vs with
  |nil=>intro al r;cases al<;>simp_all[eb]
  |cons v vs ih=>intro al r;cases al with
   |nil=>simp[eb]at r
   |cons a al=>exact⟨i _ _ r.1,ih _ r.2⟩
 refine⟨λb o v hm=>by rw[p];exact h.mem b o v hm,h.len,?_,h.eZ,λL e b hb=>by show b<w'.heap.size;rw[f];exact h.lt L e b hb,λb hb=>⟨by show b<w'.heap.size;rw[f];exact(h.own b hb).1,(h.own b hb).2⟩⟩;intro l B L q g;have:=h.box l B L q g;cases B with
 |cells E cs =>
  obtain⟨b,vs,h1,h2,c,d⟩:=this;exact⟨b,vs,h1,by grind,e _ _ c,d⟩
 |vec E k n es =>
  obtain⟨h1,h2⟩:=this;refine⟨h1,?_⟩;grind
 |cq H =>
  obtain⟨ch,h1,h2,c,d⟩:=this;exact⟨ch,h1,λb o hb=>by grind,c,d⟩
 |dead=>trivial
 |loop N φ r =>
  obtain⟨l,tmps,fn,x,h1,h2,c,d,m⟩:=this;exact⟨l,tmps,fn,x,h1,by grind,c,λt=>dm.mono (s:=s) (σ':=σ) (s':={s with w:=w'}) ⟨λ_ _ _ h=>h,λ_ B L h j=>⟨B,L,h,j,.refl _ _⟩⟩ h.len (d t),m⟩
 |qT =>
  obtain⟨r,h1,h2,c⟩:=this;exact⟨r,h1,by grind,c⟩
 |buf E k n es =>
  rcases this with h1|⟨b,y,vs,u,h1,h2,c⟩
  .exact .inl h1
  .exact .inr ⟨b,y,vs,u,h1,by grind,c⟩
theorem Step.same(e:w'.heap=s.w.heap)(ho:w'.os=s.w.os)(a:w'.tape=s.w.tape)(d:w'.output=s.w.output):Step σ s σ {s with w:=w'} :=
 ⟨by grind,λb _ _=>by grind,λ_ _ _ h=>h,λ_ _ _ _=>rfl,λL h b hb=>.inr ⟨L,h,hb⟩,λ_ B L h c=>⟨B,L,h,c,.refl _ _⟩,ho,a,d,rfl⟩
def eK.carry{B:bm}{L:Loc}(d:Ext σ s σ' s')(hl:s.β.length=σ.length)(hb:∀b∈L.bs,s'.w.heap[b]?=s.w.heap[b]?/\∀o,s'.M b o=s.M b o)(h:eK σ s B L):eK σ' s' B L:=by
 cases B with
 |cells E cs =>
  obtain⟨b,vs,h1,h2,a,c⟩:=h;subst h1;obtain⟨k1,e⟩:=hb b (by simp);exact⟨b,vs,rfl,by grind,a.mono d hl,λo=>by grind⟩
 |vec E k n es =>
  obtain⟨h1,h2⟩:=h;refine⟨h1.mono d.mem,?_⟩;rcases h2 with⟨h2,a⟩|⟨b,cap,vs,h2,a,c,f⟩
  .exact .inl ⟨h2,a.mono d.mem⟩
  grind
 |cq H =>
  obtain⟨ch,h1,h2,a,c⟩:=h;refine⟨ch,h1,λb o j=>?_,a,λb i o=>by grind⟩;grind
 |dead=>trivial
 |loop N φ r =>
  obtain⟨l,tmps,fn,p,h1,h2,a,c,f⟩:=h;subst h1;obtain⟨k1,e⟩:=hb l (by simp);exact⟨l,tmps,fn,p,rfl,by grind,a,λt=>(c t).mono d hl,λo=>by grind⟩
 |qT =>
  obtain⟨r,h1,h2,a⟩:=h;subst h1;obtain⟨k1,e⟩:=hb r (by simp);exact⟨r,rfl,by grind,λo=>by grind⟩
 |buf E k n es =>
  rcases h with h1|⟨b,q,vs,m,h1,h2,a,c,f,g,u⟩
  .exact .inl h1
  .subst h1;obtain⟨k1,e⟩:=hb b (by simp);exact .inr ⟨b,q,vs,m,rfl,by grind,a,c,f,g.mono d.mem,λo=>by grind⟩
def St.fK(s:St)(E:aw)(vs:List aj):St :=
 {β:=s.β++[⟨.pointer (aa ⟨s.w.heap.size,0,af⟩),[s.w.heap.size]⟩],M:=s.M,w:=s.w.alloc (.cells vs.toArray E),own:=s.own}
theorem cO(w:aA)(o:Obj)(h:b<w.heap.size):(w.alloc o).heap[b]?=w.heap[b]?:=by show(w.heap.push o)[b]?=w.heap[b]?;grind
theorem dG(w:aA)(o:Obj):(w.alloc o).heap[w.heap.size]?=aa o:=by show(w.heap.push o)[w.heap.size]?=aa o;simp
def Step.fK{σ:List bm}(s:St)(E:aw)(vs:List aj)(B:bm):Step σ s (σ++[B]) (s.fK E vs):=by
 refine⟨by simp[St.fK],?_,λ_ _ _ h=>h,λ_ _ _ _=>rfl,?_,?_,rfl,rfl,rfl,rfl⟩
 .intro b hb _;exact cO _ _ hb
 .intro L a b hb;simp only[St.fK,eJ,gN]at a;grind
 .intro l B' L c a;have hl:l<s.β.length:=(b8.1 a).1;have d:l<σ.length:=(b8.1 c).1;exact⟨B',L,by grind,by simp only[St.fK];grind,.refl _ _⟩
def aD.fK{σ:List bm}{s:St}(h:aD σ s){E:aw}{vs:List aj}{cs:List A}(r:eb σ s vs cs):aD (σ++[.cells E cs]) (s.fK E vs):=by
 have st:=Step.fK (σ:=σ) s E vs (.cells E cs);have g:(s.fK E vs).w.heap.size=s.w.heap.size+1:=by simp[St.fK]
 refine⟨?_,by simp[St.fK,h.len],?_,?_,?_,?_⟩
 .intro b o v hm;have hb:=h.block hm;have:=h.mem b o v hm;rw[<-this];simp only[aW,St.fK];grind[cO]
 .intro l B L f a;rcases Nat.lt_trichotomy l σ.length with c|rfl|i
  .rw[js c]at f;simp only[St.fK]at a;rw[js (by rw[h.len];exact c)]at a;refine(h.box l B L f a).carry st.ext h.len λb hb=>⟨?_,λ_=>rfl⟩
   have:=h.lt L (bL a) b hb;exact cO _ _ this
  .simp at f;subst f;simp only[St.fK]at a;rw[fA (by rw[h.len];grind)]at a;simp[h.len]at a;subst a;refine⟨s.w.heap.size,vs,rfl,dG _ _,r.mono st.ext h.len,λo=>?_⟩;cases hm:s.M s.w.heap.size o with
   |none=>exact hm
   |some v=>have:=h.block hm;omega
  grind
 .intro l l' L L' a e b hb ov;simp only[St.fK]at a e;have d:∀l L,(s.β++[⟨.pointer (aa ⟨s.w.heap.size,0,af⟩),[s.w.heap.size]⟩])[l]?=aa L->(s.β[l]?=aa L)∨(l=s.β.length/\L.bs=[s.w.heap.size]):=by grind
  rcases d l L a with h1|⟨rfl,h1⟩<;>rcases d l' L' e with h2|⟨rfl,h2⟩
  .exact h.eZ l l' L L' h1 h2 b hb ov
  .have:=h.lt L (bL h1) b hb;grind
  .have:=h.lt L' (bL h2) b ov;grind
  .rfl
 .intro L a b hb;rw[g];simp only[St.fK,eJ,gN]at a;rcases a with a|rfl
  .have:=h.lt L a b hb;omega
  grind
 .intro b hb;obtain⟨j,k⟩:=h.own b hb;refine⟨by grind,λL a=>?_⟩;simp only[St.fK,eJ,gN]at a;grind
def aD.grow(h:aD σ s){M':Mem}(a:s.w.heap.size<=w'.heap.size)(e:∀b,b<s.w.heap.size->w'.heap[b]?=s.w.heap[b]?)(d:∀b,b<s.w.heap.size->∀o,M' b o=s.M b o)(k:∀b,s.w.heap.size<=b->∀o v,M' b o=aa v->w'.cell? ⟨b,o,af⟩=aa v)(ho:w'.os=s.w.os)(f:w'.tape=s.w.tape)(i:w'.output=s.w.output):aD σ ⟨s.β,M',w',s.own⟩/\Step σ s σ ⟨s.β,M',w',s.own⟩:=by
 have st:Step σ s σ ⟨s.β,M',w',s.own⟩ :=
  ⟨a,λb hb _=>e b hb,λb o v hm=>by rw[<-hm];exact d b (h.block hm) o,λb hb _ o=>d b hb o,λL h b hb=>.inr ⟨L,h,hb⟩,λ_ B L h g=>⟨B,L,h,g,.refl _ _⟩,ho,f,i,rfl⟩
 refine⟨⟨?_,h.len,?_,h.eZ,λL c b hb=>cB (h.lt L c b hb) a,λb hb=>⟨cB (h.own b hb).1 a,(h.own b hb).2⟩⟩,st⟩
 .intro b o v hm;rcases cG b s.w.heap.size with hb|hb
  .have hm':s.M b o=aa v:=by grind
   rw[<-h.mem b o v hm'];simp only[aW];grind
  grind
 .intro l B L j c;exact(h.box l B L j c).carry st.ext h.len λb hb=>⟨e b (h.lt L (bL c) b hb),λo=>d b (h.lt L (bL c) b hb) o⟩
def aD.write(h:aD σ s){L:Loc}{cs lY:List A}{a:List aj}(i:σ[l]?=aa (.cells E cs))(c:s.β[l]?=aa L)(f:L.bs=[b])(r:eb σ s a lY):aD (σ.set l (.cells E lY)) {s with w:=s.w.setRow b a.toArray}/\Step σ s (σ.set l (.cells E lY)) {s with w:=s.w.setRow b a.toArray}:=by
 have d:l<σ.length:=(b8.1 i).1;obtain⟨j,vs,h1,h2,n,k⟩:=h.box l _ L i c;subst h1;simp at f;subst f;have st:Step σ s (σ.set l (.cells E lY)) {s with w:=s.w.setRow j a.toArray}:=by
  refine⟨by simp,?_,λ_ _ _ h=>h,λ_ _ _ _=>rfl,λL h b hb=>.inr ⟨L,h,hb⟩,?_,rfl,rfl,rfl,rfl⟩
  .intro b hb hn;exact setRow_other _ _ _ _ (λe=>hn _ (bL c) (by simp[e]))
  .intro l' B L' mc gm;by_cases e:l=l'
   .subst e;rw[i]at mc;cases mc;exact⟨_,L',by rw[fO d],gm,by simp[ic]⟩
   .exact⟨B,L',by grind,gm,.refl _ _⟩
 refine⟨⟨?_,by simp[h.len],?_,h.eZ,λL c b hb=>by simpa using h.lt L c b hb,λb hb=>by simpa using h.own b hb⟩,st⟩
 .intro b o v hm;have m:b≠j:=λe=>by grind
  rw[<-h.mem b o v hm];simp only[aW];grind[setRow_other]
 .intro l' B L' mc gm;by_cases e:l=l'
  .subst e;rw[fO d]at mc;cases mc;rw[c]at gm;cases gm;exact⟨j,a,rfl,setRow_heap _ _ _ _ _ _ h2,r.mono st.ext h.len,k⟩
  .rw[kJ e]at mc;refine(h.box l' B L' mc gm).carry st.ext h.len λb hb=>⟨setRow_other _ _ _ _ λg=>?_,λ_=>rfl⟩
   subst g;exact e (h.eZ l l' _ L' c gm b (by simp) hb)
def Q4(σ:List bm)(s:St):Next->D->Prop
 |.value v,x=>dm σ s v x
 |.skip,x=>x=.any
 |_,_=>False
def bE(P:aO)(o:aB)(η:aC->D)(σ:List bm)(x:D)(σ':List bm):Prop :=
 ∀s a,aD σ s->(∀y,dm σ s (a y) (η y))->∃b s',(ak a o).run P s.w=.ok b s'.w/\Q4 σ' s' b x/\aD σ' s'/\Step σ s σ' s'/\eB s ((ak a o).events P s.w #[])
def bE.nP{x:D}(h:∀s a,aD σ s->(∀y,dm σ s (a y) (η y))->∃v,(ak a o).run P s.w=.ok (.value v) s.w/\dm σ s v x/\eB s ((ak a o).events P s.w #[])):bE P o η σ x σ :=
 λs a hh hr=>let ⟨v,h1,h2,b⟩:=h s a hh hr;⟨.value v,s,h1,h2,hh,.refl _ _,b⟩
def bE.quiet{x:D}(h:∀s a,aD σ s->(∀y,dm σ s (a y) (η y))->∃v,(ak a o).run P s.w=.ok (.value v) s.w/\dm σ s v x/\(ak a o).events P s.w #[]=#[]):bE P o η σ x σ :=
 λs a hh hr=>let ⟨v,h1,h2,b⟩:=h s a hh hr;⟨.value v,s,h1,h2,hh,.refl _ _,by rw[b];exact .nil⟩
def NC:IntKind->Int->Bool
 |.i64,.ofNat m=>bz m 9223372036854775807
 |.i64,.negSucc m=>bz m 9223372036854775807
 |.u8,.ofNat m=>bz m 255
 |.i32,.ofNat m=>bz m 2147483647
 |.i32,.negSucc m=>bz m 2147483647
 |.u64,.ofNat m=>bz m 18446744073709551615
 |.u32,.ofNat m=>bz m 4294967295
 |_,_=>ae
def Q7{k:IntKind}{n:Int}(h:NC k n=ab):bx k n:=by cases k<;>cases n<;>simp only[NC,bx]at h⊢<;>first|(cases h;done)|(have:=dM h;grind)
def qX:aj->Option C
 |.int k n=>cond (NC k n) (aa (.int k n)) af
 |.bool b=>aa (.bool b)
 |.string s=>cond (bz s.size 9223372036854775807) (aa (.str s.data.toList)) af
 |.slice af 0 0=>aa (.sl ab 0 0 (λ_=>[]))
 |.pointer af=>aa .oY
 |.nilIface=>aa .o0
 |.nilFunc=>aa .zH
 |.map m=>aa (.val (.map m))
 |_=>af
theorem Rd.il{t:Bool}{a:Option Addr}:Rd M (.slice a 0 0) (.sl t k 0 es) :=
 Rd.sl 0 0 (λ_ _=>ah) (ba _) (by omega) (λ_=>rfl) (by omega) (by omega) (by omega) (by omega)
def Rd.qX{M:Mem}{v:aj}{c:C}(h:qX v=aa c):Rd M v c:=by
 unfold AM.qX at h;split at h<;>first
  |(rename_i k n;cases hb:NC k n<;>rw[hb]at h<;>cases h;exact .int (Q7 hb))
  |(rename_i s;cases hb:bz s.size 9223372036854775807<;>rw[hb]at h<;>cases h;exact .str rfl (by rw[iY];exact dM hb))
  |(cases h;done)
  |(cases h;exact .bool)
  |(cases h;exact Rd.il)
  |(cases h;exact .oY)
  |(cases h;exact .o0)
  |(cases h;exact .zH)
  |(cases h;exact .val rfl)
def dOf:Option C->D
 |some c=>.e (.one (.c c))
 |none=>.any
def bO(φ:Fr):aC->D
 |.tmp t=>look φ t
 |.const v=>dOf (qX v)
 |.func f=>.e (.one (.c (.fn (.func f) [] [])))
 |.global _=>.any
theorem c8{a:Act}(f:cr N σ s φ a)(y:aC):dm σ s (a.eval y) (bO φ y):=by
 cases y with
 |tmp t=>exact f.slot t
 |const v =>
  simp only[bO,Act.eval];cases h:qX v with
  |none=>trivial
  |some c=>exact Rd.qX h
 |func g =>
  exact Rd.fn [] [] rfl rfl (λ_=>ah) (λ_=>ah) (by simp) (by simp) (by simp) (by simp)
 |global g=>trivial
def kp:Option Nat->D->Fr->Fr
 |some t,x,φ=>(t,x)::φ
 |none,_,φ=>φ
def Af{X:Cx P}{b:aV}{k:List Item}{a:Act}{rest:List Nat}(m:b.kind≠.early)(ho:ops[i]?=aa o)(l:aZ o (yielded ops a.tmps)=ab)(h:∀c,b6 s c->∃d s' v,(ak a.eval o).run P c.w=.ok d s'.w/\(d=.value v∨(d=.skip/\v=ah))/\qS c s' ((ak a.eval o).events P c.w #[])/\fy X S (G (b.aT (a.put o.dst v) (.inRegion ops rest::k)) cs) s'):
  fy X S (G (b.aT a (.inRegion ops (i::rest)::k)) cs) s:=by refine .next rfl λc j=>?_;obtain⟨d,s',v,n,f,e,g⟩:=h c (X.ij j);refine⟨_,s',Go.Conc.listed P b.fn a o c.w,?_,⟨e.1,e.2.seen⟩,g⟩;grind[Bo,Fq]
theorem bE.move(h:o.op=.move x):bE P o η σ (η x) σ :=
 .quiet λs b _ a=>⟨b x,by simp[ak,h,pure],a x,by simp[ak,h]⟩
theorem bE.assign(h:o.op=.assign x):bE P o η σ (η x) σ :=
 .quiet λs b _ a=>⟨b x,by simp[ak,h,pure],a x,by simp[ak,h]⟩
def fI{c:C}(h:dm σ s v (.e (.one (.c c)))):Rd s.M v c:=h
def bE.pick{c a b:aC}(h:o.op=.pick c a b){t:Bool}(i:η c=.e (.one (.c (.bool t)))):
  bE P o η σ (match t with|true=>η a|false=>η b) σ:=by
 refine .quiet λs g _ f=>?_;have h1:=f c;rw[i]at h1;have h2:=fI h1;generalize d:g c=v at h2;cases h2;cases t
 .exact⟨g b,by simp[ak,h,d,asBool],f b,by simp[ak,h,d,asBool]⟩
 .exact⟨g a,by simp[ak,h,d,asBool],f a,by simp[ak,h,d,asBool]⟩
def JF(op:BinOp)(k:IntKind)(x y:Int):Option (C×List Prop) :=
 match op with
 |.add=>aa (.int k (x+y),[bx k (x+y)])
 |.sub=>aa (.int k (x-y),[bx k (x-y)])
 |.mul=>aa (.int k (x*y),[bx k (x*y)])
 |.quo=>aa (.int k (x / y),[0<=x,0<y])
 |.rem=>aa (.int k (x % y),[0<=x,0<y])
 |.eql=>aa (.bool (x==y),[])
 |.neq=>aa (.bool (x != y),[])
 |.lss=>aa (.bool (decide (x<y)),[])
 |.leq=>aa (.bool (decide (x<=y)),[])
 |.gtr=>aa (.bool (decide (y<x)),[])
 |.geq=>aa (.bool (decide (y<=x)),[])
 |_=>af
def JG(op:BinOp)(x y:List UInt8):Option (C×List Prop) :=
 match op with
 |.add=>aa (.str (x++y),[x.length+y.length<=9223372036854775807])
 |.eql=>aa (.bool (x==y),[])
 |.neq=>aa (.bool (!(x==y)),[])
 |.lss=>aa (.bool (bd x y),[])
 |.leq=>aa (.bool (bd x y||x==y),[])
 |.gtr=>aa (.bool (!(bd x y||x==y)),[])
 |.geq=>aa (.bool (!(bd x y)),[])
 |_=>af
@[simp] def au:List Prop->Prop
 |[]=>True
 |[p]=>p
 |p::q::r=>p/\au (q::r)
def au.cons{p:Prop}{r:List Prop}:au (p::r)↔p/\au r:=by cases r<;>simp
theorem md{k:IntKind}{n:Int}(h:bx k n):k.wrap n=n:=by cases k<;>simp only[bx,IntKind.wrap,IntKind.bits,IntKind.signed]at h⊢<;>simp<;>(try split)<;>omega
def JH{k:IntKind}{x y:Int}{c:C}(h:JF op k x y=aa (c,obs))(ho:au obs)(i:bx k x)(j:bx k y)(t:aw)(M:Mem):
  ∃v,(binOp op t (.int k x) (.int k y)).run P w=.ok v w/\Rd M v c:=by
 cases op<;>simp only[JF,dq,lA,reduceCtorEq]at h
 case add=>obtain⟨rfl,rfl⟩:=h;exact⟨_,by simp only[binOp,cU,fe,bS,Op.intArith,md ho];rfl,.int ho⟩
 case sub=>obtain⟨rfl,rfl⟩:=h;exact⟨_,by simp only[binOp,cU,fe,bS,Op.intArith,md ho];rfl,.int ho⟩
 case mul=>obtain⟨rfl,rfl⟩:=h;exact⟨_,by simp only[binOp,cU,fe,bS,Op.intArith,md ho];rfl,.int ho⟩
 case quo =>
  obtain⟨rfl,rfl⟩:=h;obtain⟨b,a⟩:=ho;replace a:0<y:=a;have e:x.tdiv y=x / y:=Int.tdiv_eq_ediv_of_nonneg b;have d:bx k (x / y):=by have f:0<=x / y:=Int.ediv_nonneg b (by omega);have g:x / y<=x:=Int.ediv_le_self _ b;cases k<;>simp only[bx]at i⊢<;>omega
  exact⟨_,by simp only[binOp,cU,fe,bS,Op.intDiv,show y≠0 by omega,e,md d];rfl,.int d⟩
 case rem =>
  obtain⟨rfl,rfl⟩:=h;obtain⟨b,a⟩:=ho;replace a:0<y:=a;have e:x.tmod y=x % y:=Int.tmod_eq_emod_of_nonneg b;have d:bx k (x % y):=by have f:0<=x % y:=rG _ (by omega);have g:x % y<y:=rC _ a;cases k<;>simp only[bx]at j⊢<;>omega
  exact⟨_,by simp only[binOp,cU,fe,bS,Op.intDiv,show y≠0 by omega,e];rfl,.int d⟩
 all_goals (obtain⟨rfl,rfl⟩:=h;exact⟨_,by simp only[binOp,cU,fe,bS,Op.intCmp,gt_iff_lt,ge_iff_le];rfl,.bool⟩)
def JI{x y:ByteArray}{a b:List UInt8}{c:C}(h:JG op a b=aa (c,obs))(ho:au obs)(f:x.data.toList=a)(i:y.data.toList=b)(t:aw)(M:Mem):
  ∃v,(binOp op t (.string x) (.string y)).run P w=.ok v w/\Rd M v c:=by
 subst f i;cases op<;>simp only[JG,dq,lA,reduceCtorEq]at h
 case add =>
  obtain⟨rfl,rfl⟩:=h;have g:¬((x.size+y.size:Nat):Int)>IntKind.i64.max:=by have k:x.data.toList.length=x.size:=iY;have j:y.data.toList.length=y.size:=iY;have e:IntKind.i64.max=9223372036854775807:=rfl;have d:x.data.toList.length+y.data.toList.length<=9223372036854775807:=ho;grind
  refine⟨_,by simp only[binOp,Op.stringOp,g,bS];rfl,.str (by simp) (by simpa using ho)⟩
 all_goals (obtain⟨rfl,rfl⟩:=h;exact⟨_,by simp only[binOp,Op.stringOp,ByteArray.toList_eq];rfl,.bool⟩)
def ND{k:IntKind}{x y:Int}{c:C}(h:JF op k x y=aa (c,obs))(ho:au obs)(t:aw):
  (binOp op t (.int k x) (.int k y)).events P w #[]=#[]:=by
 cases op<;>simp only[JF,dq,lA,reduceCtorEq]at h
 case quo =>
  obtain⟨rfl,rfl⟩:=h;obtain⟨b,a⟩:=ho;replace a:0<y:=a;simp only[binOp,cU,fe,bS,Op.intDiv,show y≠0 by omega];rfl
 case rem =>
  obtain⟨rfl,rfl⟩:=h;obtain⟨b,a⟩:=ho;replace a:0<y:=a;simp only[binOp,cU,fe,bS,Op.intDiv,show y≠0 by omega];rfl
 all_goals (simp only[binOp,cU,fe,bS,Op.intCmp,Op.intArith];rfl)
def NF{x y:ByteArray}{a b:List UInt8}{c:C}(h:JG op a b=aa (c,obs))(ho:au obs)(f:x.data.toList=a)(i:y.data.toList=b)(t:aw):
  (binOp op t (.string x) (.string y)).events P w #[]=#[]:=by
 subst f i;cases op<;>simp only[JG,dq,lA,reduceCtorEq]at h
 case add =>
  obtain⟨rfl,rfl⟩:=h;have g:¬((x.size+y.size:Nat):Int)>IntKind.i64.max:=by have k:x.data.toList.length=x.size:=iY;have j:y.data.toList.length=y.size:=iY;have e:IntKind.i64.max=9223372036854775807:=rfl;have d:x.data.toList.length+y.data.toList.length<=9223372036854775807:=ho;grind
  simp only[binOp,Op.stringOp,g,bS];rfl
 all_goals (simp only[binOp,Op.stringOp];rfl)
def G6:IntKind->IntKind->Bool
 |.i8,.i8|.i16,.i16|.i32,.i32|.i64,.i64|.u8,.u8|.u16,.u16|.u32,.u32|.u64,.u64=>ab
 |_,_=>ae
def Ao{k k':IntKind}(h:G6 k k'=ab):k=k':=by cases k<;>cases k'<;>first|rfl|(cases h;done)
def M9(op:BinOp):C->C->Option (C×List Prop)
 |.int k x,.int k' y=>cond (G6 k k') (JF op k x y) af
 |.str a,.str b=>JG op a b
 |_,_=>af
def gn(op:BinOp)(t:aw)(x y:aC)(k k':IntKind)(n a:Int)(u:aA):(eqGuard op t x y (.int k n) (.int k' a)).run P u=.ok () u:=by cases op<;>rfl
def ua(op:BinOp)(t:aw)(x y:aC)(a b:ByteArray)(u:aA):(eqGuard op t x y (.string a) (.string b)).run P u=.ok () u:=by cases op<;>rfl
def jE(op:BinOp)(t:aw)(x y:aC)(k k':IntKind)(n a:Int)(u:aA)(es:Array Event):(eqGuard op t x y (.int k n) (.int k' a)).events P u es=es:=by cases op<;>rfl
def wq(op:BinOp)(t:aw)(x y:aC)(a b:ByteArray)(u:aA)(es:Array Event):(eqGuard op t x y (.string a) (.string b)).events P u es=es:=by cases op<;>rfl
theorem bE.binOp(h:o.op=.binOp op t x y ty){a b c:C}(u:η x=.e (.one (.c a)))(hb:η y=.e (.one (.c b)))(g:M9 op a b=aa (c,obs))(ho:au obs):bE P o η σ (.e (.one (.c c))) σ:=by
 refine .quiet λs r _ q=>?_;have h1:=q x;have h2:=q y;rw[u]at h1;rw[hb]at h2;replace h1:=fI h1;replace h2:=fI h2;generalize f:r x=vx at h1;generalize d:r y=vy at h2;cases h1<;>cases h2<;>simp only[M9,reduceCtorEq]at g
 case int.int k n z k' n' Wb =>
  cases m:G6 k k'<;>simp only[m,cond,reduceCtorEq]at g
  cases Ao m;obtain⟨v,i,j⟩:=JH (P:=P) (w:=s.w) g ho z Wb t s.M;exact⟨v,by simp only[ak,h,bT,f,d,gn,cm,i,cV],j,by simp[ak,h,f,d,gn,jE,ND g ho]⟩
 case str.str =>
  rename_i A l p hl y' l' hy Dr;obtain⟨v,i,j⟩:=JI (P:=P) (w:=s.w) g ho p hy t s.M;exact⟨v,by simp only[ak,h,bT,f,d,ua,cm,i,cV],j,by simp[ak,h,f,d,ua,wq,NF g ho p hy]⟩
def VC(op:UnOp):C->Option C
 |.bool b=>match op with|.not=>aa (.bool (!b))|_=>af
 |_=>af
theorem bE.unOp{op:UnOp}(h:o.op=.unOp op t x){a c:C}(f:η x=.e (.one (.c a)))(d:VC op a=aa c):bE P o η σ (.e (.one (.c c))) σ:=by
 refine .quiet λs i _ g=>?_;have h1:=g x;rw[f]at h1;replace h1:=fI h1;generalize b:i x=vx at h1;cases h1<;>simp only[VC,reduceCtorEq]at d
 cases op<;>simp only[reduceCtorEq,dq]at d
 subst d;exact⟨_,by simp only[ak,h,b,Op.unary,bT,cV,cm],Rd.bool,by simp[ak,h,b,Op.unary]⟩
theorem gF.get{xs:List E1}(r:gF σ s vs xs){x:E1}(h:xs[j]?=aa x):∃v,vs[j]?=aa v/\nD σ s v x:=by
 induction vs generalizing xs j with
 |nil=>cases xs<;>simp_all[gF]
 |cons v vs ih =>
  cases xs with
  |nil=>grind
  |cons b cs =>
   cases j with
   |zero=>simp at h;subst h;exact⟨v,rfl,r.1⟩
   |succ j=>simp at h;obtain⟨u,a,c⟩:=ih r.2 h;grind
theorem bE.extract{P:aO}{o:aB}{η:aC->D}{σ:List bm}{x:aC}{j:Nat}(h:o.op=.extract x j){xs:List E1}{e:E1}(d:η x=.fz xs)(g:xs[j]?=aa e):bE P o η σ (.e e) σ:=by refine .quiet λs k _ i=>?_;have h1:=i x;rw[d]at h1;obtain⟨vs,c,f⟩:=h1;obtain⟨v,b,a⟩:=f.get g;refine⟨v,?_,a,?_⟩<;>simp[ak,h,c,Instr.extract,b]
def zD(b o:Nat):Event:=⟨.cell ⟨b,o,af⟩,ae,ae⟩
def GM(b o:Nat):Event:=⟨.cell ⟨b,o,af⟩,ab,ae⟩
theorem dr(b o n:Nat):(⟨b,o,af⟩:Addr).add n=⟨b,o+n,af⟩:=by unfold Addr.add;split<;>simp_all
section
def zG{o:Nat}(h:w.cell? ⟨b,o,af⟩=aa v)(es:Array Event):(load ⟨b,o,af⟩).events P w es=es.push (zD b o):=by rw[events_load,h];rfl
def m8{w:aA}{b o:Nat}:∀(n i:Nat) (acc:Array aj) (es:Array Event),(∀j,j<n->∃v,w.cell? ⟨b,o+(i+j),af⟩=aa v) ->
    ∀e∈(loadCellsFrom ⟨b,o,af⟩ i n acc).events P w es,e∈es∨∃j,j<i+n/\e=zD b (o+j)
  | 0,i,acc,es,_=>λe h=>.inl (by simpa[loadCellsFrom]using h)
  | n+1,i,acc,es,d=>λe h=>by
    obtain⟨v,a⟩:=d 0 (by omega);simp only[ia]at a;simp only[loadCellsFrom,aP,dr,run_load,a,aU,zG a]at h;rcases m8 n (i+1) (acc.push v) _ (λj c=>by grind) e h with f|⟨j,c,rfl⟩
    · grind
    grind
def rO{o:Nat}{es:Array Event}(h:∀j,j<n->∃v,w.cell? ⟨b,o+j,af⟩=aa v):∀e∈(loadCells ⟨b,o,af⟩ n).events P w es,e∈es∨∃j,j<n/\e=zD b (o+j):=by intro e a;have:=m8 (P:=P) n 0 #[] es (by grind) e a;grind
def ek{b o:Nat}{t:aw}:∀(vs:List aj) (i:Nat) (a:Array aj) (w:aA) (es:Array Event),w.heap[b]?=aa (.cells a t (0,0))->o+i+vs.length<=a.size->(∀v∈vs,v.oneCell'=ab) ->
    ∀e∈(storeCells ⟨b,o,af⟩ vs i).events P w es,e∈es∨∃j,i<=j/\j<i+vs.length/\e=GM b (o+j)
  | [],_,_,_,_,_,_,_=>λe h=>.inl (by simpa[storeCells]using h)
  | v::rest,i,a,w,es,k,q,l=>λe h=>by
    have hi:o+i<a.size:=by grind
    have c:w.cell? ⟨b,o+i,af⟩=aa a[o+i]:=by simp[aW,k,hi]
    have d:w.frozen? ⟨b,o+i,af⟩=ae:=by simp[World.frozen?,k]
    have f:(store (⟨b,o+i,af⟩:Addr) v).run P w=.ok () (w.setRow b (a.setIfInBounds (o+i) v)):=by grind[run_store,setCell_eq_setRow]
    have g:(store (⟨b,o+i,af⟩:Addr) v).events P w es=es.push (GM b (o+i)):=by rw[events_store P w es _ v _ (l v (by simp)),c];simp only[d,gO,bS];rfl
    simp only[storeCells,aP,dr,f,g,aU]at h;rcases ek rest (i+1) (a.setIfInBounds (o+i) v) _ _ (setRow_heap _ _ _ _ _ _ k) (by grind) (λu r=>l u (by grind)) e h with m|⟨j,n,p,rfl⟩
    · grind
    grind
def cX(P:aO)(m:Sem α):Prop:=∀w es,m.events P w es=es
def cX.bind{β:Type}{m:Sem α}{f:α->Sem β}(h:cX P m)(k:∀a,cX P (f a)):cX P (m >>= f):=by
  intro w es;rw[aP,h w es];cases m.run P w with
  | ok a w'=>exact k a w' es
  | halt x w'=>rfl
def cX.pure{α:Type}{a:α}:cX P (Pure.pure a:Sem α):=λ_ _=>rfl
def cX.stuck{α:Type}{a:String}:cX P (Go.stuck a:Sem α):=λ_ _=>rfl
def cX.unsupported{α:Type}{u:Unsupported}:cX P (Go.unsupported u:Sem α):=λ_ _=>rfl
def cX.sizeOf{t:aw}:cX P (sizeOf t):=λ_ _=>events_sizeOf ..
def cX.underlying{t:aw}:cX P (underlying t):=λ_ _=>events_underlying ..
def cX.zeroValue{t:aw}:cX P (zeroValue t):=λ_ _=>events_zeroValue ..
def cX.newObj{o:Obj}:cX P (newObj o):=λ_ _=>rfl
def cX.newRow{t:aw}{c:Array aj}:cX P (newRow t c):=.bind .newObj λ_=>.pure
def cX.Pl{α β:Type}{f:α->Sem β}(h:∀a,cX P (f a)):∀l:List α,cX P (l.mapM f)
  | []=>by rw[List.mapM_nil];exact .pure
  | a::l=>by rw[kW];exact .bind (h a) λ_=>.bind (cX.Pl h l) λ_=>.pure
def cX.map{α β:Type}{f:α->β}{m:Sem α}(h:cX P m):cX P (Functor.map f m):=λw es=>by rw[Sem.events_map];exact h w es
def cX.Tx{β:Type}{f:α->Sem β}(h:∀a,cX P (f a))(l:Array α):cX P (l.mapM f):=by rw[qP];exact .map (.Pl h _)
def cX.I1{α β:Type}{F:α->β->Sem (ForInStep β)}(h:∀a b,cX P (F a b)):∀(l:List α) (b:β),cX P (forIn l b F)
  | [],b=>by rw[List.forIn_nil];exact .pure
  | a::l,b=>by
    rw[List.forIn_cons];refine .bind (h a b) λr=>?_;cases r with
    | done b=>exact .pure
    | yield b=>exact cX.I1 h l b
theorem cX.build{t:aw}{parts:Array (Nat×aj)}:cX P (Instr.build t parts):=by
  unfold Instr.build;refine .bind .zeroValue λz=>.bind .underlying λd=>?_;cases d<;>first
    | exact .stuck
    | (refine .bind (.Tx (λ_=>.bind .sizeOf λ_=>.pure) _) λpl=>?_
       split
       · exact .pure
       · exact .stuck)
    | (refine .bind .sizeOf λn=>?_
       split
       · exact .pure
       · exact .stuck)
theorem cX.buildSlice{t:aw}{n:Nat}{parts:Array (Nat×aj)}:cX P (Instr.buildSlice t n parts):=by
  unfold Instr.buildSlice;refine .bind .underlying λd=>?_;cases d<;>first
    | exact .stuck
    | (refine .bind .sizeOf λm=>?_
       dsimp only
       have hj:∀(elem:aw) (zero:Array aj),cX P (match Instr.fill (λi=>aa (i*m,m)) (Array.map (λx=>zero[x % zero.size]!) (Array.range (n*m))) parts.toList with
          | some cells=>do
            let a<-Go.newRow elem cells
            Pure.pure (Value.slice (aa a) n n)
          | _=>Go.stuck "buildSlice: a part of the wrong size"):=by
         intro elem zero;split
         · exact .bind .newRow λ_=>.pure
         · exact .stuck
       by_cases b:n*m=0
       · simp only[b,bY]
         rw[b]at hj;split
         · grind
         · exact .bind .pure λz=>hj _ z
       · simp only[b,bS]
         split
         · exact .bind .unsupported λ_=>.bind .zeroValue λz=>.bind .pure λz=>hj _ z
         · exact .bind .zeroValue λz=>.bind .pure λz=>hj _ z)
def oX{o:Nat}{L:Loc}(a:L∈s.β)(c:b∈L.bs):oG s (zD b o):=⟨rfl,rfl,.inr (.inl ⟨⟨L,a,c⟩,λh=>by cases h⟩)⟩
def Bm{o:Nat}(h:s.M b o=aa v):oG s (zD b o):=⟨rfl,rfl,.inr (.inr ⟨rfl,v,h⟩)⟩
theorem k6{o:Nat}{L:Loc}(c:L∈s.β)(d:b∈L.bs)(a:s.M b o=af):oG s (GM b o):=⟨rfl,rfl,.inr (.inl ⟨⟨L,c,d⟩,λ_=>a⟩)⟩
end
structure TI where
 size:Nat
 bytes:Nat
 agg:Bool
 desc:TypeDesc
 zero:List C
 eq:List TypeDesc:=[]
def rf:TypeDesc->aj->aj->Option Bool
 |.int _,.int k a,.int k' b=>if k=k' then aa (a==b)else af
 |.string,.string a,.string b=>aa (a.toList==b.toList)
 |.bool,.bool a,.bool b=>aa (a==b)
 |_,_,_=>af
def jJ:List TypeDesc->List aj->List aj->Option Bool
 |[],[],[]=>aa ab
 |d::ds,v::vs,w::ws=>match rf d v w with
  |some a=>match jJ ds vs ws with
   |some b=>aa (a&&b)
   |none=>af
  |none=>af
 |_,_,_=>af
def Av:TypeDesc->Bool
 |.struct _|.array _ _=>ab
 |_=>ae
structure dD(P:aO)(t:aw)(i:TI):Prop where
 SH:P.underlying t=aa i.desc
 agg:Av i.desc=i.agg
 info:∃inf z,P.info? t=aa inf/\inf.size=i.size/\inf.bytes=i.bytes/\inf.zero=aa z/\z.cells.toList.map qX=i.zero.map aa/\(∃cs,z=if i.agg then .agg cs else z)/\i.zero.length=i.size
 eqs:i.eq≠[]->P.eqGuardType P.depth t=ae/\∀(w:aA) (vs ws:List aj) (b:Bool),jJ i.eq vs ws=aa b->(Op.equal t (.agg vs.toArray) (.agg ws.toArray)).run P w=.ok b w/\∀es,(Op.equal t (.agg vs.toArray) (.agg ws.toArray)).events P w es=es
def bH:List (Nat×TI)->Nat->Option TI
 |[],_=>af
 |(i,d)::r,t=>cond (av i t) (aa d) (bH r t)
def dg(P:aO)(T:List (Nat×TI)):Prop:=∀t i,bH T t=aa i->dD P t i
section
variable {i:TI}
def dD.run_underlying(h:dD P t i):(underlying t).run P w=.ok i.desc w:=by simp[underlying,h.SH]
def dD.jY(h:dD P t i):(isAgg t).run P w=.ok i.agg w:=by have:=h.agg;unfold Go.isAgg;rw[bT,h.run_underlying];cases a:i.desc<;>rw[a]at this<;>simp[Av]at this<;>simp[this]
def dD.run_sizeOf(h:dD P t i):(sizeOf t).run P w=.ok i.size w:=by obtain⟨a,z,h1,h2,_⟩:=h.info;simp[sizeOf,typeInfo,h1,h2]
def kr{σ:List bm}{s:St}:∀{vs:List aj}{cs:List C},vs.map qX=cs.map aa->eb σ s vs (cs.map A.c)
 |[],[],_=>trivial
 |[],_::_,h=>by grind
 |_::_,[],h=>by grind
 |v::vs,c::cs,h=>by simp only[jA,List.cons.injEq]at h;exact⟨Rd.qX h.1,kr h.2⟩
def dD.JJ(h:dD P t i)(σ:List bm)(s:St):∃z,(zeroValue t).run P w=.ok z w/\eb σ s z.cells.toList (i.zero.map A.c):=by obtain⟨d,z,h1,h2,e,a,b,_⟩:=h.info;exact⟨z,by simp[zeroValue,typeInfo,h1,a],kr b⟩
end
def kN:D->Option (List A)
 |.e (.one a)=>aa [a]
 |.e (.agg cs)=>aa cs
 |_=>af
theorem lq{d:D}{cs:List A}(h:kN d=aa cs)(r:dm σ s v d):eb σ s v.cells.toList cs:=by
 cases d with
 |e x =>
  cases x with
  |one a =>
   cases h;have:=gb.cell r;cases v<;>first|exact⟨r,ar⟩|cases this
  |agg c =>
   cases h;obtain⟨vs,rfl,b⟩:=r;simpa[Value.cells]using b
 |fz xs=>cases h
 |any=>cases h
def bE.newVar{P:aO}{o:aB}{η:aC->D}{σ:List bm}{E:aw}{cs:List A}(h:∀s a,aD σ s->(∀y,dm σ s (a y) (η y))->∃v:aj,(ak a o).run P s.w=((do pure (.value (.pointer (aa (<-newVar E v))))):Sem Next).run P s.w/\eb σ s v.cells.toList cs/\(ak a o).events P s.w #[]=#[]):
  bE P o η σ (.e (.one (.ptr σ.length 0))) (σ++[.cells E cs]):=by
 intro s a hh hr;obtain⟨v,h1,h2,b⟩:=h s a hh hr;refine⟨.value (.pointer (aa ⟨s.w.heap.size,0,af⟩)),s.fK E v.cells.toList,?_,?_,hh.fK h2,.fK s E _ _,by rw[b];exact .nil⟩
 .rw[h1];simp[Go.newVar,newRow,St.fK]
 .refine⟨by simp,⟨.pointer (aa ⟨s.w.heap.size,0,af⟩),[s.w.heap.size]⟩,s.w.heap.size,?_,rfl,rfl⟩;simp[St.fK,<-hh.len]
theorem bE.alloc{P:aO}{T:List (Nat×TI)}(d:dg P T){o:aB}{η:aC->D}{σ:List bm}{E:aw}(h:o.op=.alloc E){i:TI}(hi:bH T E=aa i):
  bE P o η σ (.e (.one (.ptr σ.length 0))) (σ++[.cells E (i.zero.map A.c)]):=by refine .newVar λs f _ _=>?_;obtain⟨z,a,b⟩:=(d E i hi).JJ (w:=s.w) σ s;exact⟨z,by simp[ak,h,Instr.alloc,a],b,by simp[ak,h,Instr.alloc,a,Go.newVar,newRow]⟩
theorem bE.box{P:aO}{o:aB}{η:aC->D}{σ:List bm}{E:aw}{x:aC}(h:o.op=.box E x){cs:List A}(c:kN (η x)=aa cs):
  bE P o η σ (.e (.one (.ptr σ.length 0))) (σ++[.cells E cs]) :=
 .newVar λs b _ a=>⟨b x,by simp[ak,h,Instr.box],lq c (a x),by simp[ak,h,Instr.box,Go.newVar,newRow]⟩
def oy{α:Type}:Nat->List α->Option (List α)
 |0,_=>aa []
 |n+1,x::xs=>match oy n xs with|some r=>aa (x::r)|none=>af
 |_+1,[]=>af
def mW{α:Type}:∀{n:Nat}{l r:List α},oy n l=aa r->r=l.take n/\r.length=n
 |0,l,r,h=>by cases h;simp
 |n+1,[],r,h=>by simp[oy]at h
 |n+1,x::xs,r,h=>by
  simp only[oy]at h;cases a:oy n xs with
  |none=>grind
  |some q =>
   simp[a]at h;subst h;obtain⟨b,c⟩:=mW a;grind
def eD{α:Type}:Nat->List α->Option α
 |_,[]=>af
 |0,x::_=>aa x
 |n+1,_::xs=>eD n xs
theorem c7{α:Type}:∀{n:Nat}{l:List α}{x:α},eD n l=aa x->l[n]?=aa x
 |_,[],_,h=>by simp[eD]at h
 |0,x::_,_,h=>by simpa[eD]using h
 |n+1,_::xs,_,h=>by simpa using c7 (n:=n) (l:=xs) h
def gZ{α:Type}:Nat->List α->List α
 |0,l=>l
 |_+1,[]=>[]
 |n+1,_::xs=>gZ n xs
def na{α:Type}:∀(n:Nat)(l:List α),gZ n l=l.drop n
 |0,_=>by simp[gZ]
 |_+1,[]=>by simp[gZ]
 |n+1,_::xs=>by simp[gZ,na n xs]
def mM(i:TI)(cs:List A):Option E1 :=
 match i.agg with
 |true=>match oy i.size cs with|some r=>aa (.agg r)|none=>af
 |false=>match eD 0 cs with|some a=>aa (.one a)|none=>af
def ml{i:TI}(k:dD P t i){cs:List A}{e:E1}(x:∀(j:Nat) (v:aj),vs[j]?=aa v->s.w.cell? ⟨b,off+j,af⟩=aa v)(l:eb σ s vs cs)(f:mM i cs=aa e):
  ∃v,(loadVar t ⟨b,off,af⟩).run P s.w=.ok v s.w/\nD σ s v e:=by
 simp only[loadVar,bT,k.jY,cm];cases n:i.agg<;>simp only[mM,n]at f
 .cases g:eD 0 cs with
  |none=>grind
  |some a =>
   simp[g]at f;subst f;obtain⟨v,u,h⟩:=l.get (c7 g);refine⟨v,?_,h⟩;grind[run_load]
 .cases g:oy i.size cs with
  |none=>grind
  |some r =>
   simp[g]at f;subst f;obtain⟨o,m⟩:=mW g;have c:=l.take i.size;rw[<-o]at c;have p:(vs.take i.size).length=i.size:=by rw[c.length,m]
   have d:=run_loadCells_list (P:=P) s.w ⟨b,off,af⟩ (vs.take i.size) (λj v q=>by grind[dr])
   rw[p]at d;refine⟨.agg (vs.take i.size).toArray,?_,vs.take i.size,rfl,c⟩;simp[k.run_sizeOf,d]
def ja{i:TI}(k:dD P t i)(g:∀j,j<n->∃v,w.cell? ⟨b,off+j,af⟩=aa v)(c:(if i.agg then i.size else 1)<=n):
  ∀e∈(loadVar t ⟨b,off,af⟩).events P w #[],∃j,j<n/\e=zD b (off+j):=by
 intro e a;simp only[loadVar,aP,k.jY,aU,events_isAgg]at a;cases f:i.agg
 .rw[f]at c a;obtain⟨v,d⟩:=g 0 (by grind);simp only[ia]at d;simp only[gO,bS,zG d]at a;rcases Array.mem_push.1 a with h|rfl
  .grind
  .exact⟨0,by grind,rfl⟩
 .rw[f]at c a;simp only[bY]at c;simp only[bY,aP,k.run_sizeOf,aU,events_sizeOf]at a;have key:∀e∈(loadCells ⟨b,off,af⟩ i.size).events P w #[],∃j,j<n/\e=zD b (off+j):=by
   intro e a;rcases rO (P:=P) (λj l=>g j (by omega)) e a with h|⟨j,l,rfl⟩
   .grind
   grind
  apply key;generalize(loadCells ⟨b,off,af⟩ i.size).run P w=r at a;cases r with
  |ok v w'=>simpa using a
  |halt x w'=>simpa using a
theorem o7{i:TI}{cs:List A}{e:E1}(h:mM i cs=aa e):(if i.agg then i.size else 1)<=cs.length:=by
 unfold mM at h;cases b:i.agg<;>rw[b]at h
 .cases cs with
  |nil=>simp[eD]at h
  |cons c cs=>simp
 .simp only at h;cases a:oy i.size cs with
  |none=>grind
  |some r =>
   obtain⟨d,f⟩:=mW a;grind
theorem bE.FK{T:List (Nat×TI)}(y:dg P T)(h:o.op=.load t x){cs:List A}{i:TI}{e:E1}(C:η x=.e (.one (.ptr l off)))(D:σ[l]?=aa (.cells E cs))(hi:bH T t=aa i)(B:mM i (gZ off cs)=aa e):bE P o η σ (.e e) σ:=by
 refine .nP λs F hh hr=>?_
 have h1:=hr x;rw[C]at h1;obtain⟨_,L,b,p,d,q⟩:=h1;obtain⟨m,vs,rfl,z,f,_⟩:=hh.box l _ L D p;simp at d;subst d;rw[na]at B;obtain⟨v,g,k⟩:=ml (s:=s) (σ:=σ) (P:=P) (y t i hi) (b:=m) (off:=off) (vs:=vs.drop off) (cs:=cs.drop off) (e:=e) (λj v hj=>by
  simp only[aW,z]
  grind) (f.drop off) B
 refine⟨v,by simp[ak,h,q,Instr.loadAt,Instr.sureAddr,g],k,λu c=>?_⟩;have a:u∈(loadVar t ⟨m,off,af⟩).events P s.w #[]:=by
  have e:ak F o=(do pure (.value (<-loadVar t ⟨m,off,af⟩))):=by simp[ak,h,q,Instr.loadAt,Instr.sureAddr]
  rw[e]at c;simpa[g]using c
 have r:(vs.drop off).length=(cs.drop off).length:=(f.drop off).length;obtain⟨j,hj,rfl⟩:=ja (y t i hi) (n:=(vs.drop off).length) (λj hj=>by refine⟨(vs.drop off)[j],?_⟩;simp only[aW,z];simp at hj⊢<;>omega) (by grind[o7]) u a
 exact oX (bL p) (by simp)
theorem bE.Ja{T:List (Nat×TI)}(u:dg P T)(h:o.op=.load t x){cs:List C}{i:TI}{e:E1}(D:η x=.e (.one (.c (.rp cs))))(hi:bH T t=aa i)(z:mM i (cs.map A.c)=aa e):bE P o η σ (.e e) σ:=by
 refine .nP λs B hh hr=>?_;have h1:=hr x;rw[D]at h1;have h2:=fI h1;generalize m:B x=vx at h2;cases h2;rename_i b off f hm My;have q:∀(n:Nat) (ds:List C),(∀j c,ds[j]?=aa c->Rd s.M (f (n+j)) c)->eb σ s ((bk ds.length).map λj=>f (n+j)) (ds.map A.c):=by
  intro n ds;induction ds generalizing n with
  |nil=>intro _;trivial
  |cons d ds ih =>
   intro y;rw[fQ,zr];refine⟨y 0 d rfl,?_⟩;have:=ih (n+1) (λj c hj=>by have:=y (j+1) c (by grind);grind);grind[Function.comp_def]
 obtain⟨v,l,p⟩:=ml (s:=s) (σ:=σ) (P:=P) (u t i hi) (b:=b) (off:=off) (vs:=(bk cs.length).map λj=>f (0+j)) (cs:=cs.map A.c) (e:=e) (λj v hj=>by
  simp only[nJ,bA]at hj;by_cases g:j<cs.length
  .simp[g]at hj;subst hj;exact hh.mem _ _ _ (hm j cs[j] (bg g))
  grind) (q 0 cs (by grind)) z
 refine⟨v,by simp[ak,h,m,Instr.loadAt,Instr.sureAddr,l],p,λr k=>?_⟩;have a:r∈(loadVar t ⟨b,off,af⟩).events P s.w #[]:=by
  have e:ak B o=(do pure (.value (<-loadVar t ⟨b,off,af⟩))):=by simp[ak,h,m,Instr.loadAt,Instr.sureAddr]
  rw[e]at k;simpa[l]using k
 obtain⟨j,hj,rfl⟩:=ja (u t i hi) (n:=cs.length) (λj hj=>⟨f j,hh.mem _ _ _ (hm j cs[j] (bg hj))⟩) (by have:=o7 z;grind) r a;exact Bm (hm j cs[j] (bg hj))
def fg{α:Type}:Nat->List α->List α->Option (List α)
 |0,[],l=>aa l
 |0,n::ns,_::cs=>match fg 0 ns cs with|some r=>aa (n::r)|none=>af
 |k+1,ns,c::cs=>match fg k ns cs with|some r=>aa (c::r)|none=>af
 |_,_,[]=>af
def qp{α:Type}:∀{off:Nat}{new l r:List α},fg off new l=aa r->off+new.length<=l.length/\r=l.take off++new++l.drop (off+new.length)
 |0,[],l,r,h=>by cases l<;>cases h<;>simp
 |0,n::ns,c::cs,r,h=>by
  simp only[fg]at h;cases a:fg 0 ns cs with
  |none=>grind
  |some q =>
   simp[a]at h;subst h;obtain⟨b,d⟩:=qp a;grind
 |0,n::ns,[],r,h=>by simp[fg]at h
 |k+1,ns,c::cs,r,h=>by
  simp only[fg]at h;cases a:fg k ns cs with
  |none=>grind
  |some q =>
   simp[a]at h;subst h;obtain⟨b,d⟩:=qp a;grind
 |k+1,ns,[],r,h=>by simp[fg]at h
def eb.fg{new:List aj}{cs Q8 r:List A}(h:AM.fg off Q8 cs=aa r)(h1:eb σ s vs cs)(h2:eb σ s new Q8):
  off+new.length<=vs.length/\eb σ s (vs.take off++new++vs.drop (off+new.length)) r:=by obtain⟨k1,rfl⟩:=qp h;rw[h2.length,h1.length];refine⟨k1,((h1.take off).append h2).append (by have:=h1.drop (off+Q8.length);exact this)⟩
theorem bE.store{T:List (Nat×TI)}(B:dg P T)(h:o.op=.store t x y){cs new lY:List A}{i:TI}(I:η x=.e (.one (.ptr l off)))(F:σ[l]?=aa (.cells E cs))(hi:bH T t=aa i)(M:kN (η y)=aa new)(C:new.length=i.size)(K:fg off new cs=aa lY):
  bE P o η σ .any (σ.set l (.cells E lY)):=by
 intro s d hh hr;have h1:=hr x;rw[I]at h1;obtain⟨_,L,b,u,k,z⟩:=h1;obtain⟨p,vs,rfl,D,q,g⟩:=hh.box l _ L F u;simp at k;subst k;have a:=lq M (hr y);obtain⟨k1,J⟩:=eb.fg K q a;obtain⟨w1,w2⟩:=hh.write F u rfl J;refine⟨.skip,_,?_,rfl,w1,w2,?_⟩
 rotate_left
 .intro G c;have f:(d y).cells.size=i.size:=by rw[<-C,<-a.length,iY]
  have e:ak d o=(do storeVar t ⟨p,off,af⟩ (d y);pure .skip):=by simp[ak,h,z,Instr.storeAt,Instr.sureAddr]
  rw[e]at c;have m:G∈(storeCells ⟨p,off,af⟩ (d y).cells.toList).events P s.w #[]:=by
   simp only[storeVar,aP,(B t i hi).run_sizeOf,f,aU,events_sizeOf,cU,fe,bS,bT,cm,Sem.events_pure]at c;generalize(storeCells ⟨p,off,af⟩ (d y).cells.toList).run P s.w=r at c;cases r with
   |ok v w'=>simpa using c
   |halt x w'=>simpa using c
  rcases ek (d y).cells.toList 0 vs.toArray s.w #[] D (by grind) a.cell G m with H|⟨j,_,_,rfl⟩
  .grind
  .exact k6 (bL u) (by simp) (g _)
 have n:=run_storeCells_at P p off E (d y).cells.toList 0 vs.toArray s.w D (by grind) (a.cell);have f:(d y).cells.size=i.size:=by rw[<-C,<-a.length,iY]
 simp only[ia]at n;simp[ak,h,z,Instr.storeAt,Instr.sureAddr,storeVar,(B t i hi).run_sizeOf,f,n]
def jG(T:List (Nat×TI))(t:aw)(f:Nat):Option (Nat×TI) :=
 match bH T t with
 |some i=>match i.desc with
  |.struct fs=>match eD f fs.toList with
   |some fl=>match bH T fl.type with
    |some j=>cond (av j.size 0) af (aa (fl.offset,j))
    |none=>af
   |none=>af
  |_=>af
 |none=>af
def tm{T:List (Nat×TI)}(c:dg P T){f:Nat}{j:TI}(h:jG T t f=aa (off,j)):
  ∃i fs fl,bH T t=aa i/\i.desc=.struct fs/\fs[f]?=aa fl/\fl.offset=off/\bH T fl.type=aa j/\j.size≠0/\dD P t i/\dD P fl.type j:=by
 unfold jG at h;split at h
 .rename_i i hi;split at h
  .rename_i fs Xa;split at h
   .rename_i fl hfl;split at h
    .rename_i d b;cases a:av d.size 0<;>simp[a]at h
     obtain⟨rfl,rfl⟩:=h;refine⟨i,fs,fl,hi,Xa,by simpa using c7 hfl,rfl,b,?_,c _ _ hi,c _ _ b⟩;intro e;rw[e]at a;cases a
    grind
   grind
  grind
 grind
def mm{T:List (Nat×TI)}(e:dg P T){f:Nat}{j:TI}(h:jG T t f=aa (off,j))(b o:Nat)(w:aA):
  (Instr.fieldAt t (.pointer (aa ⟨b,o,af⟩)) f).run P w=.ok (.pointer (aa ⟨b,o+off,af⟩)) w:=by obtain⟨i,fs,fl,m,c,d,g,l,a,k,g2⟩:=tm e h;simp[Instr.fieldAt,k.run_underlying,c,d,Instr.sureAddr,fieldPlace,g2.run_sizeOf,a,dr,g]
def n5{T:List (Nat×TI)}(e:dg P T){f:Nat}{j:TI}(h:jG T t f=aa (off,j))(b o:Nat)(w:aA)(es:Array Event):
  (Instr.fieldAt t (.pointer (aa ⟨b,o,af⟩)) f).events P w es=es:=by obtain⟨i,fs,fl,m,c,d,k,l,a,g,g2⟩:=tm e h;simp[Instr.fieldAt,g.run_underlying,c,d,Instr.sureAddr,fieldPlace,g2.run_sizeOf,a]
def bE.r5{T:List (Nat×TI)}(g:dg P T){f:Nat}(h:o.op=.fieldAddr t x f){j:TI}(m:η x=.e (.one (.ptr l off)))(d:jG T t f=aa (k,j)):bE P o η σ (.e (.one (.ptr l (off+k)))) σ:=by refine .quiet λs p hh hr=>?_;have h1:=hr x;rw[m]at h1;obtain⟨n,L,b,i,a,c⟩:=h1;exact⟨.pointer (aa ⟨b,off+k,af⟩),by simp[ak,h,c,mm g d],⟨n,L,b,i,a,rfl⟩,by simp[ak,h,c,n5 g d]⟩
theorem bE.tT{T:List (Nat×TI)}(g:dg P T){f:Nat}(h:o.op=.fieldAddr t x f){cs:List C}{j:TI}(l:η x=.e (.one (.c (.rp cs))))(d:jG T t f=aa (k,j)):bE P o η σ (.e (.one (.c (.rp (gZ k cs))))) σ:=by
 refine .quiet λs m hh hr=>?_;have h1:=hr x;rw[l]at h1;have h2:=fI h1;generalize a:m x=vx at h2;cases h2;rename_i b o i hm My;refine⟨.pointer (aa ⟨b,o+k,af⟩),by simp[ak,h,a,mm g d],?_,by simp[ak,h,a,n5 g d]⟩;rw[na];refine Rd.rp b (o+k) (λj=>i (k+j)) (λj c hj=>?_) (λj c hj=>?_)
 .grind
 grind
def JK{i:TI}(g:dD P t i){cs:List A}(r:eb σ s vs cs){e:E1}(b:mM i (gZ off cs)=aa e)(w:aA):
  ∃v,(part t vs.toArray off).run P w=.ok v w/\nD σ s v e/\∀es,(part t vs.toArray off).events P w es=es:=by
 simp only[part,bT,g.jY,cm,aP,aU,events_isAgg];rw[na]at b;cases j:i.agg<;>simp only[mM,j]at b
 .cases d:eD 0 (cs.drop off)with
  |none=>grind
  |some a =>
   simp[d]at b;subst b;obtain⟨v,h,f⟩:=(r.drop off).get (c7 d);simp at h;refine⟨v,?_,f,λes=>?_⟩<;>simp[h]
 .cases d:oy i.size (cs.drop off)with
  |none=>grind
  |some q =>
   simp[d]at b;subst b;obtain⟨k,l⟩:=mW d;have c:=(r.drop off).take i.size;rw[<-k]at c;refine⟨.agg (vs.toArray.extract off (off+i.size)),by simp[g.run_sizeOf],⟨(vs.drop off).take i.size,?_,c⟩,λes=>by simp⟩;simp
theorem bE.field{P:aO}{T:List (Nat×TI)}(q:dg P T){o:aB}{η:aC->D}{σ:List bm}{t:aw}{x:aC}{f:Nat}(h:o.op=.field t x f){cs:List A}{k:Nat}{j:TI}{e:E1}(r:η x=.e (.agg cs))(p:jG T t f=aa (k,j))(u:mM j (gZ k cs)=aa e):bE P o η σ (.e e) σ:=by refine .quiet λs B hh hr=>?_;have h1:=hr x;rw[r]at h1;obtain⟨vs,g,c⟩:=h1;obtain⟨i,fs,fl,h1,h2,l,m,z,y,n,g2⟩:=tm q p;obtain⟨v,b,a,d⟩:=JK g2 c u s.w;exact⟨v,by simp[ak,h,g,Instr.field,n.run_underlying,h2,l,asAgg,m,b],a,by simp[ak,h,g,Instr.field,n.run_underlying,h2,l,asAgg,m,d]⟩
theorem bE.tU(h:o.op=.nilCheck x)(d:η x=.e (.one (.ptr l off))):bE P o η σ (.e (.one (.ptr l off))) σ:=by refine .quiet λs g hh hr=>?_;have h1:=hr x;rw[d]at h1;have a:=h1;obtain⟨j,L,b,i,f,c⟩:=h1;exact⟨g x,by simp[ak,h,c],a,by simp[ak,h,c]⟩
theorem bE.vT(h:o.op=.nilCheck x){cs:List C}(d:η x=.e (.one (.c (.rp cs)))):bE P o η σ (.e (.one (.c (.rp cs)))) σ:=by refine .quiet λs b hh hr=>?_;have h1:=hr x;rw[d]at h1;have h2:=fI h1;generalize a:b x=vx at h2;cases h2;exact⟨_,by simp[ak,h,a];rfl,by grind,by simp[ak,h,a]⟩
def Hb(new:List aj):∀(j off:Nat)(cs:Array aj),off+j+new.length<=cs.size ->
  ((new.zipIdx j).foldl (λcs (x:aj×Nat)=>cs.setIfInBounds (off+x.2) x.1) cs).toList=cs.toList.take (off+j)++new++cs.toList.drop (off+j+new.length):=by
 induction new with
 |nil=>intro j off cs _;simp
 |cons v vs ih =>
  intro j off cs h;simp only[List.zipIdx_cons,iH];rw[ih (j+1) off _ (by grind)];have:=list_seg_step cs.toList (off+j) v vs (by grind);simpa[Array.toList_setIfInBounds,Nat.add_assoc]using this
def yE(place:Nat->Option (Nat×Nat)):List (Nat×List A)->List A->Option (List A)
 |[],cs=>aa cs
 |(i,new)::rest,cs=>match place i with
  |some (off,size)=>match av new.length size with
   |true=>match fg off new cs with
    |some r=>yE place rest r
    |none=>af
   |false=>af
  |none=>af
def wu{σ:List bm}{s:St}{place place':Nat->Option (Nat×Nat)}(o:∀i p,place i=aa p->place' i=aa p):∀{parts:List (Nat×List A)}{vparts:List (Nat×aj)}{cs r:List A}{vs:Array aj},
  yE place parts cs=aa r->vparts.map (·.1)=parts.map (·.1)->(∀(k:Nat) (p:Nat×List A) (q:Nat×aj),parts[k]?=aa p->vparts[k]?=aa q->eb σ s q.2.cells.toList p.2)->eb σ s vs.toList cs ->
  ∃d,Instr.fill place' vs vparts=aa d/\eb σ s d.toList r
 |[],[],cs,r,vs,h,_,_,b=>by cases h;exact⟨vs,rfl,b⟩
 |[],_::_,cs,r,vs,h,a,_,b=>by grind
 |_::_,[],cs,r,vs,h,a,_,b=>by grind
 |(i,new)::rest,(g,v)::T1,cs,r,vs,h,a,n,b=>by
  simp only[jA,List.cons.injEq]at a;obtain⟨rfl,a⟩:=a;simp only[yE]at h;cases c:place g with
  |none=>grind
  |some p =>
   obtain⟨off,size⟩:=p;simp only[c]at h;cases m:av new.length size with
   |false=>grind
   |true =>
    simp only[m]at h;cases t:fg off new cs with
    |none=>grind
    |some q =>
     simp only[t]at h;have e:=n 0 (g,new) (g,v) rfl rfl;simp only at e;have B:=e.length;have l:new.length=size:=b7 m;obtain⟨k1,y⟩:=eb.fg t b e;have z:=Hb v.cells.toList 0 off vs (by grind);have f:v.cells.size=size:=by grind
     have u:off+size<=vs.size:=by grind
     obtain⟨d,w,j⟩:=wu (σ:=σ) (s:=s) o (parts:=rest) (vparts:=T1) (cs:=q) (r:=r)
      (vs:=v.cells.zipIdx.foldl (λcs (x:aj×Nat)=>cs.setIfInBounds (off+x.2) x.1) vs) h a (λk p q w j=>n (k+1) p q (by grind) (by grind)) (by grind[Array.toList_zipIdx])
     refine⟨d,?_,j⟩;simp only[Instr.fill,o _ _ c,f,cU,fe,kY,Bool.false_or,bq];grind
def qq(T:List (Nat×TI)):List Field->Option (List (Nat×Nat))
 |[]=>aa []
 |f::fs=>match bH T f.type with
  |some j=>match qq T fs with
   |some r=>aa ((f.offset,j.size)::r)
   |none=>af
  |none=>af
def wv{P:aO}{T:List (Nat×TI)}(b:dg P T):∀{fs:List Field}{r:List (Nat×Nat)},qq T fs=aa r->fs.mapM (λf=>(P.info? f.type).map λi=>(f.offset,i.size))=aa r
 |[],r,h=>by cases h;simp
 |f::fs,r,h=>by
  simp only[qq]at h;cases a:bH T f.type with
  |none=>grind
  |some j =>
   cases c:qq T fs with
   |none=>grind
   |some q =>
    simp[a,c]at h;subst h;obtain⟨g,z,e,d,_⟩:=(b _ _ a).info;simp[kW,e,d,wv b c]
def pj(η:aC->D):List (Nat×aC)->Option (List (Nat×List A))
 |[]=>aa []
 |(i,x)::r=>match kN (η x)with
  |some cs=>match pj η r with
   |some q=>aa ((i,cs)::q)
   |none=>af
  |none=>af
def tn{σ:List bm}{s:St}{a:aC->aj}{η:aC->D}(d:∀y,dm σ s (a y) (η y)):∀{l:List (Nat×aC)}{q:List (Nat×List A)},pj η l=aa q ->
  (l.map λ(i,x)=>(i,a x)).map (·.1)=q.map (·.1)/\∀(k:Nat) (p:Nat×List A) (u:Nat×aj),q[k]?=aa p->(l.map λ(i,x)=>(i,a x))[k]?=aa u->eb σ s u.2.cells.toList p.2
 |[],q,h=>by cases h;simp
 |(i,x)::r,q,h=>by
  simp only[pj]at h;cases c:kN (η x)with
  |none=>grind
  |some cs =>
   cases b:pj η r with
   |none=>grind
   |some q' =>
    simp[c,b]at h;subst h;obtain⟨f,e⟩:=tn d b;grind[lq]
def z8(T:List (Nat×TI))(η:aC->D)(t:aw)(parts:List (Nat×aC)):Option (List A) :=
 match bH T t with
 |some i=>match i.desc with
  |.struct fs=>match qq T fs.toList with
   |some pl=>match pj η parts with
    |some ps=>yE (λk=>eD k pl) ps (i.zero.map A.c)
    |none=>af
   |none=>af
  |_=>af
 |none=>af
theorem bE.build{P:aO}{T:List (Nat×TI)}(g:dg P T){o:aB}{η:aC->D}{σ:List bm}{t:aw}{parts:Array (Nat×aC)}(h:o.op=.build t parts){cs:List A}(b:z8 T η t parts.toList=aa cs):bE P o η σ (.e (.agg cs)) σ:=by
 refine .quiet λs u hh hr=>?_;unfold z8 at b;cases hi:bH T t with
 |none=>grind
 |some i =>
  simp only[hi]at b;cases j:i.desc with
  |struct fs =>
   simp only[j]at b;cases c:qq T fs.toList with
   |none=>grind
   |some pl =>
    simp only[c]at b;cases d:pj η parts.toList with
    |none=>grind
    |some ps =>
     simp only[d]at b;obtain⟨m,z,v,C,F,n,r,E,G⟩:=(g t i hi).info;obtain⟨q,p2⟩:=tn (σ:=σ) (s:=s) hr d;obtain⟨f,y,l⟩:=wu (σ:=σ) (s:=s) (place':=λk=>pl.toArray[k]?) (λk p B=>by grind[c7]) b q p2 (kr r);have hb:P.built t (parts.map λ(i,x)=>(i,u x)).toList=aa f:=by unfold Program.built;have a:=(g t i hi).SH;rw[j]at a;simp only[v,a,n,wv g c];simpa using y
     refine⟨.agg f,?_,⟨f.toList,by simp,l⟩,?_⟩
     .simp only[ak,h,bT,run_build s.w t _ f hb,cm,cV]
     .simp only[ak,h,aP,run_build s.w t _ f hb,aU,Sem.events_pure];exact cX.build s.w #[]
  |_=>grind
theorem Rg(hi:i<n)(a:j<k):i*k+j<n*k:=by have b:(i+1)*k<=n*k:=ez k (by omega);grind
theorem NJ(a:j<k):(i*k+j) / k=i:=by grind[Nat.mul_comm,Nat.mul_add_div,Nat.div_eq_of_lt]
theorem NK(a:j<k):(i*k+j) % k=j:=by rw[Nat.mul_comm,Nat.mul_add_mod,Nat.mod_eq_of_lt a]
def Flat.nil:Flat M k 0 es []:=⟨by simp,by omega,by omega⟩
def cT(n:Nat)(f g:Nat->List C):Nat->List C:=λi=>if i<n then f i else g (i-n)
def Flat.append{m:Nat}{es':Nat->List C}{b:List aj}(h:Flat M k n es vs)(d:Flat M k m es' b):Flat M k (n+m) (cT n es es') (vs++b):=by
 refine⟨by simp[h.len,d.len,gT],λi hi=>?_,λi hi j c hj=>?_⟩
 .simp only[cT];split
  .rename_i a;exact h.width i a
  .exact d.width _ (by omega)
 .simp only[cT]at hj;split at hj
  .rename_i a;obtain⟨v,h1,h2⟩:=h.rd i a j c hj;grind
  .rename_i e;obtain⟨v,h1,h2⟩:=d.rd _ (by omega) j c hj;refine⟨v,?_,h2⟩;have e1:i*k+j=vs.length+((i-n)*k+j):=by rw[h.len,<-Nat.add_assoc,<-gT,zy (by omega)]
   grind
def Flat.cell{M:Mem}{k n:Nat}{es:Nat->List C}{vs:List aj}(h:Flat M k n es vs):∀v∈vs,v.oneCell'=ab:=by
 intro v b;obtain⟨p,a,rfl⟩:=dH b;rw[h.len]at a;have c:0<k:=by grind
 have hi:p / k<n:=pO (by grind);have hj:p % k<k:=iA _ c;have d:=h.width _ hi;obtain⟨v,h1,h2⟩:=h.rd (p / k) hi (p % k) ((es (p / k))[p % k]'(by omega)) (bg (by omega));have e:p / k*k+p % k=p:=pU p k;rw[e]at h1;rw[bg (by grind)]at h1;simp at h1;rw[h1];have:=Rd.cell h2;cases v<;>simp_all[cZ,Value.oneCell']
def Rd.flat{t:Bool}(h:Rd M v (.sl t k n es)):
  ∃a cap vs,v=.slice a n cap/\n<=cap/\cap<=9223372036854775807/\(t=ab->cap=n)/\Flat M k n es vs/\∀p u,vs[p]?=aa u->∃b off,a=aa ⟨b,off,af⟩/\M b (off+p)=aa u:=by
 cases h with
 |@sl a _ cap _ _ _ b off f c hb ht hk ha hm hr =>
  refine⟨a,cap,(bk (n*k)).map λp=>f (p / k) (p % k),rfl,c,hb,ht,⟨by simp,hk,?_⟩,?_⟩
  .grind [Rg,NJ,NK]
  .intro p u g;simp only[nJ]at g;by_cases d:p<n*k
   .simp[d]at g;subst g;have e:0<k:=by grind
    have hi:p / k<n:=pO (by grind);have hj:p % k<k:=iA _ e;have i:=hk _ hi;have:=hm (p / k) hi (p % k) ((es (p / k))[p % k]'(by omega)) (bg (by omega));refine⟨b,off,ha (Nat.lt_of_le_of_lt (iT _) hi),?_⟩;grind[Nat.div_add_mod']
   grind
def Rd.nN(h:Flat M k n es vs){a:Option Addr}{cap:Nat}{t:Bool}(f:0<n->a=aa ⟨b,off,af⟩)(d:n<=cap)(hb:cap<=9223372036854775807)(e:t=ab->cap=n)(hm:∀p u,vs[p]?=aa u->M b (off+p)=aa u):Rd M (.slice a n cap) (.sl t k n es):=by
 refine .sl b off (λi j=>(vs[i*k+j]?).getD ah) d hb e h.width f (λi hi j c hj=>?_) (λi hi j c hj=>?_)
 .obtain⟨v,h1,h2⟩:=h.rd i hi j c hj;grind
 .obtain⟨v,h1,h2⟩:=h.rd i hi j c hj;grind
def dW(l:aD σ s){t:Bool}(h:Rd s.M v (.sl t k n es)):
  ∃vs,Flat s.M k n es vs/\(Builtin.firstCells k n v).run P s.w=.ok vs.toArray s.w/\Builtin.lenOf v=pure n:=by
 obtain⟨a,cap,vs,rfl,f,p,o,d,e⟩:=h.flat;refine⟨vs,d,?_,rfl⟩;have m:vs.length=n*k:=d.len;cases a with
 |none =>
  have:vs=[]:=by
   cases vs with
   |nil=>rfl
   |cons u q=>obtain⟨b,off,c,_⟩:=e 0 u rfl;cases c
  subst this;rfl
 |some ad =>
  simp only[Builtin.firstCells];rw[<-m];refine run_loadCells_list s.w ad vs λj u g=>?_;obtain⟨b,off,c,i⟩:=e j u g;cases c;rw[dr];exact l.mem _ _ _ i
def bE.I8{T:List (Nat×TI)}(f:dg P T)(h:o.op=.index t x y){l:List UInt8}{j:Int}{k:IntKind}{i:TI}{m:Nat}(hi:bH T t=aa i)(g:i.desc=.string)(q:η x=.e (.one (.c (.str l))))(u:η y=.e (.one (.c (.int k j))))(hj:j=m)(hm:m<l.length):bE P o η σ (.e (.one (.c (.int .u8 (l[m]).toNat)))) σ:=by
 refine .quiet λs p hh hr=>?_;have h1:=hr x;have h2:=hr y;rw[q]at h1;rw[u]at h2;replace h1:=fI h1;replace h2:=fI h2;generalize d:p x=vx at h1;generalize b:p y=vy at h2;cases h1 with
 |@str sb _ r hl =>
 cases h2;subst r;have n:sb[m]?=aa (sb.data.toList[m]):=by
  have hm':m<sb.size:=by have e:sb.data.toList.length=sb.size:=iY;omega
  rw[getElem?_pos sb m hm'];congr 1
 refine⟨.int .u8 (sb.data.toList[m]).toNat,?_,Rd.int ?_,?_⟩
 rotate_left 2
 .have a:=(f t i hi).run_underlying (w:=s.w);rw[g]at a;simp[ak,h,d,b,Instr.index,asIntOf,a,hj,n]
 .have a:=(f t i hi).run_underlying (w:=s.w);rw[g]at a;simp[ak,h,d,b,Instr.index,asIntOf,a,hj,n]
 .have:=(sb.data.toList[m]).toNat_lt;simp only[bx];omega
def bE.indexAddr{T:List (Nat×TI)}(u:dg P T)(h:o.op=.indexAddr t x y){i ie:TI}(hi:bH T t=aa i)(F:i.desc=.slice E)(C:bH T E=aa ie){tt:Bool}{j:Int}{k:IntKind}{m:Nat}(D:∀s v,dm σ s v (η x)->Rd s.M v (.sl tt ie.size n es))(G:η y=.e (.one (.c (.int k j))))(hj:j=m)(d:m<n):
  bE P o η σ (.e (.one (.c (.rp (es m))))) σ:=by
 refine .quiet λs A hh hr=>?_;have h1:=D s _ (hr x);have h2:=hr y;rw[G]at h2;replace h2:=fI h2;generalize r:A x=vx at h1;generalize l:A y=vy at h2;cases h2;cases h1 with
 |@sl a _ cap _ _ _ b off f z hb ht hk ha hm' My =>
 have p:0<n:=by omega
 have B:=(u t i hi).run_underlying (w:=s.w);rw[F]at B;refine⟨.pointer (aa ⟨b,off+m*ie.size,af⟩),?_,Rd.rp b (off+m*ie.size) (f m) (λq c g=>hm' m d q c g) (λq c g=>My m d q c g),?_⟩<;>
 simp[ak,h,r,l,Instr.indexAt,asIntOf,B,hj,ha p,(u E ie C).run_sizeOf,dr,d]
def bE.Ty{T:List (Nat×TI)}(l:dg P T)(h:o.op=.call {callee:=.builtin .len,args:=#[x],argTypes:=jP})(g:jP[0]?=aa t){i:TI}(hi:bH T t=aa i)(p:i.desc=.slice E){tt:Bool}(m:∀s v,dm σ s v (η x)->Rd s.M v (.sl tt k n es)):bE P o η σ (.e (.one (.c (.int .i64 n)))) σ:=by
 refine .quiet λs q hh hr=>?_;obtain⟨a,cap,vs,j,d,hb,_⟩:=(m s _ (hr x)).flat;have f:=(l t i hi).run_underlying (w:=s.w);rw[p]at f;have b:jP[0]?=aa t:=g;refine⟨.int .i64 n,?_,Rd.int (by simp only[bx];omega),?_⟩<;>
 simp[ak,h,resolve,invoke,builtin,Builtin.len_,j,f,goInt,b]
theorem bE.QE{T:List (Nat×TI)}(j:dg P T)(h:o.op=.call {callee:=.builtin .len,args:=#[x],argTypes:=jP})(g:jP[0]?=aa t){i:TI}(hi:bH T t=aa i)(m:i.desc=.string){l:List UInt8}(k:η x=.e (.one (.c (.str l)))):bE P o η σ (.e (.one (.c (.int .i64 l.length)))) σ:=by
 refine .quiet λs p hh hr=>?_;have h1:=hr x;rw[k]at h1;replace h1:=fI h1;generalize d:p x=vx at h1;cases h1 with
 |@str sb _ n hl =>
 have f:=(j t i hi).run_underlying (w:=s.w);rw[m]at f;have a:jP[0]?=aa t:=g;have b:sb.size=l.length:=by rw[<-n];exact iY.symm
 refine⟨.int .i64 l.length,?_,Rd.int (by simp only[bx];omega),?_⟩<;>
 simp[ak,h,resolve,invoke,builtin,Builtin.len_,d,f,goInt,a,b]
def St.newRow(s:St)(E:aw)(vs:List aj):St :=
 {β:=s.β,M:=λb o=>if b=s.w.heap.size then vs[o]? else s.M b o,w:=s.w.alloc (.cells vs.toArray E),own:=s.own}
def aD.newRow{σ:List bm}{s:St}(h:aD σ s)(E:aw)(vs:List aj):aD σ (s.newRow E vs)/\Step σ s σ (s.newRow E vs):=by
 refine h.grow (by simp) (λb hb=>cO _ _ hb) (λb hb o=>by grind) (λb hb o v hm=>?_) rfl rfl rfl;by_cases e:b=s.w.heap.size
 .subst e;simp at hm;show aW (s.w.alloc (.cells vs.toArray E)) ⟨s.w.heap.size,o,af⟩=aa v;unfold aW;grind[dG]
 .simp only[e,bS]at hm;have:=h.block hm;omega
def Hc(s:St)(E:aw)(vs:List aj):∀p u,vs[p]?=aa u->(s.newRow E vs).M s.w.heap.size (0+p)=aa u:=by intro p u h;simpa[St.newRow]using h
def gU:List A->Option (List C)
 |[]=>aa []
 |.c c::r=>match gU r with|some q=>aa (c::q)|none=>af
 |.vec _ k n es::r=>match gU r with|some q=>aa (.sl ae k n es::q)|none=>af
 |_::_=>af
def lu{σ:List bm}{s:St}:∀{cs:List A}{r:List C}{vs:List aj},gU cs=aa r->eb σ s vs cs->eb σ s vs (r.map A.c)
 |[],r,vs,h,a=>by cases h;exact a
 |_::_,_,[],_,a=>a.elim
 |.c c::al,r,v::vs,h,a=>by
  simp only[gU]at h;cases b:gU al with
  |none=>grind
  |some q=>simp[b]at h;subst h;exact⟨a.1,lu b a.2⟩
 |.vec l k n es::al,r,v::vs,h,a=>by
  simp only[gU]at h;cases b:gU al with
  |none=>grind
  |some q=>simp[b]at h;subst h;exact⟨a.1.1,lu b a.2⟩
 |.ptr l o::al,r,v::vs,h,a=>by simp[gU]at h
 |.ref l::al,r,v::vs,h,a=>by simp[gU]at h
 |.bp l w::al,r,v::vs,h,a=>by simp[gU]at h
 |.any::al,r,v::vs,h,a=>by simp[gU]at h
def tp{α:Type}(k:Nat):Nat->List α->Option (List (List α))
 |0,[]=>aa []
 |0,_::_=>af
 |n+1,l=>match oy k l with
  |some c=>match tp k n (gZ k l)with
   |some r=>aa (c::r)
   |none=>af
  |none=>af
def eb.closed:∀{vs:List aj}{cs:List C},eb σ s vs (cs.map A.c)->∀(j:Nat)(c:C),cs[j]?=aa c->∃v,vs[j]?=aa v/\Rd s.M v c:=by intro vs cs h j c hj;obtain⟨v,h1,h2⟩:=h.get (j:=j) (a:=.c c) (by grind);exact⟨v,h1,h2⟩
def yF{M:Mem}{k:Nat}:∀{n:Nat}{cs:List C}{es:List (List C)}{vs:List aj},tp k n cs=aa es->vs.length=cs.length->(∀(j:Nat)(c:C),cs[j]?=aa c->∃v,vs[j]?=aa v/\Rd M v c)->es.length=n/\Flat M k n (λi=>es.getD i []) vs
 |0,[],es,vs,h,a,b=>by cases h;simp at a;subst a;exact⟨rfl,.nil⟩
 |0,_::_,es,vs,h,a,b=>by cases h
 |n+1,cs,es,vs,h,a,b=>by
  simp only[tp]at h;cases g:oy k cs with
  |none=>grind
  |some c =>
   simp only[g]at h;cases d:tp k n (gZ k cs)with
   |none=>grind
   |some q =>
    simp[d]at h;subst h;obtain⟨p,f⟩:=mW g;rw[na]at d;obtain⟨r,o⟩:=yF (vs:=vs.drop k) d (by grind) (λj c l=>by
     obtain⟨v,p,f⟩:=b (k+j) c (by grind)
     exact⟨v,by grind,f⟩)
    refine⟨by grind,?_⟩;have s:k<=cs.length:=by grind
    have m:Flat M k 1 (λ_=>c) (vs.take k):=by refine⟨by grind,by grind,λi hi j x l=>?_⟩;grind
    have:=m.append o;rw[Nat.add_comm 1 n]at this;have e:cT 1 (λ_=>c) (λi=>q.getD i [])=λi=>(c::q).getD i []:=by funext i;cases i<;>simp[cT]
    rw[e]at this;simpa using this
def Na(T:List (Nat×TI))(η:aC->D)(t:aw)(n:Nat)(parts:List (Nat×aC)):Option (Nat×List (List C)) :=
 match bH T t with
 |some i=>match i.desc with
  |.slice E=>match bH T E with
   |some ie=>match av ie.size 0 with
    |true=>af
    |false=>match bz (n*ie.size) 16777216 with
     |true=>match pj η parts with
      |some ps=>match yE (λk=>aa (k*ie.size,ie.size)) ps (List.replicate (n*ie.size) A.any)with
       |some cs=>match gU cs with
        |some r=>match tp ie.size n r with
         |some es=>aa (ie.size,es)
         |none=>af
        |none=>af
       |none=>af
      |none=>af
     |false=>af
   |none=>af
  |_=>af
 |none=>af
theorem bE.buildSlice{P:aO}{T:List (Nat×TI)}(L:dg P T){o:aB}{η:aC->D}{σ:List bm}{t:aw}{n:Nat}{parts:Array (Nat×aC)}(h:o.op=.buildSlice t n parts){k:Nat}{es:List (List C)}(a:Na T η t n parts.toList=aa (k,es)):bE P o η σ (.e (.one (.c (.sl ab k n λi=>es.getD i [])))) σ:=by
 intro s N hh hr;unfold Na at a;cases hi:bH T t with
 |none=>grind
 |some i =>
  simp only[hi]at a;cases X:i.desc with
  |slice E =>
   simp only[X]at a;cases J:bH T E with
   |none=>grind
   |some ie =>
    simp only[J]at a;cases Q:av ie.size 0 with
    |true=>grind
    |false =>
     simp only[Q]at a;cases B:bz (n*ie.size) 16777216 with
     |false=>grind
     |true =>
      simp only[B]at a;cases y:pj η parts.toList with
      |none=>grind
      |some ps =>
       simp only[y]at a;cases j:yE (λk=>aa (k*ie.size,ie.size)) ps (List.replicate (n*ie.size) A.any)with
       |none=>grind
       |some cs =>
        simp only[j]at a;cases g:gU cs with
        |none=>grind
        |some r =>
         simp only[g]at a;cases I:tp ie.size n r with
         |none=>grind
         |some es' =>
          simp only[I,dq,lA]at a;obtain⟨rfl,rfl⟩:=a;have hz0:ie.size≠0:=λe=>by rw[e]at Q;cases Q
          have V:=dM B;obtain⟨inf,z,z1,z2,z3,z4,W,z6,z7⟩:=(L E ie J).info;have hzs:z.cells.size=ie.size:=by have:=dy List.length W;grind
          have hzc:∀v∈z.cells.toList,cZ v=ab:=by intro v K;have d:qX v∈z.cells.toList.map qX:=jC.2 ⟨v,K,rfl⟩;rw[W]at d;obtain⟨c,_,Z⟩:=jC.1 d;exact(Rd.qX (M:=s.M) Z.symm).cell
          have l:∀m,(∀v∈(bk m).map (λq=>z.cells[q % z.cells.size]!),cZ v=ab):=by grind[Nat.mod_lt]
          have G:∀vs:List aj,(∀v∈vs,cZ v=ab)->eb σ s vs (List.replicate vs.length A.any):=by
           intro vs;induction vs with
           |nil=>intro _;trivial
           |cons v vs ih=>intro K;exact⟨K v (by simp),ih λu O=>K u (by grind)⟩
          obtain⟨p1,p2⟩:=tn (σ:=σ) (s:=s) hr y;have S:eb σ s ((Array.range (n*ie.size)).map (λq=>z.cells[q % z.cells.size]!)).toList (List.replicate (n*ie.size) A.any):=by have:=G _ (l (n*ie.size));simpa using this
          obtain⟨H,u1,Y⟩:=wu (σ:=σ) (s:=s) (place':=λk=>aa (k*ie.size,ie.size)) (λk p hk=>hk) j p1 p2 S;have u3:=lu g Y;obtain⟨c1,c2⟩:=yF (M:=s.M) (vs:=H.toList) I (by simpa using u3.length) u3.closed;obtain⟨g1,g2⟩:=hh.newRow E H.toList;refine⟨.value (.slice (aa ⟨s.w.heap.size,0,af⟩) n n),s.newRow E H.toList,?_,?_,g1,g2,?_⟩
          rotate_left 2
          .have e:(ak N o).events P s.w #[]=#[]:=by simp only[ak,h];exact cX.bind cX.buildSlice (λ_=>cX.pure) _ _
           rw[e];exact .nil
          .have O:=(L t i hi).run_underlying (w:=s.w);rw[X]at O;have U:(zeroValue E).run P s.w=.ok z s.w:=by simp[zeroValue,typeInfo,z1,z4]
           have f:Instr.fill (λk=>aa (k*ie.size,ie.size)) ((Array.range (n*ie.size)).map (λq=>z.cells[q % z.cells.size]!)) (parts.map λ(i,x)=>(i,N x)).toList=aa H:=by simpa using u1
           by_cases h0:n*ie.size=0
           .have R:n=0:=by grind[Nat.mul_eq_zero]
            subst R;have F:Array.range 0=#[]:=rfl;simp[F]at f;simp[ak,h,Instr.buildSlice,O,(L E ie J).run_sizeOf,F,f,Go.newRow,St.newRow]
           .rw[show ak N o=(do pure (.value (<-Instr.buildSlice t n (parts.map λ(i,x)=>(i,N x))))) by simp[ak,h]];simp only[Instr.buildSlice,bT,O,cm,(L E ie J).run_sizeOf,h0,bS,U,show¬n*ie.size>2 ^ 24 by omega,rK,f,cV];simp[Go.newRow,St.newRow]
          .refine Rd.nN (c2.mono g2.mem) (b:=s.w.heap.size) (off:=0) (λ_=>rfl) (ba _) ?_ (λ_=>rfl) (Hc s E H.toList);have:n<=n*ie.size:=uO n (by omega);omega
  |_=>grind
def Ext.trans{σ σ1 σ2:List bm}{s a s2:St}(h:Ext σ s σ1 a)(k:Ext σ1 a σ2 s2):Ext σ s σ2 s2:=by refine⟨λb o v f=>k.mem _ _ _ (h.mem _ _ _ f),λl B L n e=>?_⟩;obtain⟨B1,L1,h1,h2,j⟩:=h.box l B L n e;obtain⟨q,m,k1,c,p⟩:=k.box l B1 L1 h1 h2;exact⟨q,m,k1,c,j.trans p⟩
def fR{l:List α}{x y:α}{i:Nat}(h:(l++[x])[i]?=aa y):l[i]?=aa y∨(i=l.length/\y=x):=by grind
def aD.gz{a:St}(h1:aD σ a)(st:Step σ s σ a)(n:a.β=s.β)(hh:aD σ s){B:bm}{L:Loc}(p:eK (σ++[B]) {a with β:=a.β++[L]} B L)(f:∀b∈L.bs,s.w.heap.size<=b/\b<a.w.heap.size):aD (σ++[B]) {a with β:=a.β++[L]}/\Step σ s (σ++[B]) {a with β:=a.β++[L]}:=by
 have ex:Ext σ a (σ++[B]) {a with β:=a.β++[L]}:=by refine⟨λ_ _ _ h=>h,λl B' L' mc gm=>?_⟩;have hl:l<a.β.length:=(b8.1 gm).1;have o:l<σ.length:=(b8.1 mc).1;exact⟨B',L',by grind,by grind,.refl _ _⟩
 have e2:=st.ext.trans ex;refine⟨⟨h1.mem,by simp[h1.len],?_,?_,?_,?_⟩,⟨st.size,st.keep,st.mem,st.iO,?_,e2.box,st.os,st.tape,st.output,st.own⟩⟩
 .intro l B' L' mc gm;rcases fR mc with j|⟨rfl,rfl⟩
  .have hl:l<a.β.length:=by rw[h1.len];grind
   rw[js hl]at gm;exact(h1.box l B' L' j gm).carry ex h1.len λ_ _=>⟨rfl,λ_=>rfl⟩
  .rcases fR gm with c|⟨_,rfl⟩
   .have:=(b8.1 c).1;rw[h1.len]at this;omega
   grind
 .intro l l' L1 L2 c k b hb ov;rcases fR c with k1|⟨rfl,rfl⟩<;>rcases fR k with m|⟨rfl,rfl⟩
  .exact h1.eZ l l' L1 L2 k1 m b hb ov
  .have a1:=f b ov;have a2:=hh.lt L1 (by grind) b hb;omega
  .have a1:=f b hb;have a2:=hh.lt L2 (by grind) b ov;omega
  .rfl
 .intro L' gm b hb;simp only[eJ,gN]at gm;rcases gm with gm|rfl
  .exact h1.lt L' gm b hb
  grind
 .intro b hb;refine⟨(h1.own b hb).1,λL' gm Qd=>?_⟩;simp only[eJ,gN]at gm;rcases gm with gm|rfl
  .exact(h1.own b hb).2 L' gm Qd
  .have e:=st.own;simp only at hb;rw[e]at hb;have:=(hh.own b hb).1;grind
 grind
def aD.ig{M':Mem}(hh:aD σ s){B B':bm}{L L':Loc}(r:σ[l]?=aa B)(h:s.β[l]?=aa L)(A:ic B L B' L')(q:s.w.heap.size<=w'.heap.size)(G:∀b,b<s.w.heap.size->b∉L.bs->w'.heap[b]?=s.w.heap[b]?)(K:∀b,b<s.w.heap.size->b∉L.bs->∀o,M' b o=s.M b o)(k:∀b o v,s.M b o=aa v->M' b o=aa v)(D:∀b o v,M' b o=aa v->w'.cell? ⟨b,o,af⟩=aa v)(F:∀b∈L'.bs,(b∈L.bs∨s.w.heap.size<=b)/\b<w'.heap.size)(ho:w'.os=s.w.os)(E:w'.tape=s.w.tape)(C:w'.output=s.w.output)(J:eK (σ.set l B') ⟨s.β.set l L',M',w',s.own⟩ B' L'):aD (σ.set l B') ⟨s.β.set l L',M',w',s.own⟩/\Step σ s (σ.set l B') ⟨s.β.set l L',M',w',s.own⟩:=by
 have u:l<σ.length:=(b8.1 r).1;have x:l<s.β.length:=(b8.1 h).1;have a:∀i X,(s.β.set l L')[i]?=aa X->(i=l/\X=L')∨(i≠l/\s.β[i]?=aa X):=by grind
 have ex:Ext σ s (σ.set l B') ⟨s.β.set l L',M',w',s.own⟩:=by
  refine⟨k,λi X Y c m=>?_⟩;by_cases e:l=i
  .grind
  .exact⟨X,Y,by grind,by grind,.refl _ _⟩
 have out:∀i X,i≠l->s.β[i]?=aa X->∀b∈X.bs,b<s.w.heap.size/\b∉L.bs:=by intro i X hi c b hb;exact⟨hh.lt X (bL c) b hb,λn=>hi (hh.eZ i l X L c h b hb n)⟩
 refine⟨⟨D,by simp[hh.len],?_,?_,?_,?_⟩,⟨q,?_,k,?_,?_,ex.box,ho,E,C,rfl⟩⟩
 .intro i X Y c m;rcases a i Y m with⟨rfl,rfl⟩|⟨hi,m⟩
  .grind
  .rw[kJ (λe=>hi e.symm)]at c;refine(hh.box i X Y c m).carry ex hh.len λb hb=>?_;grind
 .intro i z X y c f b hb ov;rcases a i X c with⟨rfl,rfl⟩|⟨hi,t⟩<;>rcases a z y f with⟨rfl,rfl⟩|⟨p,j⟩
  .rfl
  .grind
  .grind
  .exact hh.eZ i z X y t j b hb ov
 .intro X c b hb;obtain⟨i,hi,rfl⟩:=dH c;rcases a i _ (bg hi)with⟨rfl,e⟩|⟨p,f⟩
  .grind
  grind
 .intro b hb;obtain⟨I,H⟩:=hh.own b hb;grind
 .grind
 .grind
 grind
def rN{a old bytes:Nat}(h:old<a)(b:a*bytes<=140737488355328):¬Builtin.nextslicecap a old*bytes>2 ^ 48:=by have:=growslice_fits h b;omega
section
variable {T:List (Nat×TI)}(g:dg P T){d:aw}{i i2 ie:TI}
def iU(hi:dD P t i)(v:i.desc=.slice E)(f:dD P d i2)(j:i2.desc=.slice E)(p:dD P E ie)(u:aD σ s){a:Option Addr}{cap:Nat}(e:n<=cap){x:aj}{tx:Bool}{es':Nat->List C}(l:Rd s.M x (.sl tx ie.size 0 es')):
  (Builtin.append_ #[t,d] ty #[.slice a n cap,x]).run P s.w=.ok (.slice a n cap) s.w:=by obtain⟨c,q,r,k⟩:=dW (P:=P) u l;have o:=hi.run_underlying (w:=s.w);have b:=f.run_underlying (w:=s.w);rw[v]at o;rw[j]at b;obtain⟨a',m,vs,rfl,_⟩:=l.flat;have h:c=[]:=jr (by simpa using q.len);subst h;cases a<;>simp[Builtin.append_,o,b,p.run_sizeOf,Builtin.lenOf,e,r,storeCells]
def ik(hi:dD P t i)(hd:i.desc=.slice E)(F:dD P d i2)(I:i2.desc=.slice E)(J:dD P E ie)(hh:aD σ s){a:Option Addr}{cap m:Nat}{V tx:Bool}{es':Nat->List C}{x:aj}(Q:Rd s.M (.slice a n cap) (.sl V ie.size n es))(R:Rd s.M x (.sl tx ie.size m es'))(hg:cap<n+m)(K:(n+m)*ie.bytes<=140737488355328)(B:ie.bytes≠0):
  ∃vs zs MH,Flat s.M ie.size (n+m) (cT n es es') vs/\n+m<=MH/\MH<=9223372036854775807/\(vs++zs).length=MH*ie.size /\
   (Builtin.append_ #[t,d] ty #[.slice a n cap,x]).run P s.w=.ok (.slice (aa ⟨s.w.heap.size,0,af⟩) (n+m) MH) (s.w.drew.alloc (.cells (vs++zs).toArray E)):=by
 have r:aD σ {s with w:=s.w.drew}:=hh.same rfl;obtain⟨c,N,y,l⟩:=dW (P:=P) r (v:=x) R;obtain⟨b,p,f,ZR⟩:=dW (P:=P) r (v:=.slice a n cap) Q;have O:=hi.run_underlying (w:=s.w);have q:=F.run_underlying (w:=s.w);rw[hd]at O;rw[I]at q;obtain⟨k,z,L,z2,z3,U,Y,z6,z7⟩:=J.info;have X:n+m<=140737488355328:=dT (uO _ (Nat.pos_of_ne_zero B)) K;have D:z.cells.size=ie.size:=by have:=dy List.length Y;grind
 refine⟨b++c,(Builtin.zeroCells z.cells (grownCap s.w (n+m) cap E-(n+m))).toList,grownCap s.w (n+m) cap E,p.append N,grownCap_ge _ _ _ _,?_,?_,?_⟩
 .have:=grownCap_le_maxLen s.w (n+m) cap E (by unfold maxLen;omega);unfold maxLen at this;omega
 .have W:=grownCap_ge s.w (n+m) cap E;simp only[cf,p.len,N.len,iY,size_zeroCells,D,<-gT];grind
 .have S:=rN hg K;have o:¬Builtin.nextslicecap (n+m) cap*k.bytes>2 ^ 48:=by grind
  have j:¬n+m<=cap:=by omega
  have H:¬((n+m:Nat):Int)>IntKind.i64.max:=by have e:IntKind.i64.max=9223372036854775807:=rfl;grind
  have A:∀u,(typeInfo E).run P u=.ok k u:=λu=>by simp[typeInfo,L]
  have G:∀u,(zeroValue E).run P u=.ok z u:=λu=>by simp[zeroValue,typeInfo,L,U]
  have h:(Builtin.lenOf x).run P s.w=.ok m s.w:=by rw[l];rfl
  replace y:(Builtin.firstCells ie.size m x).run P s.w.drew=.ok c.toArray s.w.drew:=y;replace f:(Builtin.firstCells ie.size n (.slice a n cap)).run P s.w.drew=.ok b.toArray s.w.drew:=f
  unfold Builtin.append_;simp only[hX,ju,nF,bT,O,q,cm,J.run_sizeOf,cV,gO,bS,h,j,
   H,false_and,A,o,run_choose,Question.forced,run_askRoom,rK,World.drew_eq,f,y,kX,bY,G]
  simp[Go.newRow,grownCap];have e:∀Z:Array aj,(b++c).toArray++Z=(b++(c++Z.toList)).toArray:=λZ=>by grind
  rw[e];rfl
def jX(hi:dD P t i)(F:i.desc=.slice E)(l:dD P d i2)(p:i2.desc=.slice E)(y:dD P E ie)(D:aD σ s){cap m:Nat}{r:aw}{c:List aj}(B:s.w.heap[b]?=aa (.cells c.toArray r (0,0)))(k:c.length=cap*ie.size){tx:Bool}{es':Nat->List C}{x:aj}(A:Rd s.M x (.sl tx ie.size m es'))(u:n+m<=cap):
  ∃a,Flat s.M ie.size m es' a/\(Builtin.append_ #[t,d] ty #[.slice (aa ⟨b,0,af⟩) n cap,x]).run P s.w=.ok (.slice (aa ⟨b,0,af⟩) (n+m) cap) (s.w.setRow b (c.take (n*ie.size)++a++c.drop (n*ie.size+a.length)).toArray):=by
 obtain⟨a,o,z,f⟩:=dW (P:=P) D A;have v:=hi.run_underlying (w:=s.w);have h:=l.run_underlying (w:=s.w);rw[F]at v;rw[p]at h;have q:n*ie.size+a.length<=c.length:=by rw[o.len,k,<-gT];exact ez _ u
 have j:=run_storeCells_at P b (n*ie.size) r a 0 c.toArray s.w B (by grind) o.cell;simp only[ia]at j;have e:(Builtin.lenOf x).run P s.w=.ok m s.w:=by rw[f];rfl
 refine⟨a,o,?_⟩;unfold Builtin.append_;simp only[hX,ju,nF,bT,v,h,cm,y.run_sizeOf,cV,gO,bS,e,u,bY,kX,z,dr,bA,j]
end
def DC{x:Sem α}{es:Array Event}{e:Event}(h:e∈x.events P w es):e∈es∨e∈x.events P w #[]:=by grind[Sem.events_acc]
def Ye(s:St)(e:Event):Prop:=∃b o u,e=zD b o/\s.M b o=aa u
def gL(B:aD σ s){t:Bool}(h:Rd s.M v (.sl t k n es))(z:w.heap=s.w.heap):
  ∀e∈(Builtin.firstCells k n v).events P w #[],Ye s e:=by
 obtain⟨a,cap,vs,rfl,q,E,D,r,A⟩:=h.flat;have F:vs.length=n*k:=r.len;intro e l;cases a with
 |none=>simp[Builtin.firstCells]at l
 |some ad =>
  simp only[Builtin.firstCells]at l;have c:∀j,j<n*k->∃b off u,ad=⟨b,off,af⟩/\s.M b (off+j)=aa u:=by intro j m;obtain⟨b,off,G,o⟩:=A j (vs[j]'(by omega)) (bg (by omega));grind
  by_cases x:n*k=0
  .rw[x]at l;simp[loadCells,loadCellsFrom]at l
  .obtain⟨b,off,_,rfl,_⟩:=c 0 (by omega);have C:∀j,j<n*k->∃v,w.cell? ⟨b,off+j,af⟩=aa v:=by intro j m;obtain⟨y,f,u,p,o⟩:=c j m;cases p;have:=B.mem _ _ _ o;exact⟨u,by simp only[aW,z]at this⊢;exact this⟩
   rcases rO (P:=P) C e l with h|⟨j,m,rfl⟩
   .grind
   .obtain⟨y,f,u,p,o⟩:=c j m;cases p;exact⟨_,_,u,rfl,o⟩
theorem sR{e:Event}(h:Ye s e):oG s e:=by obtain⟨b,o,u,rfl,a⟩:=h;exact Bm a
section
variable {d:aw}{i i2 ie:TI}
def jD(hi:dD P t i)(z:i.desc=.slice E)(h:dD P d i2)(m:i2.desc=.slice E)(u:dD P E ie)(p:aD σ s){a:Option Addr}{cap:Nat}(f:n<=cap){x:aj}{tx:Bool}{es':Nat->List C}(j:Rd s.M x (.sl tx ie.size 0 es')):
  eB s ((Builtin.append_ #[t,d] ty #[.slice a n cap,x]).events P s.w #[]):=by obtain⟨c,v,y,o⟩:=dW (P:=P) p j;have k:=gL (P:=P) p j (w:=s.w) rfl;have r:=hi.run_underlying (w:=s.w);have b:=h.run_underlying (w:=s.w);rw[z]at r;rw[m]at b;obtain⟨a',q,vs,rfl,_⟩:=j.flat;have l:c=[]:=jr (by simpa using v.len);subst l;intro e A;refine sR (k e ?_);cases a<;>simpa[Builtin.append_,r,b,u.run_sizeOf,Builtin.lenOf,f,y,storeCells]using A
def iP(hi:dD P t i)(hd:i.desc=.slice E)(I:dD P d i2)(O:i2.desc=.slice E)(Q:dD P E ie)(J:aD σ s){a:Option Addr}{cap m:Nat}{td tx:Bool}{es':Nat->List C}{x:aj}(R:Rd s.M (.slice a n cap) (.sl td ie.size n es))(U:Rd s.M x (.sl tx ie.size m es'))(hg:cap<n+m)(S:(n+m)*ie.bytes<=140737488355328)(H:ie.bytes≠0):
  eB s ((Builtin.append_ #[t,d] ty #[.slice a n cap,x]).events P s.w #[]):=by
 have D:aD σ {s with w:=s.w.drew}:=J.same rfl;obtain⟨q,hF,F,b⟩:=dW (P:=P) D (v:=x) U;obtain⟨p,hFo,k,ZR⟩:=dW (P:=P) D (v:=.slice a n cap) R;have Iy:=gL (P:=P) J U (w:=s.w.drew) rfl;have W:=gL (P:=P) J R (w:=s.w.drew) rfl;have X:=hi.run_underlying (w:=s.w);have B:=I.run_underlying (w:=s.w);rw[hd]at X;rw[O]at B;obtain⟨f,z,V,z2,z3,Z,z5,z6,z7⟩:=Q.info;have hle:n+m<=140737488355328:=dT (uO _ (Nat.pos_of_ne_zero H)) S;have Y:=rN hg S;have A:¬Builtin.nextslicecap (n+m) cap*f.bytes>2 ^ 48:=by grind
 have y:¬n+m<=cap:=by omega
 have L:¬((n+m:Nat):Int)>IntKind.i64.max:=by have e:IntKind.i64.max=9223372036854775807:=rfl;grind
 have G:∀u,(typeInfo E).run P u=.ok f u:=λu=>by simp[typeInfo,V]
 have K:∀u,(zeroValue E).run P u=.ok z u:=λu=>by simp[zeroValue,typeInfo,V,Z]
 have l:(Builtin.lenOf x).run P s.w=.ok m s.w:=by rw[b];rfl
 have j:(Builtin.lenOf x).events P s.w #[]=#[]:=by rw[b];rfl
 replace F:(Builtin.firstCells ie.size m x).run P s.w.drew=.ok q.toArray s.w.drew:=F;replace k:(Builtin.firstCells ie.size n (.slice a n cap)).run P s.w.drew=.ok p.toArray s.w.drew:=k
 intro e o;unfold Builtin.append_ at o;simp only[hX,ju,nF,aP,bT,X,B,cm,aU,Q.run_sizeOf,cV,gO,bS,l,j,y,
  L,false_and,G,A,run_choose,Question.forced,run_askRoom,rK,Sem.events_ite,World.drew_eq,k,F,kX,bY,K,events_underlying,events_sizeOf,events_typeInfo,events_choose,events_zeroValue,Sem.events_pure]at o
 have N:∀(x:Nat) (w:aA) (e:Event),e∈(askRoom x).events P w #[]->e=⟨.mark .noRoom,ae,ab⟩:=by intro x w e h;unfold askRoom at h;simp_all
 rw[cX.newRow (P:=P)]at o;generalize(Go.newRow E _).run P s.w.drew=r at o;have c:e∈(Builtin.firstCells ie.size m x).events P s.w.drew ((Builtin.firstCells ie.size n (.slice a n cap)).events P s.w.drew ((askRoom ((Question.appendCap (n+m) cap E).cut (s.w.tape s.w.drawn (Question.appendCap (n+m) cap E))*f.bytes)).events P s.w.drew #[])):=by
  cases r with
  |ok v w'=>simpa using o
  |halt v w'=>simpa using o
 rcases DC c with c|c
 .rcases DC c with c|c
  .rw[N _ _ _ c];exact .inl rfl
  grind[sR]
 grind[sR]
def lD(hi:dD P t i)(Q:i.desc=.slice E)(u:dD P d i2)(A:i2.desc=.slice E)(K:dD P E ie)(H:aD σ s){cap m:Nat}{F:aw}{c:List aj}(G:s.w.heap[b]?=aa (.cells c.toArray F (0,0)))(r:c.length=cap*ie.size){tx:Bool}{es':Nat->List C}{x:aj}(B:Rd s.M x (.sl tx ie.size m es'))(I:n+m<=cap){L:Loc}(S:L∈s.β)(O:b∈L.bs)(z:∀o,n*ie.size<=o->s.M b o=af):
  eB s ((Builtin.append_ #[t,d] ty #[.slice (aa ⟨b,0,af⟩) n cap,x]).events P s.w #[]):=by
 obtain⟨a,v,N,f⟩:=dW (P:=P) H B;have R:=gL (P:=P) H B (w:=s.w) rfl;have J:=hi.run_underlying (w:=s.w);have p:=u.run_underlying (w:=s.w);rw[Q]at J;rw[A]at p;have D:n*ie.size+a.length<=c.length:=by rw[v.len,r,<-gT];exact ez _ I
 have q:=run_storeCells_at P b (n*ie.size) F a 0 c.toArray s.w G (by grind) v.cell;simp only[ia]at q;have l:(Builtin.lenOf x).run P s.w=.ok m s.w:=by rw[f];rfl
 have k:(Builtin.lenOf x).events P s.w #[]=#[]:=by rw[f];rfl
 intro e y;unfold Builtin.append_ at y;simp only[hX,ju,nF,aP,bT,J,p,aU,K.run_sizeOf,cV,gO,bS,l,k,I,bY,kX,N,dr,bA,q,
  rK,Sem.events_ite,events_underlying,events_sizeOf,Sem.events_pure]at y
 rcases ek a 0 c.toArray s.w _ G (by grind) v.cell e y with h|⟨j,U,V,rfl⟩
 .grind [sR]
 grind[k6]
end
structure lC(P:aO)(o:aB)(x y:aC)(E:aw)(ie:TI):Prop where
 op:∃t d i i2,o.op=.call {callee:=.builtin .append,args:=#[x,y],argTypes:=#[t,d]}/\dD P t i/\i.desc=.slice E/\dD P d i2/\i2.desc=.slice E
 elem:dD P E ie
 bytes:ie.bytes≠0
 size:ie.size≠0
def St.grown(s:St)(E:aw)(vs zs:List aj)(β:List Loc):St :=
 {β:=β,M:=λb o=>if b=s.w.heap.size then vs[o]? else s.M b o,w:=s.w.drew.alloc (.cells (vs++zs).toArray E),own:=s.own}
def ym(h:aD σ s)(E:aw)(vs zs:List aj):∀b o v,(if b=s.w.heap.size then vs[o]? else s.M b o)=aa v->(s.w.drew.alloc (.cells (vs++zs).toArray E)).cell? ⟨b,o,af⟩=aa v:=by
 intro b o v a;by_cases e:b=s.w.heap.size
 .subst e;simp only[bY]at a;unfold aW;have:(s.w.drew.alloc (.cells (vs++zs).toArray E)).heap[s.w.heap.size]?=aa (.cells (vs++zs).toArray E):=dG s.w.drew _;grind
 .simp only[e,bS]at a;have c:=h.block a;rw[<-h.mem b o v a];unfold aW;have:(s.w.drew.alloc (.cells (vs++zs).toArray E)).heap[b]?=s.w.heap[b]?:=cO s.w.drew _ c;grind
def yn(h:aD σ s)(vs:List aj):∀b o v,s.M b o=aa v->(if b=s.w.heap.size then vs[o]? else s.M b o)=aa v:=by intro b o v a;have:=h.block a;grind
theorem er{m:Sem aj}(h:eB s (m.events P s.w #[])):eB s ((do pure (.value (<-m)):Sem Next).events P s.w #[]):=by simp_all
theorem de{d:aw}(h:o.op=.call {callee:=.builtin .append,args:=#[x,y],argTypes:=#[t,d]})(a:aC->aj):
  ak a o=(do pure (.value (<-Builtin.append_ #[t,d] o.type #[a x,a y]))):=by simp[ak,h,resolve,invoke,builtin]
def Rd.loose{t:Bool}(h:Rd M v (.sl t k n es)):Rd M v (.sl ae k n es):=by
 cases h with
 |sl b off f a hb ht hk ha hm hr=>exact .sl b off f a hb (by simp) hk ha hm hr
def Rd.Dy{t:Bool}{es':Nat->List C}(e:∀i,i<n->es i=es' i)(h:Rd M v (.sl t k n es)):Rd M v (.sl t k n es'):=by
 cases h with
 |sl b off f a hb ht hk ha hm hr=>exact .sl b off f a hb ht (λi hi=>by grind) ha (λi hi j c hj=>hm i hi j c (by grind)) (λi hi j c hj=>hr i hi j c (by grind))
def Rd.uU{k':Nat}(c:k=k'∨n=0)(h:Rd M v (.sl ab k n es)):Rd M v (.sl ab k' n es):=by
 rcases c with rfl|rfl
 .exact h
 .obtain⟨a,cap,vs,f,j,b,e,_⟩:=h.flat;grind[Rd.il]
def p9{L:Loc}(a:σ[l]?=aa (.vec E k n es))(b:s.β[l]?=aa L)(h:eK σ s (.vec E k n es) L):gb σ s L.v (.vec l k n es):=by refine⟨h.1,(b8.1 a).1,λc k' n' es' he=>?_⟩;grind
def bE.oU{ie:TI}(h:lC P o x y E ie){m:Nat}{tx:Bool}{es':Nat->List C}(U:η x=.e (.one (.c (.sl ab k n es))))(S:k=ie.size∨n=0)(Z:∀s v,dm σ s v (η y)->Rd s.M v (.sl tx ie.size m es'))(hb:(n+m)*ie.bytes<=140737488355328)(hz:n=0∨0<m):
  bE P o η σ (.e (.one (.vec σ.length ie.size (n+m) (cT n es es')))) (σ++[.vec E ie.size (n+m) (cT n es es')]):=by
 intro s ρ hh hr;obtain⟨t,d,i,i2,ho,hi,I,r,z⟩:=h.op;have h1:=hr x;rw[U]at h1;have j:=Rd.uU S (fI h1);have h2:=Z s _ (hr y);obtain⟨a,cap,vs,R,A,V,Y,hF,hm⟩:=j.flat;have K:cap=n:=Y rfl;subst K;rw[de ho];rw[R]at j⊢;by_cases W:m=0
 .subst W;have q:=iU (P:=P) (ty:=o.type) hi I r z h.elem hh (a:=a) A h2;simp only[ia];have j:=Rd.Dy (es':=cT cap es es') (λi hi=>by grind) j;have H:eK (σ++[.vec E ie.size cap (cT cap es es')]) {s with β:=s.β++[⟨.slice a cap cap,[]⟩]} (.vec E ie.size cap (cT cap es es')) ⟨.slice a cap cap,[]⟩:=⟨j.loose,.inl ⟨⟨rfl,by omega⟩,j⟩⟩
  obtain⟨O,g2⟩:=hh.gz (.refl _ _) rfl hh H (by simp);refine⟨.value (.slice a cap cap),_,?_,?_,O,g2,er (jD hi I r z h.elem hh A h2)⟩
  .simp[q]
  .exact p9 (by simp) (by simp[<-hh.len]) H
 .have Q:cap<cap+m:=by omega
  obtain⟨f,D,l,G,N,L,F,q⟩:=ik (P:=P) (ty:=o.type) hi I r z h.elem hh j h2 Q hb h.bytes;have B:aD σ (s.grown E f D s.β)/\Step σ s σ (s.grown E f D s.β) :=
   hh.grow (by simp) (λb hb=>cO s.w.drew _ hb) (λb hb o=>by grind)
    (λb hb o v hm=>ym hh E f D b o v hm) rfl rfl rfl
  have J:Rd (s.grown E f D s.β).M (.slice (aa ⟨s.w.heap.size,0,af⟩) (cap+m) l) (.sl ae ie.size (cap+m) (cT cap es es')) :=
   Rd.nN (G.mono B.2.mem) (b:=s.w.heap.size) (off:=0) (λ_=>rfl) N L (by simp) (λp u X=>by simpa[St.grown]using X)
  have H:eK (σ++[.vec E ie.size (cap+m) (cT cap es es')]) {(s.grown E f D s.β)with β:=(s.grown E f D s.β).β++[⟨.slice (aa ⟨s.w.heap.size,0,af⟩) (cap+m) l,[s.w.heap.size]⟩]} (.vec E ie.size (cap+m) (cT cap es es')) ⟨.slice (aa ⟨s.w.heap.size,0,af⟩) (cap+m) l,[s.w.heap.size]⟩:=by
   refine⟨J,.inr ⟨s.w.heap.size,l,f++D,rfl,dG s.w.drew _,F,λo ho=>?_⟩⟩;have hl:f.length<=o:=by rw[G.len];exact ho
   simp[St.grown,qQ hl]
  obtain⟨O,g2⟩:=B.1.gz B.2 rfl hh H (λb hb=>by simp at hb;subst hb;refine⟨ba _,?_⟩;simp[St.grown])
  refine⟨.value (.slice (aa ⟨s.w.heap.size,0,af⟩) (cap+m) l),_,?_,?_,O,g2,er (iP hi I r z h.elem hh j h2 Q hb h.bytes)⟩
  .simp[q];rfl
  .exact p9 (by simp) (by simp[St.grown,<-hh.len]) H
def bE.GK{ie:TI}(h:lC P o x y E ie){m:Nat}{tx:Bool}{es':Nat->List C}(hx:η x=.e (.one (.vec l ie.size n es)))(hl:σ[l]?=aa (.vec E ie.size n es))(hy:∀s v,dm σ s v (η y)->Rd s.M v (.sl tx ie.size m es'))(hb:(n+m)*ie.bytes<=140737488355328):
  bE P o η σ (.e (.one (.vec l ie.size (n+m) (cT n es es')))) (σ.set l (.vec E ie.size (n+m) (cT n es es'))):=by
 intro s ρ hh hr;obtain⟨t,d,i,i2,ho,hi,X,H,I⟩:=h.op;have Qe:l<σ.length:=(b8.1 hl).1;have h1:=hr x;rw[hx]at h1;obtain⟨O,_,ZS⟩:=h1;obtain⟨L,R,hv⟩:=(ZS _ _ _ _ hl).2 rfl;have h2:=hy s _ (hr y);have V5:l<s.β.length:=(b8.1 R).1;have J:=hh.box l _ L hl R;obtain⟨a,cap,vs,Qg,S,MI,ht,hF,hm⟩:=O.flat;rw[de ho,Qg];rw[Qg]at O;have Q:L.v=.slice a n cap:=by grind
 by_cases h0:m=0
 .subst h0;have q:=iU (P:=P) (ty:=o.type) hi X H I h.elem hh (a:=a) S h2;simp only[ia];have ha:∀i,i<n->es i=cT n es es' i:=λi hi=>by simp[cT,hi]
  have Vt:eK (σ.set l (.vec E ie.size n (cT n es es'))) ⟨s.β.set l L,s.M,s.w,s.own⟩ (.vec E ie.size n (cT n es es')) L:=by
   refine⟨J.1.Dy ha,?_⟩;rcases J.2 with⟨h3,h4⟩|h3
   .exact .inl ⟨h3,h4.Dy ha⟩
   grind
  have f:=hh.ig (M':=s.M) (w':=s.w) (B':=.vec E ie.size n (cT n es es')) (L':=L) hl R ⟨λ_=>rfl,ba _⟩ (ba _) (λ_ _ _=>rfl) (λ_ _ _ _=>rfl) (λ_ _ _ h=>h) hh.mem
   (λb hb=>⟨.inl hb,hh.lt L (bL R) b hb⟩) rfl rfl rfl Vt
  refine⟨.value (.slice a n cap),_,?_,?_,f.1,f.2,er (jD hi X H I h.elem hh S h2)⟩
  .simp[q]
  .rw[<-Q];exact p9 (E:=E) (by grind) (by grind) Vt
 .have K:¬(n+m=n):=by omega
  by_cases k:n+m<=cap
  .rcases J.2 with⟨Qh,D⟩|⟨b,Iw,A,rfl,hw,N,W⟩
   .rw[Q]at D;obtain⟨_,_,_,e,_,_,ht2,_⟩:=D.flat;grind
   .simp only at Q;cases Q;obtain⟨c,Qi,q⟩:=jX (P:=P) (ty:=o.type) hi X H I h.elem hh hw N h2 k;have SE:c.length=m*ie.size:=Qi.len;have V6:b<s.w.heap.size:=(fb.1 hw).1;let M':Mem:=λB o=>if B=b/\n*ie.size<=o/\o<(n+m)*ie.size then c[o-n*ie.size]? else s.M B o;have Mx:A.length=cap*ie.size:=N;have hnm:(n+m)*ie.size=n*ie.size+m*ie.size:=gT _ _ _;have Yf:(n+m)*ie.size<=cap*ie.size:=ez _ k;have S9:∀B o v,s.M B o=aa v->M' B o=aa v:=by grind
    have Qc:∀p u,c[p]?=aa u->M' b (n*ie.size+p)=aa u:=by grind
    have U:Rd M' (.slice (aa ⟨b,0,af⟩) (n+m) cap) (.sl ae ie.size (n+m) (cT n es es')):=by refine Rd.nN (vs:=vs++c) ((hF.append Qi).mono S9) (b:=b) (off:=0) (λ_=>rfl) k MI (by simp) (λp u hp=>?_);have Pc:vs.length=n*ie.size:=hF.len;grind
    have f:=hh.ig (M':=M') (w':=s.w.setRow b (A.take (n*ie.size)++c++A.drop (n*ie.size+c.length)).toArray) (B':=.vec E ie.size (n+m) (cT n es es')) (L':=⟨.slice (aa ⟨b,0,af⟩) (n+m) cap,[b]⟩) hl R
     ⟨λe=>absurd e K,by omega⟩ (by simp) (λB _ F=>setRow_other _ _ _ _ (by grind)) (λB _ F o=>by
      grind) S9 ?_ (λB F=>by simp at F;subst F;exact⟨.inl (by simp),by simpa using V6⟩) rfl rfl rfl ?_
    .refine⟨.value (.slice (aa ⟨b,0,af⟩) (n+m) cap),_,?_,?_,f.1,f.2,er (lD hi X H I h.elem hh hw N h2 k (bL R) (by simp) W)⟩
     .simp[q]
     .exact p9 (L:=⟨.slice (aa ⟨b,0,af⟩) (n+m) cap,[b]⟩) (E:=E) (by grind) (by grind) (f.1.box l _ _ (by grind) (by grind))
    .intro B o v G;by_cases F:B=b
     .subst F;have V:∀j,(s.w.setRow B (A.take (n*ie.size)++c++A.drop (n*ie.size+c.length)).toArray).cell? ⟨B,j,af⟩=(A.take (n*ie.size)++c++A.drop (n*ie.size+c.length))[j]?:=by grind[cell_setRow_same]
      rw[V];simp only[M']at G;have hkl:(A.take (n*ie.size)).length=n*ie.size:=by rw[List.length_take];omega
      split at G
      .grind
      .rename_i hc;have h3:=hh.mem B o v G;have ho:o<n*ie.size:=by grind
       rw[jV,js (by omega),eX,br ho];simp only[aW,hw]at h3;grind
     .simp only[M']at G;rw[a9 (by omega)]at G;rw[<-hh.mem B o v G];simp only[aW];grind[setRow_other]
    .refine⟨U,.inr ⟨b,cap,_,rfl,setRow_heap _ _ _ _ _ _ hw,?_,λo ho=>?_⟩⟩
     .grind
     grind
  .have hg:cap<n+m:=by omega
   obtain⟨r,zs,z,Z,Vu,Vv,Y,q⟩:=ik (P:=P) (ty:=o.type) hi X H I h.elem hh O h2 hg hb h.bytes;have hbl:∀b∈L.bs,b<s.w.heap.size:=hh.lt L (bL R);have U:Rd (λb o=>if b=s.w.heap.size then r[o]? else s.M b o) (.slice (aa ⟨s.w.heap.size,0,af⟩) (n+m) z) (.sl ae ie.size (n+m) (cT n es es')) :=
    Rd.nN (Z.mono (yn hh r)) (b:=s.w.heap.size) (off:=0) (λ_=>rfl) Vu Vv (by simp) (λp u hp=>by grind)
   have f:=hh.ig (M':=λb o=>if b=s.w.heap.size then r[o]? else s.M b o) (w':=s.w.drew.alloc (.cells (r++zs).toArray E)) (B':=.vec E ie.size (n+m) (cT n es es')) (L':=⟨.slice (aa ⟨s.w.heap.size,0,af⟩) (n+m) z,[s.w.heap.size]⟩) hl R
    ⟨λe=>absurd e K,by omega⟩ (by simp) (λb hb _=>cO s.w.drew _ hb) (λb hb _ o=>by grind) (yn hh r) (ym hh E r zs) (λb hb=>by
     simp at hb;subst hb;exact⟨.inr (ba _),by simp⟩) rfl rfl rfl ⟨U,.inr ⟨s.w.heap.size,z,r++zs,rfl,dG s.w.drew _,Y,λo ho=>by
      have hl:r.length<=o:=by rw[Z.len];exact ho
      grind⟩⟩
   refine⟨.value (.slice (aa ⟨s.w.heap.size,0,af⟩) (n+m) z),_,?_,?_,f.1,f.2,er (iP hi X H I h.elem hh O h2 hg hb h.bytes)⟩
   .simp[q]
   .exact p9 (L:=⟨.slice (aa ⟨s.w.heap.size,0,af⟩) (n+m) z,[s.w.heap.size]⟩) (E:=E) (by grind) (by grind) (f.1.box l _ _ (by grind) (by grind))
def jZ{α:Type}:List Nat->List α->Option (List α)
  | [],_=>aa []
  | k::ks,l=>match eD k l with
    | some x=>match jZ ks l with
      | some r=>aa (x::r)
      | none=>af
    | none=>af
def e9{α:Type}:∀(n:Nat) (l:List α),eD n l=l[n]?
  | _,[]=>by simp[eD]
  | 0,x::_=>by simp[eD]
  | n+1,_::xs=>by simpa[eD]using e9 n xs
def iB{α:Type}:∀{ks:List Nat} {l r:List α},jZ ks l=aa r->r.length=ks.length/\∀(j k:Nat),ks[j]?=aa k->∃x,r[j]?=aa x/\l[k]?=aa x
  | [],l,r,h=>by cases h;simp
  | k::ks,l,r,h=>by
    simp only[jZ]at h;cases b:eD k l with
    | none=>grind
    | some x =>
      cases a:jZ ks l with
      | none=>grind
      | some q =>
        simp[b,a]at h;subst h;obtain⟨c,d⟩:=iB a;grind[c7]
def zJ{α f:Type}:∀{ks:List Nat} {l r:List α} {l':List f},jZ ks l=aa r->l'.length=l.length->∃r',jZ ks l'=aa r'
  | [],l,r,l',_,_=>⟨[],rfl⟩
  | k::ks,l,r,l',h,b=>by
    simp only[jZ]at h;cases c:eD k l with
    | none=>grind
    | some x =>
      cases e:jZ ks l with
      | none=>grind
      | some q =>
        obtain⟨r',a⟩:=zJ (l':=l') e b;have d:k<l'.length:=by rw[b];exact(b8.1 (c7 c)).1
        exact⟨l'[k]::r',by simp[jZ,e9,d,a]⟩
def oH(ks:List Nat):A->A
  | .ptr l o=>match eD l ks with|some k=>.ptr k o|none=>.any
  | .vec l k n es=>match eD l ks with|some m=>.vec m k n es|none=>.c (.sl ae k n es)
  | .ref l=>match eD l ks with|some k=>.ref k|none=>.any
  | .bp l w=>match eD l ks with|some k=>.bp k w|none=>.any
  | .c x=>.c x
  | .any=>.any
def Bw(ks:List Nat):List A->List A
  | []=>[]
  | a::r=>oH ks a::Bw ks r
def zK(ks:List Nat):E1->E1
  | .one a=>.one (oH ks a)
  | .agg cs=>.agg (Bw ks cs)
def yp(ks:List Nat):List E1->List E1
  | []=>[]
  | a::r=>zK ks a::yp ks r
def iK(ks:List Nat):D->D
  | .e x=>.e (zK ks x)
  | .fz xs=>.fz (yp ks xs)
  | .any=>.any
def gG(ks:List Nat):List D->List D
  | []=>[]
  | a::r=>iK ks a::gG ks r
def DK:A->Bool
  | .c _|.any=>ab
  | _=>ae
def zL:List A->Bool
  | []=>ab
  | a::r=>match DK a with|true=>zL r|false=>ae
def vu:bm->Bool
  | .cells _ cs=>zL cs
  | .loop ..=>ae
  | _=>ab
def cK:List bm->Bool
  | []=>ab
  | a::r=>match vu a with|true=>cK r|false=>ae
def kt:∀{l:List bm},cK l=ab->∀B∈l,vu B=ab
  | [],_,B,a=>by grind
  | b::r,h,B,a=>by
    simp only[cK]at h;cases c:vu b with
    | false=>grind
    | true =>
      simp only[c]at h;rcases dC.1 a with rfl|a
      · exact c
      · exact kt h B a
def eb.plain{σ σ':List bm}{s s':St}(e:s'.M=s.M):∀{vs:List aj} {cs:List A},zL cs=ab->eb σ s vs cs->eb σ' s' vs cs
  | [],[],_,_=>trivial
  | [],_::_,_,h=>h.elim
  | _::_,[],_,h=>h.elim
  | v::vs,a::al,b,h=>by
    simp only[zL]at b;cases d:DK a with
    | false=>grind
    | true =>
      simp only[d]at b;refine⟨?_,eb.plain e b h.2⟩;cases a with
      | c x=>have:=h.1;simp only[gb]at this⊢;grind
      | any=>exact h.1
      | _=>simp[DK]at d
def eK.plain{σ σ':List bm}{s s':St}(a:s'.M=s.M)(c:s'.w=s.w){B:bm}{L:Loc}(d:vu B=ab)(h:eK σ s B L):eK σ' s' B L:=by
  cases B with
  | cells E cs =>
    obtain⟨b,vs,h1,h2,e,f⟩:=h;exact⟨b,vs,h1,by grind,e.plain a d,λo=>by rw[a];grind⟩
  | vec E k n es=>simp only[eK,a,c]at h⊢;exact h
  | cq H=>simp only[eK,a,c]at h⊢;exact h
  | dead=>trivial
  | loop N φ r=>simp[vu]at d
  | qT=>simp only[eK,a,c]at h⊢;exact h
  | buf E k n es=>simp only[eK,a,c]at h⊢;exact h
def g9:Nat->List Nat->Bool
  | _,[]=>ae
  | k,x::r=>match av k x with|true=>ab|false=>g9 k r
def dY:List Nat->Bool
  | []=>ab
  | k::r=>match g9 k r with|true=>ae|false=>dY r
theorem uZ:∀{k:Nat} {l:List Nat},k∈l->g9 k l=ab
  | k,[],h=>by grind
  | k,x::r,h=>by
    simp only[g9];cases a:av k x with
    | true=>rfl
    | false =>
      rcases dC.1 h with rfl|h
      · grind[Nat.beq_refl]
      · exact uZ h
def vv:∀{l:List Nat},dY l=ab->∀(i j k:Nat),l[i]?=aa k->l[j]?=aa k->i=j
  | [],_,i,j,k,hi,_=>by grind
  | x::r,h,i,j,k,hi,a=>by
    simp only[dY]at h;cases c:g9 x r with
    | true=>grind
    | false =>
      simp only[c]at h;have no:∀q,r[q]?=aa x->False:=λq b=>by have:=uZ (bL b);grind
      cases i with
      | zero =>
        grind
      | succ i =>
        cases j with
        | zero =>
          grind
        | succ j =>
          simp at hi a;rw[vv h i j k hi a]
def GO(n:Nat):A->Bool
  | .ptr l _|.vec l _ _ _|.ref l|.bp l _=>bz (l+1) n
  | _=>ab
def Fy(n:Nat):List A->Bool
  | []=>ab
  | a::r=>match GO n a with|true=>Fy n r|false=>ae
def II(n:Nat):E1->Bool
  | .one a=>GO n a
  | .agg cs=>Fy n cs
def xS(n:Nat):List E1->Bool
  | []=>ab
  | a::r=>match II n a with|true=>xS n r|false=>ae
def vA(n:Nat):D->Bool
  | .e x=>II n x
  | .fz xs=>xS n xs
  | .any=>ab
def lZ(n:Nat):List D->Bool
  | []=>ab
  | a::r=>match vA n a with|true=>lZ n r|false=>ae
section sub
variable {ks:List Nat}{β':List Loc}
def gb.sub(t:jZ ks σ=aa σ')(m:jZ ks s.β=aa β'){a:A}(d:gb σ s v (oH ks a))(e:GO ks.length a=ab):gb σ' {s with β:=β'} v a:=by
  obtain⟨z,i⟩:=iB t;obtain⟨u,g2⟩:=iB m;cases a with
  | c x=>exact d
  | any=>exact d
  | ptr l o =>
    have hl:l<ks.length:=dM e;simp only[oH,e9,bg hl]at d;obtain⟨h1,L,b,h2,f,p⟩:=d;obtain⟨x,j,r⟩:=i l _ (bg hl);obtain⟨y,h,g⟩:=g2 l _ (bg hl);rw[g]at h2;cases h2;exact⟨λB q=>h1 B (by grind),L,b,h,f,p⟩
  | vec l k n es =>
    have hl:l<ks.length:=dM e;simp only[oH,e9,bg hl]at d;obtain⟨h1,h2,f⟩:=d;obtain⟨x,j,r⟩:=i l _ (bg hl);obtain⟨y,h,g⟩:=g2 l _ (bg hl);refine⟨h1,by grind,λE k' n' es' q=>?_⟩;grind
  | ref l =>
    have hl:l<ks.length:=dM e;simp only[oH,e9,bg hl]at d;obtain⟨h1,L,h2,f,p⟩:=d;obtain⟨x,j,r⟩:=i l _ (bg hl);obtain⟨y,h,g⟩:=g2 l _ (bg hl);rw[g]at h2;cases h2;exact⟨λB q=>h1 B (by grind),L,h,f,p⟩
  | bp l w =>
    have hl:l<ks.length:=dM e;simp only[oH,e9,bg hl]at d;obtain⟨lv,h1,h2,f⟩:=d;obtain⟨x,j,r⟩:=i l _ (bg hl);obtain⟨y,h,g⟩:=g2 l _ (bg hl);refine⟨lv,h1,(b8.1 j).1,λE k n es q=>?_⟩;grind
def gb.mV{σ2:List bm}{s2:St}(u:s2.M=s.M)(e:∀(j:Nat) (B:bm),σ[j]?=aa B->∃k,ks[j]?=aa k/\σ2[k]?=aa B)(g:∀(j:Nat) (L:Loc),s.β[j]?=aa L->∃k,ks[j]?=aa k/\s2.β[k]?=aa L)(t:s.β.length=σ.length){a:A}(f:gb σ s v a):gb σ2 s2 v (oH ks a):=by
  cases a with
  | c x=>simp only[oH,gb,u];exact f
  | any=>exact f
  | ptr l o =>
    obtain⟨h1,L,b,h2,h,m⟩:=f;obtain⟨k,k1,i⟩:=g l L h2;have hl:l<σ.length:=by grind
    obtain⟨k',d,p⟩:=e l _ (bg hl);rw[k1]at d;cases d;simp only[oH,e9,k1];refine⟨λB r=>?_,L,b,i,h,m⟩;grind
  | vec l k n es =>
    obtain⟨h1,h2,h⟩:=f;obtain⟨k1,q,p2⟩:=e l _ (bg h2);simp only[oH,e9,q];refine⟨by grind,(b8.1 p2).1,λE k' n' es' r=>?_⟩;grind
  | ref l =>
    obtain⟨h1,L,h2,h,m⟩:=f;obtain⟨k,k1,i⟩:=g l L h2;have hl:l<σ.length:=by grind
    obtain⟨k',d,p⟩:=e l _ (bg hl);rw[k1]at d;cases d;simp only[oH,e9,k1];refine⟨λB r=>?_,L,i,h,m⟩;grind
  | bp l w =>
    obtain⟨lv,h1,h2,h⟩:=f;obtain⟨k1,q,p2⟩:=e l _ (bg h2);simp only[oH,e9,q];refine⟨lv,h1,(b8.1 p2).1,λE k' n' es' r=>?_⟩;grind
def eb.sub(b:jZ ks σ=aa σ')(c:jZ ks s.β=aa β'):∀{vs:List aj} {cs:List A},eb σ s vs (Bw ks cs)->Fy ks.length cs=ab->eb σ' {s with β:=β'} vs cs
  | [],[],_,_=>trivial
  | [],_::_,h,_=>h.elim
  | _::_,[],h,_=>h.elim
  | v::vs,a::al,h,d=>by
    simp only[Fy]at d;cases e:GO ks.length a with
    | false=>grind
    | true=>simp only[e]at d;exact⟨h.1.sub b c e,eb.sub b c h.2 d⟩
def nD.sub(b:jZ ks σ=aa σ')(c:jZ ks s.β=aa β'){v:aj}{x:E1}(h:nD σ s v (zK ks x))(d:II ks.length x=ab):nD σ' {s with β:=β'} v x:=by
  cases x with
  | one a=>exact gb.sub b c h d
  | agg cs=>obtain⟨vs,h1,h2⟩:=h;exact⟨vs,h1,h2.sub b c d⟩
def gF.sub(b:jZ ks σ=aa σ')(c:jZ ks s.β=aa β'):∀{vs:List aj} {xs:List E1},gF σ s vs (yp ks xs)->xS ks.length xs=ab->gF σ' {s with β:=β'} vs xs
  | [],[],_,_=>trivial
  | [],_::_,h,_=>h.elim
  | _::_,[],h,_=>h.elim
  | v::vs,a::al,h,d=>by
    simp only[xS]at d;cases e:II ks.length a with
    | false=>grind
    | true=>simp only[e]at d;exact⟨h.1.sub b c e,gF.sub b c h.2 d⟩
def dm.sub(a:jZ ks σ=aa σ')(b:jZ ks s.β=aa β'){v:aj}{d:D}(h:dm σ s v (iK ks d))(c:vA ks.length d=ab):dm σ' {s with β:=β'} v d:=by
  cases d with
  | e x=>exact nD.sub a b h c
  | fz xs=>obtain⟨vs,h1,h2⟩:=h;exact⟨vs,h1,h2.sub a b c⟩
  | any=>trivial
def cn.sub(b:jZ ks σ=aa σ')(c:jZ ks s.β=aa β'):∀{vs:List aj} {ds:List D},cn σ s vs (gG ks ds)->lZ ks.length ds=ab->cn σ' {s with β:=β'} vs ds
  | [],[],_,_=>trivial
  | [],_::_,h,_=>h.elim
  | _::_,[],h,_=>h.elim
  | v::vs,a::al,h,d=>by
    simp only[lZ]at d;cases e:vA ks.length a with
    | false=>grind
    | true=>simp only[e]at d;exact⟨h.1.sub b c e,cn.sub b c h.2 d⟩
variable {σ2:List bm}{s2:St}
def eb.mV(d:s2.M=s.M)(b:∀(j:Nat) (B:bm),σ[j]?=aa B->∃k,ks[j]?=aa k/\σ2[k]?=aa B)(c:∀(j:Nat) (L:Loc),s.β[j]?=aa L->∃k,ks[j]?=aa k/\s2.β[k]?=aa L)(a:s.β.length=σ.length):
    ∀{vs:List aj} {cs:List A},eb σ s vs cs->eb σ2 s2 vs (Bw ks cs)
  | [],[],_=>trivial
  | [],_::_,h=>h.elim
  | _::_,[],h=>h.elim
  | _::_,_::_,h=>⟨h.1.mV d b c a,eb.mV d b c a h.2⟩
def nD.mV(e:s2.M=s.M)(c:∀(j:Nat) (B:bm),σ[j]?=aa B->∃k,ks[j]?=aa k/\σ2[k]?=aa B)(d:∀(j:Nat) (L:Loc),s.β[j]?=aa L->∃k,ks[j]?=aa k/\s2.β[k]?=aa L)(b:s.β.length=σ.length){v:aj}{x:E1}(h:nD σ s v x):nD σ2 s2 v (zK ks x):=by
  cases x with
  | one a=>exact gb.mV e c d b h
  | agg cs=>obtain⟨vs,h1,h2⟩:=h;exact⟨vs,h1,h2.mV e c d b⟩
def gF.mV(d:s2.M=s.M)(b:∀(j:Nat) (B:bm),σ[j]?=aa B->∃k,ks[j]?=aa k/\σ2[k]?=aa B)(c:∀(j:Nat) (L:Loc),s.β[j]?=aa L->∃k,ks[j]?=aa k/\s2.β[k]?=aa L)(a:s.β.length=σ.length):
    ∀{vs:List aj} {xs:List E1},gF σ s vs xs->gF σ2 s2 vs (yp ks xs)
  | [],[],_=>trivial
  | [],_::_,h=>h.elim
  | _::_,[],h=>h.elim
  | _::_,_::_,h=>⟨h.1.mV d b c a,gF.mV d b c a h.2⟩
def dm.mV(f:s2.M=s.M)(b:∀(j:Nat) (B:bm),σ[j]?=aa B->∃k,ks[j]?=aa k/\σ2[k]?=aa B)(c:∀(j:Nat) (L:Loc),s.β[j]?=aa L->∃k,ks[j]?=aa k/\s2.β[k]?=aa L)(a:s.β.length=σ.length){v:aj}{d:D}(h:dm σ s v d):dm σ2 s2 v (iK ks d):=by
  cases d with
  | e x=>exact nD.mV f b c a h
  | fz xs=>obtain⟨vs,h1,h2⟩:=h;exact⟨vs,h1,h2.mV f b c a⟩
  | any=>trivial
end sub
def ef.sV{α:Type}:Nat->α->List α->List α
  | _,_,[]=>[]
  | 0,x,_::r=>x::r
  | k+1,x,y::r=>y::ef.sV k x r
def ef{α:Type}:List Nat->List α->List α->List α
  | [],new,old=>old++new
  | k::ks,x::new,old=>ef ks new (ef.sV k x old)
  | _::_,[],old=>old
theorem k8{α:Type}:∀(k:Nat) (x:α) (l:List α),ef.sV k x l=l.set k x
  | _,_,[]=>by simp[ef.sV]
  | 0,x,_::r=>by simp[ef.sV]
  | k+1,x,y::r=>by simp[ef.sV,k8 k x r]
def vB{α:Type}:∀{ks:List Nat} {new old:List α},dY ks=ab->(∀k∈ks,k<old.length)->ks.length<=new.length ->
    (ef ks new old).length=old.length+(new.length-ks.length)/\(∀(j k:Nat),ks[j]?=aa k->(ef ks new old)[k]?=new[j]?) /\
    (∀j,(ef ks new old)[old.length+j]?=new[ks.length+j]?)/\(∀l,l<old.length->l∉ks->(ef ks new old)[l]?=old[l]?)
  | [],new,old,_,_,_=>by
    refine⟨by simp[ef],by simp,λj=>?_,λl f _=>?_⟩
    · simp only[ef,jz,bA]
      grind
    · simp[ef,js f]
  | k::ks,[],old,_,_,h=>by grind
  | k::ks,x::new,old,a,b,g=>by
    have d:=a;simp only[dY]at a;cases e:g9 k ks with
    | true=>grind
    | false =>
      simp only[e]at a;have o:k<old.length:=b k (by simp);have c:k∉ks:=λh=>by grind[uZ]
      obtain⟨p,i,m,n⟩:=vB (ks:=ks) (new:=new) (old:=old.set k x) a (λk' Yh=>by grind) (by grind);simp only[ef,k8];grind
def Ev(X:Cx P)(f:aK)(args:List D)(σ:List bm)(res:D)(σ':List bm):Prop :=
  (∃fn,P.funcs[f]?=aa fn/\(fn.name== "runtime.NumGoroutine")=ae/\fn.body.isNone=ae) /\
  ∀s (vs:List aj),cn σ s vs args->aD σ s->∀(S:aq->St->Prop) (cs:List aV),
    (∀a v s',uw P f a v s'->dm σ' s' v res->aD σ' s'->cR σ s σ' s'->fy X S (G a cs) s')->fy X S (G (Frame.enter P f vs.toArray .normal) cs) s
def dO(X:Cx P)(f:aK)(args:List D)(σ:List bm)(res:ι->D)(σ':ι->List bm):Prop :=
  (∃fn,P.funcs[f]?=aa fn/\(fn.name== "runtime.NumGoroutine")=ae/\fn.body.isNone=ae) /\
  ∀s (vs:List aj),cn σ s vs args->aD σ s->∀(S:aq->St->Prop) (cs:List aV),
    (∀i a v s',uw P f a v s'->dm (σ' i) s' v (res i)->aD (σ' i) s'->cR σ s (σ' i) s'->fy X S (G a cs) s')->fy X S (G (Frame.enter P f vs.toArray .normal) cs) s
def Ev.IJ{X:Cx P}{f:aK}{args:List D}{res:D}(h:Ev X f args σ res σ'):dO (ι:=Unit) X f args σ (λ_=>res) (λ_=>σ') :=
  ⟨h.1,λs vs hr hh S cs hS=>h.2 s vs hr hh S cs (hS ())⟩
def dO.GP{X:Cx P}{f:aK}{args:List D}{res:D}(h:dO (ι:=Unit) X f args σ (λ_=>res) (λ_=>σ')):Ev X f args σ res σ' :=
  ⟨h.1,λs vs hr hh S cs hS=>h.2 s vs hr hh S cs (λ_=>hS)⟩
def zM(s:St)(a:List Loc):Nat->Prop:=λb=>s.own b∨((∃L∈s.β,b∈L.bs)/\∀L∈a,b∉L.bs)
def lG(n:Nat):Nat->List Nat
  | 0=>[]
  | m+1=>n::lG (n+1) m
def Bx:∀(m n j:Nat),(lG n m)[j]?=if j<m then aa (n+j)else af
  | 0,n,j=>by simp[lG]
  | m+1,n,0=>by simp[lG]
  | m+1,n,j+1=>by simp only[lG,nF,Bx m (n+1) j,Nat.add_lt_add_iff_right];grind
def frame{ks:List Nat}{σ1:List bm}{a:St}{n:List Loc}(q:aD σ s)(V:jZ ks σ=aa σs)(hβ:jZ ks s.β=aa n)(hn:dY ks=ab)(hp:cK σ1=ab)(u:aD σ1 a)(st:cR σs {s with β:=n,own:=zM s n} σ1 a)(R:ks.length<=σ1.length){res:D}(hr:dm σ1 a v res):
    ∃s2:St,s2.w=a.w/\dm (ef ks σ1 σ) s2 v (iK (ks++lG σ.length (σ1.length-ks.length)) res)/\aD (ef ks σ1 σ) s2/\cR σ s (ef ks σ1 σ) s2/\s2.M=a.M/\s2.own=s.own/\∀L∈s2.β,L∈a.β∨(L∈s.β/\∀b∈L.bs,∀L'∈n,b∉L'.bs):=by
  have I:∀k∈ks,k<σ.length:=by intro k N;obtain⟨j,m,rfl⟩:=dH N;obtain⟨x,_,h2⟩:=(iB V).2 j _ (bg m);grind
  have F:∀k∈ks,k<s.β.length:=by rw[q.len];exact I
  have J:ks.length<=a.β.length:=by rw[u.len];exact R
  obtain⟨a1,a2,a3,a4⟩:=vB (new:=σ1) (old:=σ) hn I R;obtain⟨b1,b2,b3,b4⟩:=vB (new:=a.β) (old:=s.β) hn F J;obtain⟨c1,c2⟩:=iB V;obtain⟨d1,d2⟩:=iB hβ;let K:=ks++lG σ.length (σ1.length-ks.length);have S:∀j,j<σ1.length->∃k,K[j]?=aa k/\(ef ks σ1 σ)[k]?=σ1[j]?/\(ef ks a.β s.β)[k]?=a.β[j]?:=by
    intro j m;rcases cG j ks.length with p|E
    · refine⟨ks[j],?_,a2 j _ (bg p),b2 j _ (bg p)⟩
      grind
    · refine⟨σ.length+(j-ks.length),?_,?_,?_⟩
      · simp only[K]
        rw[fA E,Bx,br (by omega)]
      · rw[a3];grind
      · rw[<-q.len,b3];grind
  have g:∀l L,(ef ks a.β s.β)[l]?=aa L->(∃j,j<σ1.length/\a.β[j]?=aa L/\(∀B,(ef ks σ1 σ)[l]?=aa B->σ1[j]?=aa B)/\(∀k,ks[j]?=aa k->k=l)/\(j≥ks.length->l=σ.length+(j-ks.length))) ∨
      (l<σ.length/\l∉ks/\s.β[l]?=aa L/\(ef ks σ1 σ)[l]?=σ[l]?):=by
    intro l L c;have X:l<(ef ks a.β s.β).length:=(b8.1 c).1;rcases cG l σ.length with p|E
    · by_cases r:l∈ks
      · obtain⟨j,m,rfl⟩:=dH r
        have N:=bg m;grind
      · exact .inr ⟨p,r,by rw[<-b4 l (by rw[q.len];exact p) r];exact c,a4 l p r⟩
    · rw[b1,u.len,q.len]at X
      refine .inl ⟨ks.length+(l-σ.length),by omega,?_,λB z=>?_,λk N=>?_,λ_=>by omega⟩
      · rw[<-b3,q.len,zy E];exact c
      · rw[<-a3,zy E];exact z
      grind
  have A:∀L∈n,L∈s.β:=by
    intro L c;obtain⟨j,m,rfl⟩:=dH c;have C:j<ks.length:=by grind
    obtain⟨x,Q,U⟩:=d2 j _ (bg C);grind
  have other:∀l L,l∉ks->s.β[l]?=aa L->∀b∈L.bs,b<s.w.heap.size/\∀L'∈n,b∉L'.bs:=by
    intro l L t c b d;refine⟨q.lt L (bL c) b d,λL' gm ov=>?_⟩;obtain⟨j,m,rfl⟩:=dH gm;have C:j<ks.length:=by grind
    obtain⟨x,Q,U⟩:=d2 j _ (bg C);rw[bg m]at Q;cases Q;have:=q.eZ l ks[j] L _ c U b d ov;grind
  have out:∀b,b<s.w.heap.size->(∀L∈s.β,b∉L.bs)->∀L∈n,b∉L.bs:=λb _ h L c=>h L (A L c);have ex:Ext σ s (ef ks σ1 σ) ⟨ef ks a.β s.β,a.M,a.w,s.own⟩:=by
    refine⟨st.mem,λl B L z c=>?_⟩;have p:l<σ.length:=(b8.1 z).1;by_cases r:l∈ks
    · obtain⟨j,m,rfl⟩:=dH r
      have N:=bg m;obtain⟨x,Q,U⟩:=c2 j _ N;obtain⟨y,y1,y2⟩:=d2 j _ N;rw[z]at U;cases U;rw[c]at y2;cases y2;obtain⟨B',L',p1,p2,p3⟩:=st.box j B L Q y1;grind
    · exact⟨B,L,by grind,by grind,.refl _ _⟩
  refine⟨⟨ef ks a.β s.β,a.M,a.w,s.own⟩,rfl,?_,⟨u.mem,?_,?_,?_,?_,?_⟩,⟨st.size,?_,st.mem,?_,?_,ex.box,st.os,st.tape,st.output,rfl⟩,rfl,rfl,?_⟩
  · refine dm.mV (s:=a) (s2:=⟨ef ks a.β s.β,a.M,a.w,s.own⟩) (σ2:=ef ks σ1 σ) (ks:=K) rfl (λj B z=>?_) (λj L c=>?_) u.len hr
    · grind
    · obtain⟨k,k1,_,k3⟩:=S j (by rw[<-u.len];grind)
      grind
  · simp only;rw[a1,b1,u.len,q.len]
  · intro l B L z c
    rcases g l L c with⟨j,m,f,T,_⟩|⟨t,r,gm,Y⟩
    · exact eK.plain (σ:=σ1) (s:=a) (s':=⟨ef ks a.β s.β,a.M,a.w,s.own⟩) rfl rfl (kt hp B (bL (T B z))) (u.box j B L (T B z) f)
    · rw[Y]at z
      refine(q.box l B L z gm).carry ex q.len λb d=>?_;obtain⟨Z,W⟩:=other l L r gm b d;exact⟨st.keep b (.inr ⟨⟨L,bL gm,d⟩,W⟩),st.iO b Z W⟩
  · intro l l' L L' c gm b d ov
    rcases g l L c with⟨j,m,f,_,ZL,hjn⟩|⟨t,r,i,_⟩<;>rcases g l' L' gm with⟨j',C,G,_,aad,aae⟩|⟨Dr,hm',H,_⟩
    · have e:=u.eZ j j' L L' f G b d ov
      grind
    · obtain⟨Z,W⟩:=other l' L' hm' H b ov
      rcases st.uW L (bL f) b d with h|⟨L0,h0,P⟩
      · grind
      grind
    · obtain⟨Z,W⟩:=other l L r i b d
      rcases st.uW L' (bL G) b ov with h|⟨L0,h0,P⟩
      · grind
      grind
    · exact q.eZ l l' L L' i H b d ov
  · intro L c b d
    obtain⟨l,t,rfl⟩:=dH c;rcases g l _ (bg t)with⟨j,m,f,_⟩|⟨_,_,i,_⟩
    · exact u.lt _ (bL f) b d
    · have:=q.lt _ (bL i) b d
      have:=st.size;grind
  · intro b d
    refine⟨?_,λL c O=>?_⟩
    · have:=(q.own b d).1
      have:=st.size;grind
    · obtain⟨l,t,rfl⟩:=dH c
      rcases g l _ (bg t)with⟨j,m,f,_⟩|⟨_,_,i,_⟩
      · have ho:a.own b:=by rw[st.own];exact .inl d
        exact(u.own b ho).2 _ (bL f) O
      · exact(q.own b d).2 _ (bL i) O
  · intro b d
    exact st.keep b (.inl d)
  · intro b d Wb o
    exact st.iO b d (out b d Wb) o
  · intro L c b d
    obtain⟨l,t,rfl⟩:=dH c;rcases g l _ (bg t)with⟨j,m,f,_⟩|⟨_,_,i,_⟩
    · rcases st.uW _ (bL f) b d with h|⟨L0,h0,P⟩
      · grind
      grind
    grind
  · intro L c
    obtain⟨l,t,rfl⟩:=dH c;rcases g l _ (bg t)with⟨j,m,f,_⟩|⟨_,r,i,_⟩
    · grind
    grind
def en:D->Option (aK×List C)
 |.e (.one (.c (.fn (.func f) [] cap)))=>aa (f,cap)
 |_=>af
theorem nL{σ:List bm}{s:St}{b:aC->aj}{η:aC->D}(a:∀y,dm σ s (b y) (η y)):∀l:List aC,cn σ s (l.map b) (l.map η)
 |[]=>trivial
 |x::r=>⟨a x,nL a r⟩
def cn.append{σ:List bm}{s:St}:∀{vs Wc:List aj}{ds Fw:List D},cn σ s vs ds->cn σ s Wc Fw->cn σ s (vs++Wc) (ds++Fw)
 |[],_,[],_,_,h=>h
 |[],_,_::_,_,h,_=>h.elim
 |_::_,_,[],_,h,_=>h.elim
 |_::_,_,_::_,_,h,a=>⟨h.1,cn.append h.2 a⟩
def Qo:A->A
 |.vec _ k n es=>.c (.sl ae k n es)
 |.c (.sl _ k n es)=>.c (.sl ae k n es)
 |a=>a
def Fz{a:A}(h:gb σ s v a):gb σ s v (Qo a):=by
 cases a with
 |vec l k n es=>exact h.1
 |c x=>cases x<;>first|exact h|exact Rd.loose h
 |_=>exact h
def Qp:List A->List A
 |[]=>[]
 |a::r=>Qo a::Qp r
def FB{σ:List bm}{s:St}:∀{vs:List aj}{cs:List A},eb σ s vs cs->eb σ s vs (Qp cs)
 |[],[],_=>trivial
 |[],_::_,h=>h.elim
 |_::_,[],h=>h.elim
 |_::_,_::_,h=>⟨Fz h.1,FB h.2⟩
def Tn:D->D
 |.e (.one a)=>.e (.one (Qo a))
 |.e (.agg cs)=>.e (.agg (Qp cs))
 |d=>d
def MX{d:D}(h:dm σ s v d):dm σ s v (Tn d):=by
 cases d with
 |e x=>cases x with
  |one a=>exact Fz h
  |agg cs=>obtain⟨vs,b,c⟩:=h;exact⟨vs,b,FB c⟩
 |fz xs=>exact h
 |any=>trivial
def ox:List D->List D
 |[]=>[]
 |a::r=>Tn a::ox r
theorem rR{σ:List bm}{s:St}:∀{vs:List aj}{ds:List D},cn σ s vs ds->cn σ s vs (ox ds)
 |[],[],_=>trivial
 |[],_::_,h=>h.elim
 |_::_,[],h=>h.elim
 |_::_,_::_,h=>⟨MX h.1,rR h.2⟩
def fD:List C->List D
 |[]=>[]
 |c::r=>.e (.one (.c c))::fD r
theorem lB{σ:List bm}{s:St}:∀{vs:List aj}{cs:List C},(∀(j:Nat)(c:C),cs[j]?=aa c->∃v,vs[j]?=aa v/\Rd s.M v c)->vs.length=cs.length->cn σ s vs (fD cs)
 |[],[],_,_=>trivial
 |[],_::_,_,h=>by grind
 |_::_,[],_,h=>by grind
 |v::vs,c::cs,h,d=>by obtain⟨u,a,b⟩:=h 0 c rfl;simp at a;subst a;exact⟨b,lB (λj c e=>by simpa using h (j+1) c (by grind)) (by grind)⟩
def zN{ks:List Nat}{l r:List α}(h:jZ ks l=aa r):∀x∈r,x∈l:=by intro x b;obtain⟨e,a⟩:=iB h;obtain⟨j,c,rfl⟩:=dH b;obtain⟨y,f,d⟩:=a j _ (bg (by omega));grind
def aD.sub{ks:List Nat}{a:List Loc}(hh:aD σ s)(n:jZ ks σ=aa σs)(f:jZ ks s.β=aa a)(u:cK σs=ab)(t:dY ks=ab):
  aD σs {s with β:=a,own:=zM s a}/\eO s {s with β:=a,own:=zM s a}:=by
 obtain⟨c1,c2⟩:=iB n;obtain⟨d1,d2⟩:=iB f;have g:∀L∈a,L∈s.β:=zN f;refine⟨⟨hh.mem,by grind,?_,?_,?_,?_⟩,⟨rfl,λ_ _ _ h=>h,λ_ _ _=>rfl,hh.mem,?_⟩⟩
 .intro j B L r c;have hj:j<ks.length:=by grind
  obtain⟨x,q,v⟩:=c2 j _ (bg hj);obtain⟨y,i,o⟩:=d2 j _ (bg hj);rw[r]at q;cases q;simp only at c;rw[c]at i;cases i;exact eK.plain (σ:=σ) (s:=s) (s':={s with β:=a,own:=zM s a}) rfl rfl (kt u B (bL r)) (hh.box _ B L v o)
 .intro j l L L' c e b hb ov;simp only at c e;have hj:j<ks.length:=by grind
  have m:l<ks.length:=by grind
  obtain⟨y,i,o⟩:=d2 j _ (bg hj);obtain⟨w,d,k⟩:=d2 l _ (bg m);rw[c]at i;cases i;rw[e]at d;cases d;have:=hh.eZ _ _ L L' o k b hb ov;exact vv t j l ks[j] (bg hj) (by grind)
 .intro L c b hb;exact hh.lt _ (g L c) b hb
 .rintro b (hb|⟨⟨L,c,hb⟩,p⟩)
  .exact⟨(hh.own b hb).1,λL c=>(hh.own b hb).2 L (g L c)⟩
  .exact⟨hh.lt L c b hb,p⟩
 .rintro b ((hb|⟨⟨L,c,hb⟩,_⟩)|⟨L,c,hb⟩)
  .grind
  .grind
  grind
def eO.back{σ1:List bm}{c s2:St}{a:List Loc}(hh:aD σ s)(h1:aD σ1 c)(st:cR σs {s with β:=a,own:=zM s a} σ1 c)(i:s2.w=c.w)(e:s2.M=c.M)(ho:s2.own=s.own)(d:∀L∈s2.β,L∈c.β∨(L∈s.β/\∀b∈L.bs,∀L'∈a,b∉L'.bs)):eO c s2:=by
 refine⟨i,λb o v h=>by grind,λb _ o=>by rw[e],λb o v h=>by rw[e]at h;exact h1.mem b o v h,?_⟩;rintro b (hb|⟨L,f,hb⟩)
 .left;rw[st.own];exact .inl (by grind)
 .rcases d L f with h|⟨h,g⟩
  .grind
  .left;rw[st.own];exact .inr ⟨⟨L,h,hb⟩,g b hb⟩
def sW{X:Cx P}{b:aV}{k:List Item}{a:Act}{rest:List Nat}{ks:List Nat}{f:aK}(Z:b.kind≠.early)(ho:ops[i]?=aa o)(hw:aZ o (yielded ops a.tmps)=ab)(Y:aD σ s)(u:∀w,(ak a.eval o).run P w=.ok (.enter f vs.toArray) w)(y:∀w,(ak a.eval o).events P w #[]=#[])(U:dO X f cu σs res σ1)(q:cn σ s vs (gG ks cu))(O:lZ ks.length cu=ab)(m:jZ ks σ=aa σs)(hp:cK σs=ab)(T:∀j,cK (σ1 j)=ab)(W:dY ks=ab)(J:∀j,ks.length<=(σ1 j).length)(h:∀j v s',dm (ef ks (σ1 j) σ) s' v (iK (ks++lG σ.length ((σ1 j).length-ks.length)) (res j))->aD (ef ks (σ1 j) σ) s'->cR σ s (ef ks (σ1 j) σ) s'->fy X S (G (b.aT (a.put o.dst v) (.inRegion ops rest::k)) cs) s'):
  fy X S (G (b.aT a (.inRegion ops (i::rest)::k)) cs) s:=by
 obtain⟨_,t⟩:=U;refine .next rfl λg H=>?_;have V:=X.ij H;have d:=Y.rely V;obtain⟨e,r⟩:=zJ (l':=g.β) m d.len;obtain⟨x,Q⟩:=d.sub m r hp W;have n:cn σ g vs (gG ks cu):=q.mono V.stepW.ext Y.len;have D:cn σs {g with β:=e,own:=zM g e} vs cu:=(n.sub (s:=g) m r O).mono (σ:=σs) (s:={g with β:=e}) (σ':=σs) (s':={g with β:=e,own:=zM g e}) ⟨λ_ _ _ h=>h,λl B L hB hL=>⟨B,L,hB,hL,.refl _ _⟩⟩ x.len;refine⟨_,g,_,oT ho hw Z (u g.w),?_,.ghost Q (t _ vs D x S _ λj fr v s2 hl lX Dq oE=>?_)⟩
 .refine⟨⟨σ,σ,d,d,.refl _ _⟩,eB.seen ?_⟩;rw[y];exact .nil
 refine pZ (cs:=cs) (c:=b.aT a (.inRegion ops (i::rest)::k)) Dq hl λs3 p=>?_;have z:=Dq.rely p;have A:=oE.trans p.stepW;obtain⟨s4,M,F,N,K,I,R,C⟩:=frame d m r W (T j) z A (J j) (lX.mono p.stepW.ext Dq.len);refine .ghost (eO.back d z A M I R C) ?_;have E:=jg (b:=b) (a:=a) (k:=k) ops i rest v;rw[ho]at E;simp only[mH]at E;rw[E];exact h j v s4 F N (V.stepW.trans K)
def IK{X:Cx P}{b:aV}{k:List Item}{a:Act}{rest:List Nat}{ks:List Nat}{σ1:List bm}{f:aK}{res:D}(q:b.kind≠.early)(ho:ops[i]?=aa o)(p:aZ o (yielded ops a.tmps)=ab)(r:aD σ s)(e:∀w,(ak a.eval o).run P w=.ok (.enter f vs.toArray) w)(d:∀w,(ak a.eval o).events P w #[]=#[])(j:Ev X f cu σs res σ1)(c:cn σ s vs (gG ks cu))(l:lZ ks.length cu=ab)(n:jZ ks σ=aa σs)(t:cK σs=ab)(g:cK σ1=ab)(u:dY ks=ab)(m:ks.length<=σ1.length)(h:∀v s',dm (ef ks σ1 σ) s' v (iK (ks++lG σ.length (σ1.length-ks.length)) res)->aD (ef ks σ1 σ) s'->cR σ s (ef ks σ1 σ) s'->fy X S (G (b.aT (a.put o.dst v) (.inRegion ops rest::k)) cs) s'):
  fy X S (G (b.aT a (.inRegion ops (i::rest)::k)) cs) s :=
 sW q ho p r e d j.IJ c l n t (λ_=>g) u (λ_=>m) (λ_=>h)
theorem gK(ho:o.op=.call {callee:=.value fo,args:=xs,argTypes:=jP}){f:aK}{fn:Func}(d:P.funcs[f]?=aa fn)(i:(fn.name== "runtime.NumGoroutine")=ae)(g:fn.body.isNone=ae){a:Act}{cs:List aj}(h:a.eval fo=.func (.func f) #[] cs.toArray)(w:aA):
  (ak a.eval o).run P w=.ok (.enter f (xs.toList.map a.eval++cs).toArray) w/\(ak a.eval o).events P w #[]=#[]:=by
 have e:(xs.map a.eval++cs.toArray)=(xs.toList.map a.eval++cs).toArray:=by grind
 have c:fn.name≠ "runtime.NumGoroutine":=by grind
 have b:fn.body≠af:=by grind
 constructor
 .simp[ak,ho,resolve,h,Deferred.ofValue,invoke,callFunc,d,c,b,e]
 .simp[ak,ho,resolve,h,Deferred.ofValue,invoke,callFunc,d,c,b]
def jm.By{X:Cx P}{Q:Fr->List bm->Prop}(U:∀σ s a,cr N σ s φ a->aZ o (yielded all.toArray a.tmps)=ab)(ho:o.op=.call {callee:=.value fo,args:=xs,argTypes:=jP}){f:aK}(y:en (bO φ fo)=aa (f,cap))(ks:List Nat)(u:dO X f cu σs res σ1)(m:∀s vs,cn σ s vs (xs.toList.map (bO φ)++fD cap)->cn σ s vs (gG ks cu))(B:lZ ks.length cu=ab)(C:jZ ks σ=aa σs)(R:cK σs=ab)(F:∀j,cK (σ1 j)=ab)(M:dY ks=ab)(A:∀j,ks.length<=(σ1 j).length)(d:Option Nat)(O:o.dst=d)(T:∀t,d=aa t->t<N)(k:∀j,jm X N all rest Q (kp d (iK (ks++lG σ.length ((σ1 j).length-ks.length)) (res j)) φ) (ef ks (σ1 j) σ)):jm X N all (o::rest) Q φ σ:=by
 subst O;intro s a g hh b kk cs S idx hb iI hQ;cases idx with
 |nil=>exact iI.elim
 |cons i idx =>
 obtain⟨hi,iI⟩:=iI;have r:=c8 g fo;unfold en at y;split at y
 case h_2=>cases y
 case h_1 f' Iw he =>
  cases y;rw[he]at r;have l:=fI r;generalize I:a.eval fo=fv at l;cases l with
  |fn fs lY hl Dr f1 f2 h1 h2 r1 r2 =>
   have E:fs=[]:=jr hl;subst E;have n:cn σ s lY (fD cap):=lB (λj c hj=>⟨f2 j,h2 j (by grind),r2 j c hj⟩) Dr;have x:cn σ s (xs.toList.map a.eval++lY) (gG ks cu):=by exact m _ _ ((nL (c8 g) xs.toList).append n)
   obtain⟨fn,p,h,e⟩:=u.1;refine sW hb hi (U _ _ _ g) hh (λw=>(gK ho p h e I w).1) (λw=>(gK ho p h e I w).2) u x B C R F M A λj v s' hr jq st=>?_;refine k j s' _ ?_ jq b kk cs S idx hb iI λH z L a3 q J K G=>hQ H z L a3 q J K (st.trans G);cases D:o.dst with
   |none=>exact g.mono st hh.len
   |some t=>exact(g.mono st hh.len).put (T t D) hr
def jm.Pf{X:Cx P}{Q:Fr->List bm->Prop}(r:∀σ s a,cr N σ s φ a->aZ o (yielded all.toArray a.tmps)=ab)(ho:o.op=.call {callee:=.value fo,args:=xs,argTypes:=jP}){f:aK}(n:en (bO φ fo)=aa (f,cap))(ks:List Nat)(e:dO X f cu σs res σ1)(b:ox (xs.toList.map (bO φ)++fD cap)=gG ks cu)(g:lZ ks.length cu=ab)(l:jZ ks σ=aa σs)(q:cK σs=ab)(c:∀j,cK (σ1 j)=ab)(u:dY ks=ab)(i:∀j,ks.length<=(σ1 j).length)(d:Option Nat)(p:o.dst=d)(m:∀t,d=aa t->t<N)(k:∀j,jm X N all rest Q (kp d (iK (ks++lG σ.length ((σ1 j).length-ks.length)) (res j)) φ) (ef ks (σ1 j) σ)):jm X N all (o::rest) Q φ σ :=
 jm.By r ho n ks e (λs vs h=>by grind[rR]) g l q c u i d p m k
theorem jm.call{X:Cx P}{Q:Fr->List bm->Prop}(p:∀σ s a,cr N σ s φ a->aZ o (yielded all.toArray a.tmps)=ab)(ho:o.op=.call {callee:=.value fo,args:=xs,argTypes:=jP}){f:aK}(l:en (bO φ fo)=aa (f,cap))(ks:List Nat){σ1:List bm}{res:D}(e:Ev X f cu σs res σ1)(b:ox (xs.toList.map (bO φ)++fD cap)=gG ks cu)(g:lZ ks.length cu=ab)(i:jZ ks σ=aa σs)(n:cK σs=ab)(c:cK σ1=ab)(q:dY ks=ab)(h:ks.length<=σ1.length)(d:Option Nat)(m:o.dst=d)(j:∀t,d=aa t->t<N)(k:jm X N all rest Q (kp d (iK (ks++lG σ.length (σ1.length-ks.length)) res) φ) (ef ks σ1 σ)):jm X N all (o::rest) Q φ σ :=
 jm.Pf p ho l ks e.IJ b g i n (λ_=>c) q (λ_=>h) d m j (λ_=>k)
def Names.range(all:List aB):Names all (bk all.toArray.size) all:=by
 have key:∀(l:List aB) (n:Nat),(∀j o,l[j]?=aa o->all[n+j]?=aa o)->Names all (List.range' n l.length) l:=by
  intro l;induction l with
  |nil=>intro n _;trivial
  |cons o r b =>
   intro n h;rw[fQ,List.range'_succ];refine⟨by simpa using h 0 o rfl,b (n+1) λj a hj=>?_⟩;have:=h (j+1) a (by grind);grind
 grind[List.range_eq_range']
theorem AW.region{X:Cx P}{Q:Post}{id:Nat}(h:jm X N ops.toList ops.toList (λφ σ=>Q .normal φ σ) φ σ):AW X N (.region id ops ae) Q φ σ:=by intro s a f hh b k cs S hb hQ;refine .ctl hh rfl (λ_=>qa) λe h1=>?_;have:=h e a (f.rely h1 hh) (hh.rely h1) b k cs S (bk ops.size) hb (by simpa using Names.range ops.toList) λφ' σ' s' a' q d c st=>hQ .normal φ' σ' s' a' q d c (h1.stepW.trans st);simpa using this
def jm.nil{P:aO}{X:Cx P}{N:Nat}{all:List aB}{Q:Fr->List bm->Prop}{φ:Fr}{σ:List bm}(h:Q φ σ):jm X N all [] Q φ σ:=by
 intro s a f hh b k cs S idx _ c d;cases idx with
 |cons i idx=>exact c.elim
 |nil=>exact .ctl hh rfl (λ_=>iQ) λe h1=>d φ σ e a h (f.rely h1 hh) (hh.rely h1) h1.stepW
def jm.mono{X:Cx P}{Q c:Fr->List bm->Prop}(h:jm X N all rest Q φ σ)(d:∀φ σ,Q φ σ->c φ σ):jm X N all rest c φ σ :=
 λs a f hh b k cs S idx hb hi hQ=>h s a f hh b k cs S idx hb hi λφ' σ' s' a' q e g st=>hQ φ' σ' s' a' (d _ _ q) e g st
def jh:Nat->List D->Fr
 |_,[]=>[]
 |i,d::r=>(i,d)::jh (i+1) r
def nS:∀(ds:List D)(i t:Nat),look (jh i ds) t=if i<=t then(ds[t-i]?).getD .any else .any
 |[],i,t=>by simp[jh,look]
 |d::r,i,t=>by
  simp only[jh,look];by_cases e:i=t
  .grind [Nat.beq_refl]
  .have:av i t=ae:=by grind[Nat.eq_of_beq_eq_true]
   rw[this];simp only[cond,nS r (i+1) t];grind
theorem cn.get{σ:List bm}{s:St}:∀{vs:List aj}{ds:List D},cn σ s vs ds->vs.length=ds.length/\∀(j:Nat),dm σ s ((vs[j]?).getD ah) ((ds[j]?).getD .any)
 |[],[],_=>⟨rfl,λj=>by simp[dm]⟩
 |[],_::_,h=>h.elim
 |_::_,[],h=>h.elim
 |v::vs,d::ds,h=>by
  obtain⟨h1,h2⟩:=cn.get h.2;refine⟨by grind,λj=>?_⟩;cases j with
  |zero=>simpa using h.1
  |succ j=>grind
def xT(φ:Fr):List ResultVar->Option (List D)
 |[]=>aa []
 |.tmp t::r=>match xT φ r with
  |some q=>aa (look φ t::q)
  |none=>af
 |.cell _ _::_=>af
def tQ:List D->Option (List E1)
 |[]=>aa []
 |.e x::r=>match tQ r with
  |some q=>aa (x::q)
  |none=>af
 |_::_=>af
def rS:List D->Option D
 |[d]=>aa d
 |ds=>match tQ ds with
  |some es=>aa (.fz es)
  |none=>af
def fS(a:Act):ResultVar->Sem aj
 |ResultVar.tmp t=>pure (a.tmps.getD t ah)
 |ResultVar.cell ad t=>do loadVar t (<-asAddr (a.tmps.getD ad ah))
def FC(P:aO){N:Nat}{σ:List bm}{s:St}{φ:Fr}{a:Act}(f:cr N σ s φ a):∀{rs:List ResultVar}{ds:List D},xT φ rs=aa ds ->
  ∃vs,(∀w,(rs.mapM (fS a)).run P w=Result.ok vs w)/\cn σ s vs ds/\cX P (rs.mapM (fS a))
 |[],ds,h=>by cases h;exact⟨[],by simp,ar,by rw[List.mapM_nil];exact .pure⟩
 |.tmp t::r,ds,h=>by
  simp only[xT]at h;cases b:xT φ r with
  |none=>grind
  |some q =>
   simp[b]at h;subst h;obtain⟨vs,c,d,e⟩:=FC P f b;refine⟨a.tmps.getD t ah::vs,?_,⟨f.slot t,d⟩,?_⟩
   .intro w;simp only[kW,bT,fS,cV,cm,c]
   .rw[kW];exact .bind .pure λ_=>.bind e λ_=>.pure
 |.cell ad t::r,ds,h=>by simp[xT]at h
def Bz{σ:List bm}{s:St}:∀{vs:List aj}{ds:List D}{es:List E1},tQ ds=aa es->cn σ s vs ds->gF σ s vs es
 |[],[],es,h,_=>by cases h;trivial
 |[],_::_,_,_,h=>h.elim
 |_::_,[],_,_,h=>h.elim
 |v::vs,.e x::r,es,h,a=>by
  simp only[tQ]at h;cases b:tQ r with
  |none=>grind
  |some q=>simp[b]at h;subst h;exact⟨a.1,Bz b a.2⟩
 |_::_,.fz _::_,es,h,_=>by simp[tQ]at h
 |_::_,.any::_,es,h,_=>by simp[tQ]at h
def BA{ds:List D}{d:D}(h:rS ds=aa d)(a:cn σ s vs ds):dm σ s (if h:vs.length=1 then vs[0]else .tuple vs.toArray) d:=by
 unfold rS at h;split at h
 .rename_i g;cases h
  match vs,a with
  |[v],a=>simpa using a.1
 .rename_i f;cases b:tQ ds with
  |none=>grind
  |some es =>
   simp[b]at h;subst h;have c:vs.length≠1:=by
    intro e;rw[(cn.get a).1]at e
    match ds,e with
    |[x],_=>grind
   rw[dif_neg c];exact⟨vs,rfl,Bz b a⟩
def BC(P:aO)(fn:Func)(φ:Fr)(d:D):Prop:=∀{N:Nat}{σ:List bm}{s:St}{a:Act},cr N σ s φ a->∃v,dm σ s v d/\∀w,(∀b o u,s.M b o=aa u->w.cell? ⟨b,o,af⟩=aa u)->(results fn a.tmps).run P w=.ok v w/\∀e∈(results fn a.tmps).events P w #[],∃b o u,e=⟨.cell ⟨b,o,af⟩,ae,ae⟩/\s.M b o=aa u
def tR{a:Act}(f:cr N σ s φ a){fn:Func}{ds:List D}{d:D}(h:xT φ fn.results.toList=aa ds)(b:rS ds=aa d):
  ∃v,(∀w,(results fn a.tmps).run P w=.ok v w)/\dm σ s v d/\cX P (results fn a.tmps):=by
 obtain⟨vs,i,c,g⟩:=FC P f h;refine⟨_,λw=>?_,BA b c,?_⟩
 .have e:(fn.results.mapM (fS a)).run P w=Result.ok vs.toArray w:=by grind[Array.mapM_eq_mapM_toList,Sem.run_map,Go.Result.andThen_ok]
  unfold results;rw[bT];refine(dy (λr=>Result.andThen r _) (Eq.trans ?_ e)).trans ?_
  .congr 2
  .simp
 .unfold results;have e:cX P (fn.results.mapM (fS a)):=by rw[qP];exact .map g
  exact .bind e λ_=>.pure
theorem BC.of{fn:Func}{ds:List D}{d:D}(h:xT φ fn.results.toList=aa ds)(hj:rS ds=aa d):BC P fn φ d:=by intro N σ s a f;obtain⟨v,h1,h2,c⟩:=tR (P:=P) f h hj;exact⟨v,h2,λw _=>⟨h1 w,λe b=>by rw[c w #[]]at b;grind⟩⟩
section
def aD.k7(h:aD σ s):aD (σ.map λ_=>.dead) s:=by
 refine⟨h.mem,by simp[h.len],λl B L a c=>?_,h.eZ,h.lt,h.own⟩;simp only[nJ]at a;cases b:σ[l]? with
 |none=>grind
 |some x=>rw[b]at a;cases a;trivial
structure Ph(ls:List Nat)(s s':St):Prop where
 β:s'.β=s.β
 M:s'.M=s.M
 own:s'.own=s.own
 size:s.w.heap.size<=s'.w.heap.size
 keep:∀b,(s.own b∨∃(l:Nat) (L:Loc),s.β[l]?=aa L/\l∉ls/\b∈L.bs)->s'.w.heap[b]?=s.w.heap[b]?
 mem:∀b o v,s.M b o=aa v->s'.w.cell? ⟨b,o,af⟩=aa v
 os:s'.w.os=s.w.os
 tape:s'.w.tape=s.w.tape
 output:s'.w.output=s.w.output
def b6.unR(h:b6 s s')(ls:List Nat):Ph ls s s' :=
 ⟨h.β,h.M,h.own,h.size,λb hb=>h.keep b (hb.imp id λ⟨l,L,h1,_,a⟩=>⟨L,bL h1,a⟩),h.mem,h.os,h.tape,h.output⟩
theorem Ph.cat{ls:List Nat}{a s2:St}(h:Ph [l] s a)(k:Ph ls a s2):Ph (l::ls) s s2:=by refine⟨k.β.trans h.β,k.M.trans h.M,k.own.trans h.own,dT h.size k.size,λb hb=>?_,λb o v c=>k.mem b o v (by rw[h.M];exact c),k.os.trans h.os,k.tape.trans h.tape,k.output.trans h.output⟩;rw[k.keep b,h.keep b (hb.imp id λ⟨l',L,h1,h2,d⟩=>⟨l',L,h1,λe=>h2 (by grind),d⟩)];rw[h.own,h.β];grind
def IQ{r:Nat}(a:w.heap[r]?=aa (.deferred (aa []))):
  (Instr.takeDeferred r).run P w=.ok [] {w with heap:=w.heap.setIfInBounds r (.deferred af)}/\(Instr.takeDeferred r).events P w #[]=#[⟨.obj r,ae,ae⟩,⟨.obj r,ab,ae⟩]:=by
 have b:(getObj r).run P w=.ok (.deferred (aa [])) w:=by simp only[getObj,Sem.run,a]
 have c:(setObj r (.deferred af)).run P w=.ok () {w with heap:=w.heap.setIfInBounds r (.deferred af)}:=by simp only[setObj,Sem.run,a]
 have d:∀es,(getObj r).events P w es=es.push ⟨.obj r,ae,ae⟩:=λes=>by simp only[getObj,Sem.events,Sem.runT,a];rfl
 have e:∀es,(setObj r (.deferred af)).events P w es=es.push ⟨.obj r,ab,ae⟩:=λes=>by simp only[setObj,Sem.events,Sem.runT,a];rfl
 constructor
 .simp[Instr.takeDeferred,b,c]
 .simp[Instr.takeDeferred,b,d,e]
variable {X:Cx P}{main:Bool}
def M4{a:aV}{r:Nat}{ds:List Deferred}(c:a.mode=.returning)(d:a.defers={target:=.collected r,args:=#[]}::ds)(f:w.heap[r]?=aa (.deferred (aa []))):
  aH P main (G a cs) w=.go (G {a with defers:=ds} cs) {w with heap:=w.heap.setIfInBounds r (.deferred af)} (seen P a.fn #[⟨.obj r,ae,ae⟩,⟨.obj r,ab,ae⟩]):=by obtain⟨e,b⟩:=IQ (P:=P) f;simp[G,aH,unwind,c,d,e,b,GStep.after]
def vG(s:St):List Deferred->List Nat->Prop
 |[],[]=>True
 |d::ds,l::ls=>(∃r:Nat,s.β[l]?=aa ⟨.int .i64 r,[r]⟩/\s.w.heap[r]?=aa (.deferred (aa []))/\(∀o,s.M r o=af)/\d={target:=.collected r,args:=#[]})/\l∉ls/\vG s ds ls
 |_,_=>False
def oI.taken{σ:List bm}{s:St}(hh:aD σ s):∀{ds:List Deferred}{ls:List Nat},oI σ s ds ls->vG s ds ls
 |[],[],_=>trivial
 |[],_::_,r=>r.elim
 |_::_,[],r=>r.elim
 |d::ds,l::ls,⟨⟨h1,L,r,h2,c,f⟩,g,a⟩=>by
  obtain⟨r',k1,b,h⟩:=hh.box l _ L h1 h2;subst k1;simp at c;have e:r'=r:=by omega
  subst e;exact⟨⟨r',h2,b,h,f⟩,g,oI.taken hh a⟩
def vG.mono{s s':St}{b:Nat}(h:Ph [b] s s'):∀{ds:List Deferred}{ls:List Nat},b∉ls->vG s ds ls->vG s' ds ls
 |[],[],_,_=>trivial
 |[],_::_,_,r=>r.elim
 |_::_,[],_,r=>r.elim
 |d::ds,l::ls,a,⟨⟨r,h1,h2,g,e⟩,f,c⟩=>by simp only[dC,not_or]at a;refine⟨⟨r,by rw[h.β];exact h1,by rw[h.keep r (.inr ⟨l,_,h1,by grind,by simp⟩)];exact h2,λo=>by rw[h.M];grind,e⟩,f,vG.mono h a.2 c⟩
def q8:∀(ls:List Nat)(c:aV)(s:St)(σ:List bm),aD σ s->(∀B∈σ,B=.dead)->c.mode=.returning->vG s c.defers ls ->
  (∀s',Ph ls s s'->fy X S (G {c with defers:=[]} cs) s')->fy X S (G c cs) s
 |[],c,s,σ,u,m,H,n,k=>by
  have p:c.defers=[]:=by
   cases p:c.defers with
   |nil=>rfl
   |cons d ds=>rw[p]at n;exact n.elim
  have:=k s ((b6.refl u).unR _);have e:{c with defers:=[]}=c:=by cases c;simp_all
  grind
 |l::ls,c,s,σ,u,m,H,n,k=>by
  cases p:c.defers with
  |nil=>rw[p]at n;exact n.elim
  |cons d ds =>
   rw[p]at n;obtain⟨⟨r,z,T,U,N⟩,O,J⟩:=n;subst N;refine .next rfl λi C=>?_;have g:=X.ij C;have a:=u.rely g;have E:i.β[l]?=aa ⟨.int .i64 r,[r]⟩:=by rw[g.β];exact z
   have F:i.w.heap[r]?=aa (.deferred (aa [])):=by rw[g.keep r (.inr ⟨_,bL z,by simp⟩)];exact T
   have R:∀o,i.M r o=af:=λo=>by rw[g.M];grind
   let s2:St:={i with w:={i.w with heap:=i.w.heap.setIfInBounds r (.deferred af)}}
   have I:∀b,b≠r->s2.w.heap[b]?=i.w.heap[b]?:=λb f=>by grind
   have j:∀b o v,i.M b o=aa v->s2.w.cell? ⟨b,o,af⟩=aa v:=by
    intro b o v A;have t:b≠r:=by grind
    rw[<-a.mem b o v A];simp only[aW];grind
   have x:aD σ s2:=by
    refine⟨j,a.len,λl' B L Q y=>?_,a.eZ,λL y b f=>?_,λb f=>⟨?_,(a.own b f).2⟩⟩
    .rw[m B (bL Q)];trivial
    .have:=a.lt L y b f;grind
    .have:=(a.own b f).1;grind
   have q:∃L∈i.β,r∈L.bs:=⟨_,bL E,by simp⟩
   have st:Step σ i σ s2:=by refine⟨by grind,λb _ f=>I b ?_,λ_ _ _ h=>h,λ_ _ _ _=>rfl,λL y b f=>.inr ⟨L,y,f⟩,λ_ B L h K=>⟨B,L,h,K,.refl _ _⟩,rfl,rfl,rfl,rfl⟩;grind
   have un:Ph [l] s s2:=by
    refine⟨g.β,g.M,g.own,dT g.size (by grind),λb f=>?_,λb o v A=>j b o v (by rw[g.M];exact A),g.os,g.tape,g.output⟩;have t:b≠r:=by
     rintro rfl;rcases f with f|⟨l',L',D,p2,p3⟩
     .exact(u.own b f).2 _ (bL z) (by simp)
     .exact p2 (by simp;exact u.eZ l' l L' _ D z b p3 (by simp))
    rw[I b t];exact g.keep b (f.imp id λ⟨l',L',D,_,p3⟩=>⟨L',bL D,p3⟩)
   refine⟨_,s2,_,M4 H p F,⟨⟨σ,σ,a,x,st⟩,eB.seen (.two ?_ ?_)⟩,?_⟩
   .exact⟨rfl,.inr q⟩
   .exact⟨rfl,.inr q⟩
   refine q8 ls {c with defers:=ds} s2 σ x m H (J.mono un O) λs' hu=>?_;exact k s' (un.cat hu)
end
def cw(n:Nat)(f g:Nat->List C):Prop:=∀i,i<n->f i=g i
def Flat.Dy{es':Nat->List C}(h:Flat M k n es vs)(a:cw n es es'):Flat M k n es' vs :=
 ⟨h.len,λi hi=>by rw[<-a i hi];exact h.width i hi,λi hi j c hj=>h.rd i hi j c (by rw[a i hi];exact hj)⟩
def W8:C->C->Option (List Prop)
 |.int k n,.int k' n'=>match G6 k k' with|true=>aa [n=n']|false=>af
 |.bool b,.bool b'=>aa [b=b']
 |.str s,.str s'=>aa [s=s']
 |.sl t k n es,.sl t' k' n' es'=>match av k k' with
  |true=>match t,t' with
   |false,ab=>af
   |_,_=>aa [n=n',cw n es es']
  |false=>match t,t' with
   |true,_=>aa [n=0,n'=0]
   |_,_=>af
 |.val x,.val y=>aa [x=y]
 |x,y=>aa [x=y]
def Ju{x y:C}(h:W8 x y=aa ps)(c:au ps)(r:Rd M v x):Rd M v y:=by
 unfold W8 at h;split at h
 .rename_i k n k' n';cases d:G6 k k'<;>simp[d]at h
  subst h;cases Ao d;cases(show n=n' from c);exact r
 .cases h;rename_i b f;cases(show b=f from c);exact r
 .cases h;rename_i b f;cases(show b=f from c);exact r
 .rename_i t k n es t' k' n' es';cases d:av k k' with
  |true =>
   simp only[d]at h;have e:=b7 d;subst e;cases t<;>cases t'<;>simp at h
   all_goals (subst h;obtain⟨rfl,g⟩:=(show n=n'/\cw n es es' from c);first|exact r.Dy g|exact r.loose.Dy g)
  |false =>
   simp only[d]at h;cases t<;>simp at h
   subst h;obtain⟨rfl,rfl⟩:=(show n=0/\n'=0 from c)
   obtain⟨a,cap,vs,rfl,_,_,i,_⟩:=r.flat;grind[Rd.il]
 .cases h;rename_i x y;cases(show x=y from c);exact r
 .cases h;cases c;exact r
def TV:A->A->Option (List Prop)
 |.c x,.c y=>W8 x y
 |.vec _ k n es,.c (.sl ae k' n' es')=>match av k k' with|true=>aa [n=n',cw n es es']|false=>af
 |.vec l k n es,.vec l' k' n' es'=>match av l l' with
  |true=>match av k k' with|true=>aa [n=n',cw n es es']|false=>af
  |false=>af
 |.ptr l o,.ptr l' o'=>match av l l' with|true=>(match av o o' with|true=>aa []|false=>af)|false=>af
 |.ref l,.ref l'=>match av l l' with|true=>aa []|false=>af
 |.bp l w,.bp l' w'=>match av l l' with|true=>aa [w=w']|false=>af
 |_,.any=>aa []
 |_,_=>af
def Jv{x y:A}(h:TV x y=aa ps)(c:au ps)(r:gb σ s v x):gb σ s v y:=by
 unfold TV at h;split at h
 .exact Ju h c r
 .rename_i k n es k' n' es';cases a:av k k'<;>simp[a]at h
  subst h;have e:=b7 a;subst e;obtain⟨rfl,f⟩:=(show n=n'/\cw n es es' from c)
  exact r.1.Dy f
 .rename_i l k n es l' k' n' es';cases b:av l l'<;>simp[b]at h
  cases a:av k k'<;>simp[a]at h
  subst h;have e:=b7 a;have d:=b7 b;subst e d;obtain⟨rfl,f⟩:=(show n=n'/\cw n es es' from c)
  exact⟨r.1.Dy f,r.2.1,r.2.2⟩
 .grind [Nat.eq_of_beq_eq_true]
 .grind [Nat.eq_of_beq_eq_true]
 .rename_i l w l' w';cases b:av l l'<;>simp[b]at h
  have d:=b7 b;subst d;subst h;cases(show w=w' from c);exact r
 .exact gb.cell r
 grind
def j0:List Prop->List Prop->List Prop
 |[],q=>q
 |p::r,q=>p::j0 r q
@[simp] theorem au.cat{p q:List Prop}:au (j0 p q)↔au p/\au q:=by
 induction p with
 |nil=>simp[j0]
 |cons x r a=>simp only[j0,au.cons,a,and_assoc]
def Py:List A->List A->Option (List Prop)
 |[],[]=>aa []
 |a::al,b::bs=>match TV a b with
  |some p=>match Py al bs with
   |some q=>aa (j0 p q)
   |none=>af
  |none=>af
 |_,_=>af
def D1{σ:List bm}{s:St}:∀{vs:List aj}{xs ys:List A}{ps:List Prop},Py xs ys=aa ps->au ps->eb σ s vs xs->eb σ s vs ys
 |[],[],[],_,_,_,_=>trivial
 |_::_,[],_,_,_,_,h=>h.elim
 |[],_::_,_,_,_,_,h=>h.elim
 |[],[],_::_,_,h,_,_=>by simp[Py]at h
 |_::_,_::_,[],_,h,_,_=>by simp[Py]at h
 |v::vs,a::al,b::bs,ps,h,c,e=>by
  simp only[Py]at h;cases d:TV a b with
  |none=>grind
  |some p =>
   cases f:Py al bs with
   |none=>grind
   |some q =>
    simp[d,f]at h;subst h;rw[au.cat]at c;exact⟨Jv d c.1 e.1,D1 f c.2 e.2⟩
def TX:E1->E1->Option (List Prop)
 |.one a,.one b=>TV a b
 |.agg al,.agg bs=>Py al bs
 |_,_=>af
def Jw{x y:E1}(h:TX x y=aa ps)(a:au ps)(r:nD σ s v x):nD σ s v y:=by
 cases x<;>cases y<;>simp only[TX,reduceCtorEq]at h
 .exact Jv h a r
 .obtain⟨vs,b,c⟩:=r;exact⟨vs,b,D1 h a c⟩
def D3:List E1->List E1->Option (List Prop)
 |[],[]=>aa []
 |a::al,b::bs=>match TX a b with
  |some p=>match D3 al bs with
   |some q=>aa (j0 p q)
   |none=>af
  |none=>af
 |_,_=>af
def FW{σ:List bm}{s:St}:∀{vs:List aj}{xs ys:List E1}{ps:List Prop},D3 xs ys=aa ps->au ps->gF σ s vs xs->gF σ s vs ys
 |[],[],[],_,_,_,_=>trivial
 |_::_,[],_,_,_,_,h=>h.elim
 |[],_::_,_,_,_,_,h=>h.elim
 |[],[],_::_,_,h,_,_=>by simp[D3]at h
 |_::_,_::_,[],_,h,_,_=>by simp[D3]at h
 |v::vs,a::al,b::bs,ps,h,c,e=>by
  simp only[D3]at h;cases d:TX a b with
  |none=>grind
  |some p =>
   cases f:D3 al bs with
   |none=>grind
   |some q =>
    simp[d,f]at h;subst h;rw[au.cat]at c;exact⟨Jw d c.1 e.1,FW f c.2 e.2⟩
def Ds:D->D->Option (List Prop)
 |.e x,.e y=>TX x y
 |.fz xs,.fz ys=>D3 xs ys
 |_,.any=>aa []
 |_,_=>af
theorem qW{x y:D}(h:Ds x y=aa ps)(a:au ps)(r:dm σ s v x):dm σ s v y:=by
 cases x<;>cases y<;>simp only[Ds,reduceCtorEq]at h
 .exact Jw h a r
 .trivial
 .obtain⟨vs,b,c⟩:=r;exact⟨vs,b,FW h a c⟩
 .trivial
 .trivial
def qC(φ:Fr):Fr->Option (List Prop)
 |[]=>aa []
 |(i,d)::r=>match Ds (look φ i) d with
  |some p=>match qC φ r with
   |some q=>aa (j0 p q)
   |none=>af
  |none=>af
def dj{φ:Fr}:∀{φ':Fr}{ps:List Prop},qC φ φ'=aa ps->au ps->se φ φ'
 |[],_,_,_=>λ_ _ _ _ _=>trivial
 |(i,d)::r,ps,h,b=>by
  simp only[qC]at h;cases c:Ds (look φ i) d with
  |none=>grind
  |some p =>
   cases a:qC φ r with
   |none=>grind
   |some q =>
    simp[c,a]at h;subst h;rw[au.cat]at b;intro σ s v t e;simp only[look];cases f:av i t with
    |true =>
     grind[Nat.eq_of_beq_eq_true,qW]
    |false=>exact dj a b.2 σ s v t e
def kO(σ:List bm):Bool:=match cK σ with|true=>mY σ|false=>ae
def yx(h:kO σ=ab):cK σ=ab/\mY σ=ab:=by unfold kO at h;grind
def oI.BV{σ:List bm}{s:St}:∀{ds:List Deferred}{ls:List Nat},oI σ s ds ls->∀l∈ls,σ[l]?=aa .qT
 |[],[],_,l,hl=>by grind
 |[],_::_,r,_,_=>r.elim
 |_::_,[],r,_,_=>r.elim
 |d::ds,b::ls,⟨⟨h1,_⟩,_,a⟩,l,hl=>by
  rcases dC.1 hl with rfl|hl
  .exact h1
  .exact oI.BV a l hl
def ck(fn:Func)(a:Nat)(res:D)(σ':List bm):Post:=λe φ σ1 =>
 (e=.ret∨e=.normal)/\∃ks ds d ps,xT φ fn.results.toList=aa ds/\rS ds=aa d/\Ds d (iK ks res)=aa ps/\au ps/\vA ks.length res=ab /\
  jZ ks σ1=aa σ'/\kO σ'=ab/\dY ks=ab/\(∀j,j<a->ks[j]?=aa j)
def BD(P:aO)(fn:Func)(a:Nat)(res:D)(σ':List bm):Post:=λe φ σ1 =>
 (e=.ret∨e=.normal)/\∃ks d ps,BC P fn φ d/\Ds d (iK ks res)=aa ps/\au ps/\vA ks.length res=ab /\
  jZ ks σ1=aa σ'/\kO σ'=ab/\dY ks=ab/\(∀j,j<a->ks[j]?=aa j)
def ck.toJ{fn:Func}{a:Nat}{res:D}{e:Exit}{σ1:List bm}(h:ck fn a res σ' e φ σ1):BD P fn a res σ' e φ σ1:=by obtain⟨c,ks,ds,d,ps,h1,h2,b⟩:=h;exact⟨c,ks,d,ps,BC.of h1 h2,b⟩
def dO.Jx{X:Cx P}{f:aK}{fn:Func}{args:List D}{σ':ι->List bm}(Y:P.funcs[f]?=aa fn)(K:(fn.name== "runtime.NumGoroutine")=ae)(hb:fn.body=aa c)(Z:args.length<=fn.ntmps)(h:∀s a,cr fn.ntmps σ s (jh 0 args) a->aD σ s->∀(b:aV) (k:List Item) (cs:List aV) (S:aq->St->Prop),b.kind≠.early->b.roundOf=af ->
  (∀e φ' σ1 s' a',(∃j,BD P fn σ.length (res j) (σ' j) e φ' σ1)->cr fn.ntmps σ1 s' φ' a'->aD σ1 s'->cR σ s σ1 s'->ends X S b k cs e a' s')->fy X S (G (b.aT a (.code c::k)) cs) s):dO X f args σ res σ':=by
 refine⟨⟨fn,Y,K,by grind⟩,λs vs hr hh S cs hS=>?_⟩;obtain⟨hl,hg⟩:=cn.get hr;let b:aV:={fn:=f,tmps:=#[],todo:=[],defers:=[],mode:=.run,kind:=.normal,roundOf:=af}
 have z:Frame.enter P f vs.toArray .normal=b.aT {tmps:=vs.toArray++Array.replicate (fn.ntmps-vs.toArray.size) ah,defers:=[]} [.code c]:=by simp[Frame.enter,Frame.aT,Y,hb,b]
 rw[z];refine h s {tmps:=vs.toArray++Array.replicate (fn.ntmps-vs.toArray.size) ah,defers:=[]} ⟨by grind,⟨[],ar⟩,λt=>?_⟩ hh b [] cs S (by simp[b]) rfl ?_
 .rw[nS];simp only[iT,bY,kZ];have:=hg t;rcases cG t vs.length with sS|SN
  .have e:(vs.toArray++Array.replicate (fn.ntmps-vs.toArray.size) ah).getD t ah=(vs[t]?).getD ah:=by simp only[dL];grind
   grind
  .rw[qQ (by omega)];trivial
 .rintro e φ' σ1 s1 a1 ⟨R,W,ks,d,ps,h1,h3,h4,h5,O,T,h8,h9⟩ f' Q st;obtain⟨h7,U⟩:=yx T;have fin:∀(fr:aV) s2,b6 s1 s2->fr.fn=f->fr.tmps=a1.tmps->fr.defers=a1.defers->fr.mode=.returning->fr.kind=.normal->fy X S (G fr cs) s2:=by
   intro fr s2 sO e1 e2 e3 e4 e5;have f2:=f'.rely sO Q;have n:=Q.rely sO;have g:=st.trans sO.stepW;obtain⟨v,r2,r1⟩:=h1 f2;obtain⟨i,r⟩:=zJ (l':=s2.β) O n.len;have r4:=(qW h3 h4 r2).sub O r h5;obtain⟨c1,c2⟩:=iB O;obtain⟨d1,d2⟩:=iB r;have I:∀L∈i,L∈s2.β:=zN r;have J:aD (σ' R) {s2 with β:=i}:=by obtain⟨N,_⟩:=n.sub O r h7 h8;refine⟨N.mem,N.len,λj B L H q=>?_,N.eZ,N.lt,λb hb=>⟨(n.own b hb).1,λL q=>(n.own b hb).2 L (I L q)⟩⟩;exact eK.plain (σ:=σ' R) (s:={s2 with β:=i,own:=zM s2 i}) (s':={s2 with β:=i}) rfl rfl (kt h7 B (bL H)) (N.box j B L H q)
   have V:cR σ s (σ' R) {s2 with β:=i}:=by refine⟨g.size,g.keep,g.mem,g.iO,λL q b hb=>g.uW _ (I L q) b hb,λl B L H q=>?_,g.os,g.tape,g.output,g.own⟩;have hl:l<σ.length:=(b8.1 H).1;obtain⟨B',L',p1,p2,p3⟩:=g.box l B L H q;grind
   obtain⟨ls,F⟩:=f2.defers;refine q8 ls fr s2 _ n.k7 (by simp) e4 (by rw[e3];exact F.taken n) λA m=>?_;have p:b6 {s2 with β:=i} {A with β:=i}:=by
    refine⟨rfl,m.M,m.own,m.size,λb hb=>m.keep b (hb.imp id ?_),m.mem,m.os,m.tape,m.output⟩;rintro⟨L,q,hb⟩;obtain⟨j,hj,rfl⟩:=dH q;have E:j<ks.length:=by grind
    obtain⟨y,y1,y2⟩:=d2 j _ (bg E);obtain⟨x,x1,x2⟩:=c2 j _ (bg E);rw[bg hj]at y1;cases y1;refine⟨_,_,y2,λhc=>?_,hb⟩;rw[F.BV _ hc]at x2;cases x2;exact mZ U _ (bL x1) rfl
   have hG:eO A {A with β:=i}:=⟨rfl,λ_ _ _ h=>h,λ_ _ _=>rfl,λb o v hv=>m.mem b o v (by rw[<-m.M];exact hv),λb hb=>hb.imp id λ⟨L,q,hb⟩=>⟨L,by rw[m.β];grind,hb⟩⟩
   refine .ghost hG (hS R _ v _ ⟨e1,e4,rfl,e5,fn,by grind,λw hw=>?_⟩ (r4.mono p.stepW.ext J.len) (J.rely p) (V.trans p.stepW));show(results fn fr.tmps).run P w=_/\∀e∈(results fn fr.tmps).events P w #[],_;rw[e2];have C:∀b o u,s2.M b o=aa u->w.cell? ⟨b,o,af⟩=aa u:=λb o u h=>hw b o u (by show A.M b o=aa u;rw[m.M];exact h);refine⟨(r1 w C).1,λe W=>?_⟩;obtain⟨b,o,u,q1,q2⟩:=(r1 w C).2 e W;exact⟨b,o,u,q1,by show A.M b o=aa u;rw[m.M];exact q2⟩
  rcases W with rfl|rfl
  .intro pre;exact .ctl Q rfl (λ_=>DD rfl) λs2 sO=>fin _ s2 sO rfl rfl (kK _) rfl rfl
  .exact .ctl Q rfl (λ_=>DF rfl) λs2 sO=>fin _ s2 sO rfl rfl (kK _) rfl rfl
def dO.Px{X:Cx P}{f:aK}{fn:Func}{args:List D}{σ':ι->List bm}(i:P.funcs[f]?=aa fn)(g:(fn.name== "runtime.NumGoroutine")=ae)(hb:fn.body=aa c)(d:args.length<=fn.ntmps)(h:∀s a,cr fn.ntmps σ s (jh 0 args) a->aD σ s->∀(b:aV) (k:List Item) (cs:List aV) (S:aq->St->Prop),b.kind≠.early->b.roundOf=af ->
  (∀e φ' σ1 s' a',(∃j,ck fn σ.length (res j) (σ' j) e φ' σ1)->cr fn.ntmps σ1 s' φ' a'->aD σ1 s'->cR σ s σ1 s'->ends X S b k cs e a' s')->fy X S (G (b.aT a (.code c::k)) cs) s):dO X f args σ res σ' :=
 dO.Jx i g hb d λs a f hh b k cs S h1 h2 hQ=>h s a f hh b k cs S h1 h2 λe φ' σ1 s' a' ⟨j,q⟩=>hQ e φ' σ1 s' a' ⟨j,q.toJ⟩
def dO.IL{X:Cx P}{f:aK}{fn:Func}{args:List D}{σ':ι->List bm}(i:P.funcs[f]?=aa fn)(d:(fn.name== "runtime.NumGoroutine")=ae)(hb:fn.body=aa c)(g:args.length<=fn.ntmps)(h:AW X fn.ntmps c (λe φ σ1=>∃j,BD P fn σ.length (res j) (σ' j) e φ σ1) (jh 0 args) σ):dO X f args σ res σ' :=
 dO.Jx i d hb g λs a f hh b k cs S l _ m=>h s a f hh b k cs S l m
def dO.intro{X:Cx P}{f:aK}{fn:Func}{args:List D}{σ':ι->List bm}(i:P.funcs[f]?=aa fn)(d:(fn.name== "runtime.NumGoroutine")=ae)(hb:fn.body=aa c)(g:args.length<=fn.ntmps)(h:AW X fn.ntmps c (λe φ σ1=>∃j,ck fn σ.length (res j) (σ' j) e φ σ1) (jh 0 args) σ):dO X f args σ res σ' :=
 dO.Px i d hb g λs a f hh b k cs S l _ m=>h s a f hh b k cs S l m
def Ev.intro{P:aO}{X:Cx P}{f:aK}{fn:Func}{c:Code}{args:List D}{σ σ':List bm}{res:D}(d:P.funcs[f]?=aa fn)(b:(fn.name== "runtime.NumGoroutine")=ae)(hb:fn.body=aa c)(a:args.length<=fn.ntmps)(h:AW X fn.ntmps c (ck fn σ.length res σ') (jh 0 args) σ):Ev X f args σ res σ' :=
 (dO.intro d b hb a (AW.mono h λ_ _ _ q=>⟨(),q⟩)).GP
inductive It where
 |code (c:Code)
 |blk (id:Nat)
 |ops (all rest:List aB)
def AK{P:aO}(X:Cx P)(N:Nat)(Qf:Post):List It->Post
 |[],e,φ,σ=>Qf e φ σ
 |.code c::K,.normal,φ,σ=>AW X N c (AK X N Qf K) φ σ
 |.code _::K,e,φ,σ=>AK X N Qf K e φ σ
 |.blk id::K,.exit Ir,φ,σ=>if Ir=id then AK X N Qf K .normal φ σ else AK X N Qf K (.exit Ir) φ σ
 |.blk _::K,e,φ,σ=>AK X N Qf K e φ σ
 |.ops all rest::K,.normal,φ,σ=>jm X N all rest (AK X N Qf K .normal) φ σ
 |.ops _ _::K,e,φ,σ=>AK X N Qf K e φ σ
section
variable {X:Cx P}{Qf:Post}{K:List It}
def AK.of_code(h:AK X N Qf [.code c] .normal φ σ):AW X N c Qf φ σ:=h
theorem AK.skip(h:AK X N Qf K .normal φ σ):AK X N Qf (.code .skip::K) .normal φ σ:=AW.skip h
theorem AK.seq{x y:Code}(h:AK X N Qf (.code x::.code y::K) .normal φ σ):AK X N Qf (.code (.seq x y)::K) .normal φ σ:=by refine AW.seq (AW.mono h ?_);intro e φ' σ' q;cases e<;>exact q
theorem AK.block{id:Nat}{c:Code}(h:AK X N Qf (.code c::.blk id::K) .normal φ σ):AK X N Qf (.code (.block id c)::K) .normal φ σ:=by refine AW.block (AW.mono h ?_);intro e φ' σ' q;cases e<;>exact q
theorem AK.Re{id:Nat}(h:AK X N Qf K .normal φ σ):AK X N Qf (.blk id::K) .normal φ σ:=h
theorem AK.region{id:Nat}{ops:Array aB}(h:AK X N Qf (.ops ops.toList ops.toList::K) .normal φ σ):AK X N Qf (.code (.region id ops ae)::K) .normal φ σ:=AW.region h
theorem AK.Rf(h:AK X N Qf K .normal φ σ):AK X N Qf (.ops all []::K) .normal φ σ:=jm.nil h
def AK.sd:∀{K:List It},Qf .ret φ σ->AK X N Qf K .ret φ σ
 |[],h=>h
 |.code _::K,h=>AK.sd (K:=K) h
 |.blk _::K,h=>AK.sd (K:=K) h
 |.ops _ _::K,h=>AK.sd (K:=K) h
def AK.ret(h:Qf .ret φ σ):AK X N Qf (.code .ret::K) .normal φ σ:=AW.ret (AK.sd h)
def kz(id:Nat):List It->Option (List It)
 |[]=>af
 |.blk i::K=>match av id i with|true=>aa K|false=>kz id K
 |_::K=>kz id K
def AK.wc{id:Nat}:∀{K a:List It},kz id K=aa a->AK X N Qf a .normal φ σ->AK X N Qf K (.exit id) φ σ
 |[],_,h,_=>by cases h
 |.blk i::K,a,h,q=>by
  simp only[kz]at h;cases hb:av id i with
  |true =>
   simp[hb]at h;subst h;have e:=b7 hb;simp only[AK,e,bY];exact q
  |false =>
   simp[hb]at h;have b:id≠i:=λe=>by grind[Nat.beq_refl]
   simp only[AK,b,bS];exact AK.wc h q
 |.code _::K,a,h,q=>AK.wc (K:=K) h q
 |.ops _ _::K,a,h,q=>AK.wc (K:=K) h q
theorem AK.exit{id:Nat}{a:List It}(b:kz id K=aa a)(h:AK X N Qf a .normal φ σ):AK X N Qf (.code (.exit id)::K) .normal φ σ:=AW.exit (AK.wc b h)
theorem AK.cond{c:aC}{x y:Code}{b:Bool}{t:Nat}(f:c=.tmp t)(hl:look φ t=.e (.one (.c (.bool b))))(a:b=ab->AK X N Qf (.code x::K) .normal φ σ)(d:b=ae->AK X N Qf (.code y::K) .normal φ σ):AK X N Qf (.code (.cond c x y)::K) .normal φ σ:=AW.cond f hl a d
def AK.loop{S:Type}{c:Code}(I:S->Prop)(fr:S->Fr)(st:S->List bm)(b:S->Nat)(x:S)(f:I x)(a:se φ (fr x))(d:st x=σ)(round:∀x,I x->AK X N (λe φ' σ'=>match e with
   |.normal=>∃y,I y/\b y<b x/\se φ' (fr y)/\σ'=st y
   |e=>AK X N Qf K e φ' σ') [.code c] .normal (fr x) (st x)):AK X N Qf (.code (.loop c)::K) .normal φ σ:=by refine AW.loop I fr st b x f a d λy g=>AW.mono (round y g) ?_;intro e φ' σ' q;cases e<;>exact q
end
def dt{α a:Type}:List α->(List α->Option a)->Option a
 |[],k=>k []
 |x::r,k=>dt r λq=>k (x::q)
theorem cW{a:Type}(l:List α)(k:List α->Option a):dt l k=k l:=by
 induction l generalizing k with
 |nil=>rfl
 |cons x r b=>simp[dt,b]
def Aa(φ:Fr)(all:List aB)(j:Nat):Option (Option Bool) :=
 match eD j all with
 |some oj=>match oj.dst with
  |some d=>match look φ d with
   |.e (.one (.c (.bool ab)))=>aa (aa ab)
   |.e (.one (.c (.bool ae)))=>aa (aa ae)
   |.fz []=>aa af
   |_=>af
  |none=>af
 |none=>af
def qi{r:Option Bool}(h:Aa φ all j=aa r){a:Act}(f:cr N σ s φ a):yielded all.toArray a.tmps j=r:=by
 unfold Aa at h;rw[e9]at h;unfold yielded;cases ho:all[j]? with
 |none=>grind
 |some oj =>
  simp only[ho]at h;simp only[hX,ho,mH];cases l:oj.dst with
  |none=>grind
  |some d =>
   simp only[l]at h;simp only[mH];have c:=f.slot d;have key:∀v,a.tmps.getD d ah=v->v≠ah->a.tmps[d]?=aa v:=by intro v e n;simp only[dL]at e;grind
   split at h
   .rename_i g;cases h;rw[g]at c;have b:=fI c;generalize e:a.tmps.getD d ah=v at b;cases b;rw[key _ e (by simp[ah])]
   .rename_i g;cases h;rw[g]at c;have b:=fI c;generalize e:a.tmps.getD d ah=v at b;cases b;rw[key _ e (by simp[ah])]
   .rename_i g;cases h;rw[g]at c;obtain⟨vs,m,k⟩:=c;have i:vs=[]:=by cases vs with
     |nil=>rfl
     |cons _ _=>exact k.elim
    subst i;simp only[dL]at m;grind
   grind
def VD(T:List (Nat×TI))(φ:Fr)(σ:List bm)(o:aB):Option (D×List bm×List Prop) :=
 match o.op with
 |.move x|.assign x=>aa (bO φ x,σ,[])
 |.pick c a b=>match bO φ c with
  |.e (.one (.c (.bool ab)))=>aa (bO φ a,σ,[])
  |.e (.one (.c (.bool ae)))=>aa (bO φ b,σ,[])
  |_=>af
 |.binOp op _ x y _=>match bO φ x,bO φ y with
  |.e (.one (.c a)),.e (.one (.c b))=>match M9 op a b with
   |some (c,obs)=>aa (.e (.one (.c c)),σ,obs)
   |none=>af
  |_,_=>af
 |.unOp op _ x=>match bO φ x with
  |.e (.one (.c a))=>match VC op a with
   |some c=>aa (.e (.one (.c c)),σ,[])
   |none=>af
  |_=>af
 |.extract x j=>match bO φ x with
  |.fz xs=>match eD j xs with
   |some e=>aa (.e e,σ,[])
   |none=>af
  |_=>af
 |.alloc E=>match bH T E with
  |some i=>dt (σ++[.cells E (i.zero.map A.c)]) λσ'=>aa (.e (.one (.ptr σ.length 0)),σ',[])
  |none=>af
 |.box E x=>match kN (bO φ x)with
  |some cs=>dt (σ++[.cells E cs]) λσ'=>aa (.e (.one (.ptr σ.length 0)),σ',[])
  |none=>af
 |.load t x=>match bH T t with
  |some i=>match bO φ x with
   |.e (.one (.ptr l off))=>match eD l σ with
    |some (.cells _ cs)=>match mM i (gZ off cs)with
     |some e=>aa (.e e,σ,[])
     |none=>af
    |_=>af
   |.e (.one (.c (.rp cs)))=>match mM i (cs.map A.c)with
    |some e=>aa (.e e,σ,[])
    |none=>af
   |_=>af
  |none=>af
 |.store t x y=>match bH T t with
  |some i=>match bO φ x with
   |.e (.one (.ptr l off))=>match eD l σ with
    |some (.cells E cs)=>match kN (bO φ y)with
     |some new=>match av new.length i.size with
      |true=>match fg off new cs with
       |some lY=>dt (ef.sV l (.cells E lY) σ) λσ'=>aa (.any,σ',[])
       |none=>af
      |false=>af
     |none=>af
    |_=>af
   |_=>af
  |none=>af
 |.fieldAddr t x f=>match jG T t f with
  |some (k,_)=>match bO φ x with
   |.e (.one (.ptr l off))=>aa (.e (.one (.ptr l (off+k))),σ,[])
   |.e (.one (.c (.rp cs)))=>aa (.e (.one (.c (.rp (gZ k cs)))),σ,[])
   |_=>af
  |none=>af
 |.field t x f=>match jG T t f with
  |some (k,j)=>match bO φ x with
   |.e (.agg cs)=>match mM j (gZ k cs)with
    |some e=>aa (.e e,σ,[])
    |none=>af
   |_=>af
  |none=>af
 |.nilCheck x=>match bO φ x with
  |.e (.one (.ptr l off))=>aa (.e (.one (.ptr l off)),σ,[])
  |.e (.one (.c (.rp cs)))=>aa (.e (.one (.c (.rp cs))),σ,[])
  |_=>af
 |.build t parts=>match z8 T (bO φ) t parts.toList with
  |some cs=>aa (.e (.agg cs),σ,[])
  |none=>af
 |.buildSlice t n parts=>match Na T (bO φ) t n parts.toList with
  |some (k,es)=>aa (.e (.one (.c (.sl ab k n λi=>es.getD i []))),σ,[])
  |none=>af
 |_=>af
theorem DU{T:List (Nat×TI)}(m:dg P T){x:D}(h:VD T φ σ o=aa (x,σ',obs))(ho:au obs):bE P o (bO φ) σ x σ':=by
 unfold VD at h;split at h
 .grind [bE.move]
 .grind [bE.assign]
 .rename_i c a b d;split at h
  .rename_i e;cases h;exact bE.pick d e
  .rename_i e;cases h;exact bE.pick d e
  grind
 .grind [bE.binOp]
 .grind [bE.unOp]
 .grind [bE.extract,c7]
 .grind [cW,bE.alloc]
 .grind [cW,bE.box]
 .rename_i t y d;split at h
  .grind [bE.FK,c7,bE.Ja]
  grind
 .rename_i t y z d;split at h
  .rename_i i hi;split at h
   .rename_i l off hx;split at h
    .grind [cW,k8,bE.store,c7,Nat.eq_of_beq_eq_true]
    grind
   grind
  grind
 .rename_i t y f d;split at h
  .rename_i k j g;split at h
   .rename_i l off hx;cases h;exact bE.r5 m d hx g
   .grind [bE.tT]
   grind
  grind
 .grind [bE.field]
 .grind [bE.tU,bE.vT]
 .grind [bE.build]
 .grind [bE.buildSlice]
 grind
def fE(N:Nat):Option Nat->Bool
 |some d=>bz (d+1) N
 |none=>ab
def gE{d:Option Nat}(h:fE N d=ab):∀t,d=aa t->t<N:=by intro t a;subst a;exact dM h
theorem dx(h:o.guard=af){a:Act}:aZ o (yielded all.toArray a.tmps)=ab:=by simp[aZ,h]
section
variable {T:List (Nat×TI)}
def uC(η:aC->D):Option aC->Option (Option Int)
 |none=>aa af
 |some x=>match η x with
  |.e (.one (.c (.int _ j)))=>aa (aa j)
  |_=>af
def iW{a:aC->aj}(d:∀y,dm σ s (a y) (η y)){x:Option aC}{b:Option Int}(h:uC η x=aa b):(x.map a=af/\b=af)∨∃k j,x.map a=aa (.int k j)/\b=aa j:=by
 cases x with
 |none=>cases h;grind
 |some y =>
  right;simp only[uC]at h;split at h
  .rename_i k j c;cases h;have:=d y;rw[c]at this;have:=fI this;generalize e:a y=v at this;cases this;grind
  grind
def cD(d:Nat):Option Int->Nat
 |none=>d
 |some j=>j.toNat
def gA(n:Nat):Option Int->Option Int->List Prop
 |none,af=>[]
 |some l,af=>[0<=l,l<=n]
 |none,aa h=>[0<=h,h<=n]
 |some l,aa h=>[0<=l,l<=h,h<=n]
def nQ{isS:Bool}{cap:Nat}(m:n<=cap){lo hi:Option aj}{l h:Option Int}(g:(lo=af/\l=af)∨∃k j,lo=aa (.int k j)/\l=aa j)(f:(hi=af/\h=af)∨∃k j,hi=aa (.int k j)/\h=aa j)(ho:au (gA n l h))(w:aA):(bh isS n cap lo hi af).run P w=.ok (cD 0 l,cD n h,cap) w/\cD 0 l<=cD n h/\cD n h<=n:=by
 rcases g with⟨rfl,rfl⟩|⟨d,l,rfl,rfl⟩<;>rcases f with⟨rfl,rfl⟩|⟨c,h,rfl,rfl⟩
 .exact⟨by simp[bh,cD],by simp[cD],by simp[cD]⟩
 .obtain⟨a,b⟩:0<=h/\h<=(n:Int):=ho;refine⟨?_,by simp[cD],by simp only[cD];omega⟩;simp[bh,cD,run_sliceBound (P:=P) w c h cap _ a (by omega)]
 .obtain⟨a,b⟩:0<=l/\l<=(n:Int):=ho;refine⟨?_,by simp only[cD];omega,by simp[cD]⟩;simp[bh,cD,run_sliceBound (P:=P) w d l n _ a b]
 .obtain⟨a,b,i⟩:0<=l/\l<=h/\h<=(n:Int):=ho;have e:((h.toNat:Nat):Int)=h:=zA (by omega);refine⟨?_,by simp only[cD];omega,by simp only[cD];omega⟩;simp[bh,cD,run_sliceBound (P:=P) w c h cap _ (by omega) (by omega),run_sliceBound (P:=P) w d l h.toNat _ a (by omega)]
def dX(w:aA)(k:IntKind)(i:Int)(y:Nat)(code:BoundsCode)(a:0<=i)(b:i<=(y:Int))(es:Array Event):(Instr.sliceBound (.int k i) y code).events P w es=es:=by simp[Instr.sliceBound,asIntOf,a,b]
def qc{isS:Bool}{cap:Nat}{lo hi:Option aj}{l h:Option Int}(p:n<=cap)(i:(lo=af/\l=af)∨∃k j,lo=aa (.int k j)/\l=aa j)(g:(hi=af/\h=af)∨∃k j,hi=aa (.int k j)/\h=aa j)(ho:au (gA n l h))(w:aA)(es:Array Event):(bh isS n cap lo hi af).events P w es=es:=by
 have o:∀(isS:Bool) (v:Option aj) (d:Nat) (w:aA) (es:Array Event),v=af->(bh isS n cap af af af).events P w es=es:=λisS v d w es _=>by simp[bh]
 rcases i with⟨rfl,rfl⟩|⟨f,l,rfl,rfl⟩<;>rcases g with⟨rfl,rfl⟩|⟨b,h,rfl,rfl⟩
 .simp[bh]
 .obtain⟨a,c⟩:0<=h/\h<=(n:Int):=ho;simp[bh,dX (P:=P) w b h cap _ a (by omega)]
 .obtain⟨a,c⟩:0<=l/\l<=(n:Int):=ho;simp[bh,dX (P:=P) w f l n _ a c]
 .obtain⟨a,c,m⟩:0<=l/\l<=h/\h<=(n:Int):=ho;have e:((h.toNat:Nat):Int)=h:=zA (by omega);simp[bh,run_sliceBound (P:=P) w b h cap _ (by omega) (by omega),dX (P:=P) w b h cap _ (by omega) (by omega),dX (P:=P) w f l h.toNat _ a (by omega)]
def rY(s:List UInt8):Option Int->Option Int->List UInt8
 |none,af=>s
 |some l,af=>s.drop l.toNat
 |none,aa h=>s.take h.toNat
 |some l,aa h=>(s.take h.toNat).drop l.toNat
theorem bE.I7(r:dg P T){lo hi:Option aC}(h:o.op=.slice t x lo hi af){i:TI}(k:bH T t=aa i)(y:i.desc=.string){s:List UInt8}{l u:Option Int}(v:η x=.e (.one (.c (.str s))))(hl:uC η lo=aa l)(p:uC η hi=aa u)(ho:au (gA s.length l u)):bE P o η σ (.e (.one (.c (.str (rY s l u))))) σ:=by
 refine .quiet λst ρ hh hr=>?_;have h1:=hr x;rw[v]at h1;replace h1:=fI h1;generalize g:ρ x=vx at h1;cases h1 with
 |@str sb _ q m =>
 have f:sb.size=s.length:=by rw[<-q];exact iY.symm
 obtain⟨hb,b,d⟩:=nQ (P:=P) (isS:=ae) (n:=sb.size) (cap:=sb.size) (ba _) (iW hr hl) (iW hr p) (by grind) st.w;have a:=(r t i k).run_underlying (w:=st.w);rw[y]at a;have j:=qc (P:=P) (isS:=ae) (n:=sb.size) (cap:=sb.size) (ba _) (iW hr hl) (iW hr p) (by grind) st.w;refine⟨.string (sb.extract (cD 0 l) (cD sb.size u)),?_,Rd.str ?_ ?_,by simp[ak,h,g,Instr.sliceAt,a,Instr.slice,j]⟩
 .simp[ak,h,g,Instr.sliceAt,a,Instr.slice,hb]
 .rw[Lib.extract_data,q,f];rw[f]at b d;cases l<;>cases u<;>simp only[rY,cD]at b d⊢
  .simp
  .simp
  .grind [List.take_of_length_le]
  .rw[List.drop_take]
 .cases l<;>cases u<;>simp only[rY,rE,List.length_take]<;>omega
def mN(l:Nat)(f:Nat->List C):Nat->List C:=λi=>f (l+i)
def QA(tt:Bool):Option Int->Bool
 |none=>tt
 |some _=>ae
theorem bE.Nk(q:dg P T){lo hi:Option aC}(h:o.op=.slice t x lo hi af){i ie:TI}(p:bH T t=aa i)(H:i.desc=.slice E)(z:bH T E=aa ie){tt:Bool}{l u:Option Int}(G:∀s v,dm σ s v (η x)->Rd s.M v (.sl tt ie.size n es))(hl:uC η lo=aa l)(y:uC η hi=aa u)(ho:au (gA n l u)):
  bE P o η σ (.e (.one (.c (.sl (QA tt u) ie.size (cD n u-cD 0 l) (mN (cD 0 l) es))))) σ:=by
 refine .quiet λst ρ hh hr=>?_;have h1:=G st _ (hr x);obtain⟨a,cap,vs,m,g,C,A,J,hm⟩:=h1.flat;rw[m]at h1;obtain⟨hb,B,D⟩:=nQ (P:=P) (isS:=ab) g (iW hr hl) (iW hr y) ho st.w;have d:=(q t i p).run_underlying (w:=st.w);rw[H]at d;refine⟨.slice (if cap=cD 0 l then a else a.map (·.add (cD 0 l*ie.size))) (cD n u-cD 0 l) (cap-cD 0 l),?_,?_,by simp[ak,h,m,Instr.sliceAt,d,Instr.slice,hb,qc (P:=P) (isS:=ab) g (iW hr hl) (iW hr y) ho st.w]⟩
 .simp[ak,h,m,Instr.sliceAt,d,Instr.slice,hb,(q E ie z).run_sizeOf]
 .cases h1 with
  |sl b off f _ _ _ I F hm' My =>
   refine Rd.sl b (off+cD 0 l*ie.size) (λi j=>f (cD 0 l+i) j) (by omega) (by omega) ?_ (λi hi=>I _ (by omega)) (λr=>?_) (λi hi j c hj=>?_) (λi hi j c hj=>My _ (by omega) j c hj)
   .intro k;cases u with
    |none=>simp only[QA]at k;have:=A k;simp only[cD];omega
    |some u=>cases k
   .rw[a9 (by omega),F (by omega)];simp[dr]
   .have:=hm' (cD 0 l+i) (by omega) j c hj;grind
def bE.Ni(l:dg P T){a dst:aw}(h:o.op=.convert a dst x){i i2:TI}{k k':IntKind}{j:Int}(hi:bH T a=aa i)(g:bH T dst=aa i2)(n:i2.desc=.int k')(m:η x=.e (.one (.c (.int k j))))(ho:bx k' j):
  bE P o η σ (.e (.one (.c (.int k' j)))) σ:=by refine .quiet λst ρ hh hr=>?_;have h1:=hr x;rw[m]at h1;replace h1:=fI h1;generalize f:ρ x=vx at h1;cases h1;have d:=(l a i hi).run_underlying (w:=st.w);have b:=(l dst i2 g).run_underlying (w:=st.w);rw[n]at b;exact⟨.int k' j,by simp[ak,h,f,convert,d,b,Conv.intToInt,md ho],Rd.int ho,by simp[ak,h,f,convert,d,b,Conv.intToInt]⟩
theorem bE.Nj(k:dg P T){a dst:aw}(h:o.op=.convert a dst x){i i2:TI}{s:List UInt8}(hi:bH T a=aa i)(j:bH T dst=aa i2)(m:i2.desc=.string)(l:η x=.e (.one (.c (.str s)))):
  bE P o η σ (.e (.one (.c (.str s)))) σ:=by refine .quiet λst ρ hh hr=>?_;have h1:=hr x;rw[l]at h1;have f:=fI h1;generalize g:ρ x=vx at f;cases f;have d:=(k a i hi).run_underlying (w:=st.w);have b:=(k dst i2 j).run_underlying (w:=st.w);rw[m]at b;exact⟨_,by simp[ak,h,g,convert,d,b];rfl,by grind,by simp[ak,h,g,convert,d,b]⟩
def vP(f:Nat->List C):Nat->Nat->Option (List UInt8)
 |_,0=>aa []
 |i,n+1=>match f i with
  |[.int .u8 v]=>match vP f (i+1) n with
   |some r=>aa (UInt8.ofNat v.toNat::r)
   |none=>af
  |_=>af
def yG{M:Mem}{f:Nat->List C}:∀{n i:Nat}{r:List UInt8}{vs:List aj},vP f i n=aa r->vs.length=n->(∀j,j<n->∀c,(f (i+j))[0]?=aa c->∃v,vs[j]?=aa v/\Rd M v c) ->
  ∃xs:List Int,vs=xs.map (Value.int .u8)/\r=xs.map (λx=>UInt8.ofNat x.toNat)
 |0,i,r,vs,h,a,_=>by cases h;exact⟨[],by grind,rfl⟩
 |n+1,i,r,[],h,a,_=>by grind
 |n+1,i,r,v::vs,h,a,d=>by
  simp only[vP]at h;split at h
  .rename_i x o;split at h
   .rename_i q g;cases h;obtain⟨u,b,e⟩:=d 0 (by omega) (.int .u8 x) (by grind)
    simp at b;subst b;cases e;obtain⟨xs,l,m⟩:=yG (vs:=vs) g (by grind) (λj k c p=>by
     have:=d (j+1) (by omega) c (by grind)
     simpa using this)
    exact⟨x::xs,by grind,by grind⟩
   grind
  grind
def oB{P:aO}(w:aA){F:aj->ByteArray->Sem (ForInStep ByteArray)}(a:∀x s,F (.int .u8 x) s=pure (.yield (s.push (UInt8.ofNat x.toNat)))):∀(xs:List Int)(s:ByteArray),
  (forIn (m:=Sem) (xs.map (Value.int .u8)) s F).run P w=.ok ⟨s.data++(xs.map λx=>UInt8.ofNat x.toNat).toArray⟩ w
 |[],s=>by simp
 |x::xs,s=>by simp only[jA,List.forIn_cons,a,bT,cV,cm];rw[oB w a xs];congr 2;apply Array.ext';simp[ByteArray.push]
end
def OA(X:Cx P)(N:Nat)(all:List aB)(o:aB)(φ:Fr)(σ:List bm)(x:D)(σ':List bm):Prop :=
 ∀s a,cr N σ s φ a->aD σ s->∀(b:aV) (k:List Item) (cs:List aV) (S:aq->St->Prop) (i:Nat) (rest:List Nat),b.kind≠.early->all.toArray[i]?=aa o ->
  (∀v s',dm σ' s' v x->aD σ' s'->cR σ s σ' s'->fy X S (G (b.aT (a.put o.dst v) (.inRegion all.toArray rest::k)) cs) s')->fy X S (G (b.aT a (.inRegion all.toArray (i::rest)::k)) cs) s
section
variable {X:Cx P}{φ':Fr}{x:D}
theorem OA.mT(q:∀σ s a,cr N σ s φ a->aZ o (yielded all.toArray a.tmps)=ab)(h:bE P o (bO φ) σ x σ'):OA X N all o φ σ x σ':=by
 intro s a f hh b k cs S i rest hb hi hK;refine Af hb hi (q _ _ _ f) λg d=>?_;have c:=hh.rely d;obtain⟨p,s',h1,h2,e,j,n⟩:=h g a.eval c (c8 (f.rely d hh));have m:=d.stepW.trans (j.ow c);have l:qS g s' ((ak a.eval o).events P g.w #[]):=⟨⟨σ,σ',c,e,j⟩,n⟩;cases p with
 |value v=>exact⟨_,s',v,h1,.inl rfl,l,hK v s' h2 e m⟩
 |skip=>simp only[Q4]at h2;subst h2;exact⟨_,s',ah,h1,.inr ⟨rfl,rfl⟩,l,hK ah s' ar e m⟩
 |_=>exact h2.elim
def OA.pass(d:∀σ s a,cr N σ s φ a->aZ o (yielded all.toArray a.tmps)=ae):OA X N all o φ σ (.fz []) σ:=by intro s a f hh b k cs S i rest hb hi hK;exact .ctl hh rfl (λ_=>MJ hi (d _ _ _ f)) λe c=>hK ah e ⟨[],rfl,ar⟩ (hh.rely c) c.stepW
def jm.An{Q:Fr->List bm->Prop}(h:OA X N all o φ σ x σ')(e:∀t,o.dst=aa t->t<N)(k:jm X N all rest Q (kp o.dst x φ) σ'):jm X N all (o::rest) Q φ σ:=by
 intro s a f hh b kk cs S idx hb iI hQ;cases idx with
 |nil=>exact iI.elim
 |cons i idx =>
 refine h s a f hh b kk cs S i idx hb iI.1 λv s' hv jq st=>k s' _ ?_ jq b kk cs S idx hb iI.2 λc σ2 s2 a2 q d h2 oE=>hQ c σ2 s2 a2 q d h2 (st.trans oE);cases g:o.dst with
 |none=>exact f.mono st hh.len
 |some t=>exact(f.mono st hh.len).put (e t g) hv
end
abbrev dz:=List D->List bm->Option (D×List bm×List Prop)
def yz:List (Nat×dz)->Nat->Option dz
 |[],_=>af
 |(i,g)::r,f=>cond (av i f) (aa g) (yz r f)
def dK(X:Cx P)(f:aK)(g:dz):Prop:=∀args σ res σ' obs,g args σ=aa (res,σ',obs)->au obs->Ev X f args σ res σ'
def bG(X:Cx P)(CT:List (Nat×dz)):Prop:=∀f g,yz CT f=aa g->dK X f g
def bG.nil{X:Cx P}:bG X []:=λ_ _ h=>by cases h
def bG.cons{X:Cx P}{f:aK}{g:dz}{CT:List (Nat×dz)}(h:dK X f g)(r:bG X CT):bG X ((f,g)::CT):=by
 intro a g2 h2;simp only[yz]at h2;cases hb:av f a with
 |true=>grind[Nat.eq_of_beq_eq_true]
 |false=>rw[hb]at h2;exact r a g2 h2
def YO:A->List Nat->List Nat
 |.ptr l _,ks=>cond (g9 l ks) ks (ks++[l])
 |.vec l _ _ _,ks=>cond (g9 l ks) ks (ks++[l])
 |.ref l,ks=>cond (g9 l ks) ks (ks++[l])
 |.bp l _,ks=>cond (g9 l ks) ks (ks++[l])
 |_,ks=>ks
def YP:List A->List Nat->List Nat
 |[],ks=>ks
 |a::r,ks=>YP r (YO a ks)
def bxD:D->List Nat->List Nat
 |.e (.one a),ks=>YO a ks
 |.e (.agg cs),ks=>YP cs ks
 |_,ks=>ks
def TZ:List D->List Nat->List Nat
 |[],ks=>ks
 |a::r,ks=>TZ r (bxD a ks)
def BJ(l:Nat):List Nat->Nat->Option Nat
 |[],_=>af
 |k::r,i=>match av k l with|true=>aa i|false=>BJ l r (i+1)
def sh{l:Nat}:∀{ks:List Nat}{i j:Nat},BJ l ks i=aa j->i<=j/\ks[j-i]?=aa l
 |[],_,_,h=>by cases h
 |k::r,i,j,h=>by
  simp only[BJ]at h;cases a:av k l with
  |true=>rw[a]at h;cases h;exact⟨ba _,by grind[Nat.eq_of_beq_eq_true]⟩
  |false =>
   rw[a]at h;obtain⟨b,c⟩:=sh h;grind
def SR(ks:List Nat):A->Option A
 |.ptr l o=>match BJ l ks 0 with|some i=>aa (.ptr i o)|none=>af
 |.ref l=>match BJ l ks 0 with|some i=>aa (.ref i)|none=>af
 |.bp l w=>match BJ l ks 0 with|some i=>aa (.bp i w)|none=>af
 |.vec _ _ _ _=>af
 |.c x=>aa (.c x)
 |.any=>aa .any
def VL(ks:List Nat):List A->Option (List A)
 |[]=>aa []
 |a::r=>match SR ks a with
  |some b=>match VL ks r with
   |some q=>aa (b::q)
   |none=>af
  |none=>af
def Xd(ks:List Nat):D->Option D
 |.e (.one a)=>match SR ks a with|some b=>aa (.e (.one b))|none=>af
 |.e (.agg cs)=>match VL ks cs with|some b=>aa (.e (.agg b))|none=>af
 |.fz _=>af
 |.any=>aa .any
def G8(ks:List Nat):List D->Option (List D)
 |[]=>aa []
 |a::r=>match Xd ks a with
  |some b=>match G8 ks r with
   |some q=>aa (b::q)
   |none=>af
  |none=>af
def JC{ks:List Nat}{a b:A}(h:SR ks a=aa b):oH ks b=a/\GO ks.length b=ab:=by
 cases a with
 |ptr l o =>
  simp only[SR]at h;split at h
  .rename_i i hi;cases h;obtain⟨_,d⟩:=sh hi;simp only[kZ]at d;have e:i<ks.length:=(b8.1 d).1;exact⟨by simp[oH,e9,d],rA e⟩
  grind
 |ref l =>
  simp only[SR]at h;split at h
  .rename_i i hi;cases h;obtain⟨_,d⟩:=sh hi;simp only[kZ]at d;have e:i<ks.length:=(b8.1 d).1;exact⟨by simp[oH,e9,d],rA e⟩
  grind
 |bp l w =>
  simp only[SR]at h;split at h
  .rename_i i hi;cases h;obtain⟨_,d⟩:=sh hi;simp only[kZ]at d;have e:i<ks.length:=(b8.1 d).1;exact⟨by simp[oH,e9,d],rA e⟩
  grind
 |vec l k n es=>cases h
 |c x=>cases h;exact⟨rfl,rfl⟩
 |any=>cases h;exact⟨rfl,rfl⟩
def JD{ks:List Nat}:∀{a b:List A},VL ks a=aa b->Bw ks b=a/\Fy ks.length b=ab
 |[],b,h=>by cases h;exact⟨rfl,rfl⟩
 |a::r,b,h=>by
  simp only[VL]at h;split at h
  .rename_i x f;split at h
   .rename_i q i;cases h;obtain⟨g,c⟩:=JC f;obtain⟨d,e⟩:=JD i;exact⟨by simp[Bw,g,d],by simp[Fy,c,e]⟩
   grind
  grind
def Q5{ks:List Nat}{a b:D}(h:Xd ks a=aa b):iK ks b=a/\vA ks.length b=ab:=by
 unfold Xd at h;split at h
 .rename_i a;split at h
  .rename_i x e;cases h;obtain⟨c,d⟩:=JC e;exact⟨by simp[iK,zK,c],by simp[vA,II,d]⟩
  grind
 .rename_i cs;split at h
  .rename_i x e;cases h;obtain⟨c,d⟩:=JD e;exact⟨by simp[iK,zK,c],by simp[vA,II,d]⟩
  grind
 .cases h
 .cases h;exact⟨rfl,rfl⟩
def FY{ks:List Nat}:∀{a b:List D},G8 ks a=aa b->gG ks b=a/\lZ ks.length b=ab
 |[],b,h=>by cases h;exact⟨rfl,rfl⟩
 |a::r,b,h=>by
  simp only[G8]at h;split at h
  .rename_i x f;split at h
   .rename_i q i;cases h;obtain⟨g,c⟩:=Q5 f;obtain⟨d,e⟩:=FY i;exact⟨by simp[gG,g,d],by simp[lZ,c,e]⟩
   grind
  grind
def I5(CT:List (Nat×dz))(φ:Fr)(σ:List bm)(fo:aC)(xs:List aC):Option (D×List bm×List Prop) :=
 match en (bO φ fo)with
 |none=>af
 |some (f,cap)=>match yz CT f with
  |none=>af
  |some g =>
   let args:=ox (xs.map (bO φ)++fD cap);let ks:=TZ args []
   match G8 ks args with
   |none=>af
   |some cu=>match jZ ks σ with
    |none=>af
    |some σs=>match g cu σs with
     |none=>af
     |some (res,σ1,obs)=>match cK σs,cK σ1,dY ks,bz ks.length σ1.length with
      |true,ab,ab,ab=>aa (iK (ks++lG σ.length (σ1.length-ks.length)) res,ef ks σ1 σ,obs)
      |_,_,_,_=>af
theorem OA.Pz{X:Cx P}{CT:List (Nat×dz)}(hC:bG X CT)(J:∀σ s a,cr N σ s φ a->aZ o (yielded all.toArray a.tmps)=ab)(ho:o.op=.call {callee:=.value fo,args:=xs,argTypes:=jP}){f:aK}(v:en (bO φ fo)=aa (f,cap)){g:dz}(F:yz CT f=aa g){ks:List Nat}{σ1:List bm}{res:D}(A:G8 ks (ox (xs.toList.map (bO φ)++fD cap))=aa cu)(B:jZ ks σ=aa σs)(q:g cu σs=aa (res,σ1,obs))(I:cK σs=ab)(E:cK σ1=ab)(H:dY ks=ab)(y:ks.length<=σ1.length)(n:au obs):OA X N all o φ σ (iK (ks++lG σ.length (σ1.length-ks.length)) res) (ef ks σ1 σ):=by
 obtain⟨k,z⟩:=FY A;intro s a m hh b kk cs S i rest hb hi hK;have t:=hC f g F _ _ _ _ _ q n;have r:=c8 m fo;unfold en at v;split at v
 case h_2=>cases v
 case h_1 f' Iw he =>
  cases v;rw[he]at r;have h:=fI r;generalize G:a.eval fo=fv at h;cases h with
  |fn fs lY hl Dr f1 f2 h1 h2 r1 r2 =>
   have C:fs=[]:=jr hl;subst C;have l:cn σ s lY (fD cap):=lB (λj c hj=>⟨f2 j,h2 j (by grind),r2 j c hj⟩) Dr;have u:cn σ s (xs.toList.map a.eval++lY) (gG ks cu):=by rw[k];exact rR ((nL (c8 m) xs.toList).append l)
   obtain⟨fn,p,e,d⟩:=t.1;exact IK hb hi (J _ _ _ m) hh (λw=>(gK ho p e d G w).1) (λw=>(gK ho p e d G w).2) t u z B I E H y hK
theorem OA.call{X:Cx P}{CT:List (Nat×dz)}(hC:bG X CT){x:D}(e:∀σ s a,cr N σ s φ a->aZ o (yielded all.toArray a.tmps)=ab)(ho:o.op=.call {callee:=.value fo,args:=xs,argTypes:=jP})(b:I5 CT φ σ fo xs.toList=aa (x,σ',obs))(c:au obs):OA X N all o φ σ x σ':=by
 unfold I5 at b;split at b
 .cases b
 rename_i f cap hf;split at b
 .cases b
 rename_i g d;simp only at b;split at b
 .cases b
 grind[OA.Pz,Nat.le_of_ble_eq_true]
def BX{d:D}(h:vA 0 d=ab):iK [] d=d:=by
 have g:∀{a:A},GO 0 a=ab->oH [] a=a:=by intro a b;cases a<;>simp only[GO]at b<;>first|rfl|(simp at b)
 have j:∀{l:List A},Fy 0 l=ab->Bw [] l=l:=by
  intro l;induction l with
  |nil=>intro _;rfl
  |cons a r f =>
   intro h;simp only[Fy]at h;cases b:GO 0 a with
   |false=>grind
   |true=>simp only[b]at h;simp[Bw,g b,f h]
 have i:∀{a:E1},II 0 a=ab->zK [] a=a:=by
  intro a b;cases a with
  |one a=>simp[zK,g b]
  |agg cs=>simp[zK,j b]
 have c:∀{l:List E1},xS 0 l=ab->yp [] l=l:=by
  intro l;induction l with
  |nil=>intro _;rfl
  |cons a r f =>
   intro h;simp only[xS]at h;cases b:II 0 a with
   |false=>grind
   |true=>simp only[b]at h;simp[yp,i b,f h]
 cases d with
 |e x=>simp[iK,i h]
 |fz xs=>simp[iK,c h]
 |any=>rfl
def BG(CT:List (Nat×dz))(φ:Fr)(fo:aC)(xs:List aC):Option (D×List Prop) :=
 match en (bO φ fo)with
 |none=>af
 |some (f,cap)=>match yz CT f with
  |none=>af
  |some g=>match G8 [] (ox (xs.map (bO φ)++fD cap))with
   |none=>af
   |some cu=>match g cu []with
    |some (res,[],obs)=>match vA 0 res with
     |true=>aa (res,obs)
     |false=>af
    |_=>af
theorem OA.BG{P:aO}{X:Cx P}{N:Nat}{all:List aB}{φ:Fr}{σ:List bm}{o:aB}{CT:List (Nat×dz)}(hC:bG X CT){fo:aC}{xs:Array aC}{jP:Array aw}{x:D}{obs:List Prop}(h:∀σ s a,cr N σ s φ a->aZ o (yielded all.toArray a.tmps)=ab)(ho:o.op=.call {callee:=.value fo,args:=xs,argTypes:=jP})(b:AM.BG CT φ fo xs.toList=aa (x,obs))(c:au obs):OA X N all o φ σ x σ:=by
 unfold AM.BG at b;split at b
 .cases b
 rename_i f cap hf;split at b
 .cases b
 rename_i g d;split at b
 .cases b
 rename_i cu hun;split at b
 case h_2=>cases b
 rename_i res abl Xe;split at b
 case h_2=>cases b
 rename_i e;cases b;have:=OA.Pz (σ:=σ) hC h ho hf d hun rfl Xe rfl rfl rfl (ba _) c;simpa[lG,BX e,ef]using this
structure Il(N:Nat)(σ:List bm)(s:St)(V:Nat->D)(a:Act):Prop where
 size:a.tmps.size=N
 defers:∃ls,oI σ s a.defers ls
 slot:∀t,dm σ s (a.tmps.getD t ah) (V t)
def Il.IS{V:Nat->D}{a:Act}(f:Il N σ s V a)(h:∀t σ s v,dm σ s v (V t)->dm σ s v (look φ t)):cr N σ s φ a :=
 ⟨f.size,f.defers,λt=>h t _ _ _ (f.slot t)⟩
def dh(e:Edge):Bool:=Region.binds .any e
structure vH{P:aO}(X:Cx P)(N:Nat)(ops:Array aB)(φ:Fr)(S:Nat->List bm)(x:Nat->D)(m:Nat->Fr)(free c:Nat->Bool)(p:Nat->Nat->Prop)(idx:Nat->Option Nat)(φ':Fr):Prop where
 dn:P.follows Departure.mixedOrders=ab
 back:∀i o,ops[i]?=aa o->∀e∈o.after,dh e=ab->e.on<i
 IT:∀i o d,ops[i]?=aa o->o.dst=aa d->idx d=aa i/\d<N
 xU:∀d i,idx d=aa i->∃o,ops[i]?=aa o/\o.dst=aa d
 quiet:∀i,c i=ae->S (i+1)=S i
 one:∀i o,ops[i]?=aa o->free i=ae->OA X N ops.toList o (m i) (S i) (x i) (S (i+1))
 all:∀i o,ops[i]?=aa o->free i=ab->c i=ae/\∀k,OA X N ops.toList o (m i) (S k) (x i) (S k)
 cl:∀L:Nat->Prop,(∀i o,ops[i]?=aa o->L i->∀e∈o.after,dh e=ab->L e.on)->∀i j,p i j->(L i->L j)/\∃o,ops[i]?=aa o/\((∀e∈o.after,dh e=ab->L e.on)->L j)
 comp:∀i f,i<ops.size->f<ops.size->c f=ab->i≠f->free i=ae->(f<i/\p i f)∨(i<f/\p f i)
 SJ:∀i o,ops[i]?=aa o->∀t σ s v,dm σ s v (match idx t with|some j=>(if ∃e∈o.after,dh e=ab/\e.on=j then x j else if ∃oj,ops[j]?=aa oj/\∃e∈oj.after,dh e=ab/\e.on=i then look φ t else .any)|none=>look φ t)->dm σ s v (look (m i) t)
 fin:∀t σ s v,dm σ s v (match idx t with|some j=>x j|none=>look φ t)->dm σ s v (look φ' t)
open Classical in
noncomputable def fX(φ:Fr)(x:Nat->D)(idx:Nat->Option Nat)(L:Array Bool)(t:Nat):D :=
 match idx t with
 |some j=>if L.getD j ae=ab then x j else look φ t
 |none=>look φ t
theorem mem_ready:i∈aY .any ops L↔∃o,ops[i]?=aa o/\L.getD i ab=ae/\∀e∈o.after,dh e=ab->L.getD e.on ae=ab:=by
 unfold aY;simp only[hZ,rH,bR,iZ];constructor
 .rintro⟨b,d,a⟩;rw[fN b]at a;simp only[mI,ga,Array.all_eq_true',mK,iZ]at a;refine⟨ops[i],fN b,d,λe j g=>?_⟩;rcases a e j with h|h
  .unfold dh at g;grind
  grind
 .rintro⟨o,b,d,a⟩;have f:i<ops.size:=(fb.1 b).1;refine⟨f,d,?_⟩;rw[b];simp only[mI,ga,Array.all_eq_true',mK,iZ];intro e j;cases g:Region.binds .any e with
  |false=>grind
  |true=>exact .inr (a e j g)
section
variable {X:Cx P}{φ':Fr}{S:Nat->List bm}{x:Nat->D}{m:Nat->Fr}{free c:Nat->Bool}{p:Nat->Nat->Prop}{idx:Nat->Option Nat}
def vH.chain(h:vH X N ops φ S x m free c p idx φ'){i:Nat}:∀{k:Nat},i<=k->(∀g,i<=g->g<k->c g=ae)->S k=S i
 |0,b,_=>by grind
 |k+1,b,a=>by
  rcases cG k i with hl|hl
  .grind
  .rw[h.quiet k (a k hl (by omega)),h.chain (k:=k) hl (λg h1 h2=>a g h1 (by omega))]
def vH.last(h:vH X N ops φ S x m free c p idx φ')(l:∀i,i<ops.size->L.getD i ae=ab){s0:St}{a:Act}(n:k<=ops.size)(q:∀f,f<ops.size->c f=ab->(L.getD f ae=ab↔f<k))(b:Il N (S k) s (fX φ x idx L) a)(hh:aD (S k) s)(st:cR (S 0) s0 (S k) s):
  cr N (S ops.size) s φ' a/\aD (S ops.size) s/\cR (S 0) s0 (S ops.size) s:=by
 have d:S ops.size=S k:=h.chain n (λg h1 h2=>by grind)
 rw[<-d]at b hh st;refine⟨b.IS λt σ s v e=>h.fin t σ s v ?_,hh,st⟩;unfold fX at e;cases hi:idx t with
 |none=>grind
 |some j =>
  simp only[hi]at e⊢;obtain⟨o,ho,_⟩:=h.xU _ _ hi;grind
theorem eC(hi:i<L.size):(L.setIfInBounds i ab).getD j ae=ab↔j=i∨L.getD j ae=ab:=by simp only[dL];grind
theorem count_set:∀{l:List Bool}{i:Nat},l[i]?=aa ae->((l.set i ab).filter (λb=>!b)).length+1=(l.filter (λb=>!b)).length
 |[],_,h=>by grind
 |b::r,0,h=>by grind
 |b::r,i+1,h=>by simp at h;have:=count_set (l:=r) h;cases b<;>simp[List.set_cons_succ]<;>omega
theorem vI(t:Nat)(L:Array Bool):Region.linearise.go .any ops 0 t L []=[]:=by simp[Region.linearise.go]
theorem o8(n t:Nat)(L:Array Bool):Region.linearise.go .any ops (n+1) t L []=match(aY .any ops L)[t % (aY .any ops L).length]? with
  |some i=>i::Region.linearise.go .any ops n (t / (aY .any ops L).length) (L.setIfInBounds i ab) []
  |none=>[]:=by
 simp only[Region.linearise.go]
 change (match(aY .any ops L)[t % (aY .any ops L).length]? with
   |some i=>Region.linearise.go .any ops n (t / (aY .any ops L).length) (L.setIfInBounds i ab) [i]
   |none=>[].reverse)=_
 grind[linearise_go_acc]
def vH.arr(h:vH X N ops φ S x m free c p idx φ'){SS:aq->St->Prop}{b:aV}{kk:List Item}(hb:b.kind≠.early){s0:St}(hQ:∀s a,cr N (S ops.size) s φ' a->aD (S ops.size) s->cR (S 0) s0 (S ops.size) s->fy X SS (G (b.aT a kk) cs) s):
  ∀(l:Nat) (L:Array Bool),L.size=ops.size->(L.toList.filter (λb=>!b)).length<=l ->
   (∀i o,ops[i]?=aa o->L.getD i ae=ab->∀e∈o.after,dh e=ab->L.getD e.on ae=ab) ->
   ∀(k:Nat) (s:St) (a:Act),k<=ops.size->(∀f,f<ops.size->c f=ab->(L.getD f ae=ab↔f<k))->Il N (S k) s (fX φ x idx L) a->aD (S k) s->cR (S 0) s0 (S k) s ->
   ∀t,fy X SS (G (b.aT a (.inRegion ops (Region.linearise.go .any ops l t L [])::kk)) cs) s:=by
 have fin:∀(s:St) (a:Act),cr N (S ops.size) s φ' a->aD (S ops.size) s->cR (S 0) s0 (S ops.size) s->fy X SS (G (b.aT a (.inRegion ops []::kk)) cs) s :=
  λs a a1 a2 a3=>.ctl a2 rfl (λ_=>iQ) λs1 M=>hQ s1 a (a1.rely M a2) (a2.rely M) (a3.trans M.stepW)
 intro l;induction l with
 |zero =>
  intro L hs hf V k s a W E q hh st;have B:∀i,i<ops.size->L.getD i ae=ab:=by
   intro i hi;have hm:L[i]'(by omega)∈L.toList:=by simp
   cases hb:L[i]'(by omega)with
   |true=>simp[dL,fN (by omega:i<L.size),hb]
   |false =>
    have:L[i]'(by omega)∈L.toList.filter (λb=>!b):=hZ.2 ⟨hm,by grind⟩;grind
  intro t;rw[vI];obtain⟨a1,a2,a3⟩:=h.last B W E q hh st;grind
 |succ l ih =>
  intro L hs hf V k s a W E q hh st;intro t;rw[o8];cases Wf:(aY .any ops L)[t % (aY .any ops L).length]? with
  |none =>
   have hr:aY .any ops L=[]:=by
    cases hr:aY .any ops L with
    |nil=>rfl
    |cons y ys =>
     grind[Nat.mod_lt]
   have B:∀i,i<ops.size->L.getD i ae=ab:=by
    intro i;induction i using Nat.strongRecOn with
    |_ i ihi =>
     intro hi;cases hb:L.getD i ae with
     |true=>rfl
     |false =>
      have hm:i∈aY .any ops L:=mem_ready.2 ⟨ops[i],fN hi,by
       grind,λe U hbe=>by
       have:=h.back i _ (fN hi) e U hbe
       grind⟩
      grind
   obtain⟨a1,a2,a3⟩:=h.last B W E q hh st;grind
  |some i =>
   have hi:=bL Wf;obtain⟨o,ho,Vz,M5⟩:=mem_ready.1 hi;have R:i<ops.size:=(fb.1 ho).1;have I:¬L.getD i ae=ab:=by grind
   have Wh:=h.cl (λj=>L.getD j ae=ab) V;have Yk:∀g,p g i->¬L.getD g ae=ab:=λg hg hL=>I ((Wh g i hg).1 hL);have hup:∀g,p i g->L.getD g ae=ab:=λg hg=>by grind
   have F:(L.setIfInBounds i ab).size=ops.size:=by grind
   have C:((L.setIfInBounds i ab).toList.filter (λb=>!b)).length<=l:=by
    have h1:L.toList[i]?=aa ae:=by rw[zv,fN (by omega:i<L.size)];simpa[dL,fN (by omega:i<L.size)]using I
    grind[count_set]
   have Wi:∀j o',ops[j]?=aa o'->(L.setIfInBounds i ab).getD j ae=ab->∀e∈o'.after,dh e=ab->(L.setIfInBounds i ab).getD e.on ae=ab:=by grind[eC]
   have hfi:cr N (S k) s (m i) a:=q.IS λt σ s v T=>h.SJ i o ho t σ s v (by
    unfold fX at T;cases u:idx t with
    |none=>grind
    |some j =>
     simp only[u]at T⊢;split
     .grind
     .split
      .grind
      .trivial)
   have Q:∀(σ':List bm) (s':St) (v:aj),cR (S k) s σ' s'->dm σ' s' v (x i)->Il N σ' s' (fX φ x idx (L.setIfInBounds i ab)) (a.put o.dst v):=by
    intro σ' s' v r T;cases hd:o.dst with
    |none =>
     refine⟨q.size,q.defers.imp λ_ h1=>h1.mono r.ext,λt=>?_⟩;have z:=(q.slot t).mono r.ext hh.len;simp only[Act.put];unfold fX at z⊢;cases u:idx t with
     |none=>grind
     |some j =>
      simp only[u]at z⊢;obtain⟨oj,Wj,Wk⟩:=h.xU _ _ u;grind[eC]
    |some d =>
     obtain⟨hid,hdN⟩:=h.IT i o d ho hd;refine⟨by simp[Act.put,q.size],q.defers.imp λ_ h1=>h1.mono r.ext,λt=>?_⟩;simp only[Act.put];by_cases e:d=t
     .subst e;have Yl:d<a.tmps.size:=by rw[q.size];exact hdN
      simp only[dL,vm Yl,ga];unfold fX;simp only[hid];rw[br ((eC (by omega)).2 (.inl rfl))];exact T
     .have z:=(q.slot t).mono r.ext hh.len;simp only[dL]at z⊢;rw[nE e];unfold fX at z⊢;cases u:idx t with
      |none=>grind
      |some j =>
       simp only[u]at z⊢;obtain⟨oj,Wj,Wk⟩:=h.xU _ _ u;grind[eC]
   have A:∀(k':Nat),k'<=ops.size->OA X N ops.toList o (m i) (S k) (x i) (S k')->(∀f,f<ops.size->c f=ab->((L.setIfInBounds i ab).getD f ae=ab↔f<k')) ->
     fy X SS (G (b.aT a (.inRegion ops (i::Region.linearise.go .any ops l (t / (aY .any ops L).length) (L.setIfInBounds i ab) [])::kk)) cs) s:=by intro k' Yh hoa Wl;have:=hoa s a hfi hh b kk cs SS i (Region.linearise.go .any ops l (t / (aY .any ops L).length) (L.setIfInBounds i ab) []) hb (by grind);simp only[qR]at this;exact this λv s' T jq r=>ih _ F C Wi k' s' _ Yh Wl (Q _ _ _ r T) jq (st.trans r) _
   have same:c i=ae->∀f,f<ops.size->c f=ab->((L.setIfInBounds i ab).getD f ae=ab↔f<k):=by grind[eC]
   cases n:free i with
   |true =>
    obtain⟨hq,Z⟩:=h.all i o ho n;exact A k W (Z k) (same hq)
   |false =>
    have w:=h.one i o ho n;have H:S i=S k:=by
     rcases Nat.le_total k i with O|O
     .refine h.chain O λg h1 h2=>?_;cases U:c g with
      |false=>rfl
      |true =>
       exfalso;rcases h.comp i g R (by omega) U (by omega) n with⟨_,Y⟩|⟨Y,_⟩
       .grind
       .omega
     .refine(h.chain O λg h1 h2=>?_).symm;cases U:c g with
      |false=>rfl
      |true =>
       exfalso;have hLg:=(E g (by omega) U).2 h2;by_cases Qv:g=i
       .grind
       .rcases h.comp i g R (by omega) U (λe=>Qv e.symm) n with⟨Y,_⟩|⟨_,Y⟩
        .omega
        grind
    rw[H]at w;cases K:c i with
    |false =>
     rw[h.quiet i K,H]at w;exact A k W w (same K)
    |true =>
     refine A (i+1) (by omega) w λf SK Ym=>?_;rw[eC (by omega)];by_cases J:f=i
     .grind
     .simp only[J,false_or];rcases h.comp i f R SK Ym (λe=>J e.symm) n with⟨h1,Y⟩|⟨h1,Y⟩
      .grind
      grind
end
def JL(P:aO):List TypeDesc->List Field->Nat->Prop
 |[],[],_=>True
 |d::ds,f::fs,i=>f.name≠ "_"/\f.offset=i/\P.underlying f.type=aa d/\(match d with|.int _|.string|.bool=>True|_=>False)/\JL P ds fs (i+1)
 |_,_,_=>False
def T2(d:Nat)(xs ys:Array aj)(f:Field)(_:Option Bool×Unit):Sem (ForInStep (Option Bool×Unit)) :=
 if f.name= "_" then pure (ForInStep.yield (af,()))
 else do
  let a<-part f.type xs f.offset;let b<-part f.type ys f.offset;let r<-Op.equalIn d f.type a b
  if r=ae then pure (ForInStep.done (aa ae,()))else pure (ForInStep.yield (af,()))
def si{P:aO}(w:aA)(d:Nat)(xs ys:Array aj):∀{ds:List TypeDesc}{fs:List Field}{i:Nat}{vs ws:List aj}{b:Bool},JL P ds fs i->jJ ds vs ws=aa b->(∀j v,vs[j]?=aa v->xs[i+j]?=aa v)->(∀j v,ws[j]?=aa v->ys[i+j]?=aa v) ->
  (Op.eqFields (d+1) xs ys fs).run P w=.ok b w/\∀es,(forIn fs (af,()) (T2 (d+1) xs ys)).events P w es=es
 |[],[],i,[],[],b,_,h,_,_=>by cases h;simp[Op.eqFields]
 |[],[],i,_::_,_,b,_,h,_,_=>by cases h
 |[],[],i,[],_::_,b,_,h,_,_=>by cases h
 |[],_::_,i,_,_,b,p,_,_,_=>p.elim
 |_::_,[],i,_,_,b,p,_,_,_=>p.elim
 |t::ds,f::fs,i,[],_,b,_,h,_,_=>by cases h
 |t::ds,f::fs,i,_::_,[],b,_,h,_,_=>by cases h
 |t::ds,f::fs,i,v::vs,u::us,b,⟨A,B,o,F,G⟩,h,y,D=>by
  simp only[jJ]at h;cases k:rf t v u with
  |none=>grind
  |some a =>
   cases x:jJ ds vs us with
   |none=>grind
   |some b' =>
    simp[k,x]at h;subst h;obtain⟨H,s⟩:=si w d xs ys G x (λj v E=>by have:=y (j+1) v (by grind);grind) (λj v E=>by have:=D (j+1) v (by grind);grind);have c:xs[i]?=aa v:=by simpa using y 0 v rfl
    have e:ys[i]?=aa u:=by simpa using D 0 u rfl
    have l:(isAgg f.type).run P w=.ok ae w:=by unfold isAgg underlying;cases t<;>simp at F<;>simp[o]
    have n:∀(g:Array aj) (z:aj),g[i]?=aa z->(part f.type g f.offset).run P w=.ok z w:=by intro g z q;unfold part;simp[l,B,q]
    have m:∀(g:Array aj) (z:aj),g[i]?=aa z->∀es,(part f.type g f.offset).events P w es=es:=by intro g z q es;unfold part;simp[l,B,q]
    have r:∀es,(Op.equalIn (d+1) f.type v u).events P w es=es:=by
     intro es;unfold rf at k;split at k<;>first
      |(cases k;done)
      |(unfold Op.equalIn;simp[underlying,o];done)
      |(unfold Op.equalIn;simp[underlying,o];split<;>rfl)
    have C:(Op.equalIn (d+1) f.type v u).run P w=.ok a w:=by unfold rf at k;grind[run_equalIn_int,run_equalIn_string,run_equalIn_bool]
    refine⟨?_,λes=>?_⟩
    .rw[Op.eqFields.eq_2,br A];simp only[bT,n xs v c,n ys u e,C,cm];cases a
     .simp
     grind
    .rw[List.forIn_cons];simp only[T2,A,bS,aP,bT,n xs v c,n ys u e,C,cm,aU,m xs v c,m ys u e,r];cases a
     .simp
     .simpa using s es
def lN{fs:List Field}{ds:List TypeDesc}(d:P.underlying t=aa (.struct fs.toArray))(c:P.stoodInHeld t=ae)(k:P.eqGuardType P.depth t=ae)(i:JL P ds fs 0):
  P.eqGuardType P.depth t=ae/\∀(w:aA) (vs ws:List aj) (b:Bool),jJ ds vs ws=aa b->(Op.equal t (.agg vs.toArray) (.agg ws.toArray)).run P w=.ok b w/\∀es,(Op.equal t (.agg vs.toArray) (.agg ws.toArray)).events P w es=es:=by
 refine⟨k,λw vs ws b h=>?_⟩;have g:P.fieldsOf t=fs.toArray:=by unfold Program.fieldsOf;rw[d]
 have key:=si w 9998 vs.toArray ws.toArray i h (λj v e=>by grind) (λj v e=>by grind);refine⟨?_,λes=>?_⟩
 rotate_left
 .show (Op.equalIn (9999+1) t _ _).events P w es=es;have f:=key.2 es;unfold Op.equalIn;simp[underlying,d,c];show Result.evThen ((forIn fs (af,()) (T2 9999 vs.toArray ws.toArray)).run P w) ((forIn fs (af,()) (T2 (9998+1) vs.toArray ws.toArray)).events P w es) _=es;rw[f];cases(forIn fs (af,()) (T2 9999 vs.toArray ws.toArray)).run P w with
  |ok a w'=>obtain⟨o,_⟩:=a;cases o<;>rfl
  |halt x w'=>rfl
 show(Op.equalIn (9999+1) t _ _).run P w=_;grind[run_equalIn_agg]
def Pn:List TypeDesc->List A->List A->Option Bool
 |[],[],[]=>aa ab
 |.int _::ds,.c (.int k a)::cs,.c (.int k' b)::es=>match G6 k k' with
  |true=>match Pn ds cs es with
   |some r=>aa ((a==b)&&r)
   |none=>af
  |false=>af
 |.string::ds,.c (.str a)::cs,.c (.str b)::es=>match Pn ds cs es with
  |some r=>aa ((a==b)&&r)
  |none=>af
 |.bool::ds,.c (.bool a)::cs,.c (.bool b)::es=>match Pn ds cs es with
  |some r=>aa ((a==b)&&r)
  |none=>af
 |_,_,_=>af
def D8:∀{ds:List TypeDesc}{cs es:List A}{b:Bool}{vs ws:List aj},Pn ds cs es=aa b->eb σ s vs cs->eb σ s ws es->jJ ds vs ws=aa b:=by
 intro ds;induction ds with
 |nil =>
  intro cs es b vs ws h c e;cases cs<;>cases es<;>simp only[Pn,reduceCtorEq]at h
  cases vs<;>cases ws<;>first|exact c.elim|exact e.elim|(simpa[jJ]using h)
 |cons d ds ih =>
  intro cs es b vs ws h c e;unfold Pn at h;split at h
  .grind
  .rename_i m f k a i k' b' es' heq;cases heq;split at h
   .rename_i l;cases Ao l;split at h
    .rename_i r j;cases h;cases vs with
     |nil=>exact c.elim
     |cons v vs=>cases ws with
      |nil=>exact e.elim
      |cons w ws =>
       obtain⟨v1,g⟩:=c;obtain⟨w1,w2⟩:=e;cases(show Rd s.M v (.int k a)from v1);cases(show Rd s.M w (.int k b')from w1);simp[jJ,rf,ih j g w2]
    grind
   grind
  .rename_i f a i b' es' heq;cases heq;split at h
   .rename_i r j;cases h;cases vs with
    |nil=>exact c.elim
    |cons v vs=>cases ws with
     |nil=>exact e.elim
     |cons w ws =>
      obtain⟨v1,g⟩:=c;obtain⟨w1,w2⟩:=e;cases(show Rd s.M v (.str a)from v1)with
      |str hx _ =>
      cases(show Rd s.M w (.str b')from w1)with
      |str hy _ =>
      simp only[jJ,rf,ih j g w2];grind[ByteArray.toList_eq]
   grind
  .rename_i f a i b' es' heq;cases heq;split at h
   .rename_i r j;cases h;cases vs with
    |nil=>exact c.elim
    |cons v vs=>cases ws with
     |nil=>exact e.elim
     |cons w ws =>
      obtain⟨v1,g⟩:=c;obtain⟨w1,w2⟩:=e;cases(show Rd s.M v (.bool a)from v1);cases(show Rd s.M w (.bool b')from w1);simp[jJ,rf,ih j g w2]
   grind
  grind
section
variable {T:List (Nat×TI)}
def lH:BinOp->Bool->Option Bool
 |.eql,b=>aa b
 |.neq,b=>aa (!b)
 |_,_=>af
def ub{x y:aj}{b c:Bool}(d:match x,y with|.agg _,.agg _=>True|.bool _,.bool _=>True|_,_=>False)(a:(Op.equal t x y).run P w=.ok b w)(h:lH op b=aa c):
  (binOp op t x y).run P w=.ok (.bool c) w:=by
 cases op<;>simp only[lH,reduceCtorEq,dq]at h
 .subst h;cases x<;>cases y<;>simp only at d<;>simp[binOp,a]
 .subst h;cases x<;>cases y<;>simp only at d<;>simp[binOp,a]
def pn{x y:aj}{b c:Bool}(d:match x,y with|.agg _,.agg _=>True|.bool _,.bool _=>True|_,_=>False)(e:(Op.equal t x y).run P w=.ok b w)(a:∀es,(Op.equal t x y).events P w es=es)(h:lH op b=aa c)(es:Array Event):
  (binOp op t x y).events P w es=es:=by cases op<;>simp only[lH,reduceCtorEq,dq]at h<;>(cases x<;>cases y<;>simp only at d<;>simp[binOp,a])
def wx(op:BinOp)(t:aw)(x y:aC)(xs ys:Array aj)(w:aA)(a:P.eqGuardType P.depth t=ae)(es:Array Event):(eqGuard op t x y (.agg xs) (.agg ys)).events P w es=es:=by cases op<;>simp[eqGuard,a]
theorem bE.structEq(r:dg P T)(h:o.op=.binOp op t x y ty){i:TI}(hi:bH T t=aa i)(m:i.eq≠[]){cs es:List A}{b c:Bool}(u:η x=.e (.agg cs))(v:η y=.e (.agg es))(k:Pn i.eq cs es=aa b)(q:lH op b=aa c):bE P o η σ (.e (.one (.c (.bool c)))) σ:=by refine .quiet λs z hh hr=>?_;have h1:=hr x;have h2:=hr y;rw[u]at h1;rw[v]at h2;obtain⟨vs,n,f⟩:=h1;obtain⟨j,p,d⟩:=h2;obtain⟨l,heq⟩:=(r t i hi).eqs m;have a:=ub (x:=.agg vs.toArray) (y:=.agg j.toArray) ar (heq s.w vs j b (D8 k f d)).1 q;have g:=pn (x:=.agg vs.toArray) (y:=.agg j.toArray) ar (heq s.w vs j b (D8 k f d)).1 (heq s.w vs j b (D8 k f d)).2 q;refine⟨.bool c,?_,Rd.bool,by simp only[ak,h,n,p,aP,run_eqGuard_agg s.w op t x y _ _ l,wx op t x y _ _ s.w l,aU,bT,cm,a,g,Sem.events_pure]⟩;simp only[ak,h,n,p,bT,run_eqGuard_agg s.w op t x y _ _ l,cm,a,cV]
theorem bE.QG(p:dg P T)(h:o.op=.binOp op t x y ty){i:TI}(hi:bH T t=aa i)(r:i.desc=.bool){a b c:Bool}(q:η x=.e (.one (.c (.bool a))))(u:η y=.e (.one (.c (.bool b))))(m:lH op (a==b)=aa c):bE P o η σ (.e (.one (.c (.bool c)))) σ:=by
 refine .quiet λs n hh hr=>?_;have h1:=hr x;have h2:=hr y;rw[q]at h1;rw[u]at h2;replace h1:=fI h1;replace h2:=fI h2;generalize j:n x=vx at h1;generalize g:n y=vy at h2;cases h1;cases h2;have l:P.underlying t=aa .bool:=by rw[(p t i hi).SH,r]
 have d:=ub (P:=P) (w:=s.w) (x:=.bool a) (y:=.bool b) ar (run_equal_bool s.w t a b l) m;have k:∀es,(Op.equal t (.bool a) (.bool b)).events P s.w es=es:=λes=>by show(Op.equalIn (9999+1) t _ _).events P s.w es=es;unfold Op.equalIn;simp[underlying,l]
 have f:=pn (P:=P) (w:=s.w) (x:=.bool a) (y:=.bool b) ar (run_equal_bool s.w t a b l) k m;refine⟨.bool c,?_,Rd.bool,by simp only[ak,h,j,g,aP,eqGuard_at_bool,Sem.events_pure,cV,aU,bT,cm,d,f]⟩;simp only[ak,h,j,g,bT,eqGuard_at_bool,cV,cm,d]
def bE.Tz(h:o.op=.binOp .xor t x y ty){a b:Int}(n:η x=.e (.one (.c (.int .i64 a))))(p:η y=.e (.one (.c (.int .i64 b))))(q:0<=a)(h1:0<=b):
  bE P o η σ (.e (.one (.c (.int .i64 ((a.toNat ^^^ b.toNat:Nat):Int))))) σ:=by
 refine .quiet λs l hh hr=>?_;have e1:=hr x;have e2:=hr y;rw[n]at e1;rw[p]at e2;replace e1:=fI e1;replace e2:=fI e2;generalize g:l x=vx at e1;generalize f:l y=vy at e2;cases e1 with|int ha =>
 cases e2 with|int hb =>
 have m:a.toNat ^^^ b.toNat<2 ^ 63:=by apply Nat.xor_lt_two_pow<;>simp only[bx]at ha hb<;>omega
 have k:bx .i64 ((a.toNat ^^^ b.toNat:Nat):Int):=by simp only[bx];omega
 refine⟨.int .i64 ((a.toNat ^^^ b.toNat:Nat):Int),?_,.int k,?_⟩
 rotate_left
 .simp only[ak,h,g,f,aP,gn,jE,aU,Go.binOp,cU,fe,bS,Op.intBits,bT,cm,cV,Sem.events_pure]
 have d:((BitVec.ofInt 64 a) ^^^ (BitVec.ofInt 64 b)).toNat=a.toNat ^^^ b.toNat:=by rw[BitVec.toNat_xor,BitVec.toNat_ofInt,BitVec.toNat_ofInt];simp only[bx]at ha hb;congr 1<;>omega
 have i:(BitVec.ofInt IntKind.i64.bits a ^^^ BitVec.ofInt IntKind.i64.bits b).toNat=a.toNat ^^^ b.toNat:=d;have j:(Go.binOp .xor t (.int .i64 a) (.int .i64 b)).run P s.w=.ok (.int .i64 ((a.toNat ^^^ b.toNat:Nat):Int)) s.w:=by simp only[Go.binOp,cU,fe,bS,Op.intBits,cV];grind[md]
 simp only[ak,h,g,f,bT,gn,cm,j,cV]
def bE.GR(y:dg P T){g dst:aw}(h:o.op=.convert g dst x){i i2 ie:TI}(hi:bH T g=aa i)(C:bH T dst=aa i2)(Q:i.desc=.slice E)(G:i2.desc=.string)(K:bH T E=aa ie)(z:ie.desc=.int .u8){tt:Bool}{r:List UInt8}(N:∀s v,dm σ s v (η x)->Rd s.M v (.sl tt 1 n es))(hb:vP es 0 n=aa r):bE P o η σ (.e (.one (.c (.str r)))) σ:=by
 refine .nP λs U hh hr=>?_;have h1:=N s _ (hr x);obtain⟨vs,J,b⟩:=dW (P:=P) hh h1;obtain⟨a,cap,L,m,I,O,_⟩:=h1.flat;have H:n<=9223372036854775807:=by omega
 have B:vs.length=n:=by rw[J.len];omega
 obtain⟨xs,e1,e2⟩:=yG (M:=s.M) (vs:=vs) hb B (λj hj c R=>by
  obtain⟨v,S,p2⟩:=J.rd j hj 0 c (by grind)
  grind)
 have F:=(y g i hi).run_underlying (w:=s.w);have l:=(y dst i2 C).run_underlying (w:=s.w);have k:=(y E ie K).run_underlying (w:=s.w);rw[Q]at F;rw[G]at l;rw[z]at k;have A:r.length<=9223372036854775807:=by grind
 have f:∃u:ByteArray,(Conv.bytesToString (.slice a n cap)).run P s.w=.ok (.string u) s.w/\u.data.toList=r:=by
  cases a with
  |none =>
   have q:r=[]:=by
    have:vs=[]:=by rw[m]at b;have h2:=b.1;simp[Builtin.firstCells]at h2;grind
    grind
   exact⟨ByteArray.empty,by simp[Conv.bytesToString],by rw[q];rfl⟩
  |some ad =>
   rw[m]at b;have h2:=b.1;simp only[Builtin.firstCells,Nat.mul_one]at h2;refine⟨⟨#[]++(xs.map λx=>UInt8.ofNat x.toNat).toArray⟩,?_,by grind⟩;simp only[Conv.bytesToString,bT,h2,cm,e1];rw[List.forIn_toArray,oB (P:=P) s.w (λ_ _=>rfl) xs ByteArray.empty];rfl
 obtain⟨u,t,D⟩:=f;refine⟨.string u,?_,Rd.str D A,?_⟩
 rotate_left
 .intro e d;simp only[ak,h,m,aP,convert,F,l,aU,cm,k,t,bT,events_underlying,Sem.events_pure]at d;cases a with
  |none=>simp[Conv.bytesToString]at d
  |some ad =>
   have p:=gL (P:=P) hh (h1.Dy (λ_ _=>rfl)) (w:=s.w) rfl;rw[m]at b p;have h2:=b.1;simp only[Builtin.firstCells,Nat.mul_one]at h2 p;unfold Conv.bytesToString at d;simp only at d;rw[aP,h2,aU,cX.bind (P:=P) ?_ λ_=>.pure]at d
   .grind [sR]
   .rw[List.forIn_toArray];refine cX.I1 (λx s=>?_) _ _;split
    .exact .pure
    .exact .bind .stuck λ_=>.pure
 simp only[ak,h,m,bT,convert,F,l,cm,k,t,cV]
end
def vQ(η:aC->D):List aC->Option (List C)
 |[]=>aa []
 |x::r=>match η x with
  |.e (.one (.c c))=>match vQ η r with
   |some q=>aa (c::q)
   |none=>af
  |_=>af
def wy{σ:List bm}{s:St}{a:aC->aj}{η:aC->D}(d:∀y,dm σ s (a y) (η y)):∀{xs:List aC}{cs:List C},vQ η xs=aa cs->xs.length=cs.length/\∀(j:Nat)(c:C),cs[j]?=aa c->∃v,(xs.map a)[j]?=aa v/\Rd s.M v c
 |[],cs,h=>by cases h;grind
 |x::r,cs,h=>by
  simp only[vQ]at h;split at h
  .rename_i c e;split at h
   .rename_i q f;cases h;obtain⟨k,i⟩:=wy d f;refine⟨by grind,λj g b=>?_⟩;cases j with
    |zero =>
     simp at b;subst b;have:=d x;rw[e]at this;exact⟨a x,by simp,fI this⟩
    |succ j=>grind
   grind
  grind
section
variable {T:List (Nat×TI)}
theorem bE.makeFunc{fn:Fn}{a b:Array aC}(h:o.op=.makeFunc fn a b){f g:List C}(i:vQ η a.toList=aa f)(hb:vQ η b.toList=aa g):bE P o η σ (.e (.one (.c (.fn fn f g)))) σ:=by
 refine .quiet λs d hh hr=>?_;obtain⟨a1,a2⟩:=wy hr i;obtain⟨m,n⟩:=wy hr hb;have k:a.map d=(a.toList.map d).toArray:=by grind
 have l:b.map d=(b.toList.map d).toArray:=by grind
 refine⟨.func fn (a.toList.map d).toArray (b.toList.map d).toArray,?_,?_,by simp only[ak,h,Instr.makeFunc];rfl⟩
 .simp only[ak,h,Instr.makeFunc,k,l];rfl
 .refine Rd.fn _ _ (by grind) (by grind) (λj=>((a.toList.map d)[j]?).getD ah) (λj=>((b.toList.map d)[j]?).getD ah) ?_ ?_ ?_ ?_
  .grind
  .grind
  .grind
  grind
def BH:TypeDesc->Bool
 |.interface _=>ab
 |_=>ae
def u7(t:aw):D->Option C
 |.e (.one (.c c))=>aa (.ifs t c)
 |.e (.agg cs)=>match gU cs with
  |some q=>aa (.M3 t q)
  |none=>af
 |_=>af
def D9{d:D}{c:C}(h:u7 t d=aa c)(r:dm σ s v d):Rd s.M (.iface t v) c:=by
 unfold u7 at h;split at h
 .cases h;exact Rd.ifs (fI r) (fI r).cell
 .split at h
  .rename_i q k;cases h;obtain⟨vs,rfl,g⟩:=r;have b:=lu k g;refine Rd.M3 (by have:=b.length;grind) (λj=>(vs[j]?).getD ah) (λj e=>by grind) λj c e=>?_;obtain⟨v,i,f⟩:=b.get (j:=j) (a:=.c c) (by grind);rw[i];exact f
  grind
 grind
theorem bE.makeInterface(f:dg P T){t:aw}{x:aC}(h:o.op=.makeInterface t x){i:TI}(hi:bH T t=aa i)(b:BH i.desc=ae){c:C}(g:u7 t (η x)=aa c):bE P o η σ (.e (.one (.c c))) σ:=by
 refine .quiet λs j hh hr=>?_;have d:=(f t i hi).run_underlying (w:=s.w);refine⟨.iface t (j x),?_,D9 g (hr x),?_⟩
 rotate_left
 .simp only[ak,h,Instr.makeInterface,aP,bT,d,aU,cm,events_underlying];cases a:i.desc<;>rw[a]at b<;>first|(cases b;done)|simp
 simp only[ak,h,Instr.makeInterface,bT,d,cm];cases a:i.desc<;>rw[a]at b<;>first|(cases b;done)|simp
end
def Bp(op:BinOp)(k:IntKind)(a:Int)(k':IntKind)(b:Int):Option (Int×List Prop) :=
 match k with
 |.u64=>match op with
  |.shl=>aa (((a.toNat*2 ^ b.toNat % 18446744073709551616:Nat):Int),[0<=b,b<=64])
  |.shr=>aa (((a.toNat / 2 ^ b.toNat:Nat):Int),[0<=b,b<=64])
  |.and=>match k' with|.u64=>aa (((a.toNat &&& b.toNat:Nat):Int),[])|_=>af
  |.xor=>match k' with|.u64=>aa (((a.toNat ^^^ b.toNat:Nat):Int),[])|_=>af
  |_=>af
 |_=>af
section
variable {T:List (Nat×TI)}
theorem bits_nat{a:Int}(h:bx .u64 a):(BitVec.ofInt IntKind.u64.bits a).toNat=a.toNat:=by rw[BitVec.toNat_ofInt];simp only[bx]at h;simp only[IntKind.bits];omega
def GL{k k':IntKind}{a b c:Int}(t:aw)(f:Bp op k a k' b=aa (c,obs))(ho:au obs)(g:bx k a)(m:bx k' b)(w:aA):
  bx k c/\(Go.binOp op t (.int k a) (.int k' b)).run P w=.ok (.int k c) w/\(Go.binOp op t (.int k a) (.int k' b)).events P w #[]=#[]:=by
 unfold Bp at f;split at f
 .split at f
  .cases f;obtain⟨l,i⟩:0<=b/\b<=64:=ho;have p:a.toNat*2 ^ b.toNat % 18446744073709551616<18446744073709551616:=iA _ (by decide);simp only[bx]at g;refine⟨by simp only[bx];omega,?_⟩;have h:IntKind.wrap .u64 (a*2 ^ (min b.toNat IntKind.u64.bits))=((a.toNat*2 ^ b.toNat % 18446744073709551616:Nat):Int):=by
    have j:min b.toNat IntKind.u64.bits=b.toNat:=by rw[show IntKind.u64.bits=64 from rfl];omega
    have o:a=(a.toNat:Int):=by omega
    rw[j,o];simp only[IntKind.wrap,IntKind.bits,IntKind.signed,bM];grind
   simp only[Go.binOp,Op.shift,a9 (show¬b<0 by omega),h];exact⟨rfl,rfl⟩
  .cases f;obtain⟨l,i⟩:0<=b/\b<=64:=ho;simp only[bx]at g;have n:a.toNat / 2 ^ b.toNat<=a.toNat:=Nat.div_le_self _ _;refine⟨by simp only[bx];grind,?_⟩;have h:a.fdiv (2 ^ (min b.toNat IntKind.u64.bits))=((a.toNat / 2 ^ b.toNat:Nat):Int):=by
    have j:min b.toNat IntKind.u64.bits=b.toNat:=by rw[show IntKind.u64.bits=64 from rfl];omega
    grind
   simp only[Go.binOp,Op.shift,a9 (show¬b<0 by omega),h];exact⟨rfl,rfl⟩
  .split at f
   .cases f;have i:a.toNat &&& b.toNat<=a.toNat:=Nat.and_le_left;have d:bx .u64 ((a.toNat &&& b.toNat:Nat):Int):=by simp only[bx]at g⊢;omega
    refine⟨d,?_⟩;have e:(BitVec.ofInt IntKind.u64.bits a &&& BitVec.ofInt IntKind.u64.bits b).toNat=a.toNat &&& b.toNat:=by grind[bits_nat]
    simp only[Go.binOp,cU,fe,bS,Op.intBits,e,md d];exact⟨rfl,rfl⟩
   grind
  .split at f
   .cases f;have d:bx .u64 ((a.toNat ^^^ b.toNat:Nat):Int):=by simp only[bx]at g m⊢;have:a.toNat ^^^ b.toNat<2 ^ 64:=Nat.xor_lt_two_pow (by omega) (by omega);omega
    refine⟨d,?_⟩;have e:(BitVec.ofInt IntKind.u64.bits a ^^^ BitVec.ofInt IntKind.u64.bits b).toNat=a.toNat ^^^ b.toNat:=by grind[bits_nat]
    simp only[Go.binOp,cU,fe,bS,Op.intBits,e,md d];exact⟨rfl,rfl⟩
   grind
  grind
 grind
theorem bE.bits{k k':IntKind}{a b c:Int}(h:o.op=.binOp op t x y ty)(n:η x=.e (.one (.c (.int k a))))(l:η y=.e (.one (.c (.int k' b))))(p:Bp op k a k' b=aa (c,obs))(ho:au obs):
  bE P o η σ (.e (.one (.c (.int k c)))) σ:=by
 refine .quiet λs i hh hr=>?_;have h1:=hr x;have h2:=hr y;rw[n]at h1;rw[l]at h2;replace h1:=fI h1;replace h2:=fI h2;generalize f:i x=vx at h1;generalize d:i y=vy at h2;cases h1 with|int ha =>
 cases h2 with|int hb =>
 obtain⟨j,g,m⟩:=GL (P:=P) t p ho ha hb s.w;exact⟨.int k c,by simp only[ak,h,bT,f,d,gn,cm,g,cV],.int j,by simp[ak,h,f,d,gn,jE,g,m]⟩
end
def oA(i:Nat)(ci:List C)(es:Nat->List C):Nat->List C:=λj=>if j=i then ci else es j
def nU(lo hi:Nat)(z:List C)(es:Nat->List C):Nat->List C:=λj=>if lo<=j/\j<hi then z else es j
section
variable {T:List (Nat×TI)}{g:Nat}
def JS(y:aD σ s)(h:σ[l]?=aa (.buf E k n es)){k' f:Nat}(m:gb σ s v (.bp l (.el g k' i f)))(z:g=n):
  ∃b c vs zs,s.β[l]?=aa ⟨.slice (aa ⟨b,0,af⟩) 0 c,[b]⟩/\v=.pointer (aa ⟨b,i*k'+f,af⟩)/\s.w.heap[b]?=aa (.cells (vs++zs).toArray E (0,0))/\(vs++zs).length=c*k/\n<=c/\c<=9223372036854775807/\Flat s.M k n es vs/\∀o,s.M b o=af:=by
 obtain⟨B,⟨b,c,d,p⟩,_,x⟩:=m;obtain⟨L,e,a⟩:=(x _ _ _ _ h).2 z;rw[d]at a;rcases y.box l _ L h e with⟨_,rfl⟩|⟨C,c1,vs,zs,rfl,r,t,u,j,A,q⟩
 .cases a
 .cases a;exact⟨b,c,vs,zs,e,p,r,t,u,j,A,q⟩
def JU{g:Nat->aj}:∀{ds:List C}{m:Nat},(∀j c,ds[j]?=aa c->Rd s.M (g (m+j)) c)->eb σ s ((bk ds.length).map λj=>g (m+j)) (ds.map A.c)
 |[],m,_=>trivial
 |d::ds,m,h=>by rw[fQ,zr];refine⟨h 0 d rfl,?_⟩;have:=JU (ds:=ds) (m:=m+1) (λj c a=>by have:=h (j+1) c (by grind);rwa [show m+1+j=m+(j+1) by omega]);grind[Function.comp_def]
theorem bE.Wy(A:dg P T)(h:o.op=.indexAddr t x y){i ie:TI}(hi:bH T t=aa i)(I:i.desc=.slice E)(D:bH T E=aa ie){q m:Nat}{j:Int}{kk:IntKind}(G:η x=.e (.one (.bp l (.sl g ie.size q m))))(M:η y=.e (.one (.c (.int kk j))))(N:0<=j)(h1:j<m):bE P o η σ (.e (.one (.bp l (.el g ie.size (q+j.toNat) 0)))) σ:=by
 refine .quiet λs B hh hr=>?_;have f:=hr x;rw[G]at f;have h2:=hr y;rw[M]at h2;replace h2:=fI h2;generalize p:B y=vy at h2;cases h2;have d:=f;change gb σ s (B x) (.bp l _)at d;obtain⟨lv,⟨a,a0,cap,H,F,K,J,L,n,z⟩,u,r⟩:=d;obtain⟨b,rfl,rfl⟩:=z (by omega);have C:=(A t i hi).run_underlying (w:=s.w);rw[I]at C;obtain⟨k,rfl⟩:∃k:Nat,j=k:=⟨j.toNat,by omega⟩
 have v:k<m:=by omega
 refine⟨.pointer (aa ⟨b,(q+k)*ie.size,af⟩),?_,⟨lv,⟨b,H,n,by simp⟩,u,r⟩,?_⟩<;>
 simp[ak,h,F,p,Instr.indexAt,asIntOf,C,(A E ie D).run_sizeOf,dr,v,gT]
def bE.QI(r:dg P T){f:Nat}(h:o.op=.fieldAddr t x f){k q:Nat}{j:TI}(u:η x=.e (.one (.bp l (.el g k i q))))(p:jG T t f=aa (off,j)):bE P o η σ (.e (.one (.bp l (.el g k i (q+off))))) σ:=by refine .quiet λs w hh hr=>?_;have h1:=hr x;rw[u]at h1;have a:=h1;change gb σ s (w x) (.bp l _)at a;obtain⟨lv,⟨b,v,m,n⟩,d,c⟩:=a;exact⟨.pointer (aa ⟨b,i*k+q+off,af⟩),by simp[ak,h,n,mm r p],⟨lv,⟨b,v,m,by grind⟩,d,c⟩,by simp[ak,h,n,n5 r p]⟩
theorem bE.Wz(h:o.op=.nilCheck x){f q:Nat}(n:η x=.e (.one (.bp l (.el g f i q)))):bE P o η σ (.e (.one (.bp l (.el g f i q)))) σ:=by refine .quiet λs j hh hr=>?_;have h1:=hr x;rw[n]at h1;have c:=h1;have a:=h1;change gb σ s (j x) (.bp l _)at a;obtain⟨lv,⟨b,r,p,d⟩,m,k⟩:=a;exact⟨j x,by simp[ak,h,d],c,by simp[ak,h,d]⟩
theorem bE.WA(p:dg P T)(h:o.op=.call {callee:=.builtin .len,args:=#[x],argTypes:=jP})(j:jP[0]?=aa t){i:TI}(hi:bH T t=aa i)(y:i.desc=.slice E){r q m:Nat}(v:η x=.e (.one (.bp l (.sl g r q m)))):bE P o η σ (.e (.one (.c (.int .i64 m)))) σ:=by
 refine .quiet λs D hh hr=>?_;have h1:=hr x;rw[v]at h1;have b:=h1;change gb σ s (D x) (.bp l _)at b;obtain⟨lv,⟨a,a0,cap,F,k,C,B,A,z,u⟩,n,f⟩:=b;have d:=(p t i hi).run_underlying (w:=s.w);rw[y]at d;refine⟨.int .i64 m,?_,Rd.int (by simp only[bx];omega),?_⟩<;>
 simp[ak,h,resolve,invoke,builtin,Builtin.len_,k,d,goInt,j]
theorem bE.sliceB(z:dg P T){lo hi:Option aC}(h:o.op=.slice t x lo hi af){i ie:TI}(n:bH T t=aa i)(H:i.desc=.slice E)(C:bH T E=aa ie){q m:Nat}{d u:Option Int}(D:η x=.e (.one (.bp l (.sl g ie.size q m))))(hl:uC η lo=aa d)(B:uC η hi=aa u)(ho:au (gA m d u)):bE P o η σ (.e (.one (.bp l (.sl g ie.size (q+cD 0 d) (cD m u-cD 0 d))))) σ:=by
 refine .quiet λst ρ hh hr=>?_;have h1:=hr x;rw[D]at h1;have j:=h1;change gb σ st (ρ x) (.bp l _)at j;obtain⟨lv,⟨a,a0,cap,F,y,f,I,s,k,v⟩,r,p⟩:=j;obtain⟨hb,J,G⟩:=nQ (P:=P) (isS:=ab) f (iW hr hl) (iW hr B) ho st.w;have c:=(z t i n).run_underlying (w:=st.w);rw[H]at c;refine⟨.slice (if cap=cD 0 d then a else a.map (·.add (cD 0 d*ie.size))) (cD m u-cD 0 d) (cap-cD 0 d),?_,⟨lv,⟨_,a0,_,F,rfl,by omega,by omega,s,k,λA=>?_⟩,r,p⟩,by simp[ak,h,y,Instr.sliceAt,c,Instr.slice,hb,qc (P:=P) (isS:=ab) f (iW hr hl) (iW hr B) ho st.w]⟩
 .simp[ak,h,y,Instr.sliceAt,c,Instr.slice,hb,(z E ie C).run_sizeOf]
 .obtain⟨b,rfl,rfl⟩:=v (by omega);refine⟨b,rfl,?_⟩;rw[a9 (by omega)];simp[dr,gT]
def bE.TB(G:dg P T)(h:o.op=.load t x){f:Nat}{z:TI}{e:E1}(K:η x=.e (.one (.bp l (.el g k i f))))(B:g=n)(hl:σ[l]?=aa (.buf E k n es))(hi:bH T t=aa z)(J:mM z ((gZ f (es i)).map A.c)=aa e)(q:i<n):bE P o η σ (.e e) σ:=by
 refine .nP λs Q hh hr=>?_;have h1:=hr x;rw[K]at h1;obtain⟨b,S,vs,X,L,F,d,N,R,O,H,W⟩:=JS hh hl h1 B;have U:=H.width i q;let g:Nat->aj:=λj=>vs.getD (i*k+j) ah;have B:∀j c,(gZ f (es i))[j]?=aa c->vs[i*k+(f+j)]?=aa (g (f+j))/\Rd s.M (g (f+j)) c:=by intro j c hj;rw[na,oS]at hj;obtain⟨v,v1,V⟩:=H.rd i q (f+j) c hj;grind
 have D:=JU (σ:=σ) (s:=s) (g:=g) (ds:=gZ f (es i)) (m:=f) (λj c hj=>(B j c hj).2);have a:∀(j:Nat) (v:aj),((bk (gZ f (es i)).length).map λj=>g (f+j))[j]?=aa v->s.w.cell? ⟨b,i*k+f+j,af⟩=aa v:=by
  intro j v hj;simp only[nJ]at hj;by_cases p:j<(gZ f (es i)).length
  .simp[p]at hj;subst hj;have h2:=(B j _ (bg p)).1;simp only[aW,d];grind
  grind
 obtain⟨v,r,C⟩:=ml (s:=s) (σ:=σ) (P:=P) (G t z hi) (b:=b) (off:=i*k+f) (e:=e) a D J;refine⟨v,by simp[ak,h,F,Instr.loadAt,Instr.sureAddr,r],C,λI y=>?_⟩;have u:I∈(loadVar t ⟨b,i*k+f,af⟩).events P s.w #[]:=by
  have e:ak Q o=(do pure (.value (<-loadVar t ⟨b,i*k+f,af⟩))):=by simp[ak,h,F,Instr.loadAt,Instr.sureAddr]
  rw[e]at y;simpa[r]using y
 obtain⟨j,hj,rfl⟩:=ja (G t z hi) (n:=(gZ f (es i)).length) (λj hj=>⟨_,a j (g (f+j)) (by grind)⟩) (by have:=o7 J;grind) I u;exact oX (bL L) (by simp)
def Flat.put{oF:List aj}{f:Nat}{cc ci:List C}(h:Flat M k n es vs)(hi:i<n)(q:fg f cc (es i)=aa ci)(hl:oF.length=cc.length)(o:∀(j:Nat)(c:C),cc[j]?=aa c->∃v,oF[j]?=aa v/\Rd M v c):
  i*k+f+oF.length<=vs.length/\Flat M k n (oA i ci es) (vs.take (i*k+f)++oF++vs.drop (i*k+f+oF.length)):=by
 obtain⟨h1,h2⟩:=qp q;have x:=h.width i hi;have hb:i*k+k<=n*k:=by have:=ez k (show i+1<=n by omega);grind
 have r:=h.len;have m:i*k+f+oF.length<=vs.length:=by omega
 have d:∀p,(vs.take (i*k+f)++oF++vs.drop (i*k+f+oF.length))[p]?=if p<i*k+f then vs[p]? else if p<i*k+f+oF.length then oF[p-(i*k+f)]? else vs[p]?:=by
  intro p;have w:(vs.take (i*k+f)).length=i*k+f:=by grind
  by_cases c1:p<i*k+f
  .grind
  .rw[a9 c1];by_cases c2:p<i*k+f+oF.length
   .grind
   .rw[a9 c2,fA (by grind),oS];grind
 refine⟨m,⟨by grind,λb a=>?_,λb a j c hj=>?_⟩⟩
 .simp only[oA];split
  .grind
  .exact h.width b a
 .simp only[oA]at hj;rw[d];split at hj
  .rename_i e;subst e;rw[h2]at hj;by_cases c1:j<f
   .rw[jV,js (by grind),eX,br c1]at hj;rw[br (by omega)];exact h.rd b hi j c hj
   .by_cases c2:j<f+cc.length
    .rw[jV,fA (by grind),js (by grind)]at hj;obtain⟨v,v1,s⟩:=o _ c hj;refine⟨v,?_,s⟩;rw[a9 (by omega),br (by omega),<-v1];congr 1;grind
    .rw[fA (by grind),oS]at hj;rw[a9 (by omega),a9 (by omega)];refine h.rd b hi j c ?_;grind
  .rename_i e;have u:j<k:=by have:=(b8.1 hj).1;have:=h.width b a;omega
   rcases cG b i with l|t
   .have:(b+1)*k<=i*k:=ez k l;rw[gT,Nat.one_mul]at this;rw[br (by omega)];exact h.rd b a j c hj
   .have:(i+1)*k<=b*k:=ez k (by omega);rw[gT,Nat.one_mul]at this;rw[a9 (by omega),a9 (by omega)];exact h.rd b a j c hj
def aD.ef(hh:aD σ s)(hl:σ[l]?=aa (.buf E k n es)){e a:List aj}{f:Nat}(u:s.β[l]?=aa ⟨.slice (aa ⟨b,0,af⟩) 0 f,[b]⟩)(z:(vs++e).length=f*k)(q:n<=f)(p:f<=9223372036854775807){es':Nat->List C}(i:s.w.heap[b]?=aa (.cells (vs++e).toArray E (0,0)))(B:Flat s.M k n es' a)(x:a.length=vs.length)(D:∀o,s.M b o=af):
  aD (σ.set l (.buf E k n es')) {s with w:=s.w.setRow b (a++e).toArray}/\Step σ s (σ.set l (.buf E k n es')) {s with w:=s.w.setRow b (a++e).toArray}:=by
 have m:(s.w.setRow b (a++e).toArray).heap[b]?=aa (.cells (a++e).toArray E (0,0)):=setRow_heap s.w b _ _ E _ i;have j:∀c,c≠b->(s.w.setRow b (a++e).toArray).heap[c]?=s.w.heap[c]?:=λc d=>setRow_other s.w b c _ d;have r:s.β.set l ⟨.slice (aa ⟨b,0,af⟩) 0 f,[b]⟩=s.β:=by apply gQ;grind
 obtain⟨F,G⟩:=hh.ig (M':=s.M) (w':=s.w.setRow b (a++e).toArray) (B':=.buf E k n es') (L':=⟨.slice (aa ⟨b,0,af⟩) 0 f,[b]⟩) hl u ⟨λ_=>rfl,ba _⟩ (by simp[World.setRow])
  (λc d H=>j c (by grind)) (λ_ _ _ _=>rfl) (λ_ _ _ h=>h) (λc A v t=>by
   have y:c≠b:=by grind
   have:=hh.mem c A v t;rw[<-this];simp only[aW]
   grind) (λc d=>⟨.inl d,by grind⟩) rfl rfl rfl
  (.inr ⟨b,f,a,e,rfl,m,by grind,q,p,B,D⟩)
 grind
def r6{α:Type}:∀{new l:List α},new.length=l.length->fg 0 new l=aa new
 |[],[],_=>rfl
 |[],_::_,h=>by grind
 |_::_,[],h=>by grind
 |n::ns,c::cs,h=>by simp only[fg,r6 (new:=ns) (l:=cs) (by grind)]
def bE.I9(Q:dg P T)(h:o.op=.store t x y){f:Nat}{q:TI}{new:List A}{cc ci:List C}(Y:η x=.e (.one (.bp l (.el g k i f))))(hg:g=n)(hl:σ[l]?=aa (.buf E k n es))(hi:bH T t=aa q)(hy:kN (η y)=aa new)(hn:new.length=q.size)(J:gU new=aa cc)(K:(es i).length=k->fg f cc (es i)=aa ci)(D:i<n):
  bE P o η σ .any (σ.set l (.buf E k n (oA i ci es))):=by
 intro s c hh hr;have h1:=hr x;rw[Y]at h1;obtain⟨b,c0,vs,H,R,O,a,L,N,M,S,V⟩:=JS hh hl h1 hg;have m:=lq hy (hr y);have p:=lu J m;have I:=eb.closed p;have u:(c y).cells.toList.length=cc.length:=by have:=p.length;grind
 replace K:=K (S.width i D);obtain⟨q1,q2⟩:=S.put D K u I;have z:(c y).cells.size=q.size:=by rw[<-hn,<-m.length,iY]
 obtain⟨W,Z⟩:=hh.ef hl R L N M a q2 (by grind) V;have G:=run_storeCells_at P b (i*k+f) E (c y).cells.toList 0 (vs++H).toArray s.w a (by grind) m.cell;have B:((vs++H).toArray.toList.take (i*k+f+0)++(c y).cells.toList++(vs++H).toArray.toList.drop (i*k+f+0+(c y).cells.toList.length))=vs.take (i*k+f)++(c y).cells.toList++vs.drop (i*k+f+(c y).cells.toList.length)++H:=by grind
 rw[B]at G;refine⟨.skip,_,?_,rfl,W,Z,?_⟩
 .simp[ak,h,O,Instr.storeAt,Instr.sureAddr,storeVar,(Q t q hi).run_sizeOf,z,G]
 .intro U d;have e:ak c o=(do storeVar t ⟨b,i*k+f,af⟩ (c y);pure .skip):=by simp[ak,h,O,Instr.storeAt,Instr.sureAddr]
  rw[e]at d;have F:U∈(storeCells ⟨b,i*k+f,af⟩ (c y).cells.toList).events P s.w #[]:=by
   simp only[storeVar,aP,(Q t q hi).run_sizeOf,z,aU,events_sizeOf,cU,fe,bS,bT,cm,Sem.events_pure]at d;generalize(storeCells ⟨b,i*k+f,af⟩ (c y).cells.toList).run P s.w=r at d;cases r with
   |ok v w'=>simpa using d
   |halt x w'=>simpa using d
  rcases ek (c y).cells.toList 0 (vs++H).toArray s.w #[] a (by grind) m.cell U F with X|⟨j,_,_,rfl⟩
  .grind
  .exact k6 (bL R) (by simp) (V _)
end
section
def aD.zC(hh:aD σ s)(i:∀o,s.M b o=af)(h:∀o v,vs[o]?=aa v->s.w.cell? ⟨b,o,af⟩=aa v):
  aD (σ.map λ_=>.dead) {s with M:=λa o=>if a=b then vs[o]? else s.M a o}/\∀a o v,s.M a o=aa v->(if a=b then vs[o]? else s.M a o)=aa v:=by
 have c:=hh.k7;refine⟨⟨λa o v d=>?_,c.len,λl B L f g=>?_,c.eZ,c.lt,c.own⟩,λa o v d=>?_⟩
 .by_cases e:a=b
  .grind
  .simp only[e,bS]at d;exact c.mem a o v d
 .have:=bL f;simp at this;rw[<-this.2];trivial
 grind
def eB.vn{M':Mem}{es:Array Event}(h:eB {s with M:=M'} es){L:Loc}(i:L∈s.β)(hb:b∈L.bs)(j:∀c o v,s.M c o=aa v->M' c o=aa v)(g:∀c o v,M' c o=aa v->c=b∨s.M c o=aa v):eB s es:=by
 intro e f;have h1:=h e f;unfold oG at h1⊢;split at h1
 .obtain⟨a1,a2,a3⟩:=h1;refine⟨a1,a2,?_⟩;rcases a3 with a3|⟨a3,a4⟩|⟨a3,v,a4⟩
  .grind
  .refine .inr (.inl ⟨a3,λd=>?_⟩);have:=a4 d;rename_i a _;cases hm:s.M a.block a.off with
   |none=>rfl
   |some v=>grind
  grind
 all_goals exact h1
end
def Ik(k:Nat)(f:Nat->Nat->aj):Nat->List C:=λi=>(bk k).map λj=>.val (f i j)
theorem p0{f:Nat->Nat->aj}{c:C}(h:(Ik k f i)[j]?=aa c):j<k/\c=.val (f i j):=by
 have a:j<k:=by have:=(b8.1 h).1;simpa[Ik]using this
 simp[Ik,a]at h;grind
def Dz{f:Nat->Nat->aj}(h:j<k):(Ik k f i)[j]?=aa (.val (f i j)):=by simp[Ik,h]
def Rd.exact{M:Mem}{v:aj}{t:Bool}{k n:Nat}{es:Nat->List C}(h:Rd M v (.sl t k n es)):
  ∃f:Nat->Nat->aj,Rd M v (.sl t k n (Ik k f))/\(∀i,i<n->(es i).length=k)/\∀i,i<n->∀j c,(es i)[j]?=aa c->Rd M (f i j) c:=by
 cases h with
 |sl b off f a hb ht hk ha hm hr =>
  have d:∀i,i<n->∀j,j<k->∃c,(es i)[j]?=aa c:=λi hi j hj=>⟨_,bg (by grind)⟩
  refine⟨f,.sl b off f a hb ht (λi _=>by simp[Ik]) ha (λi hi j c hj=>?_) (λi hi j c hj=>?_),hk,hr⟩
  .grind [p0]
  .obtain⟨h1,rfl⟩:=p0 hj;obtain⟨e,h2⟩:=d i hi j h1;exact .val (hr i hi j e h2).cell
def Aw{L:Loc}{a c:Option Addr}{cap:Nat}(d:σ[l]?=aa (.buf E k n es))(e:s.β[l]?=aa L)(f:L.v=.slice c 0 cap)(i:n<=cap)(g:cap<=9223372036854775807)(m:0<cap->∃b,c=aa ⟨b,0,af⟩/\a=aa ⟨b,0,af⟩):gb σ s (.slice a n cap) (.bp l (.sl n k 0 n)) :=
 ⟨L.v,⟨a,c,cap,cap,rfl,i,by omega,g,f,λh=>by grind⟩,(b8.1 d).1,λj k' n' es' he=>by rw[d]at he;cases he;exact⟨ba _,λ_=>⟨L,e,rfl⟩⟩⟩
def rM{ie:TI}(h:lC P o x y E ie){k:Nat}{tx:Bool}{es':Nat->List C}{ρ:aC->aj}(p:aD σ s)(h1:gb σ s (ρ x) (.bp l (.sl n ie.size 0 n)))(hl:σ[l]?=aa (.buf E ie.size n es))(Z:Rd s.M (ρ y) (.sl tx ie.size k es'))(H:(n+k)*ie.bytes<=140737488355328):
  ∃nx s',(ak ρ o).run P s.w=.ok nx s'.w/\Q4 (σ.set l (.buf E ie.size (n+k) (cT n es es'))) s' nx (.e (.one (.bp l (.sl (n+k) ie.size 0 (n+k)))))/\aD (σ.set l (.buf E ie.size (n+k) (cT n es es'))) s'/\Step σ s (σ.set l (.buf E ie.size (n+k) (cT n es es'))) s'/\eB s ((ak ρ o).events P s.w #[]):=by
 obtain⟨t,t2,i,i2,ho,hi,hd,u,z⟩:=h.op;have B:l<σ.length:=(b8.1 hl).1;obtain⟨lv,⟨a,a0,cap,q,hv,I,SD,K,QU,VZ⟩,_,Vq⟩:=h1;obtain⟨L,hL,VN⟩:=(Vq _ _ _ _ hl).2 rfl;rw[QU]at VN;have Pb:q=cap:=by omega
 subst Pb;have R:0<q->∃b,a0=aa ⟨b,0,af⟩/\a=aa ⟨b,0,af⟩:=λh=>by grind
 have N:l<s.β.length:=(b8.1 hL).1;have X:=bL hL;have O:=p.box l _ L hl hL;rw[de ho,hv];have row:0<q->∃b vs zs,a=aa ⟨b,0,af⟩/\L=⟨.slice (aa ⟨b,0,af⟩) 0 q,[b]⟩/\s.w.heap[b]?=aa (.cells (vs++zs).toArray E (0,0))/\(vs++zs).length=q*ie.size/\Flat s.M ie.size n es vs/\∀o,s.M b o=af:=by
  intro G;obtain⟨b,e1,e2⟩:=R G;rcases O with⟨_,rfl⟩|⟨m,c1,vs,zs,rfl,h3,h4,h5,h6,h7,h8⟩
  .grind
  grind
 by_cases h0:k=0
 .subst h0;have f:=iU (P:=P) (ty:=o.type) hi hd u z h.elem p (a:=a) I Z;simp only[ia];have ha:cw n es (cT n es es'):=λi hi=>by simp[cT,hi]
  have Vt:eK (σ.set l (.buf E ie.size n (cT n es es'))) ⟨s.β.set l L,s.M,s.w,s.own⟩ (.buf E ie.size n (cT n es es')) L:=by
   rcases O with h3|⟨m,c1,vs,zs,Z,h3,h4,h5,h6,h7,h8⟩
   .exact .inl h3
   .exact .inr ⟨m,c1,vs,zs,Z,h3,h4,h5,h6,h7.Dy ha,h8⟩
  have FP:=p.ig (M':=s.M) (w':=s.w) (B':=.buf E ie.size n (cT n es es')) (L':=L) hl hL ⟨λ_=>rfl,ba _⟩ (ba _) (λ_ _ _=>rfl) (λ_ _ _ _=>rfl) (λ_ _ _ h=>h) p.mem
   (λb H=>⟨.inl H,p.lt L X b H⟩) rfl rfl rfl Vt
  refine⟨.value (.slice a n q),_,?_,?_,FP.1,FP.2,er (jD hi hd u z h.elem p I Z)⟩
  .simp[f]
  .exact Aw (E:=E) (by rw[fO B]) (by grind) VN I K R
 .by_cases g:n+k<=q
  .obtain⟨b,vs,zs,rfl,rfl,hw,D,hF,hM⟩:=row (by omega);obtain⟨d,Qi,f⟩:=jX (P:=P) (ty:=o.type) hi hd u z h.elem p hw D Z g;have Pc:vs.length=n*ie.size:=hF.len;have SE:d.length=k*ie.size:=Qi.len;have Yf:n*ie.size+k*ie.size<=q*ie.size:=by rw[<-gT];exact ez _ g
   have S:((vs++zs).take (n*ie.size)++d++(vs++zs).drop (n*ie.size+d.length))=(vs++d)++zs.drop d.length:=by rw[<-Pc];simp[List.drop_append]
   rw[S]at f;have MP:=setRow_heap s.w b _ ((vs++d)++zs.drop d.length).toArray E _ hw;have DI:∀m,m≠b->(s.w.setRow b ((vs++d)++zs.drop d.length).toArray).heap[m]?=s.w.heap[m]?:=λm J=>setRow_other s.w b m _ J;obtain⟨t1,U⟩:=p.ig (M':=s.M) (w':=s.w.setRow b ((vs++d)++zs.drop d.length).toArray) (B':=.buf E ie.size (n+k) (cT n es es')) (L':=⟨.slice (aa ⟨b,0,af⟩) 0 q,[b]⟩) hl hL ⟨λ_=>rfl,by omega⟩ (by simp[World.setRow])
    (λm J hn=>DI m (by grind)) (λ_ _ _ _=>rfl) (λ_ _ _ h=>h) (λm o' v hmv=>by
     have Bf:m≠b:=by grind
     have:=p.mem m o' v hmv;rw[<-this];simp only[aW]
     grind) (λm J=>⟨.inl J,by grind⟩) rfl rfl rfl
    (.inr ⟨b,q,vs++d,zs.drop d.length,rfl,MP,by grind,g,K,hF.append Qi,hM⟩)
   refine⟨.value (.slice (aa ⟨b,0,af⟩) (n+k) q),_,?_,?_,t1,U,er (lD hi hd u z h.elem p hw D Z g X (by simp) (λo _=>hM o))⟩
   .simp[f]
   .exact Aw (E:=E) (by rw[fO B]) (by simp only;rw[fO N]) rfl g K λ_=>⟨b,rfl,rfl⟩
  .have hg:q<n+k:=by omega
   obtain⟨f2,h2x,WU,sO⟩:=Z.exact;have fY:∃(M':Mem) (f0:Nat->Nat->aj),aD (σ.map λ_=>.dead) {s with M:=M'}/\(∀m o v,s.M m o=aa v->M' m o=aa v)/\Rd M' (.slice a n q) (.sl ae ie.size n (Ik ie.size f0))/\(∀{es},eB {s with M:=M'} es->eB s es) /\
     (∀i,i<n->(es i).length=ie.size)/\∀i,i<n->∀j c,(es i)[j]?=aa c->Rd s.M (f0 i j) c:=by
    by_cases G:0<q
    .obtain⟨b,vs,zs,rfl,rfl,hw,D,hF,hM⟩:=row G;obtain⟨c1,c2⟩:=p.zC (b:=b) (vs:=vs) hM (λo v ho=>by
      simp only[aW,hw]
      grind)
     have Q:∀i,i<n->∀j c,(es i)[j]?=aa c->vs[i*ie.size+j]?=aa (vs.getD (i*ie.size+j) ah)/\Rd s.M (vs.getD (i*ie.size+j) ah) c:=by intro i hi j c A;obtain⟨v,v1,v2⟩:=hF.rd i hi j c A;grind
     have SF:∀i,i<n->∀j,j<ie.size->∃c,(es i)[j]?=aa c:=λi hi j A=>⟨_,bg (by rw[hF.width i hi];exact A)⟩
     refine⟨_,λi j=>vs.getD (i*ie.size+j) ah,c1,c2,.sl b 0 (λi j=>vs.getD (i*ie.size+j) ah) I K (by simp) (λi _=>by simp[Ik]) (λ_=>rfl) (λi hi j c A=>?_) (λi hi j c A=>?_),λhe=>?_,hF.width,λi hi j c A=>(Q i hi j c A).2⟩
     .obtain⟨e1,_⟩:=p0 A;grind
     .obtain⟨e1,rfl⟩:=p0 A;obtain⟨c',e2⟩:=SF i hi j e1;exact .val (Q i hi j c' e2).2.cell
     .exact he.vn (b:=b) X (by simp) c2 λm o v hv=>by grind
    .have e1:q=0:=by omega
     have e2:n=0:=by omega
     subst e1 e2;have r:=p.k7;exact⟨s.M,λ_ _=>ah,⟨r.mem,r.len,r.box,r.eZ,r.lt,r.own⟩,λ_ _ _ h=>h,Rd.il,λh=>h,λi hi=>by omega,λi hi=>by omega⟩
   obtain⟨M',f0,c1,c2,hR,Vw,Z6,hr0⟩:=fY;have Wd:Rd ({s with M:=M'}:St).M (ρ y) (.sl tx ie.size k (Ik ie.size f2)):=h2x.mono c2;obtain⟨Y,zs,F,V,Vu,Vv,hlen,f⟩:=ik (P:=P) (s:={s with M:=M'}) (ty:=o.type) hi hd u z h.elem c1 hR Wd hg H h.bytes;have Iy:=iP (P:=P) (s:={s with M:=M'}) (ty:=o.type) hi hd u z h.elem c1 hR Wd hg H h.bytes;have hFs:Flat s.M ie.size (n+k) (cT n es es') Y:=by
    refine⟨V.len,λi hi=>?_,λi hi j c A=>?_⟩
    .by_cases e:i<n
     .simp only[cT,e,bY];grind
     .simp only[cT,e,bS];grind
    .by_cases e:i<n
     .simp only[cT,e,bY]at A;have W:j<ie.size:=by grind
      obtain⟨v,v1,v2⟩:=V.rd i hi j (.val (f0 i j)) (by simp only[cT,e,bY];exact Dz W);grind[Rd.fu]
     .simp only[cT,e,bS]at A;have W:j<ie.size:=by grind
      obtain⟨v,v1,v2⟩:=V.rd i hi j (.val (f2 (i-n) j)) (by simp only[cT,e,bS];exact Dz W);grind[Rd.fu]
   have nM:∀o,s.M s.w.heap.size o=af:=λo=>by
    cases hm:s.M s.w.heap.size o with
    |none=>rfl
    |some v=>have:=p.block hm;omega
   obtain⟨t1,U⟩:=p.ig (M':=s.M) (w':=s.w.drew.alloc (.cells (Y++zs).toArray E)) (B':=.buf E ie.size (n+k) (cT n es es')) (L':=⟨.slice (aa ⟨s.w.heap.size,0,af⟩) 0 F,[s.w.heap.size]⟩) hl hL
    ⟨λe=>absurd e (by omega),by omega⟩ (by simp) (λb H _=>cO s.w.drew _ H) (λ_ _ _ _=>rfl) (λ_ _ _ h=>h) (λb o v hm=>by
     have sS:=p.block hm;rw[<-p.mem b o v hm];simp only[aW];rw[cO s.w.drew _ sS];rfl) (λb H=>by simp at H;subst H;exact⟨.inr (ba _),by simp⟩) rfl rfl rfl (.inr ⟨s.w.heap.size,F,Y,zs,rfl,dG s.w.drew _,hlen,Vu,Vv,hFs,nM⟩)
   refine⟨.value (.slice (aa ⟨s.w.heap.size,0,af⟩) (n+k) F),_,?_,?_,t1,U,er (Vw Iy)⟩
   .simp only at f;simp[f]
   .exact Aw (E:=E) (by rw[fO B]) (by simp only;rw[fO N]) rfl Vu Vv λ_=>⟨_,rfl,rfl⟩
def bE.Ng{ie:TI}(h:lC P o x y E ie){a:Nat}{tx:Bool}{es':Nat->List C}(c:η x=.e (.one (.bp l (.sl n ie.size 0 n))))(hl:σ[l]?=aa (.buf E ie.size n es))(b:∀s v,dm σ s v (η y)->Rd s.M v (.sl tx ie.size a es'))(hb:(n+a)*ie.bytes<=140737488355328):
  bE P o η σ (.e (.one (.bp l (.sl (n+a) ie.size 0 (n+a))))) (σ.set l (.buf E ie.size (n+a) (cT n es es'))) :=
 λs d hh hr=>rM h hh (by have:=hr x;rw[c]at this;exact this) hl (b s _ (hr y)) hb
section
variable {T:List (Nat×TI)}
def bE.WB(g:dg P T)(h:o.op=.call {callee:=.builtin .len,args:=#[x],argTypes:=jP})(d:jP[0]?=aa t){i:TI}(hi:bH T t=aa i)(k:i.desc=.slice E){a:Option Addr}{cap:Nat}(j:η x=.e (.one (.c (.val (.slice a n cap)))))(l:n<=9223372036854775807):bE P o η σ (.e (.one (.c (.int .i64 n)))) σ:=by
 refine .quiet λs m hh hr=>?_;have h1:=hr x;rw[j]at h1;have f:=Rd.fu (fI h1);have b:=(g t i hi).run_underlying (w:=s.w);rw[k]at b;refine⟨.int .i64 n,?_,Rd.int (by simp only[bx];omega),?_⟩<;>
 simp[ak,h,resolve,invoke,builtin,Builtin.len_,f,b,goInt,d]
theorem bE.BJ(k:dg P T)(h:o.op=.indexAddr t x y){i ie:TI}(hi:bH T t=aa i)(r:i.desc=.slice E)(m:bH T E=aa ie){cap:Nat}{j:Int}{kk:IntKind}(q:η x=.e (.one (.c (.val (.slice (aa ⟨b,off,af⟩) n cap)))))(v:η y=.e (.one (.c (.int kk j))))(z:0<=j)(h1:j<n):bE P o η σ (.e (.one (.c (.val (.pointer (aa ⟨b,off+j.toNat*ie.size,af⟩)))))) σ:=by
 refine .quiet λs u hh hr=>?_;have a:=hr x;rw[q]at a;have p:=Rd.fu (fI a);have h2:=hr y;rw[v]at h2;replace h2:=fI h2;generalize g:u y=vy at h2;cases h2;have l:=(k t i hi).run_underlying (w:=s.w);rw[r]at l;obtain⟨d,rfl⟩:∃d:Nat,j=d:=⟨j.toNat,by omega⟩
 have f:d<n:=by omega
 refine⟨.pointer (aa ⟨b,off+d*ie.size,af⟩),?_,Rd.val rfl,?_⟩<;>
 simp[ak,h,p,g,Instr.indexAt,asIntOf,l,(k E ie m).run_sizeOf,dr,f]
def bE.QJ(g:dg P T){f:Nat}(h:o.op=.fieldAddr t x f){j:TI}(i:η x=.e (.one (.c (.val (.pointer (aa ⟨b,off,af⟩))))))(d:jG T t f=aa (k,j)):bE P o η σ (.e (.one (.c (.val (.pointer (aa ⟨b,off+k,af⟩)))))) σ:=by refine .quiet λs l hh hr=>?_;have h1:=hr x;rw[i]at h1;have a:=Rd.fu (fI h1);exact⟨.pointer (aa ⟨b,off+k,af⟩),by simp[ak,h,a,mm g d],Rd.val rfl,by simp[ak,h,a,n5 g d]⟩
def bE.slice3(F:dg P T){z:aC}(h:o.op=.slice t x af (aa y) (aa z)){i ie:TI}(C:bH T t=aa i)(Q:i.desc=.slice E)(I:bH T E=aa ie){tt:Bool}{q r:IntKind}{j m:Int}(J:∀s v,dm σ s v (η x)->Rd s.M v (.sl tt k n es))(S:η y=.e (.one (.c (.int q j))))(O:η z=.e (.one (.c (.int r m))))(D:0<=j)(h1:j<=m)(h2:m<=n):bE P o η σ (.e (.one (.c (.sl ae k j.toNat es)))) σ:=by
 refine .quiet λst ρ hh hr=>?_;have p:=J st _ (hr x);have g:=hr y;rw[S]at g;replace g:=fI g;generalize u:ρ y=vy at g;cases g;have l:=hr z;rw[O]at l;replace l:=fI l;generalize A:ρ z=vz at l;cases l;obtain⟨a,cap,vs,B,H,N,U,V,hm⟩:=p.flat;rw[B]at p;have d:=(F t i C).run_underlying (w:=st.w);rw[Q]at d;have em:((m.toNat:Nat):Int)=m:=zA (by omega);have hb:(bh ab n cap af (aa (.int q j)) (aa (.int r m))).run P st.w=.ok (0,j.toNat,m.toNat) st.w:=by simp[bh,run_sliceBound (P:=P) st.w r m cap _ (by omega) (by omega),run_sliceBound (P:=P) st.w q j m.toNat _ D (by omega)]
 have R:(bh ab n cap af (aa (.int q j)) (aa (.int r m))).events P st.w #[]=#[]:=by simp[bh,run_sliceBound (P:=P) st.w r m cap _ (by omega) (by omega),run_sliceBound (P:=P) st.w q j m.toNat _ D (by omega),dX (P:=P) st.w r m cap _ (by omega) (by omega),dX (P:=P) st.w q j m.toNat _ D (by omega)]
 refine⟨.slice a j.toNat m.toNat,?_,?_,by simp[ak,h,B,u,A,Instr.sliceAt,d,Instr.slice,hb,R]⟩
 .simp[ak,h,B,u,A,Instr.sliceAt,d,Instr.slice,hb,(F E ie I).run_sizeOf];intro _;rcases a with _|⟨b,off,sp⟩<;>simp[Addr.add]
 .cases p with
  |sl b off f _ _ _ K L hm' My =>
   exact Rd.sl b off f (by omega) (by omega) (by simp) (λi hi=>K i (by omega)) (λG=>L (by omega)) (λi hi j c hj=>hm' i (by omega) j c hj) (λi hi j c hj=>My i (by omega) j c hj)
end
def Flat.S6{q m:Nat}{zB:Nat->List C}{oF:List aj}(h:Flat M k n es vs)(b:Flat M k m zB oF)(d:q+m<=n):
  Flat M k n (λi=>if q<=i/\i<q+m then zB (i-q)else es i) (vs.take (q*k)++oF++vs.drop (q*k+oF.length)):=by
 have hl:=h.len;have g:=b.len;have hb:q*k+m*k<=n*k:=by rw[<-gT];exact ez k d
 have l:(vs.take (q*k)).length=q*k:=by grind
 have a:∀p,(vs.take (q*k)++oF++vs.drop (q*k+oF.length))[p]?=if p<q*k then vs[p]? else if p<q*k+m*k then oF[p-q*k]? else vs[p]?:=by
  intro p;by_cases c1:p<q*k
  .grind
  .rw[a9 c1];by_cases c2:p<q*k+m*k
   .grind
   .rw[a9 c2,fA (by grind),oS];grind
 refine⟨by grind,λi hi=>?_,λi hi j c hj=>?_⟩
 .by_cases e:q<=i/\i<q+m
  .rw[br e];exact b.width _ (by omega)
  .rw[a9 e];exact h.width i hi
 .rw[a];by_cases e:q<=i/\i<q+m
  .rw[br e]at hj;have f:j<k:=by have:=(b8.1 hj).1;rw[b.width _ (by omega)]at this;exact this
   have e1:q*k<=i*k:=ez k e.1;have e2:i*k+k<=q*k+m*k:=by rw[<-gT,<-kM];exact ez k e.2
   rw[a9 (by omega),br (by omega)];obtain⟨v,v1,o⟩:=b.rd (i-q) (by omega) j c hj;grind[Nat.sub_mul]
  .rw[a9 e]at hj;have f:j<k:=by have:=(b8.1 hj).1;rw[h.width i hi]at this;exact this
   have:i*k+j<q*k∨q*k+m*k<=i*k+j:=by
    by_cases c1:i<q
    .left;have:i*k+k<=q*k:=by rw[<-kM];exact ez k c1
     omega
    .right;have:(q+m)*k<=i*k:=ez k (by omega);grind
   rcases this with c1|c1
   .rw[br c1];exact h.rd i hi j _ hj
   .rw[a9 (by omega),a9 (by omega)];exact h.rd i hi j _ hj
def uV{E k':Nat}{d:Nat->List C}{β:List Loc}(g:Rd s.M v (.sl ab k' 0 d))(e:σ'[l]?=aa (.buf E k 0 es))(c:β[l]?=aa ⟨.slice af 0 0,[]⟩):gb σ' {s with β:=β} v (.bp l (.sl 0 k 0 0)):=by obtain⟨a,cap,vs,f,_,_,b,_,_⟩:=g.flat;have:=b rfl;subst this;refine⟨.slice af 0 0,⟨a,af,0,0,f,by omega,rfl,by omega,rfl,λh=>absurd h (by omega)⟩,(b8.1 e).1,λE2 k2 n2 zB h=>?_⟩;rw[e]at h;cases h;exact⟨ba _,λ_=>⟨_,c,rfl⟩⟩
def eB.S7{β:List Loc}{es:Array Event}(h:eB {s with β:=β++[⟨v,[]⟩]} es)(a:s.β=β):eB s es:=by
 intro e c;have h1:=h e c;have key:∀b,(∃L∈β++[(⟨v,[]⟩:Loc)],b∈L.bs)->∃L∈s.β,b∈L.bs:=λb ⟨L,d,hb⟩=>by grind
 unfold oG at h1⊢;grind
def bE.GJ{ie:TI}(h:lC P o x y E ie){m:Nat}{tx:Bool}{es':Nat->List C}(n:η x=.e (.one (.c (.sl ab k 0 es))))(t:∀s v,dm σ s v (η y)->Rd s.M v (.sl tx ie.size m es'))(hb:(0+m)*ie.bytes<=140737488355328):
  bE P o η σ (.e (.one (.bp σ.length (.sl (0+m) ie.size 0 (0+m))))) (σ++[.buf E ie.size (0+m) (cT 0 es es')]):=by
 intro s r hh hr;have h1:=hr x;rw[n]at h1;have h2:=t s _ (hr y);obtain⟨p,g2⟩:=hh.gz (B:=.buf E ie.size 0 es) (L:=⟨.slice af 0 0,[]⟩) (.refl _ _) rfl hh (.inl ⟨rfl,rfl⟩) (by simp);have b:gb (σ++[.buf E ie.size 0 es]) {s with β:=s.β++[⟨.slice af 0 0,[]⟩]} (r x) (.bp σ.length (.sl 0 ie.size 0 0)):=uV (E:=E) (es:=es) (fI h1) (by simp) (by simp[<-hh.len]);obtain⟨j,s',i,g,d,f,q⟩:=rM (P:=P) (σ:=σ++[.buf E ie.size 0 es]) (s:={s with β:=s.β++[⟨.slice af 0 0,[]⟩]}) (l:=σ.length) (es:=es) h p b (by simp) h2 hb;have a:(σ++[bm.buf E ie.size 0 es]).set σ.length (.buf E ie.size (0+m) (cT 0 es es'))=σ++[.buf E ie.size (0+m) (cT 0 es es')]:=by simp
 rw[a]at g d f;exact⟨j,s',i,g,d,g2.trans f,q.S7 rfl⟩
def Bl(i j m:Nat)(es:Nat->List C):Nat->List C:=λq=>if i<=q/\q<i+m then es (j+(q-i))else es q
def bE.Ix{ie:TI}(h:lC P o x y E ie){m:Nat}(hx:η x=.e (.one (.bp l (.sl n ie.size 0 i))))(hy:η y=.e (.one (.bp l (.sl n ie.size j m))))(hl:σ[l]?=aa (.buf E ie.size n es))(Yc:i+m<=n)(ZD:j+m<=n):
  bE P o η σ (.e (.one (.bp l (.sl n ie.size 0 (i+m))))) (σ.set l (.buf E ie.size n (Bl i j m es))):=by
 intro s ρ hh hr;obtain⟨t,t2,ti,ti2,ho,hi,hd,O,U⟩:=h.op;have h1:=hr x;rw[hx]at h1;change gb σ s (ρ x) (.bp l _)at h1;have h2:=hr y;rw[hy]at h2;change gb σ s (ρ y) (.bp l _)at h2;obtain⟨lv,⟨a,a0,cap,D,hv,J,SD,VY,X,VZ⟩,_,Vq⟩:=h1;obtain⟨L,hL,Q⟩:=(Vq _ _ _ _ hl).2 rfl;rw[X]at Q;obtain⟨lv',⟨a',a0',f,c0',Vr,V0,ZE,ZF,V1,ZG⟩,_,V2⟩:=h2;obtain⟨L',Y,I⟩:=(V2 _ _ _ _ hl).2 rfl;rw[hL]at Y;cases Y;rw[V1,Q]at I;cases I;have ZH:=bL hL;have hu:=hi.run_underlying (w:=s.w);have W:=O.run_underlying (w:=s.w);rw[hd]at hu;rw[U]at W;rw[de ho,hv,Vr];by_cases V3:n=0
 .have e1:i=0:=by omega
  have e2:m=0:=by omega
  subst V3 e1 e2;have Qb:σ.set l (.buf E ie.size 0 (Bl 0 j 0 es))=σ:=by
   have:Bl 0 j 0 es=es:=by funext q;simp only[Bl];grind
   rw[this];apply gQ;grind
  have hz:Rd s.M (.slice a' 0 f) (.sl ae ie.size 0 λ_=>[]):=.sl 0 0 (λ_ _=>ah) (by omega) (by omega) (by simp) (λi hi=>by omega) (λh=>by omega) (λi hi=>by omega) (λi hi=>by omega);have G:=iU (P:=P) (ty:=o.type) hi hd O U h.elem hh (a:=a) J hz;rw[Qb];refine⟨.value (.slice a 0 cap),s,?_,?_,hh,.refl _ _,er (jD hi hd O U h.elem hh J hz)⟩
  .simp[G]
  .exact⟨lv,⟨a,a0,cap,D,rfl,J,SD,VY,X,VZ⟩,(b8.1 hl).1,Vq⟩
 rcases hh.box l _ L hl hL with⟨e,_⟩|⟨b,c1,vs,N,rfl,g,ZI,ZJ,ZK,R,hM⟩
 .grind
 cases Q;have K:0<cap:=by omega
 obtain⟨b1,e1,rfl⟩:=VZ K;cases e1;have Pb:D=cap:=by omega
 subst Pb;rw[show b=b from rfl];have Pc:vs.length=n*ie.size:=R.len;have k:i+m<=D:=by omega
 have hik:i*ie.size+m*ie.size<=n*ie.size:=by rw[<-gT];exact ez _ Yc
 have ZL:j*ie.size+m*ie.size<=n*ie.size:=by rw[<-gT];exact ez _ ZD
 obtain⟨c1,c2⟩:=hh.zC (b:=b) (vs:=vs) hM (λq v F=>by
  simp only[aW,g]
  grind)
 let d:=(vs.drop (j*ie.size)).take (m*ie.size);have SE:d.length=m*ie.size:=by grind
 have ZM:∀p,p<m*ie.size->d[p]?=vs[j*ie.size+p]?:=λp B=>by grind
 have Z:Flat s.M ie.size m (λq=>es (j+q)) d:=by
  refine⟨SE,λq F=>R.width _ (by omega),λq F p c B=>?_⟩;have hpk:p<ie.size:=by have:=(b8.1 B).1;rw[R.width _ (by omega)]at this;exact this
  obtain⟨v,v1,v2⟩:=R.rd (j+q) (by omega) p c B;refine⟨v,?_,v2⟩;have ZN:q*ie.size+ie.size<=m*ie.size:=by rw[<-kM];exact ez _ F
  grind
 have r:∀v∈d,v.oneCell'=ab:=Z.cell;have Vs:Rd (λu q=>if u=b then vs[q]? else s.M u q) (.slice a' m f) (.sl ae ie.size m (Ik ie.size λq p=>vs.getD ((j+q)*ie.size+p) ah)):=by
  refine .sl b (j*ie.size) (λq p=>vs.getD ((j+q)*ie.size+p) ah) V0 (by omega) (by simp) (λq _=>by simp[Ik]) (λB=>?_) (λq F p c B=>?_) (λq F p c B=>?_)
  .grind
  .obtain⟨p1,_⟩:=p0 B;have ZN:q*ie.size+ie.size<=m*ie.size:=by rw[<-kM];exact ez _ F
   grind
  .obtain⟨p1,rfl⟩:=p0 B;obtain⟨c',V4⟩:∃c',(es (j+q))[p]?=aa c':=⟨_,bg (by rw[R.width _ (by omega)];exact p1)⟩
   obtain⟨v,v1,v2⟩:=R.rd (j+q) (by omega) p c' V4;have e:vs.getD ((j+q)*ie.size+p) ah=v:=by grind
   rw[e];exact .val v2.cell
 obtain⟨A,Yd,hf,H⟩:=dW (P:=P) (s:={s with M:=λu q=>if u=b then vs[q]? else s.M u q}) c1 Vs;have ZO:A=d:=by
  apply gQ;intro p;have Dr:A.length=m*ie.size:=Yd.len;by_cases B:p<m*ie.size
  .have hk:0<ie.size:=by grind
   have F:p / ie.size<m:=pO (by grind);have S8:p / ie.size*ie.size+p % ie.size=p:=pU p ie.size;obtain⟨v,v1,v2⟩:=Yd.rd _ F (p % ie.size) _ (Dz (iA _ hk));rw[S8]at v1;rw[v1,ZM p B,Rd.fu v2];rw[gT,Nat.add_assoc,S8,ai,bg (by omega)];rfl
  grind
 subst ZO;have Iy:=gL (P:=P) (s:={s with M:=λu q=>if u=b then vs[q]? else s.M u q}) c1 Vs (w:=s.w) rfl;replace hf:(Builtin.firstCells ie.size m (.slice a' m f)).run P s.w=.ok d.toArray s.w:=hf;have ZP:i*ie.size+d.length<=(vs++N).length:=by grind
 have C:=run_storeCells_at P b (i*ie.size) E d 0 (vs++N).toArray s.w g (by grind) r;simp only[ia]at C;have Qc:((vs++N).toArray.toList.take (i*ie.size)++d++(vs++N).toArray.toList.drop (i*ie.size+d.length))=vs.take (i*ie.size)++d++vs.drop (i*ie.size+d.length)++N:=by grind
 rw[Qc]at C;have q2:=R.S6 Z Yc;have he:(λq=>if i<=q/\q<i+m then(λq=>es (j+q)) (q-i)else es q)=Bl i j m es:=rfl;rw[he]at q2;obtain⟨t1,ZQ⟩:=hh.ef hl hL ZI ZJ ZK g q2 (by grind) hM;have z:(Builtin.lenOf (.slice a' m f)).run P s.w=.ok m s.w:=by rw[H];rfl
 have V:(Builtin.lenOf (.slice a' m f)).events P s.w #[]=#[]:=by rw[H];rfl
 refine⟨.value (.slice (aa ⟨b,0*ie.size,af⟩) (i+m) D),_,?_,?_,t1,ZQ,er ?_⟩
 .have G:(Builtin.append_ #[t,t2] o.type #[.slice (aa ⟨b,0*ie.size,af⟩) i D,.slice a' m f]).run P s.w=.ok (.slice (aa ⟨b,0*ie.size,af⟩) (i+m) D) (s.w.setRow b (vs.take (i*ie.size)++d++vs.drop (i*ie.size+d.length)++N).toArray):=by unfold Builtin.append_;simp only[hX,ju,nF,bT,hu,W,cm,h.elem.run_sizeOf,cV,gO,bS,z,k,bY,kX,hf,dr,Nat.zero_mul,bA,C]
  grind[Go.Sem.run_bind,Go.Result.andThen_ok,Go.Sem.run_pure]
 .exact⟨.slice (aa ⟨b,0,af⟩) 0 D,⟨_,_,D,D,rfl,k,by omega,VY,rfl,λ_=>⟨b,rfl,rfl⟩⟩,by grind,λE2 k2 n2 zB Pd=>by rw[fO (b8.1 hl).1]at Pd;cases Pd;exact⟨ba _,λ_=>⟨_,hL,rfl⟩⟩⟩
 .intro e S;unfold Builtin.append_ at S;simp only[hX,ju,nF,aP,bT,hu,W,aU,h.elem.run_sizeOf,cV,gO,bS,z,V,k,bY,kX,hf,dr,Nat.zero_mul,bA,C,
   rK,Sem.events_ite,events_underlying,events_sizeOf,Sem.events_pure]at S
  rcases ek d 0 (vs++N).toArray s.w _ g (by grind) r e S with h3|⟨p,_,_,rfl⟩
  .have h4:eB {s with M:=λu q=>if u=b then vs[q]? else s.M u q} #[e]:=eB.one (sR (Iy e h3))
   exact h4.vn (b:=b) ZH (by simp) c2 (λu q v hv=>by grind) e (by simp)
  grind[k6]
section
variable {T:List (Nat×TI)}
theorem bE.slice3B(H:dg P T){w z:aC}(h:o.op=.slice t x (aa w) (aa y) (aa z)){F ie:TI}(D:bH T t=aa F)(O:F.desc=.slice E)(I:bH T E=aa ie){g q:Nat}{v s u:IntKind}{i j m:Int}(J:η x=.e (.one (.bp l (.sl g k q n))))(M:η w=.e (.one (.c (.int v i))))(V:η y=.e (.one (.c (.int s j))))(L:η z=.e (.one (.c (.int u m))))(Y:0<=i)(h1:i<=j)(h2:j<=m)(W:m<=n):bE P o η σ (.e (.one .any)) σ:=by
 refine .quiet λst ρ hh hr=>?_;have r:=hr x;rw[J]at r;change gb σ st (ρ x) (.bp l _)at r;obtain⟨lv,⟨a,a0,cap,X,G,R,Q,U,K,N⟩,_,_⟩:=r;have p:=hr w;rw[M]at p;replace p:=fI p;generalize A:ρ w=vw at p;cases p;have d:=hr y;rw[V]at d;replace d:=fI d;generalize B:ρ y=vy at d;cases d;have f:=hr z;rw[L]at f;replace f:=fI f;generalize C:ρ z=vz at f;cases f;have b:=(H t F D).run_underlying (w:=st.w);rw[O]at b;have hb:(bh ab n cap (aa (.int v i)) (aa (.int s j)) (aa (.int u m))).run P st.w=.ok (i.toNat,j.toNat,m.toNat) st.w:=by simp[bh,run_sliceBound (P:=P) st.w u m cap _ (by omega) (by omega),run_sliceBound (P:=P) st.w s j m.toNat _ (by omega) (by omega),run_sliceBound (P:=P) st.w v i j.toNat _ (by omega) (by omega)]
 have S:(bh ab n cap (aa (.int v i)) (aa (.int s j)) (aa (.int u m))).events P st.w #[]=#[]:=by
  simp[bh,run_sliceBound (P:=P) st.w u m cap _ (by omega) (by omega),run_sliceBound (P:=P) st.w s j m.toNat _ (by omega) (by omega),run_sliceBound (P:=P) st.w v i j.toNat _ (by omega) (by omega),
   dX (P:=P) st.w u m cap _ (by omega) (by omega),dX (P:=P) st.w s j m.toNat _ (by omega) (by omega),dX (P:=P) st.w v i j.toNat _ (by omega) (by omega)]
 refine⟨.slice (if m.toNat=i.toNat then a else a.map (·.add (i.toNat*ie.size))) (j.toNat-i.toNat) (m.toNat-i.toNat),?_,rfl,by simp[ak,h,G,A,B,C,Instr.sliceAt,b,Instr.slice,hb,S]⟩;simp[ak,h,G,A,B,C,Instr.sliceAt,b,Instr.slice,hb,(H E ie I).run_sizeOf]
end
section drop
variable {σ1 rest:List bm}
def St.cut(s:St)(n:Nat):St:={s with β:=s.β.take n}
def gb.drop{a:A}(r:gb (σ1++rest) s v a)(d:GO σ1.length a=ab):gb σ1 (s.cut σ1.length) v a:=by
 have lt:∀{l:Nat},bz (l+1) σ1.length=ab->l<σ1.length:=λh=>dM h;cases a with
 |c x=>exact r
 |any=>exact r
 |ptr l o =>
  have hl:=lt d;obtain⟨f,L,b,p,g⟩:=r;refine⟨λB m=>f B (by grind),L,b,?_,g⟩;simp only[St.cut,eX,hl,bY];exact p
 |ref l =>
  have hl:=lt d;obtain⟨f,L,p,g⟩:=r;refine⟨λB m=>f B (by grind),L,?_,g⟩;simp only[St.cut,eX,hl,bY];exact p
 |bp l w =>
  have hl:=lt d;obtain⟨lv,f,_,g⟩:=r;refine⟨lv,f,hl,λE k' n' es' m=>?_⟩;obtain⟨h1,h2⟩:=g E k' n' es' (by grind);refine⟨h1,λe=>?_⟩;obtain⟨L,i,j⟩:=h2 e;refine⟨L,?_,j⟩;simp only[St.cut,eX,hl,bY];exact i
 |vec l k n es =>
  have hl:=lt d;obtain⟨f,_,g⟩:=r;refine⟨f,hl,λE k' n' es' m=>?_⟩;obtain⟨h1,h2⟩:=g E k' n' es' (by grind);refine⟨h1,λe=>?_⟩;obtain⟨L,i,j⟩:=h2 e;refine⟨L,?_,j⟩;simp only[St.cut,eX,hl,bY];exact i
def eb.xY:∀{vs:List aj}{cs:List A},eb (σ1++rest) s vs cs->Fy σ1.length cs=ab->eb σ1 (s.cut σ1.length) vs cs
 |[],[],_,_=>trivial
 |[],_::_,r,_=>r.elim
 |_::_,[],r,_=>r.elim
 |v::vs,c::cs,r,h=>by
  simp only[Fy]at h;cases a:GO σ1.length c with
  |false=>grind
  |true=>simp only[a]at h;exact⟨r.1.drop a,eb.xY r.2 h⟩
def nD.xY{v:aj}{e:E1}(r:nD (σ1++rest) s v e)(h:II σ1.length e=ab):nD σ1 (s.cut σ1.length) v e:=by
 cases e with
 |one a=>exact gb.drop r h
 |agg cs=>obtain⟨vs,h1,h2⟩:=r;exact⟨vs,h1,eb.xY h2 h⟩
def gF.xY:∀{vs:List aj}{cs:List E1},gF (σ1++rest) s vs cs->xS σ1.length cs=ab->gF σ1 (s.cut σ1.length) vs cs
 |[],[],_,_=>trivial
 |[],_::_,r,_=>r.elim
 |_::_,[],r,_=>r.elim
 |v::vs,c::cs,r,h=>by
  simp only[xS]at h;cases a:II σ1.length c with
  |false=>grind
  |true=>simp only[a]at h;exact⟨nD.xY r.1 a,gF.xY r.2 h⟩
def dm.drop{d:D}(r:dm (σ1++rest) s v d)(h:vA σ1.length d=ab):dm σ1 (s.cut σ1.length) v d:=by
 cases d with
 |e x=>exact nD.xY r h
 |fz xs=>obtain⟨vs,h1,h2⟩:=r;exact⟨vs,h1,gF.xY h2 h⟩
 |any=>trivial
def cR.drop{σ0:List bm}{s0:St}(st:cR σ0 s0 (σ1++rest) s)(c:σ0.length<=σ1.length):cR σ0 s0 σ1 (s.cut σ1.length):=by refine⟨st.size,st.keep,st.mem,st.iO,λL a b hb=>st.uW L (jy a) b hb,?_,st.os,st.tape,st.output,st.own⟩;intro l B L d a;obtain⟨B',L',h1,h2,e⟩:=st.box l B L d a;have hl:l<σ1.length:=cB (b8.1 d).1 c;rw[js hl]at h1;exact⟨B',L',h1,by simp only[St.cut,eX,hl,bY];exact h2,e⟩
def gb.rX{a:A}(hl:s.β.length=σ.length)(r:gb σ s v a):GO σ.length a=ab:=by
 have ok:∀{l:Nat},l<σ.length->bz (l+1) σ.length=ab:=λh=>rA h;have lt:∀{l:Nat} {L:Loc},s.β[l]?=aa L->l<σ.length:=λh=>by grind
 cases a with
 |c x=>rfl
 |any=>rfl
 |ptr l o=>obtain⟨_,L,b,d,_⟩:=r;exact ok (lt d)
 |ref l=>obtain⟨_,L,d,_⟩:=r;exact ok (lt d)
 |bp l w=>obtain⟨lv,_,h,_⟩:=r;exact ok h
 |vec l k n es=>exact ok r.2.1
def eb.rX{σ:List bm}(hl:s.β.length=σ.length):∀{vs:List aj}{cs:List A},eb σ s vs cs->Fy σ.length cs=ab
 |[],[],_=>rfl
 |[],_::_,r=>r.elim
 |_::_,[],r=>r.elim
 |v::vs,c::cs,r=>by simp only[Fy,r.1.rX hl];exact eb.rX hl r.2
def nD.rX{σ:List bm}(hl:s.β.length=σ.length){v:aj}{e:E1}(r:nD σ s v e):II σ.length e=ab:=by
 cases e with
 |one a=>exact gb.rX hl r
 |agg cs=>obtain⟨vs,_,h⟩:=r;exact eb.rX hl h
def gF.rX{σ:List bm}(hl:s.β.length=σ.length):∀{vs:List aj}{cs:List E1},gF σ s vs cs->xS σ.length cs=ab
 |[],[],_=>rfl
 |[],_::_,r=>r.elim
 |_::_,[],r=>r.elim
 |v::vs,c::cs,r=>by simp only[xS,nD.rX hl r.1];exact gF.rX hl r.2
def dm.rX{σ:List bm}(hl:s.β.length=σ.length){v:aj}{d:D}(r:dm σ s v d):vA σ.length d=ab:=by
 cases d with
 |e x=>exact nD.rX hl r
 |fz xs=>obtain⟨vs,_,h⟩:=r;exact gF.rX hl h
 |any=>rfl
def Qy(n:Nat)(σ0:List bm)(l:Nat)(B:bm):Prop:=(∃E cs,B=.cells E cs/\Fy n cs=ab)∨σ0[l]?=aa B∨(∃N φ r r',B=.loop N φ r/\σ0[l]?=aa (.loop N φ r'))∨((∀E cs,B≠.cells E cs)/\∀N φ r,B≠.loop N φ r)
def aD.Tu{s0:St}{σ0:List bm}(i:aD σ0 s0)(a:σ0.length=σ1.length)(v:∀(l:Nat)(B:bm),σ1[l]?=aa B->Qy σ1.length σ0 l B)(h:aD (σ1++rest) s):aD σ1 (s.cut σ1.length):=by
 have hl:σ1.length<=s.β.length:=by rw[h.len];simp
 refine⟨h.mem,by simp[St.cut,hl],?_,?_,?_,λb hb=>⟨(h.own b hb).1,λL d=>(h.own b hb).2 L (jy d)⟩⟩
 .intro l B L u d;have j:l<σ1.length:=(b8.1 u).1;simp only[St.cut,eX,j,bY]at d;have c:=h.box l B L (by grind) d;have f:∃m,s0.β[l]?=aa m:=⟨_,bg (by rw[i.len,a];exact j)⟩
  obtain⟨m,f⟩:=f;have w:=i.len.trans a;cases B with
  |cells E cs =>
   obtain⟨b,vs,h1,h2,o,p⟩:=c;refine⟨b,vs,h1,h2,eb.xY o ?_,p⟩;rcases v l _ u with⟨_,_,e,q⟩|q|⟨_,_,_,_,e,_⟩|q
   .grind
   .obtain⟨_,_,_,_,x,_⟩:=i.box l _ m q f;exact a▸x.rX i.len
   .cases e
   grind
  |vec E k n es=>exact c
  |cq H=>exact c
  |dead=>trivial
  |loop N φ r =>
   obtain⟨l',tmps,fn,A,h1,h2,o,p,y⟩:=c;have key:∃r',σ0[l]?=aa (.loop N φ r'):=by
    rcases v l _ u with⟨_,_,e,_⟩|q|⟨_,_,_,r',e,q⟩|q
    .cases e
    .grind
    .grind
    grind
   obtain⟨r',q⟩:=key;obtain⟨_,_,_,_,_,_,_,z,_⟩:=i.box l _ m q f;exact⟨l',tmps,fn,A,h1,h2,o,λt=>(p t).drop (a▸(z t).rX i.len),y⟩
  |qT=>exact c
  |buf E k n es=>exact c
 .intro l l' L L' d g b hb ov;simp only[St.cut,eX]at d g;split at d<;>split at g<;>first|exact h.eZ l l' L L' d g b hb ov|grind|grind
 .intro L d b hb;exact h.lt L (jy d) b hb
def aD.Tv{s0:St}(a:aD σ1 s0)(h:aD (σ1++rest) s):aD σ1 (s.cut σ1.length):=a.Tu rfl (λ_ _ h=>.inr (.inl h)) h
def OA.Tw{X:Cx P}(h:OA X N all o φ σ (.e (.one (.vec σ.length k n es))) (σ++[.vec E k n es])):OA X N all o φ σ (.e (.one (.c (.sl ae k n es)))) σ:=by
 intro s a f hh b kk cs S i rest hb hi hK;refine h s a f hh b kk cs S i rest hb hi λv s' hv jq st=>?_;have g:eO s' (s'.cut σ.length):=⟨rfl,λ_ _ _ h=>h,λ_ _ _=>rfl,jq.mem,λb hb=>hb.imp id λ⟨L,d,hb⟩=>⟨L,jy d,hb⟩⟩
 exact .ghost g (hK v (s'.cut σ.length) hv.1 (hh.Tv jq) (st.drop (ba _)))
end drop
end Go.AM
