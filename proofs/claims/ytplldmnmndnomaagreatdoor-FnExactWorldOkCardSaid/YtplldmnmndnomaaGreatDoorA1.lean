/-
  Part 1 of a machine of values without memory, proved sound over the model, and of contracts of the functions that the laws reach. Nothing is taken for granted: no condition.
-/
import Derived.Tactics2
import Derived.Conc.Own
import Derived.Conc.Events
import Derived.Conc.Listed
import Derived.Laws.CopyRow
import Derived.Laws.AppendOwn
import Derived.Laws.Rows
import Derived.Laws.Strings
import Derived.Laws.Cells
set_option linter.unusedVariables false
set_option linter.unusedSimpArgs false
set_option linter.defProp false
set_option linter.deprecated false
namespace Go
set_option linter.defProp false
set_option linter.deprecated false
def aj:=@_root_.List.getElem?_eq_getElem
def ab:=@_root_.trivial
def aE:=@_root_.List.getElem?_eq_some_iff
def aG:=@_root_.List.mem_of_getElem?
def az:=@_root_.Int.toNat_natCast
def aD:=@_root_.decide_eq_true_eq
def bk:=@_root_.Nat.eq_of_beq_eq_true
def ah:=@_root_.and_true
def ai:=@_root_.true_and
def bS:=@_root_.List.getElem?_append_left
def bA:=@_root_.Array.getD_eq_getD_getElem?
def a9:=@_root_.decide_eq_false_iff_not
def ar:=@_root_.Nat.le_refl
def bJ:=@_root_.Array.getElem?_eq_getElem
def br:=@_root_.List.getElem?_set_self
def aw:=@_root_.Nat.zero_add
def bc:=@_root_.List.length_append
def bm:=@_root_.Nat.lt_of_lt_of_le
def cj:=@_root_.List.getElem?_append_right
def bj:=@_root_.Go.Result.andThen_ok
def aQ:=@_root_.decide_eq_true
def bF:=@_root_.Bool.and_eq_true
def b7:=@_root_.List.getElem?_set_ne
def bL:=@_root_.Option.some.injEq
def aU:=@_root_.Go.Sem.run_bind
def an:=@_root_.if_neg
def aq:=@_root_.if_pos
def bV:=@_root_.decide_eq_false
def dF:=@_root_.Array.getElem?_eq_some_iff
def cY:=@_root_.Nat.le_of_ble_eq_true
def bC:=@_root_.Nat.lt_or_ge
def dG:=@_root_.Nat.lt_succ_iff_lt_or_eq
def cp:=@_root_.Option.getD_some
def fu:=@_root_.List.eq_nil_of_length_eq_zero
def aM:=@_root_.if_false
def c9:=@_root_.List.append_assoc
def ck:=@_root_.Bool.true_and
def cZ:=@_root_.List.take_length
def eb:=@_root_.Nat.mul_le_mul_right
def dH:=@_root_.List.getElem_of_mem
def dx:=@_root_.List.getElem?_take
def jR:=@_root_.Array.getElem?_setIfInBounds_self_of_lt
def cd:=@_root_.Go.Sem.run_pure
def ic:=@_root_.Array.getElem?_setIfInBounds_ne
def aV:=@_root_.if_true
def fw:=@_root_.List.length_singleton
def eZ:=@_root_.beq_eq_false_iff_ne
def dJ:=@_root_.List.mem_append
def fx:=@_root_.Array.length_toList
def gb:=@_root_.List.getElem?_toArray
def e9:=@_root_.not_true_eq_false
def fy:=@_root_.List.mem_singleton
def dy:=@_root_.List.mem_cons
def fa:=@_root_.List.length_cons
def fO:=@_root_.Bool.false_eq_true
def b8:=@_root_.congrArg
def jS:=@_root_.Array.getElem?_replicate
def iL:=@_root_.List.getElem?_eq_none
def fQ:=@_root_.Nat.not_lt_zero
def ey:=@_root_.Nat.add_zero
def ig:=@_root_.Nat.eq_zero_or_pos
def jT:=@_root_.List.take_append_drop
def kG:=@_root_.Nat.add_sub_cancel_left
def gF:=@_root_.List.getElem_mem
def ez:=@_root_.Nat.add_mul
def jU:=@_root_.List.mem_of_mem_take
def jV:=@_root_.List.mem_iff_getElem
def jW:=@_root_.Array.toArray_toList
def gG:=@_root_.Option.map_some
def gH:=@_root_.List.append_nil
def iM:=@_root_.Bool.not_eq_true'
def mP:=@_root_.Array.toList_setIfInBounds
def mQ:=@_root_.List.findIdx?_eq_none_iff
def ly:=@_root_.Array.getElem?_toList
def gd:=@_root_.Nat.le_trans
def iN:=@_root_.List.length_map
def mR:=@_root_.List.getElem?_cons_zero
def kH:=@_root_.of_decide_eq_true
def mS:=@_root_.Option.map_eq_some_iff
def lz:=@_root_.Nat.add_sub_cancel
def kI:=@_root_.List.length_drop
def kJ:=@_root_.Bool.not_eq_true
def iO:=@_root_.List.map_cons
def mT:=@_root_.List.mem_cons_of_mem
def lA:=@_root_.List.take_add_one
def od:=@_root_.List.getElem?_cons_succ
def lB:=@_root_.List.ext_getElem?
def lC:=@_root_.Int.emod_eq_of_lt
def kK:=@_root_.List.length_nil
def kL:=@_root_.Bool.or_eq_true
def gI:=@_root_.Array.ext'
def oe:=@_root_.Classical.choose_spec
def og:=@_root_.Array.mem_of_getElem?
def tP:=@_root_.List.findIdx?_eq_some_iff_getElem
def qm:=@_root_.List.mem_or_eq_of_mem_set
def qn:=@_root_.Array.mapM_eq_mapM_toList
def lD:=@_root_.Option.some.inj
def lE:=@_root_.Bool.eq_iff_iff
def jX:=@_root_.Nat.beq_refl
def mU:=@_root_.List.size_toArray
def kM:=@_root_.List.getElem?_map
def iy:=@_root_.Prod.mk.injEq
def iz:=@_root_.Nat.add_assoc
def kN:=@_root_.Option.bind_some
def jw:=@_root_.List.mapM_cons
def gf:=@_root_.beq_iff_eq
def iA:=@_root_.Nat.mul_comm
def iB:=@_root_.Nat.add_comm
def l6:=@_root_.List.getElem?_drop
def nb:=@_root_.Array.getElem?_push_lt
def cf:=@_root_.ne_eq
def kO:=@_root_.List.foldl_cons
def nc:=@_root_.Bool.and_eq_false_iff
def kP:=@_root_.Bool.false_and
def kQ:=@_root_.Bool.and_false
def jy:=@_root_.Nat.sub_zero
def jz:=@_root_.List.map_nil
def l7:=@_root_.UInt8.toNat_inj
def nd:=@_root_.Option.toList_some
def kR:=@_root_.Nat.succ_mul
def l8:=@_root_.List.mem_range
def nh:=@_root_.List.foldl_append
def pH:=@_root_.Array.getElem?_eq_none
def pI:=@_root_.Nat.ble_eq_true_of_le
def jA:=@_root_.Nat.mod_lt
def kS:=@_root_.Nat.zero_le
def ni:=@_root_.List.map_append
def pJ:=@_root_.Nat.mul_le_mul_left
def pK:=@_root_.List.flatMap_append
def nj:=@_root_.Array.mem_push
def tQ:=@_root_.Array.getElem?_append_left
def tR:=@_root_.List.pairwise_iff_getElem
def tS:=@_root_.List.drop_eq_getElem_cons
def l9:=@_root_.Nat.one_mul
def ma:=@_root_.Nat.mul_one
def pL:=@_root_.List.any_eq_false
def tT:=@_root_.Nat.le_mul_of_pos_right
def pM:=@_root_.List.not_mem_nil
def pO:=@_root_.List.ext_getElem
def nk:=@_root_.getElem!_pos
def tU:=@_root_.List.range_succ_eq_map
def nn:=@_root_.List.mem_map
def tV:=@_root_.List.length_pos_of_mem
def tX:=@_root_.List.drop_eq_nil_of_le
def pP:=@_root_.List.mem_filter
def tY:=@_root_.List.mem_iff_getElem?
def tZ:=@_root_.List.contains_iff_mem
def ua:=@_root_.Array.getElem?_modify
def ub:=@_root_.UInt8.lt_or_lt_of_ne
def pQ:=@_root_.List.take_zero
def pR:=@_root_.Bool.not_false
def uc:=@_root_.Nat.add_sub_cancel'
def ud:=@_root_.List.toList_toArray
def ue:=@_root_.List.flatten_append
def uf:=@_root_.List.findSome?_cons
def ug:=@_root_.Int.toNat_of_nonneg
def pS:=@_root_.Bool.false_or
end Go
namespace Go.AM
inductive C where
  | int (k:IntKind) (n:Int)
  | bool (b:Bool)
  | str (s:List UInt8)
  | sl (tight:Bool) (k n:Nat) (es:Nat->List C)
  | rp (cs:List C)
  | kg
  | ifs (t:TypeId) (c:C)
  | Dj (t:TypeId) (cs:List C)
  | kW
  | fn (f:Fn) (first cap:List C)
  | uq
  | val (x:Value)
inductive BP where
  | sl (g k o n:Nat)
  | el (g k i f:Nat)
def BP.g:BP->Nat
  | .sl g _ _ _=>g
  | .el g _ _ _=>g
def BP.K:BP->Value->Value->Prop
  | .sl _ k o n,lv,v=>∃ a a0 cap c0,v=.slice a n cap/\n<=cap/\o+cap=c0/\c0<=9223372036854775807/\lv=.slice a0 0 c0/\(0<cap->∃ b,a0=some ⟨b,0,none⟩/\a=some ⟨b,o*k,none⟩)
  | .el _ k i f,lv,v=>∃ b c0,lv=.slice (some ⟨b,0,none⟩) 0 c0/\v=.pointer (some ⟨b,i*k+f,none⟩)
inductive A where
  | c (x:C)
  | ptr (l off:Nat)
  | vec (l k n:Nat) (es:Nat->List C)
  | ref (l:Nat)
  | bp (l:Nat) (w:BP)
  | any
abbrev A.v (x:Value):A:=.c (.val x)
inductive E1 where
  | one (a:A)
  | agg (cs:List A)
inductive D where
  | e (x:E1)
  | eD (xs:List E1)
  | any
abbrev Fr:=List (Nat×D)
def look:Fr->Nat->D
  | [],_=>.any
  | (i,d)::r,t=>cond (Nat.beq i t) d (look r t)
inductive ak where
  | cells (E:TypeId) (cs:List A)
  | vec (E:TypeId) (k n:Nat) (es:Nat->List C)
  | cQ (H:Value->(Nat->Option Obj)->Prop)
  | dead
  | loop (N:Nat) (φ:Fr) (r:Loop)
  | oc
  | buf (E:TypeId) (k n:Nat) (es:Nat->List C)
@[simp] def ak.gr:ak->Bool
  | .vec _ _ _ _=>true
  | .buf _ _ _ _=>true
  | _=>false
structure Loc where
  v:Value
  bs:List Nat
abbrev Mem:=Nat->Nat->Option Value
structure St where
  β:List Loc
  M:Mem
  w:World
  own:Nat->Prop
def aB:IntKind->Int->Prop
  | .i8,n=>-128<=n/\n<=127
  | .i16,n=>-32768<=n/\n<=32767
  | .i32,n=>-2147483648<=n/\n<=2147483647
  | .i64,n=>-9223372036854775808<=n/\n<=9223372036854775807
  | .u8,n=>0<=n/\n<=255
  | .u16,n=>0<=n/\n<=65535
  | .u32,n=>0<=n/\n<=4294967295
  | .u64,n=>0<=n/\n<=18446744073709551615
def cE:Value->Bool
  | .agg _|.tuple _=>false
  | _=>true
theorem BP.K.cell {w:BP} {lv v:Value} (h:w.K lv v):cE v=true:=by
  cases w with
  | sl=>obtain⟨_,_,_,_,rfl,_⟩:=h;rfl
  | el=>obtain⟨_,_,_,rfl⟩:=h;rfl
inductive Rd (M:Mem):Value->C->Prop
  | int {k:IntKind} {n:Int} (h:aB k n):Rd M (.int k n) (.int k n)
  | bool {b:Bool}:Rd M (.bool b) (.bool b)
  | str {s:ByteArray} {l:List UInt8} (h:s.data.toList=l) (hl:l.length<=9223372036854775807):Rd M (.string s) (.str l)
  | sl {a:Option Addr} {n cap:Nat} {tight:Bool} {k:Nat} {es:Nat->List C} (b off:Nat) (f:Nat->Nat->Value)
      (Jz:n<=cap) (hb:cap<=9223372036854775807) (ht:tight=true->cap=n) (hk:∀ i,i<n->(es i).length=k)
      (ha:0<n->a=some ⟨b,off,none⟩)
      (hm:∀ i,i<n->∀ j c,(es i)[j]?=some c->M b (off+i*k+j)=some (f i j))
      (hr:∀ i,i<n->∀ j c,(es i)[j]?=some c->Rd M (f i j) c):Rd M (.slice a n cap) (.sl tight k n es)
  | rp {cs:List C} (b off:Nat) (f:Nat->Value)
      (hm:∀ j c,cs[j]?=some c->M b (off+j)=some (f j))
      (hr:∀ j c,cs[j]?=some c->Rd M (f j) c):Rd M (.pointer (some ⟨b,off,none⟩)) (.rp cs)
  | kg:Rd M (.pointer none) .kg
  | ifs {t:TypeId} {v:Value} {c:C} (h:Rd M v c) (hc:cE v=true):Rd M (.iface t v) (.ifs t c)
  | Dj {t:TypeId} {vs:List Value} {cs:List C} (hl:vs.length=cs.length)
      (f:Nat->Value) (hf:∀ j,j<vs.length->vs[j]?=some (f j)) (hr:∀ j c,cs[j]?=some c->Rd M (f j) c):Rd M (.iface t (.agg vs.toArray)) (.Dj t cs)
  | kW:Rd M .nilIface .kW
  | fn {g:Fn} {first cap:List C} (fs cs:List Value) (hl:fs.length=first.length) (yd:cs.length=cap.length) (f1 f2:Nat->Value)
      (h1:∀ j,j<fs.length->fs[j]?=some (f1 j)) (h2:∀ j,j<cs.length->cs[j]?=some (f2 j))
      (r1:∀ j c,first[j]?=some c->Rd M (f1 j) c) (r2:∀ j c,cap[j]?=some c->Rd M (f2 j) c):Rd M (.func g fs.toArray cs.toArray) (.fn g first cap)
  | uq:Rd M .nilFunc .uq
  | val {x:Value} (h:cE x=true):Rd M x (.val x)
theorem Rd.ft {M:Mem} {v x:Value} (h:Rd M v (.val x)):v=x:=by cases h;rfl
theorem Rd.cell {M:Mem} {v:Value} {c:C} (h:Rd M v c):cE v=true:=by cases h <;> first|rfl|assumption
theorem Rd.mono {M M':Mem} (k:∀ b o v,M b o=some v->M' b o=some v) {v:Value} {c:C} (h:Rd M v c):Rd M' v c:=by
  induction h with
  | int h=>exact .int h
  | bool=>exact .bool
  | str h hl=>exact .str h hl
  | sl b off f d m n r q e g a =>
    exact .sl b off f d m n r q (λi hi j c hj=>k _ _ _ (e i hi j c hj)) (λi hi j c hj=>a i hi j c hj)
  | rp b off f e g a=>exact .rp b off f (λj c hj=>k _ _ _ (e j c hj)) (λj c hj=>a j c hj)
  | kg=>exact .kg
  | ifs h l a=>exact .ifs a l
  | Dj hl f p g a=>exact .Dj hl f p (λj c hj=>a j c hj)
  | kW=>exact .kW
  | fn fs cs hl yd f1 f2 h1 h2 r1 r2 Tg Th=>exact .fn fs cs hl yd f1 f2 h1 h2 (λj c hj=>Tg j c hj) (λj c hj=>Th j c hj)
  | uq=>exact .uq
  | val h=>exact .val h
def eQ (σ:List ak) (s:St) (v:Value):A->Prop
  | .c x=>Rd s.M v x
  | .ptr l off=>(∀ B,σ[l]?=some B->B.gr=false)/\∃ L b,s.β[l]?=some L/\L.v=.pointer (some ⟨b,0,none⟩)/\v=.pointer (some ⟨b,off,none⟩)
  | .vec l k n es=>Rd s.M v (.sl false k n es)/\l<σ.length/\∀ E k' n' es',σ[l]?=some (ak.vec E k' n' es')->n<=n'/\(n'=n->∃ L,s.β[l]?=some L/\v=L.v)
  | .ref l=>(∀ B,σ[l]?=some B->B.gr=false)/\∃ L,s.β[l]?=some L/\v=L.v/\cE v=true
  | .bp l w=>∃ a,w.K a v/\l<σ.length/\∀ E k n es,σ[l]?=some (ak.buf E k n es)->w.g<=n/\(w.g=n->∃ L,s.β[l]?=some L/\L.v=a)
  | .any=>cE v=true
def cu (σ:List ak) (s:St):List Value->List A->Prop
  | [],[]=>True
  | v::vs,a::al=>eQ σ s v a/\cu σ s vs al
  | _,_=>False
def jr (σ:List ak) (s:St) (v:Value):E1->Prop
  | .one a=>eQ σ s v a
  | .agg cs=>∃ vs:List Value,v=.agg vs.toArray/\cu σ s vs cs
def dX (σ:List ak) (s:St):List Value->List E1->Prop
  | [],[]=>True
  | v::vs,a::al=>jr σ s v a/\dX σ s vs al
  | _,_=>False
def b5 (σ:List ak) (s:St) (v:Value):D->Prop
  | .e x=>jr σ s v x
  | .eD xs=>∃ vs:List Value,v=.tuple vs.toArray/\dX σ s vs xs
  | .any=>True
def bZ (σ:List ak) (s:St):List Value->List D->Prop
  | [],[]=>True
  | v::vs,a::al=>b5 σ s v a/\bZ σ s vs al
  | _,_=>False
structure Flat (M:Mem) (k n:Nat) (es:Nat->List C) (vs:List Value):Prop where
  len:vs.length=n*k
  width:∀ i,i<n->(es i).length=k
  rd:∀ i,i<n->∀ (j:Nat) (c:C),(es i)[j]?=some c->∃ v,vs[i*k+j]?=some v/\Rd M v c
theorem Flat.mono {M M':Mem} (a:∀ b o v,M b o=some v->M' b o=some v) {k n:Nat} {es:Nat->List C} {vs:List Value} (h:Flat M k n es vs):Flat M' k n es vs :=
  ⟨h.len,h.width,λi hi j c hj=>let ⟨v,h1,h2⟩:=h.rd i hi j c hj;⟨v,h1,h2.mono a⟩⟩
def dq (σ:List ak) (s:St):ak->Loc->Prop
  | .cells E cs,L=>∃ b vs,L=⟨.pointer (some ⟨b,0,none⟩),[b]⟩/\s.w.heap[b]?=some (.cells (List.toArray vs) E (0,0))/\cu σ s vs cs/\∀ o,s.M b o=none
  | .vec E k n es,L=>Rd s.M L.v (.sl false k n es) /\
      (((L.bs=[]/\n=0)/\Rd s.M L.v (.sl true k n es)) ∨
       ∃ b cap vs,L=⟨.slice (some ⟨b,0,none⟩) n cap,[b]⟩/\s.w.heap[b]?=some (.cells (List.toArray vs) E (0,0))/\vs.length=cap*k/\∀ o,n*k<=o->s.M b o=none)
  | .cQ H,L=>∃ c,H L.v c/\(∀ (b:Nat) (o:Obj),c b=some o->s.w.heap[b]?=some o)/\(∀ b,b∈L.bs↔(c b).isSome=true)/\∀ b∈L.bs,∀ o,s.M b o=none
  | .dead,_=>True
  | .loop N φ r,L=>∃ l tmps fn df,L=⟨.func (.yield l) #[] #[],[l]⟩/\s.w.heap[l]?=some (.loop { r with tmps:=tmps,fn:=fn,defers:=df })/\tmps.size=N/\(∀ t,b5 σ s (tmps.getD t undef) (look φ t))/\∀ o,s.M l o=none
  | .oc,L=>∃ r:Nat,L=⟨.int .i64 r,[r]⟩/\s.w.heap[r]?=some (.deferred (some []))/\∀ o,s.M r o=none
  | .buf E k n es,L=>(n=0/\L=⟨.slice none 0 0,[]⟩)∨∃ b a vs zs,L=⟨.slice (some ⟨b,0,none⟩) 0 a,[b]⟩/\s.w.heap[b]?=some (.cells (List.toArray (vs++zs)) E (0,0))/\(vs++zs).length=a*k/\n<=a/\a<=9223372036854775807/\Flat s.M k n es vs/\∀ o,s.M b o=none
structure ag (σ:List ak) (s:St):Prop where
  mem:∀ b o v,s.M b o=some v->s.w.cell? ⟨b,o,none⟩=some v
  len:s.β.length=σ.length
  box:∀ (l:Nat) (B:ak) (L:Loc),σ[l]?=some B->s.β[l]?=some L->dq σ s B L
  eE:∀ (l l':Nat) (L L':Loc),s.β[l]?=some L->s.β[l']?=some L'->∀ b∈L.bs,b∈L'.bs->l=l'
  lt:∀ L∈s.β,∀ b∈L.bs,b<s.w.heap.size
  own:∀ b,s.own b->b<s.w.heap.size/\∀ L∈s.β,b∉L.bs
def fW:ak->Loc->ak->Loc->Prop
  | .vec _ _ n _,L,.vec _ _ a _,L'=>(a=n->L'.v=L.v)/\n<=a
  | .vec _ _ _ _,_,.dead,_=>True
  | .vec _ _ _ _,_,_,_=>False
  | .buf _ _ n _,L,.buf _ _ a _,L'=>(a=n->L'.v=L.v)/\n<=a
  | .buf _ _ _ _,_,.dead,_=>True
  | .buf _ _ _ _,_,_,_=>False
  | _,_,.vec _ _ _ _,_=>False
  | _,_,.buf _ _ _ _,_=>False
  | .dead,L,.dead,L'=>L'.v=L.v
  | .dead,_,_,_=>False
  | .oc,L,.oc,L'=>L'.v=L.v
  | .oc,_,_,_=>False
  | _,_,.oc,_=>False
  | _,L,_,L'=>L'.v=L.v
structure Ext (σ:List ak) (s:St) (σ':List ak) (s':St):Prop where
  mem:∀ b o v,s.M b o=some v->s'.M b o=some v
  box:∀ (l:Nat) (B:ak) (L:Loc),σ[l]?=some B->s.β[l]?=some L->∃ B' L',σ'[l]?=some B'/\s'.β[l]?=some L'/\fW B L B' L'
structure Step (σ:List ak) (s:St) (σ':List ak) (s':St):Prop where
  size:s.w.heap.size<=s'.w.heap.size
  ee:∀ b,b<s.w.heap.size->(∀ L∈s.β,b∉L.bs)->s'.w.heap[b]?=s.w.heap[b]?
  mem:∀ b o v,s.M b o=some v->s'.M b o=some v
  gJ:∀ b,b<s.w.heap.size->(∀ L∈s.β,b∉L.bs)->∀ o,s'.M b o=s.M b o
  pT:∀ L'∈s'.β,∀ b∈L'.bs,s.w.heap.size<=b∨∃ L∈s.β,b∈L.bs
  box:∀ (l:Nat) (B:ak) (L:Loc),σ[l]?=some B->s.β[l]?=some L->∃ B' L',σ'[l]?=some B'/\s'.β[l]?=some L'/\fW B L B' L'
  os:s'.w.os=s.w.os
  tape:s'.w.tape=s.w.tape
  output:s'.w.output=s.w.output
  own:s'.own=s.own
structure bq (σ:List ak) (s:St) (σ':List ak) (s':St):Prop where
  size:s.w.heap.size<=s'.w.heap.size
  ee:∀ b,s.own b->s'.w.heap[b]?=s.w.heap[b]?
  mem:∀ b o v,s.M b o=some v->s'.M b o=some v
  gJ:∀ b,b<s.w.heap.size->(∀ L∈s.β,b∉L.bs)->∀ o,s'.M b o=s.M b o
  pT:∀ L'∈s'.β,∀ b∈L'.bs,s.w.heap.size<=b∨∃ L∈s.β,b∈L.bs
  box:∀ (l:Nat) (B:ak) (L:Loc),σ[l]?=some B->s.β[l]?=some L->∃ B' L',σ'[l]?=some B'/\s'.β[l]?=some L'/\fW B L B' L'
  os:s'.w.os=s.w.os
  tape:s'.w.tape=s.w.tape
  output:s'.w.output=s.w.output
  own:s'.own=s.own
structure aX (s s':St):Prop where
  β:s'.β=s.β
  M:s'.M=s.M
  own:s'.own=s.own
  size:s.w.heap.size<=s'.w.heap.size
  ee:∀ b,(s.own b∨∃ L∈s.β,b∈L.bs)->s'.w.heap[b]?=s.w.heap[b]?
  mem:∀ b o v,s.M b o=some v->s'.w.cell? ⟨b,o,none⟩=some v
  os:s'.w.os=s.w.os
  tape:s'.w.tape=s.w.tape
  output:s'.w.output=s.w.output
def lF (s:St) (e:Event):Prop :=
  match e.loc with
  | .cell a=>e.sync=false/\a.spot=none/\(False∨((∃ L∈s.β,a.block∈L.bs)/\(e.write=true->s.M a.block a.off=none))∨(e.write=false/\∃ v,s.M a.block a.off=some v))
  | .obj r=>e.sync=false/\(False∨∃ L∈s.β,r∈L.bs)
  | .mark m=>m=.noRoom∨∃ f,m=.extern f
  | _=>False
def eW (s:St) (es:Array Event):Prop:=∀ e∈es,lF s e
theorem eW.nil {s:St}:eW s #[]:=by intro e h;simp at h
theorem fW.refl (B:ak) (L:Loc):fW B L B L:=by cases B <;> simp[fW]
theorem fW.trans {B B' O4:ak} {L L' RE:Loc} (h:fW B L B' L') (b:fW B' L' O4 RE):fW B L O4 RE:=by
  cases B <;> cases B' <;> cases O4 <;> simp_all [fW]
  all_goals
    obtain⟨h1,h2⟩:=h;obtain⟨a,c⟩:=b;refine⟨λe=>?_,by omega⟩
    rw[a (by omega),h1 (by omega)]
theorem Step.refl (σ:List ak) (s:St):Step σ s σ s :=
  ⟨ar _,λ_ _ _=>rfl,λ_ _ _ h=>h,λ_ _ _ _=>rfl,λL h b c=>.inr ⟨L,h,c⟩,λ_ B L h a=>⟨B,L,h,a,.refl _ _⟩,rfl,rfl,rfl,rfl⟩
theorem Step.trans {σ σ1 σ2:List ak} {s m s2:St} (h:Step σ s σ1 m) (k:Step σ1 m σ2 s2):Step σ s σ2 s2:=by
  have out:∀ b,b<s.w.heap.size->(∀ L∈s.β,b∉L.bs)->∀ L∈m.β,b∉L.bs:=by
    intro b a c L d f;rcases h.pT L d b f with h1|⟨r,g,j⟩
    · omega
    · exact c r g j
  refine⟨gd h.size k.size,?_,λb o v n=>k.mem _ _ _ (h.mem _ _ _ n),?_,?_,?_,k.os.trans h.os,k.tape.trans h.tape,k.output.trans h.output,k.own.trans h.own⟩
  · intro b a c
    rw[k.ee b (bm a h.size) (out b a c),h.ee b a c]
  · intro b a c o
    rw[k.gJ b (bm a h.size) (out b a c),h.gJ b a c]
  · intro L d b a
    rcases k.pT L d b a with h1|⟨L1,i,e⟩
    · exact .inl (gd h.size h1)
    · exact h.pT L1 i b e
  · intro l B L p d
    obtain⟨B1,L1,h1,h2,t⟩:=h.box l B L p d;obtain⟨q,u,k1,y,x⟩:=k.box l B1 L1 h1 h2;exact⟨q,u,k1,y,t.trans x⟩
theorem bq.refl (σ:List ak) (s:St):bq σ s σ s :=
  ⟨ar _,λ_ _=>rfl,λ_ _ _ h=>h,λ_ _ _ _=>rfl,λL h b c=>.inr ⟨L,h,c⟩,λ_ B L h a=>⟨B,L,h,a,.refl _ _⟩,rfl,rfl,rfl,rfl⟩
theorem bq.trans {σ σ1 σ2:List ak} {s m s2:St} (h:bq σ s σ1 m) (k:bq σ1 m σ2 s2):bq σ s σ2 s2:=by
  have out:∀ b,b<s.w.heap.size->(∀ L∈s.β,b∉L.bs)->∀ L∈m.β,b∉L.bs:=by
    intro b a d L c f;rcases h.pT L c b f with h1|⟨r,g,j⟩
    · omega
    · exact d r g j
  refine⟨gd h.size k.size,?_,λb o v n=>k.mem _ _ _ (h.mem _ _ _ n),?_,?_,?_,k.os.trans h.os,k.tape.trans h.tape,k.output.trans h.output,k.own.trans h.own⟩
  · intro b a
    rw[k.ee b (by rw[h.own];exact a),h.ee b a]
  · intro b a d o
    rw[k.gJ b (bm a h.size) (out b a d),h.gJ b a d]
  · intro L c b a
    rcases k.pT L c b a with h1|⟨L1,i,e⟩
    · exact .inl (gd h.size h1)
    · exact h.pT L1 i b e
  · intro l B L p c
    obtain⟨B1,L1,h1,h2,t⟩:=h.box l B L p c;obtain⟨q,u,k1,y,x⟩:=k.box l B1 L1 h1 h2;exact⟨q,u,k1,y,t.trans x⟩
theorem Step.mG {σ σ':List ak} {s s':St} (hh:ag σ s) (h:Step σ s σ' s'):bq σ s σ' s' :=
  ⟨h.size,λb a=>h.ee b (hh.own b a).1 (hh.own b a).2,h.mem,h.gJ,h.pT,h.box,h.os,h.tape,h.output,h.own⟩
theorem bq.ext {σ σ':List ak} {s s':St} (h:bq σ s σ' s'):Ext σ s σ' s':=⟨h.mem,h.box⟩
theorem aX.refl {σ:List ak} {s:St} (hh:ag σ s):aX s s:=⟨rfl,rfl,rfl,ar _,λ_ _=>rfl,hh.mem,rfl,rfl,rfl⟩
theorem aX.stepW {σ:List ak} {s s':St} (h:aX s s'):bq σ s σ s' :=
  ⟨h.size,λb c=>h.ee b (.inl c),λb o v d=>by rw[h.M];exact d,λ_ _ _ _=>by rw[h.M],λL a b c=>.inr ⟨L,by rw[<-h.β];exact a,c⟩,
    λl B L e a=>⟨B,L,e,by rw[h.β];exact a,.refl _ _⟩,h.os,h.tape,h.output,h.own⟩
theorem Step.ext {σ σ':List ak} {s s':St} (h:Step σ s σ' s'):Ext σ s σ' s':=⟨h.mem,h.box⟩
section mono
variable {σ σ':List ak} {s s':St}
theorem Ext.GM (h:Ext σ s σ' s') {l:Nat} {L:Loc} (b:s.β[l]?=some L) (hl:s.β.length=σ.length) (d:∀ B,σ[l]?=some B->B.gr=false) :
    (∀ B,σ'[l]?=some B->B.gr=false)/\∃ L',s'.β[l]?=some L'/\L'.v=L.v:=by
  have a:l<σ.length:=by rw[<-hl];exact(aE.1 b).1
  obtain⟨B',L',k1,e,f⟩:=h.box l (σ[l]) L (aj a) b;have c:=d _ (aj a);generalize σ[l]=B at *;rw[k1];cases B <;> cases B' <;> simp_all [fW,ak.gr]
theorem eQ.mono (h:Ext σ s σ' s') (hl:s.β.length=σ.length) {v:Value} {a:A} (r:eQ σ s v a):eQ σ' s' v a:=by
  cases a with
  | c x=>exact Rd.mono h.mem r
  | any=>exact r
  | ptr l off =>
    obtain⟨z,L,b,h1,h2,t⟩:=r;obtain⟨j,L',k1,g⟩:=h.GM h1 hl z;exact⟨j,L',b,k1,by rw[g,h2],t⟩
  | vec l k n es =>
    obtain⟨q,f,u⟩:=r;obtain⟨B',L',k1,g,m⟩:=h.box l (σ[l]) (s.β[l]'(by omega)) (aj f) (aj (by omega))
    have d:l<σ'.length:=(aE.1 k1).1;refine⟨Rd.mono h.mem q,d,λE k' j es' he=>?_⟩
    rw[he] at k1;cases k1;have p:=aj f;generalize σ[l]=B at *;cases B with
    | vec E0 k0 n0 RF =>
      obtain⟨y,C⟩:=m;obtain⟨D,p2⟩:=u _ _ _ _ p;refine⟨by omega,λe=>?_⟩
      obtain⟨L,i,o⟩:=p2 (by omega)
      rw[aj (by omega)] at i
      cases i;exact⟨L',g,by rw[y (by omega),o]⟩
    | _=>simp[fW] at m
  | ref l =>
    obtain⟨z,L,h1,h2,t⟩:=r;obtain⟨j,L',k1,g⟩:=h.GM h1 hl z;exact⟨j,L',k1,by rw[g,h2],t⟩
  | bp l w =>
    obtain⟨lv,q,f,u⟩:=r;obtain⟨B',L',k1,g,m⟩:=h.box l (σ[l]) (s.β[l]'(by omega)) (aj f) (aj (by omega))
    have d:l<σ'.length:=(aE.1 k1).1;refine⟨lv,q,d,λE k' j es' he=>?_⟩
    rw[he] at k1;cases k1;have p:=aj f;generalize σ[l]=B at *;cases B with
    | buf E0 k0 n0 RF =>
      obtain⟨y,C⟩:=m;obtain⟨D,p2⟩:=u _ _ _ _ p;refine⟨by omega,λe=>?_⟩
      obtain⟨L,i,o⟩:=p2 (by omega)
      rw[aj (by omega)] at i
      cases i;exact⟨L',g,by rw[y (by omega),o]⟩
    | _=>simp[fW] at m
theorem cu.mono (h:Ext σ s σ' s') (hl:s.β.length=σ.length) {vs:List Value} {cs:List A} (r:cu σ s vs cs):cu σ' s' vs cs:=by
  induction vs generalizing cs with
  | nil=>cases cs <;> simp_all [cu]
  | cons v vs ih =>
    cases cs with
    | nil=>simp[cu] at r
    | cons a cs=>exact⟨r.1.mono h hl,ih r.2⟩
theorem jr.mono (h:Ext σ s σ' s') (hl:s.β.length=σ.length) {v:Value} {x:E1} (r:jr σ s v x):jr σ' s' v x:=by
  cases x with
  | one a=>exact eQ.mono h hl r
  | agg cs=>obtain⟨vs,h1,h2⟩:=r;exact⟨vs,h1,h2.mono h hl⟩
theorem dX.mono (h:Ext σ s σ' s') (hl:s.β.length=σ.length) {vs:List Value} {xs:List E1} (r:dX σ s vs xs):dX σ' s' vs xs:=by
  induction vs generalizing xs with
  | nil=>cases xs <;> simp_all [dX]
  | cons v vs ih =>
    cases xs with
    | nil=>simp[dX] at r
    | cons a cs=>exact⟨r.1.mono h hl,ih r.2⟩
theorem b5.mono (h:Ext σ s σ' s') (hl:s.β.length=σ.length) {v:Value} {d:D} (r:b5 σ s v d):b5 σ' s' v d:=by
  cases d with
  | e x=>exact jr.mono h hl r
  | eD xs=>obtain⟨vs,h1,h2⟩:=r;exact⟨vs,h1,h2.mono h hl⟩
  | any=>trivial
theorem bZ.mono (h:Ext σ s σ' s') (hl:s.β.length=σ.length) {vs:List Value} {xs:List D} (r:bZ σ s vs xs):bZ σ' s' vs xs:=by
  induction vs generalizing xs with
  | nil=>cases xs <;> simp_all [bZ]
  | cons v vs ih =>
    cases xs with
    | nil=>simp[bZ] at r
    | cons a cs=>exact⟨r.1.mono h hl,ih r.2⟩
end mono
def j0 (σ:List ak) (s:St):List Deferred->List Nat->Prop
  | [],[]=>True
  | d::ds,l::ls=>(σ[l]?=some .oc/\∃ (L:Loc) (r:Nat),s.β[l]?=some L/\L.v=.int .i64 r/\d={ target:=.collected r,args:=#[] })/\l∉ls/\j0 σ s ds ls
  | _,_=>False
theorem j0.mono {σ σ':List ak} {s s':St} (h:Ext σ s σ' s'):∀ {ds:List Deferred} {a:List Nat},j0 σ s ds a->j0 σ' s' ds a
  | [],[],_=>trivial
  | [],_::_,r=>r.elim
  | _::_,[],r=>r.elim
  | d::ds,l::a,⟨⟨h1,L,r,h2,f,e⟩,c,i⟩=>by
    obtain⟨B',L',k1,g,b⟩:=h.box l _ L h1 h2;cases B' <;> simp[fW] at b
    exact⟨⟨k1,L',r,g,by rw[b,f],e⟩,c,j0.mono h i⟩
def kp:List ak->Bool
  | []=>true
  | .oc::_=>false
  | _::r=>kp r
theorem kq:∀ {l:List ak},kp l=true->∀ B∈l,B≠.oc
  | [],_,B,a=>by simp at a
  | b::r,h,B,a=>by
    have c:b≠.oc/\kp r=true:=by cases b <;> simp_all [kp]
    rcases dy.1 a with rfl|a
    · exact c.1
    · exact kq c.2 B a
theorem iX {s:St} {r:Nat} {wr:Bool} {L:Loc} (a:L∈s.β) (b:r∈L.bs):lF s ⟨.obj r,wr,false⟩:=⟨rfl,.inr ⟨L,a,b⟩⟩
theorem eW.one {s:St} {e:Event} (h:lF s e):eW s #[e]:=by intro x a;simp at a;subst a;exact h
theorem eW.two {s:St} {e b:Event} (h:lF s e) (c:lF s b):eW s #[e,b]:=by
  intro x a;simp at a;rcases a with rfl|rfl <;> assumption
end Go.AM
namespace Go.AM
open Go.Conc (G listed)
def mV(s s':St)(es:Array Event):Prop:=(∃ σ σ',ag σ s/\ag σ' s'/\Step σ s σ' s')/\eW s es
structure Cx (P:Program) where
 main:Bool
 rely:St->St->Prop
 r7:Goroutine->St->(Goroutine->St->Prop)->Prop
 fG:∀ {s s'},rely s s'->aX s s'
 vK:Prop
class Cx.qp {P:Program} (X:Cx P):Prop where
 ok:X.vK
structure er (s s':St):Prop where
 w:s'.w=s.w
 mem:∀ b o v,s.M b o=some v->s'.M b o=some v
 gJ:∀ b,(∀ L∈s.β,b∉L.bs)->∀ o,s'.M b o=s.M b o
 cell:∀ b o v,s'.M b o=some v->s.w.cell? ⟨b,o,none⟩=some v
 blk:∀ b,(s'.own b∨∃ L∈s'.β,b∈L.bs)->s.own b∨∃ L∈s.β,b∈L.bs
structure lI (s s':St):Prop where
 w:s'.w=s.w
 β:s'.β=s.β
 own:s'.own=s.own
 less:∀ b o v,s'.M b o=some v->s.M b o=some v
 mem:∀ b o v,s.M b o=some v->s'.M b o=some v∨s.own b
inductive db {P:Program} (X:Cx P) (S:Goroutine->St->Prop):Goroutine->St->Prop
 |stop {g:Goroutine} {s:St}:S g s->db X S g s
 |step {g:Goroutine} {s:St} (ng:St->Goroutine) (ns:St->St) (ne:St->Array Event):g.status=.running ->
   (∀ s1,X.rely s s1->stepG P X.main g s1.w=.go (ng s1) (ns s1).w (ne s1))->(∀ s1,X.rely s s1->mV s1 (ns s1) (ne s1))->(∀ s1,X.rely s s1->db X S (ng s1) (ns s1))->db X S g s
 |ghost {g:Goroutine} {s s':St}:er s s'->db X S g s'->db X S g s
 |forget {g:Goroutine} {s s':St}:X.vK->lI s s'->db X S g s'->db X S g s
 |r7 {g:Goroutine} {s:St} {T:Goroutine->St->Prop}:X.r7 g s T->(∀ g' s',T g' s'->db X S g' s')->db X S g s
section
variable {P:Program}{X:Cx P}{S:Goroutine->St->Prop}
theorem db.next{g:Goroutine}{s:St}(f:g.status=.running)(h:∀ c,X.rely s c->∃ g' s' es,stepG P X.main g c.w=.go g' s'.w es/\mV c s' es/\db X S g' s'):db X S g s:=by
 classical
 have hh:∀ c,∃ r:Goroutine×St×Array Event,X.rely s c->stepG P X.main g c.w=.go r.1 r.2.1.w r.2.2/\mV c r.2.1 r.2.2/\db X S r.1 r.2.1:=by
  intro c
  by_cases d:X.rely s c
  ·obtain⟨g',s',es,h1⟩:=h c d;exact⟨(g',s',es),λ_=>h1⟩
  ·exact⟨(g,c,#[]),λe=>absurd e d⟩
 refine .step (λc=>(Classical.choose (hh c)).1) (λc=>(Classical.choose (hh c)).2.1) (λc=>(Classical.choose (hh c)).2.2) f ?_ ?_ ?_
 ·exactλc d=>(oe (hh c) d).1
 ·exactλc d=>(oe (hh c) d).2.1
 ·exactλc d=>(oe (hh c) d).2.2
theorem er.of{σ σ':List ak}{s s':St}(hh:ag σ s)(d:ag σ' s')(f:s'.w=s.w)(st:bq σ s σ' s'):er s s':=by
 have i:∀ b o v,s'.M b o=some v->s.w.cell? ⟨b,o,none⟩=some v:=λb o v h=>by rw[<-f];exact d.mem b o v h
 have e:∀ b o v,s.w.cell? ⟨b,o,none⟩=some v->b<s.w.heap.size:=by
  intro b o v h;rcases bC b s.w.heap.size with h1|h1
  ·exact h1
  ·simp[World.cell?,pH h1] at h
 refine⟨f,st.mem,λb c o=>?_,i,λb c=>?_⟩
 ·rcases bC b s.w.heap.size with h1|h1
  ·exact st.gJ b h1 c o
  ·cases h2:s'.M b o with
   |some v=>have:=e _ _ _ (i _ _ _ h2);omega
   |none=>cases j:s.M b o with
    |none=>rfl
    |some v=>have:=e _ _ _ (hh.mem _ _ _ j);omega
 ·rcases c with c|⟨L,g,c⟩
  ·exact .inl (by rw[<-st.own];exact c)
  ·rcases st.pT L g b c with h1|h1
   ·have:=d.lt L g b c;rw[f] at this;omega
   ·exact .inr h1
theorem ag.rely{σ:List ak}{s s':St}(hh:ag σ s)(h:aX s s'):ag σ s':=by
 have ex:Ext σ s σ s':=h.stepW.ext;have D:∀ v a,eQ σ s v a->eQ σ s' v a:=λv a r=>r.mono ex hh.len
 refine⟨λb o v A=>h.mem b o v (by rw[<-h.M];exact A),by rw[h.β];exact hh.len,?_,by rw[h.β];exact hh.eE,?_,?_⟩
 ·intro l B L q f;rw[h.β] at f;have c:=hh.box l B L q f;have g:∀ b∈L.bs,s'.w.heap[b]?=s.w.heap[b]?:=λb c=>h.ee b (.inr ⟨L,aG f,c⟩)
  cases B with
  |cells E cs =>
   obtain⟨b,vs,h1,h2,d,e⟩:=c;subst h1;exact⟨b,vs,rfl,by rw[g b (by simp),h2],d.mono ex hh.len,λo=>by rw[h.M,e]⟩
  |vec E k n es =>
   obtain⟨h1,h2⟩:=c;refine⟨by rw[h.M];exact h1,?_⟩
   rcases h2 with⟨h2,d⟩|⟨b,cap,vs,h2,d,e,i⟩
   ·exact .inl ⟨h2,by rw[h.M];exact d⟩
   ·subst h2;exact .inr ⟨b,cap,vs,rfl,by rw[g b (by simp),d],e,λo u=>by rw[h.M,i o u]⟩
  |cQ H =>
   obtain⟨ch,h1,h2,d,e⟩:=c;refine⟨ch,h1,λb o j=>?_,d,λb m o=>by rw[h.M,e b m]⟩
   rw[g b ((d b).2 (by simp[j])),h2 b o j]
  |dead=>trivial
  |loop N φ r =>
   obtain⟨l,tmps,fn,x,h1,h2,d,e,i⟩:=c;subst h1;exact⟨l,tmps,fn,x,rfl,by rw[g l (by simp),h2],d,λt=>(e t).mono ex hh.len,λo=>by rw[h.M,i]⟩
  |oc =>
   obtain⟨r,h1,h2,d⟩:=c;subst h1;exact⟨r,rfl,by rw[g r (by simp),h2],λo=>by rw[h.M,d]⟩
  |buf E k n es =>
   rcases c with c|⟨b,p,vs,y,h1,h2,d,e,i,C,z⟩
   ·exact .inl c
   ·subst h1;exact .inr ⟨b,p,vs,y,rfl,by rw[g b (by simp),h2],d,e,i,by rw[h.M];exact C,λo=>by rw[h.M,z]⟩
 ·intro L f b c;rw[h.β] at f;exact bm (hh.lt L f b c) h.size
 ·intro b c;rw[h.own] at c;rw[h.β];exact⟨bm (hh.own b c).1 h.size,(hh.own b c).2⟩
theorem mV.quiet{σ:List ak}{s:St}(hh:ag σ s):mV s s #[]:=⟨⟨σ,σ,hh,hh,.refl _ _⟩,.nil⟩
def _root_.Go.Frame.aT(b:Frame)(a:Act)(todo:List Item):Frame:={ b with tmps:=a.tmps,todo:=todo,defers:=a.defers++b.defers,mode:=.run }
variable {b:Frame}{a:Act}{k:List Item}{cs:List Frame}{w:World}{main:Bool}
theorem zL(b:Frame)(a:Act)(c:List Item):(b.aT a c).eval=a.eval:=by funext x;cases x <;> rfl
theorem zM:stepG P main (G (b.aT a (.code .skip::k)) cs) w=.go (G (b.aT a k) cs) w:=by simp[G,stepG,stepG.exec,Frame.aT]
theorem mW{id:Nat}:stepG P main (G (b.aT a (.inBlock id::k)) cs) w=.go (G (b.aT a k) cs) w:=by simp[G,stepG,stepG.exec,Frame.aT]
theorem kT{x y:Code}:stepG P main (G (b.aT a (.code (.seq x y)::k)) cs) w=.go (G (b.aT a (.code x::.code y::k)) cs) w:=by simp[G,stepG,stepG.exec,Frame.aT]
theorem pU{c:Operand}{x y:Code}{t:Bool}(h:a.eval c=.bool t) :
  stepG P main (G (b.aT a (.code (.cond c x y)::k)) cs) w=.go (G (b.aT a (.code (if t then x else y)::k)) cs) w:=by
 have d:(b.aT a (.code (.cond c x y)::k)).eval c=.bool t:=by rw[zL];exact h
 simp only[Frame.aT] at d;simp[G,stepG,stepG.exec,Frame.aT,d]
theorem nt{id:Nat}{c:Code}:stepG P main (G (b.aT a (.code (.block id c)::k)) cs) w=.go (G (b.aT a (.code c::.inBlock id::k)) cs) w:=by simp[G,stepG,stepG.exec,Frame.aT]
theorem zN{c:Code}:stepG P main (G (b.aT a (.code (.loop c)::k)) cs) w=.go (G (b.aT a (.code c::.inLoop c::k)) cs) w:=by simp[G,stepG,stepG.exec,Frame.aT]
theorem sF{c:Code}:stepG P main (G (b.aT a (.inLoop c::k)) cs) w=.go (G (b.aT a (.code c::.inLoop c::k)) cs) w:=by simp[G,stepG,stepG.exec,Frame.aT]
theorem uj{id:Nat}{k':List Item}(h:exitTo id k=some k'):stepG P main (G (b.aT a (.code (.exit id)::k)) cs) w=.go (G (b.aT a k') cs) w:=by simp[G,stepG,stepG.exec,Frame.aT,h]
theorem md{id:Nat}{ops:Array Oper}:stepG P main (G (b.aT a (.code (.region id ops false)::k)) cs) w=.go (G (b.aT a (.inRegion ops (List.range ops.size)::k)) cs) w:=by simp[G,stepG,stepG.exec,Frame.aT]
theorem iT{id:Nat}{ops:Array Oper}:stepG P main (G (b.aT a (.code (.region id ops true)::k)) cs) w =
  .go (G (b.aT a (.inRegion ops (Region.schedule (P.follows .mixedOrders) ops (w.tape w.drawn (.order b.fn id)))::k)) cs) { w with drawn:=w.drawn+1 }:=by
 simp[G,stepG,stepG.exec,Frame.aT,choose,Sem.run,Question.forced,Question.cut]
theorem dN{ops:Array Oper}:stepG P main (G (b.aT a (.inRegion ops []::k)) cs) w=.go (G (b.aT a k) cs) w:=by simp[G,stepG,stepG.exec,Frame.aT]
theorem x6(h:b.roundOf=none):stepG P main (G (b.aT a (.code .ret::k)) cs) w=.go (G { b.aT a (.code .ret::k) with mode:=.returning } cs) w:=by simp[G,stepG,stepG.exec,Frame.aT,h]
theorem x7(h:b.roundOf=none):stepG P main (G (b.aT a []) cs) w=.go (G { b.aT a [] with mode:=.returning } cs) w:=by simp[G,stepG,stepG.exec,Frame.aT,h]
theorem j8(ops:Array Oper)(i:Nat)(rest:List Nat)(v:Value) :
  (b.aT a (.inRegion ops (i::rest)::k)).finish v=b.aT (a.put ((ops[i]?).bind (·.dst)) v) (.inRegion ops rest::k):=by
 cases h:(ops[i]?).bind (·.dst) <;> simp[Frame.finish,Frame.aT,Act.put,h]
theorem GK{ops:Array Oper}{i:Nat}{rest:List Nat}{o:Oper}(d:ops[i]?=some o)(e:Region.wanted o (yielded ops a.tmps)=false) :
  stepG P main (G (b.aT a (.inRegion ops (i::rest)::k)) cs) w=.go (G (b.aT (a.put o.dst undef) (.inRegion ops rest::k)) cs) w:=by
 have c:=j8 (b:=b) (a:=a) (k:=k) ops i rest undef;rw[d] at c;simp only[kN] at c;rw[<-c];simp[G,stepG,stepG.exec,Frame.aT,d,e]
theorem nu{f:Operand->Value}{o:Oper}{c:Call}(h:o.op=.defer c){i:Next}{w':World}(e:(execOp f o).run P w=.ok i w'):∃ d,i=.defer d:=by
 simp only[execOp,h,aU] at e;cases g:(resolve f c o.type).run P w with
 |ok d w2=>rw[g] at e;simp at e;exact⟨_,e.1.symm⟩
 |halt x w2=>rw[g] at e;simp at e
theorem pV{ops:Array Oper}{i:Nat}{rest:List Nat}{o:Oper}(f:ops[i]?=some o)(h:Region.wanted o (yielded ops a.tmps)=true)(g:∀ c,o.op≠.defer c) :
  stepG P main (G (b.aT a (.inRegion ops (i::rest)::k)) cs) w=stepG.apply P true (b.aT a (.inRegion ops (i::rest)::k)) cs none (execOp a.eval o) w:=by
 have e:=zL b a (.inRegion ops (i::rest)::k);simp only[Frame.aT] at e;simp[G,stepG,stepG.exec,stepG.oper,Frame.oper?,Frame.aT,f,h,e];cases j:b.roundOf with
 |none=>rfl
 |some l=>cases d:o.op <;> first|rfl|exact absurd d (g _)
theorem C1{ops:Array Oper}{i:Nat}{rest:List Nat}{o:Oper}{v:Value}{w':World}(g:ops[i]?=some o)(m:Region.wanted o (yielded ops a.tmps)=true)
  (n:b.kind≠.early) (h:(execOp a.eval o).run P w=.ok (.value v) w') :
  stepG P main (G (b.aT a (.inRegion ops (i::rest)::k)) cs) w=.go (G (b.aT (a.put o.dst v) (.inRegion ops rest::k)) cs) w' (listed P b.fn a o w):=by
 have e:=j8 (b:=b) (a:=a) (k:=k) ops i rest v;rw[g] at e;simp only[kN] at e;have f:(b.kind==CallKind.early)=false:=by simpa using n
 rw[pV g m (λc j=>by obtain⟨d,l⟩:=nu j h;cases l),<-e]
 simp[stepG.apply,h,G,Frame.aT,f,GStep.after,listed]
theorem zO{ops:Array Oper}{i:Nat}{rest:List Nat}{o:Oper}{w':World}(g:ops[i]?=some o)(m:Region.wanted o (yielded ops a.tmps)=true)
  (n:b.kind≠.early) (h:(execOp a.eval o).run P w=.ok .skip w') :
  stepG P main (G (b.aT a (.inRegion ops (i::rest)::k)) cs) w=.go (G (b.aT (a.put o.dst undef) (.inRegion ops rest::k)) cs) w' (listed P b.fn a o w):=by
 have e:=j8 (b:=b) (a:=a) (k:=k) ops i rest undef;rw[g] at e;simp only[kN] at e;have f:(b.kind==CallKind.early)=false:=by simpa using n
 rw[pV g m (λc j=>by obtain⟨d,l⟩:=nu j h;cases l),<-e]
 simp[stepG.apply,h,G,Frame.aT,f,GStep.after,listed]
theorem qq{ops:Array Oper}{i:Nat}{rest:List Nat}{o:Oper}{f:FuncId}{args:Array Value}{w':World}(h:ops[i]?=some o)(m:Region.wanted o (yielded ops a.tmps)=true)
  (n:b.kind≠.early) (g:(execOp a.eval o).run P w=.ok (.enter f args) w') :
  stepG P main (G (b.aT a (.inRegion ops (i::rest)::k)) cs) w=.go (G (Frame.enter P f args .normal) (b.aT a (.inRegion ops (i::rest)::k)::cs)) w' (listed P b.fn a o w):=by
 have e:(b.kind==CallKind.early)=false:=by simpa using n
 rw[pV h m (λc j=>by obtain⟨d,l⟩:=nu j g;cases l)]
 simp[stepG.apply,g,G,Frame.aT,e,GStep.after,listed]
structure uk (P:Program)(f:FuncId)(fr:Frame)(v:Value)(s:St):Prop where
 SO:fr.fn=f
 mode:fr.mode=.returning
 defers:fr.defers=[]
 kind:fr.kind=.normal
 fn:∃ fn,P.funcs[fr.fn]?=some fn/\∀ w,(∀ b o u,s.M b o=some u->w.cell? ⟨b,o,none⟩=some u)->(results fn fr.tmps).run P w=.ok v w/\∀ e∈(results fn fr.tmps).events P w #[],∃ b o u,e=⟨.cell ⟨b,o,none⟩,false,false⟩/\s.M b o=some u
theorem uk.mono{f:FuncId}{fr:Frame}{v:Value}{s s':St}(h:uk P f fr v s)(c:∀ b o u,s.M b o=some u->s'.M b o=some u):uk P f fr v s':=by
 obtain⟨h1,h2,j,g,fn,d,r⟩:=h;refine⟨h1,h2,j,g,fn,d,λw n=>?_⟩
 obtain⟨k1,m⟩:=r w λb o u l=>n b o u (c b o u l)
 refine⟨k1,λe q=>?_⟩
 obtain⟨b,o,u,p,i⟩:=m e q;exact⟨b,o,u,p,c b o u i⟩
theorem eW.seen{s:St}{es:Array Event}{fn:FuncId}(h:eW s es):eW s (seen P fn es):=λe c=>h e (Go.Conc.mem_seen c)
theorem C2{f:FuncId}{g c:Frame}{v:Value}{s:St}(h:uk P f g v s)(w:World)(l:∀ b o u,s.M b o=some u->w.cell? ⟨b,o,none⟩=some u):∃ es,stepG P main (G g (c::cs)) w=.go (G (c.finish v) cs) w es/\∀ e∈es,∃ b o u,e=⟨.cell ⟨b,o,none⟩,false,false⟩/\s.M b o=some u:=by
 obtain⟨fn,j,d⟩:=h.fn;obtain⟨n,m⟩:=d w l;refine⟨seen P g.fn ((results fn g.tmps).events P w #[]),?_,λe i=>m e (Go.Conc.mem_seen i)⟩
 simp[G,stepG,unwind,doReturn,h.mode,h.defers,h.kind,j,n,GStep.after]
end
end Go.AM
namespace Go.AM
open Go.Conc (G)
structure bg (N:Nat)(σ:List ak)(s:St)(φ:Fr)(a:Act):Prop where
 size:a.tmps.size=N
 defers:∃ ls,j0 σ s a.defers ls
 slot:∀ t,b5 σ s (a.tmps.getD t undef) (look φ t)
theorem bg.mono{N:Nat}{σ σ':List ak}{s s':St}{φ:Fr}{a:Act}(h:bq σ s σ' s')(hl:s.β.length=σ.length)(f:bg N σ s φ a):bg N σ' s' φ a :=
 ⟨f.size,f.defers.imp λ_ h1=>h1.mono h.ext,λt=>(f.slot t).mono h.ext hl⟩
theorem bg.rely{N:Nat}{σ:List ak}{s s':St}{φ:Fr}{a:Act}(h:aX s s')(hh:ag σ s)(f:bg N σ s φ a):bg N σ s' φ a:=f.mono h.stepW hh.len
theorem bg.put{N:Nat}{σ:List ak}{s:St}{φ:Fr}{a:Act}(f:bg N σ s φ a){d:Nat}(g:d<N){v:Value}{x:D}(r:b5 σ s v x):bg N σ s ((d,x)::φ) (a.put (some d) v):=by
 refine⟨by simp[Act.put,f.size],f.defers,λt=>?_⟩
 simp only[Act.put,look]
 by_cases e:d=t
 ·subst e;rw[show Nat.beq d d=true from jX d]
  have c:d<a.tmps.size:=by rw[f.size];exact g
  simp only[bA,jR c,cp,cond];exact r
 ·have:Nat.beq d t=false:=by
   cases h:Nat.beq d t
   ·rfl
   ·exact absurd (bk h) e
  rw[this];have h:=f.slot t;simp only[bA] at h ⊢;rw[ic e];exact h
def nT(φ φ':Fr):Prop:=∀ σ s v t,b5 σ s v (look φ t)->b5 σ s v (look φ' t)
theorem bg.le{N:Nat}{σ:List ak}{s:St}{φ φ':Fr}{a:Act}(h:nT φ φ')(f:bg N σ s φ a):bg N σ s φ' a :=
 ⟨f.size,f.defers,λt=>h _ _ _ _ (f.slot t)⟩
abbrev Post:=Exit->Fr->List ak->Prop
def ends{P:Program}(X:Cx P)(S:Goroutine->St->Prop)(b:Frame)(k:List Item)(cs:List Frame):Exit->Act->St->Prop
 |.normal,a,s=>db X S (G (b.aT a k) cs) s
 |.exit id,a,s=>∀ pre,(∀ k',exitTo id (pre++k')=exitTo id k')->db X S (G (b.aT a (.code (.exit id)::(pre++k))) cs) s
 |.ret,a,s=>∀ pre,db X S (G (b.aT a (.code .ret::pre)) cs) s
 |.panic ch,a,s=>∀ c,db X S (G { b.aT a c with mode:=.panicking ch } cs) s
 |_,_,_=>False
section
variable {P:Program}{X:Cx P}{S:Goroutine->St->Prop}{b:Frame}{k:List Item}{cs:List Frame}{a:Act}{s:St}
theorem ends.cons{x:Item}(c:∀ id k',exitTo id (x::k')=exitTo id k'){e:Exit}(d:e≠.normal)(h:ends X S b k cs e a s):ends X S b (x::k) cs e a s:=by
 cases e with
 |normal=>exact absurd rfl d
 |exit id =>
  intro pre hp;have:=h (pre++[x]) (λk'=>by rw[c9,hp];exact c id k')
  simpa using this
 |ret=>exact h
 |panic ch=>exact h
 |goto l=>exact h
 |outgrown=>exact h
theorem db.ctl{σ:List ak}{g g':Goroutine}(hh:ag σ s)(e:g.status=.running)(d:∀ w,stepG P X.main g w=.go g' w #[])(h:∀ c,aX s c->db X S g' c):db X S g s :=
 .next e λc h1=>⟨g',c,#[],d c.w,.quiet (hh.rely (X.fG h1)),h c (X.fG h1)⟩
theorem sJ{σ:List ak}{f:FuncId}{j c:Frame}{cs:List Frame}{v:Value}{s:St}(m:ag σ s)(h:uk P f j v s)(k:∀ d,aX s d->db X S (G (c.finish v) cs) d):db X S (G j (c::cs)) s:=by
 refine .next rfl λd r=>?_
 have i:=X.fG r;have g:=m.rely i;obtain⟨es,q,p⟩:=C2 (main:=X.main) (c:=c) (cs:=cs) h d.w i.mem;refine⟨_,d,es,q,⟨⟨σ,σ,g,g,.refl _ _⟩,λe l=>?_⟩,k d i⟩
 obtain⟨b,o,u,rfl,n⟩:=p e l;exact⟨rfl,rfl,.inr (.inr ⟨rfl,u,by rw[i.M];exact n⟩)⟩
theorem qR{c:Code}(I:Nat->Act->St->Prop)(i:∀ n a s,I n a s->∃ σ,ag σ s/\∀ d,aX s d->I n a d)
  (round:∀ n a s,I n a s->(∀ a' s' m,m<n->I m a' s'->db X S (G (b.aT a' (.inLoop c::k)) cs) s')->db X S (G (b.aT a (.code c::.inLoop c::k)) cs) s) {n:Nat} (l:I n a s) :
  db X S (G (b.aT a (.code (.loop c)::k)) cs) s:=by
 have key:∀ n a s,I n a s->db X S (G (b.aT a (.inLoop c::k)) cs) s:=by
  intro n
  induction n using Nat.strongRecOn with
  |_ n j =>
   intro a s hi;obtain⟨σ,f,g⟩:=i n a s hi;exact .ctl f rfl (λw=>sF) λd h=>round n a d (g d h) λa' s' m o e=>j m o a' s' e
 obtain⟨σ,f,g⟩:=i n a s l;exact .ctl f rfl (λw=>zN) λd h=>round n a d (g d h) λa' s' m _ e=>key m a' s' e
end
def AW{P:Program}(X:Cx P)(N:Nat)(c:Code)(Q:Post)(φ:Fr)(σ:List ak):Prop :=
 ∀ s a,bg N σ s φ a->ag σ s->∀ (b:Frame) (k:List Item) (cs:List Frame) (S:Goroutine->St->Prop),b.kind≠.early ->
  (∀ e φ' σ' s' a',Q e φ' σ'->bg N σ' s' φ' a'->ag σ' s'->bq σ s σ' s'->ends X S b k cs e a' s')->db X S (G (b.aT a (.code c::k)) cs) s
def Names(all:List Oper):List Nat->List Oper->Prop
 |[],[]=>True
 |i::idx,o::rest=>all.toArray[i]?=some o/\Names all idx rest
 |_,_=>False
def gA{P:Program}(X:Cx P)(N:Nat)(all rest:List Oper)(Q:Fr->List ak->Prop)(φ:Fr)(σ:List ak):Prop :=
 ∀ s a,bg N σ s φ a->ag σ s->∀ (b:Frame) (k:List Item) (cs:List Frame) (S:Goroutine->St->Prop) (idx:List Nat),b.kind≠.early->Names all idx rest ->
  (∀ φ' σ' s' a',Q φ' σ'->bg N σ' s' φ' a'->ag σ' s'->bq σ s σ' s'->db X S (G (b.aT a' k) cs) s')->db X S (G (b.aT a (.inRegion all.toArray idx::k)) cs) s
section rules
variable {P:Program}{X:Cx P}{N:Nat}{Q:Post}{φ:Fr}{σ:List ak}
theorem AW.mono{c:Code}{d:Post}(h:AW X N c Q φ σ)(l:∀ e φ σ,Q e φ σ->d e φ σ):AW X N c d φ σ :=
 λs a j hh b k cs S g m=>h s a j hh b k cs S g λe φ' σ' s' a' q i f st=>m e φ' σ' s' a' (l _ _ _ q) i f st
theorem AW.le{c:Code}{φ':Fr}(h:AW X N c Q φ' σ)(hl:nT φ φ'):AW X N c Q φ σ :=
 λs a e hh b k cs S f d=>h s a (e.le hl) hh b k cs S f d
theorem AW.skip(h:Q .normal φ σ):AW X N .skip Q φ σ:=λs a e hh b k cs S _ d =>
 .ctl hh rfl (λ_=>zM) λc h1=>d .normal φ σ c a h (e.rely h1 hh) (hh.rely h1) h1.stepW
theorem AW.ret(h:Q .ret φ σ):AW X N .ret Q φ σ:=λs a d hh b k cs S _ c=>c .ret φ σ s a h d hh (.refl _ _) k
theorem AW.exit{id:Nat}(h:Q (.exit id) φ σ):AW X N (.exit id) Q φ σ:=λs a d hh b k cs S _ c=>by
 have:=c (.exit id) φ σ s a h d hh (.refl _ _) [] (λ_=>rfl)
 simpa using this
def Ak(next:Fr->List ak->Prop)(Q:Post):Post
 |.normal,φ,σ=>next φ σ
 |e,φ,σ=>Q e φ σ
theorem AW.seq{x y:Code}(h:AW X N x (Ak (AW X N y Q) Q) φ σ):AW X N (.seq x y) Q φ σ:=by
 intro s a l hh b k cs S g j;refine .ctl hh rfl (λ_=>kT) λm h1=>?_
 refine h m a (l.rely h1 hh) (hh.rely h1) b (.code y::k) cs S g ?_;intro e φ' σ' s' a' q i f st;have c:=h1.stepW.trans st;cases e with
 |normal=>exact q s' a' i f b k cs S g λe d σ2 s2 a2 q2 f2 h2 nA=>j e d σ2 s2 a2 q2 f2 h2 (c.trans nA)
 |_=>exact ends.cons (λ_ _=>rfl) (by simp) (j _ _ _ _ _ q i f c)
theorem AW.cond{c:Operand}{x y:Code}{t:Bool}{u:Nat}(l:c=.tmp u)(hl:look φ u=.e (.one (.c (.bool t))))
  (o:t=true->AW X N x Q φ σ) (p:t=false->AW X N y Q φ σ):AW X N (.cond c x y) Q φ σ:=by
 intro s a f hh b k cs S j r;have g:=f.slot u;rw[hl] at g;have h:a.eval c=.bool t:=by
  subst l;generalize h:a.tmps.getD u undef=v at g;simp only[b5,jr,eQ] at g;cases g;exact h
 refine .ctl hh rfl (λ_=>pU h) λi h1=>?_
 have d:∀ e φ' σ' s' a',Q e φ' σ'->bg N σ' s' φ' a'->ag σ' s'->bq σ i σ' s'->ends X S b k cs e a' s':=λe φ' σ' s' a' q n m st=>r e φ' σ' s' a' q n m (h1.stepW.trans st)
 cases t
 ·exact p rfl i a (f.rely h1 hh) (hh.rely h1) b k cs S j d
 ·exact o rfl i a (f.rely h1 hh) (hh.rely h1) b k cs S j d
def uR(id:Nat)(Q:Post):Post
 |.exit CW,φ,σ=>if CW=id then Q .normal φ σ else Q (.exit CW) φ σ
 |e,φ,σ=>Q e φ σ
theorem AW.block{id:Nat}{c:Code}(h:AW X N c (uR id Q) φ σ):AW X N (.block id c) Q φ σ:=by
 intro s a n hh b k cs S m i;refine .ctl hh rfl (λ_=>nt) λo h1=>?_
 refine h o a (n.rely h1 hh) (hh.rely h1) b (.inBlock id::k) cs S m ?_;intro e φ' σ' s' a' q g f st;have d:=h1.stepW.trans st;cases e with
 |normal =>
  exact .ctl f rfl (λ_=>mW) λs2 h2=>i .normal φ' σ' s2 a' q (g.rely h2 f) (f.rely h2) (d.trans h2.stepW)
 |exit CW =>
  simp only[uR] at q;split at q
  ·rename_i e
   subst e;intro pre hp;refine .ctl f rfl (λ_=>uj (k':=k) (by rw[hp];simp[exitTo])) λs2 h2=>?_
   exact i .normal φ' σ' s2 a' q (g.rely h2 f) (f.rely h2) (d.trans h2.stepW)
  ·rename_i j
   intro pre hp;have:=i (.exit CW) φ' σ' s' a' q g f d (pre++[.inBlock id]) (λk'=>by
    rw[c9,hp];have:(id==CW)=false:=by simp;exactλh=>j h.symm
    simp[exitTo,this])
   simpa using this
 |ret=>exact i _ _ _ _ _ q g f d
 |panic ch=>exact i _ _ _ _ _ q g f d
 |goto l=>exact i _ _ _ _ _ q g f d
 |outgrown=>exact i _ _ _ _ _ q g f d
theorem AW.loop{S:Type}{c:Code}(I:S->Prop)(fr:S->Fr)(st:S->List ak)(h:S->Nat)(x:S)(A:I x)(m:nT φ (fr x))(i:st x=σ)
  (round:∀ x,I x->AW X N c (Ak (λφ' σ'=>∃ y,I y/\h y<h x/\nT φ' (fr y)/\σ'=st y) Q) (fr x) (st x)):AW X N (.loop c) Q φ σ:=by
 intro s a v hh b k cs S t B;subst i;refine qR (λn a' s'=>∃ y,I y/\bg N (st y) s' (fr y) a'/\ag (st y) s'/\bq (st x) s (st y) s'/\h y=n) ?_ ?_ ⟨x,A,v.le m,hh,.refl _ _,rfl⟩
 ·rintro n a' s' ⟨y,l,j,f,d,e⟩;exact⟨st y,f,λC h1=>⟨y,l,j.rely h1 f,f.rely h1,d.trans h1.stepW,e⟩⟩
 rintro n a' s' ⟨y,l,j,f,d,rfl⟩ u;refine round y l s' a' j f b (.inLoop c::k) cs S t ?_;intro e r σ2 s2 a2 q p h2 nA;cases e with
 |normal =>
  obtain⟨z,w,o,g,rfl⟩:=q;exact u a2 s2 (h z) o ⟨z,w,p.le g,h2,d.trans nA,rfl⟩
 |_=>exact ends.cons (λ_ _=>rfl) (by simp) (B _ _ _ _ _ q p h2 (d.trans nA))
end rules
end Go.AM
namespace Go.AM
theorem cu.length{σ:List ak}{s:St}{vs:List Value}{cs:List A}(r:cu σ s vs cs):vs.length=cs.length:=by
 induction vs generalizing cs with
 |nil=>cases cs <;> simp_all [cu]
 |cons v vs ih =>
  cases cs with
  |nil=>simp[cu] at r
  |cons a cs=>simp[ih r.2]
theorem eQ.cell{σ:List ak}{s:St}{v:Value}{a:A}(r:eQ σ s v a):cE v=true:=by
 cases a with
 |c x=>exact Rd.cell r
 |ptr l off=>obtain⟨_,_,_,_,_,rfl⟩:=r;rfl
 |vec l k n es=>exact Rd.cell r.1
 |ref l=>obtain⟨_,_,_,_,h⟩:=r;exact h
 |bp l w=>obtain⟨_,h,_⟩:=r;exact h.cell
 |any=>exact r
theorem cu.get{σ:List ak}{s:St}{vs:List Value}{cs:List A}(r:cu σ s vs cs){j:Nat}{a:A}(h:cs[j]?=some a):∃ v,vs[j]?=some v/\eQ σ s v a:=by
 induction vs generalizing cs j with
 |nil=>cases cs <;> simp_all [cu]
 |cons v vs ih =>
  cases cs with
  |nil=>simp[cu] at r
  |cons b cs =>
   cases j with
   |zero=>simp at h;subst h;exact⟨v,rfl,r.1⟩
   |succ j=>simp at h;obtain⟨u,c,d⟩:=ih r.2 h;exact⟨u,by simpa using c,d⟩
theorem cu.cell{σ:List ak}{s:St}{vs:List Value}{cs:List A}(r:cu σ s vs cs):∀ v∈vs,v.oneCell'=true:=by
 induction vs generalizing cs with
 |nil=>simp
 |cons v vs ih =>
  cases cs with
  |nil=>simp[cu] at r
  |cons a cs =>
   intro u b;rcases dy.1 b with rfl|b
   ·have:=eQ.cell r.1;cases u <;> simp_all [cE,Value.oneCell']
   ·exact ih r.2 u b
theorem cu.append{σ:List ak}{s:St}{vs r6:List Value}{cs lN:List A}(r:cu σ s vs cs)(r':cu σ s r6 lN):cu σ s (vs++r6) (cs++lN):=by
 induction vs generalizing cs with
 |nil=>cases cs <;> simp_all [cu]
 |cons v vs ih =>
  cases cs with
  |nil=>simp[cu] at r
  |cons a cs=>exact⟨r.1,ih r.2⟩
theorem cu.take{σ:List ak}{s:St}{vs:List Value}{cs:List A}(r:cu σ s vs cs)(k:Nat):cu σ s (vs.take k) (cs.take k):=by
 induction vs generalizing cs k with
 |nil=>cases cs <;> simp_all [cu]
 |cons v vs ih =>
  cases cs with
  |nil=>simp[cu] at r
  |cons a cs=>cases k with
   |zero=>simp[cu]
   |succ k=>exact⟨r.1,ih r.2 k⟩
theorem cu.drop{σ:List ak}{s:St}{vs:List Value}{cs:List A}(r:cu σ s vs cs)(k:Nat):cu σ s (vs.drop k) (cs.drop k):=by
 induction vs generalizing cs k with
 |nil=>cases cs <;> simp_all [cu]
 |cons v vs ih =>
  cases cs with
  |nil=>simp[cu] at r
  |cons a cs=>cases k with
   |zero=>exact r
   |succ k=>simpa using ih r.2 k
theorem ag.block{σ:List ak}{s:St}(h:ag σ s){b o:Nat}{v:Value}(a:s.M b o=some v):b<s.w.heap.size:=by
 have:=h.mem b o v a;rcases bC b s.w.heap.size with h|h
 ·exact h
 ·simp[World.cell?,pH h] at this
theorem ag.same{σ:List ak}{s:St}(h:ag σ s){w':World}(d:w'.heap=s.w.heap):ag σ { s with w:=w' }:=by
 have q:∀ a,w'.cell? a=s.w.cell? a:=λa=>by simp[World.cell?,d]
 have z:∀ v a,eQ σ s v a->eQ σ { s with w:=w' } v a:=λv a r=>by cases a <;> exact r
 have g:∀ vs al,cu σ s vs al->cu σ { s with w:=w' } vs al:=by
  intro vs
  induction vs with
  |nil=>intro al r;cases al <;> simp_all [cu]
  |cons v vs ih=>intro al r;cases al with
   |nil=>simp[cu] at r
   |cons a al=>exact⟨z _ _ r.1,ih _ r.2⟩
 refine⟨λb o v A=>by rw[q];exact h.mem b o v A,h.len,?_,h.eE,λL g b f=>by show b<w'.heap.size;rw[d];exact h.lt L g b f,λb f=>⟨by show b<w'.heap.size;rw[d];exact(h.own b f).1,(h.own b f).2⟩⟩
 intro l B L p j;have:=h.box l B L p j;cases B with
 |cells E cs =>
  obtain⟨b,vs,h1,h2,c,e⟩:=this;exact⟨b,vs,h1,by show w'.heap[b]?=_;rw[d];exact h2,g _ _ c,e⟩
 |vec E k n es =>
  obtain⟨h1,h2⟩:=this;refine⟨h1,?_⟩;rcases h2 with h2|⟨b,cap,vs,h2,c,e,i⟩
  ·exact .inl h2
  ·exact .inr ⟨b,cap,vs,h2,by show w'.heap[b]?=_;rw[d];exact c,e,i⟩
 |cQ H =>
  obtain⟨ch,h1,h2,c,e⟩:=this;exact⟨ch,h1,λb o f=>by show w'.heap[b]?=_;rw[d];exact h2 b o f,c,e⟩
 |dead=>trivial
 |loop N φ r =>
  obtain⟨l,tmps,fn,u,h1,h2,c,e,i⟩:=this;exact⟨l,tmps,fn,u,h1,by show w'.heap[l]?=_;rw[d];exact h2,c,λt=>b5.mono (s:=s) (σ':=σ) (s':={ s with w:=w' }) ⟨λ_ _ _ h=>h,λ_ B L h x=>⟨B,L,h,x,.refl _ _⟩⟩ h.len (e t),i⟩
 |oc =>
  obtain⟨r,h1,h2,c⟩:=this;exact⟨r,h1,by show w'.heap[r]?=_;rw[d];exact h2,c⟩
 |buf E k n es =>
  rcases this with h1|⟨b,m,vs,y,h1,h2,c⟩
  ·exact .inl h1
  ·exact .inr ⟨b,m,vs,y,h1,by show w'.heap[b]?=_;rw[d];exact h2,c⟩
theorem Step.same{σ:List ak}{s:St}{w':World}(a:w'.heap=s.w.heap)(c:w'.os=s.w.os)(g:w'.tape=s.w.tape)(f:w'.output=s.w.output):Step σ s σ { s with w:=w' } :=
 ⟨by show s.w.heap.size<=w'.heap.size;rw[a];exact ar _,λb _ _=>by show w'.heap[b]?=_;rw[a],λ_ _ _ h=>h,λ_ _ _ _=>rfl,λL h b e=>.inr ⟨L,h,e⟩,λ_ B L h d=>⟨B,L,h,d,.refl _ _⟩,c,g,f,rfl⟩
theorem dq.carry{σ σ':List ak}{s s':St}{B:ak}{L:Loc}(j:Ext σ s σ' s')(hl:s.β.length=σ.length)(f:∀ b∈L.bs,s'.w.heap[b]?=s.w.heap[b]?/\∀ o,s'.M b o=s.M b o)(h:dq σ s B L):dq σ' s' B L:=by
 cases B with
 |cells E cs =>
  obtain⟨b,vs,h1,h2,a,c⟩:=h;subst h1;obtain⟨k1,e⟩:=f b (by simp)
  exact⟨b,vs,rfl,by rw[k1,h2],a.mono j hl,λo=>by rw[e,c]⟩
 |vec E k n es =>
  obtain⟨h1,h2⟩:=h;refine⟨h1.mono j.mem,?_⟩;rcases h2 with⟨h2,a⟩|⟨b,cap,vs,h2,a,c,g⟩
  ·exact .inl ⟨h2,a.mono j.mem⟩
  ·subst h2;obtain⟨k1,e⟩:=f b (by simp)
   exact .inr ⟨b,cap,vs,rfl,by rw[k1,a],c,λo p=>by rw[e,g o p]⟩
 |cQ H =>
  obtain⟨ch,h1,h2,a,c⟩:=h;refine⟨ch,h1,λb o i=>?_,a,λb d o=>by rw[(f b d).2,c b d]⟩
  have d:b∈L.bs:=(a b).2 (by simp[i])
  rw[(f b d).1,h2 b o i]
 |dead=>trivial
 |loop N φ r =>
  obtain⟨l,tmps,fn,q,h1,h2,a,c,g⟩:=h;subst h1;obtain⟨k1,e⟩:=f l (by simp)
  exact⟨l,tmps,fn,q,rfl,by rw[k1,h2],a,λt=>(c t).mono j hl,λo=>by rw[e,g]⟩
 |oc =>
  obtain⟨r,h1,h2,a⟩:=h;subst h1;obtain⟨k1,e⟩:=f r (by simp)
  exact⟨r,rfl,by rw[k1,h2],λo=>by rw[e,a]⟩
 |buf E k n es =>
  rcases h with h1|⟨b,m,vs,u,h1,h2,a,c,g,v,x⟩
  ·exact .inl h1
  ·subst h1;obtain⟨k1,e⟩:=f b (by simp)
   exact .inr ⟨b,m,vs,u,rfl,by rw[k1,h2],a,c,g,v.mono j.mem,λo=>by rw[e,x]⟩
def St.dz(s:St)(E:TypeId)(vs:List Value):St :=
 { β:=s.β++[⟨.pointer (some ⟨s.w.heap.size,0,none⟩),[s.w.heap.size]⟩],M:=s.M,w:=s.w.alloc (.cells vs.toArray E),own:=s.own }
theorem bP(w:World)(o:Obj){b:Nat}(h:b<w.heap.size):(w.alloc o).heap[b]?=w.heap[b]?:=by
 show (w.heap.push o)[b]?=w.heap[b]?;rw[Array.getElem?_push,an (by omega)]
theorem cC(w:World)(o:Obj):(w.alloc o).heap[w.heap.size]?=some o:=by
 show (w.heap.push o)[w.heap.size]?=some o;simp
theorem Step.dz{σ:List ak}(s:St)(E:TypeId)(vs:List Value)(B:ak):Step σ s (σ++[B]) (s.dz E vs):=by
 refine⟨by simp[St.dz],?_,λ_ _ _ h=>h,λ_ _ _ _=>rfl,?_,?_,rfl,rfl,rfl,rfl⟩
 ·intro b d _;exact bP _ _ d
 ·intro L a b d;simp only[St.dz,dJ,fy] at a;rcases a with a|rfl
  ·exact .inr ⟨L,a,d⟩
  ·simp at d;omega
 ·intro l B' L c a;have hl:l<s.β.length:=(aE.1 a).1;have e:l<σ.length:=(aE.1 c).1;exact⟨B',L,by rw[bS e,c],by simp only[St.dz];rw[bS hl,a],.refl _ _⟩
theorem ag.dz{σ:List ak}{s:St}(h:ag σ s){E:TypeId}{vs:List Value}{cs:List A}(r:cu σ s vs cs):ag (σ++[.cells E cs]) (s.dz E vs):=by
 have st:=Step.dz (σ:=σ) s E vs (.cells E cs);have i:(s.dz E vs).w.heap.size=s.w.heap.size+1:=by simp[St.dz]
 refine⟨?_,by simp[St.dz,h.len],?_,?_,?_,?_⟩
 ·intro b o v k;have c:=h.block k;have:=h.mem b o v k;rw[<-this];simp only[World.cell?,St.dz];rw[bP _ _ c]
 ·intro l B L f a;rcases Nat.lt_trichotomy l σ.length with e|rfl|p
  ·rw[bS e] at f;simp only[St.dz] at a;rw[bS (by rw[h.len];exact e)] at a
   refine(h.box l B L f a).carry st.ext h.len λb c=>⟨?_,λ_=>rfl⟩
   have:=h.lt L (aG a) b c;exact bP _ _ this
  ·simp at f;subst f;simp only[St.dz] at a;rw[cj (by rw[h.len];exact ar _)] at a
   simp[h.len] at a;subst a;refine⟨s.w.heap.size,vs,rfl,cC _ _,r.mono st.ext h.len,λo=>?_⟩
   cases k:s.M s.w.heap.size o with
   |none=>exact k
   |some v=>have:=h.block k;omega
  ·rw[cj (by omega)] at f
   have:l-σ.length≠0:=by omega
   cases m:l-σ.length with
   |zero=>omega
   |succ n=>simp[m] at f
 ·intro l l' L L' a g b c d;simp only[St.dz] at a g;have j:∀ l L,(s.β++[⟨.pointer (some ⟨s.w.heap.size,0,none⟩),[s.w.heap.size]⟩])[l]?=some L->(s.β[l]?=some L)∨(l=s.β.length/\L.bs=[s.w.heap.size]):=by
   intro l L a;rcases Nat.lt_trichotomy l s.β.length with e|rfl|p
   ·rw[bS e] at a;exact .inl a
   ·simp at a;subst a;exact .inr ⟨rfl,rfl⟩
   ·rw[cj (by omega)] at a
    cases m:l-s.β.length with
    |zero=>omega
    |succ n=>simp[m] at a
  rcases j l L a with h1|⟨rfl,h1⟩ <;> rcases j l' L' g with h2|⟨rfl,h2⟩
  ·exact h.eE l l' L L' h1 h2 b c d
  ·have:=h.lt L (aG h1) b c;rw[h2] at d;simp at d;omega
  ·have:=h.lt L' (aG h2) b d;rw[h1] at c;simp at c;omega
  ·rfl
 ·intro L a b c;rw[i];simp only[St.dz,dJ,fy] at a;rcases a with a|rfl
  ·have:=h.lt L a b c;omega
  ·simp at c;omega
 ·intro b c;obtain⟨t,q⟩:=h.own b c;refine⟨by rw[i];omega,λL a=>?_⟩
  simp only[St.dz,dJ,fy] at a;rcases a with a|rfl
  ·exact q L a
  ·simp;omega
theorem ag.grow{σ:List ak}{s:St}(h:ag σ s){M':Mem}{w':World}(c:s.w.heap.size<=w'.heap.size)(g:∀ b,b<s.w.heap.size->w'.heap[b]?=s.w.heap[b]?)
  (f:∀ b,b<s.w.heap.size->∀ o,M' b o=s.M b o) (n:∀ b,s.w.heap.size<=b->∀ o v,M' b o=some v->w'.cell? ⟨b,o,none⟩=some v)
  (i:w'.os=s.w.os) (p:w'.tape=s.w.tape) (m:w'.output=s.w.output):ag σ ⟨s.β,M',w',s.own⟩/\Step σ s σ ⟨s.β,M',w',s.own⟩:=by
 have st:Step σ s σ ⟨s.β,M',w',s.own⟩ :=
  ⟨c,λb a _=>g b a,λb o v e=>by rw[<-e];exact f b (h.block e) o,λb a _ o=>f b a o,λL h b a=>.inr ⟨L,h,a⟩,λ_ B L h k=>⟨B,L,h,k,.refl _ _⟩,i,p,m,rfl⟩
 refine⟨⟨?_,h.len,?_,h.eE,λL d b a=>bm (h.lt L d b a) c,λb a=>⟨bm (h.own b a).1 c,(h.own b a).2⟩⟩,st⟩
 ·intro b o v e;rcases bC b s.w.heap.size with a|a
  ·have hm':s.M b o=some v:=by rw[<-f b a o];exact e
   rw[<-h.mem b o v hm'];simp only[World.cell?];rw[g b a]
  ·exact n b a o v e
 ·intro l B L j d;exact(h.box l B L j d).carry st.ext h.len λb a=>⟨g b (h.lt L (aG d) b a),λo=>f b (h.lt L (aG d) b a) o⟩
theorem ag.write{σ:List ak}{s:St}(h:ag σ s){l b:Nat}{L:Loc}{E:TypeId}{cs lN:List A}{a:List Value}(j:σ[l]?=some (.cells E cs))(d:s.β[l]?=some L)(f:L.bs=[b])
  (r:cu σ s a lN):ag (σ.set l (.cells E lN)) { s with w:=s.w.setRow b a.toArray }/\Step σ s (σ.set l (.cells E lN)) { s with w:=s.w.setRow b a.toArray }:=by
 have g:l<σ.length:=(aE.1 j).1;obtain⟨k,vs,h1,h2,t,p⟩:=h.box l _ L j d;subst h1;simp at f;subst f;have st:Step σ s (σ.set l (.cells E lN)) { s with w:=s.w.setRow k a.toArray }:=by
  refine⟨by simp,?_,λ_ _ _ h=>h,λ_ _ _ _=>rfl,λL h b c=>.inr ⟨L,h,c⟩,?_,rfl,rfl,rfl,rfl⟩
  ·intro b c q;exact setRow_other _ _ _ _ (λe=>q _ (aG d) (by simp[e]))
  ·intro l' B L' ir eY
   by_cases e:l=l'
   ·subst e;rw[j] at ir;cases ir;exact⟨_,L',by rw[br g],eY,by simp[fW]⟩
   ·exact⟨B,L',by rw[b7 e];exact ir,eY,.refl _ _⟩
 refine⟨⟨?_,by simp[h.len],?_,h.eE,λL d b c=>by simpa using h.lt L d b c,λb c=>by simpa using h.own b c⟩,st⟩
 ·intro b o v n;have m:b≠k:=λe=>by subst e;rw[p] at n;cases n
  rw[<-h.mem b o v n];simp only[World.cell?];rw[setRow_other _ _ _ _ m]
 ·intro l' B L' ir eY
  by_cases e:l=l'
  ·subst e;rw[br g] at ir;cases ir;rw[d] at eY;cases eY;exact⟨k,a,rfl,setRow_heap _ _ _ _ _ _ h2,r.mono st.ext h.len,p⟩
  ·rw[b7 e] at ir;refine(h.box l' B L' ir eY).carry st.ext h.len λb c=>⟨setRow_other _ _ _ _ λi=>?_,λ_=>rfl⟩
   subst i;exact e (h.eE l l' _ L' d eY b (by simp) c)
end Go.AM
namespace Go.AM
open Go.Conc (G)
def M5(σ:List ak)(s:St):Next->D->Prop
 |.value v,x=>b5 σ s v x
 |.skip,x=>x=.any
 |_,_=>False
def aH(P:Program)(o:Oper)(c:Operand->D)(σ:List ak)(x:D)(σ':List ak):Prop :=
 ∀ s a,ag σ s->(∀ y,b5 σ s (a y) (c y))->∃ b s',(execOp a o).run P s.w=.ok b s'.w/\M5 σ' s' b x/\ag σ' s'/\Step σ s σ' s'/\eW s ((execOp a o).events P s.w #[])
theorem aH.kU{P:Program}{o:Oper}{b:Operand->D}{σ:List ak}{x:D}
  (h:∀ s a,ag σ s->(∀ y,b5 σ s (a y) (b y))->∃ v,(execOp a o).run P s.w=.ok (.value v) s.w/\b5 σ s v x/\eW s ((execOp a o).events P s.w #[])):aH P o b σ x σ :=
 λs a hh hr=>let ⟨v,h1,h2,c⟩:=h s a hh hr;⟨.value v,s,h1,h2,hh,.refl _ _,c⟩
theorem aH.quiet{P:Program}{o:Oper}{b:Operand->D}{σ:List ak}{x:D}
  (h:∀ s a,ag σ s->(∀ y,b5 σ s (a y) (b y))->∃ v,(execOp a o).run P s.w=.ok (.value v) s.w/\b5 σ s v x/\(execOp a o).events P s.w #[]=#[]):aH P o b σ x σ :=
 λs a hh hr=>let ⟨v,h1,h2,c⟩:=h s a hh hr;⟨.value v,s,h1,h2,hh,.refl _ _,by rw[c];exact .nil⟩
def Ho:IntKind->Int->Bool
 |.i64,.ofNat m=>Nat.ble m 9223372036854775807
 |.i64,.negSucc m=>Nat.ble m 9223372036854775807
 |.u8,.ofNat m=>Nat.ble m 255
 |.i32,.ofNat m=>Nat.ble m 2147483647
 |.i32,.negSucc m=>Nat.ble m 2147483647
 |.u64,.ofNat m=>Nat.ble m 18446744073709551615
 |.u32,.ofNat m=>Nat.ble m 4294967295
 |_,_=>false
theorem Ki{k:IntKind}{n:Int}(h:Ho k n=true):aB k n:=by
 cases k <;> cases n <;> simp only[Ho,aB] at h ⊢ <;> first|(cases h;done)|(have:=cY h;simp only[Int.ofNat_eq_natCast,Int.negSucc_eq];omega)
def oi:Value->Option C
 |.int k n=>cond (Ho k n) (some (.int k n)) none
 |.bool b=>some (.bool b)
 |.string s=>cond (Nat.ble s.size 9223372036854775807) (some (.str s.data.toList)) none
 |.slice none 0 0=>some (.sl true 0 0 (λ_=>[]))
 |.pointer none=>some .kg
 |.nilIface=>some .kW
 |.nilFunc=>some .uq
 |.map m=>some (.val (.map m))
 |_=>none
theorem Rd.iS{M:Mem}{t:Bool}{k:Nat}{a:Option Addr}{es:Nat->List C}:Rd M (.slice a 0 0) (.sl t k 0 es) :=
 Rd.sl 0 0 (λ_ _=>undef) (ar _) (by omega) (λ_=>rfl) (by omega) (by omega) (by omega) (by omega)
theorem Rd.oi{M:Mem}{v:Value}{c:C}(h:oi v=some c):Rd M v c:=by
 unfold AM.oi at h;split at h <;> first
  |(rename_i k n;cases a:Ho k n <;> rw[a] at h <;> cases h;exact .int (Ki a))
  |(rename_i s;cases a:Nat.ble s.size 9223372036854775807 <;> rw[a] at h <;> cases h;exact .str rfl (by rw[fx];exact cY a))
  |(cases h;done)
  |(cases h;exact .bool)
  |(cases h;exact Rd.iS)
  |(cases h;exact .kg)
  |(cases h;exact .kW)
  |(cases h;exact .uq)
  |(cases h;exact .val rfl)
def T9:Option C->D
 |some c=>.e (.one (.c c))
 |none=>.any
def bz(φ:Fr):Operand->D
 |.tmp t=>look φ t
 |.const v=>T9 (oi v)
 |.func f=>.e (.one (.c (.fn (.func f) [] [])))
 |.global _=>.any
theorem fK{N:Nat}{σ:List ak}{s:St}{φ:Fr}{a:Act}(f:bg N σ s φ a)(y:Operand):b5 σ s (a.eval y) (bz φ y):=by
 cases y with
 |tmp t=>exact f.slot t
 |const v =>
  simp only[bz,Act.eval];cases h:oi v with
  |none=>trivial
  |some c=>exact Rd.oi h
 |func g =>
  exact Rd.fn [] [] rfl rfl (λ_=>undef) (λ_=>undef) (by simp) (by simp) (by simp) (by simp)
 |global g=>trivial
def mX:Option Nat->D->Fr->Fr
 |some t,x,φ=>(t,x)::φ
 |none,_,φ=>φ
theorem yr{P:Program}{X:Cx P}{S:Goroutine->St->Prop}{b:Frame}{k:List Item}{cs:List Frame}{a:Act}{s:St}{ops:Array Oper}{i:Nat}{rest:List Nat}{o:Oper}(j:b.kind≠.early)(g:ops[i]?=some o)(m:Region.wanted o (yielded ops a.tmps)=true)
  (h:∀ c,aX s c->∃ d s' v,(execOp a.eval o).run P c.w=.ok d s'.w/\(d=.value v∨(d=.skip/\v=undef))/\mV c s' ((execOp a.eval o).events P c.w #[])/\db X S (G (b.aT (a.put o.dst v) (.inRegion ops rest::k)) cs) s') :
  db X S (G (b.aT a (.inRegion ops (i::rest)::k)) cs) s:=by
 refine .next rfl λc n=>?_
 obtain⟨d,s',v,l,e,f,p⟩:=h c (X.fG n);refine⟨_,s',Go.Conc.listed P b.fn a o c.w,?_,⟨f.1,f.2.seen⟩,p⟩;rcases e with rfl|⟨rfl,rfl⟩
 ·exact C1 g m j l
 ·exact zO g m j l
theorem aH.move{P:Program}{o:Oper}{a:Operand->D}{σ:List ak}{x:Operand}(h:o.op=.move x):aH P o a σ (a x) σ :=
 .quiet λs b _ c=>⟨b x,by simp[execOp,h,pure],c x,by simp[execOp,h]⟩
theorem aH.assign{P:Program}{o:Oper}{a:Operand->D}{σ:List ak}{x:Operand}(h:o.op=.assign x):aH P o a σ (a x) σ :=
 .quiet λs b _ c=>⟨b x,by simp[execOp,h,pure],c x,by simp[execOp,h]⟩
theorem eB{σ:List ak}{s:St}{v:Value}{c:C}(h:b5 σ s v (.e (.one (.c c)))):Rd s.M v c:=h
theorem aH.pick{P:Program}{o:Oper}{f:Operand->D}{σ:List ak}{c a b:Operand}(h:o.op=.pick c a b){t:Bool}(j:f c=.e (.one (.c (.bool t)))) :
  aH P o f σ (match t with|true=>f a|false=>f b) σ:=by
 refine .quiet λs g _ i=>?_
 have h1:=i c;rw[j] at h1;have h2:=eB h1;generalize d:g c=v at h2;cases h2;cases t
 ·exact⟨g b,by simp[execOp,h,d,asBool],i b,by simp[execOp,h,d,asBool]⟩
 ·exact⟨g a,by simp[execOp,h,d,asBool],i a,by simp[execOp,h,d,asBool]⟩
def D6(op:BinOp)(k:IntKind) (x y:Int):Option (C×List Prop) :=
 match op with
 |.add=>some (.int k (x+y),[aB k (x+y)])
 |.sub=>some (.int k (x-y),[aB k (x-y)])
 |.mul=>some (.int k (x*y),[aB k (x*y)])
 |.quo=>some (.int k (x / y),[0<=x,0<y])
 |.rem=>some (.int k (x % y),[0<=x,0<y])
 |.eql=>some (.bool (x==y),[])
 |.neq=>some (.bool (x != y),[])
 |.lss=>some (.bool (decide (x<y)),[])
 |.leq=>some (.bool (decide (x<=y)),[])
 |.gtr=>some (.bool (decide (y<x)),[])
 |.geq=>some (.bool (decide (y<=x)),[])
 |_=>none
def D8(op:BinOp)(x y:List UInt8):Option (C×List Prop) :=
 match op with
 |.add=>some (.str (x++y),[x.length+y.length<=9223372036854775807])
 |.eql=>some (.bool (x==y),[])
 |.neq=>some (.bool (!(x==y)),[])
 |.lss=>some (.bool (Op.bytesLess x y),[])
 |.leq=>some (.bool (Op.bytesLess x y||x==y),[])
 |.gtr=>some (.bool (!(Op.bytesLess x y||x==y)),[])
 |.geq=>some (.bool (!(Op.bytesLess x y)),[])
 |_=>none
def aa:List Prop->Prop
 |[]=>True
 |[p]=>p
 |p::q::r=>p/\aa (q::r)
theorem aa.cons{p:Prop}{r:List Prop}:aa (p::r)↔p/\aa r:=by cases r <;> simp[aa]
theorem jB{k:IntKind}{n:Int}(h:aB k n):k.wrap n=n:=by
 cases k <;> simp only[aB,IntKind.wrap,IntKind.bits,IntKind.signed] at h ⊢ <;> simp <;> (try split) <;> omega
theorem D9{P:Program}{w:World}{op:BinOp}{k:IntKind}{x y:Int}{c:C}{obs:List Prop}(h:D6 op k x y=some (c,obs))(a:aa obs)(g:aB k x)(l:aB k y)(t:TypeId)(M:Mem) :
  ∃ v,(binOp op t (.int k x) (.int k y)).run P w=.ok v w/\Rd M v c:=by
 cases op <;> simp only[D6,bL,iy,reduceCtorEq] at h
 case add=>obtain⟨rfl,rfl⟩:=h;exact⟨_,by simp only[binOp,cf,e9,aM,Op.intArith,jB a];rfl,.int a⟩
 case sub=>obtain⟨rfl,rfl⟩:=h;exact⟨_,by simp only[binOp,cf,e9,aM,Op.intArith,jB a];rfl,.int a⟩
 case mul=>obtain⟨rfl,rfl⟩:=h;exact⟨_,by simp only[binOp,cf,e9,aM,Op.intArith,jB a];rfl,.int a⟩
 case quo =>
  obtain⟨rfl,rfl⟩:=h;obtain⟨d,b⟩:=a
  replace b:0<y:=b
  have e:x.tdiv y=x / y:=Int.tdiv_eq_ediv_of_nonneg d;have f:aB k (x / y):=by
   have i:0<=x / y:=Int.ediv_nonneg d (by omega)
   have j:x / y<=x:=Int.ediv_le_self _ d;cases k <;> simp only[aB] at g ⊢ <;> omega
  exact⟨_,by simp only[binOp,cf,e9,aM,Op.intDiv,show y≠0 by omega,e,jB f];rfl,.int f⟩
 case rem =>
  obtain⟨rfl,rfl⟩:=h;obtain⟨d,b⟩:=a
  replace b:0<y:=b
  have e:x.tmod y=x % y:=Int.tmod_eq_emod_of_nonneg d;have f:aB k (x % y):=by
   have i:0<=x % y:=Int.emod_nonneg _ (by omega)
   have j:x % y<y:=Int.emod_lt_of_pos _ b;cases k <;> simp only[aB] at l ⊢ <;> omega
  exact⟨_,by simp only[binOp,cf,e9,aM,Op.intDiv,show y≠0 by omega,e];rfl,.int f⟩
 all_goals (obtain⟨rfl,rfl⟩:=h;exact⟨_,by simp only[binOp,cf,e9,aM,Op.intCmp,gt_iff_lt,ge_iff_le];rfl,.bool⟩)
theorem Ea{P:Program}{w:World}{op:BinOp}{x y:ByteArray}{a b:List UInt8}{c:C}{obs:List Prop}(h:D8 op a b=some (c,obs))(d:aa obs)(f:x.data.toList=a)(j:y.data.toList=b)(t:TypeId)(M:Mem) :
  ∃ v,(binOp op t (.string x) (.string y)).run P w=.ok v w/\Rd M v c:=by
 subst f j;cases op <;> simp only[D8,bL,iy,reduceCtorEq] at h
 case add =>
  obtain⟨rfl,rfl⟩:=h;have g:¬((x.size+y.size:Nat):Int)>IntKind.i64.max:=by
   have l:x.data.toList.length=x.size:=fx;have k:y.data.toList.length=y.size:=fx;have e:IntKind.i64.max=9223372036854775807:=rfl;have i:x.data.toList.length+y.data.toList.length<=9223372036854775807:=d;rw[e];omega
  refine⟨_,by simp only[binOp,Op.stringOp,g,aM];rfl,.str (by simp) (by simpa[aa] using d)⟩
 all_goals (obtain⟨rfl,rfl⟩:=h;exact⟨_,by simp only[binOp,Op.stringOp,ByteArray.toList_eq];rfl,.bool⟩)
theorem Hp{P:Program}{w:World}{op:BinOp}{k:IntKind}{x y:Int}{c:C}{obs:List Prop}(h:D6 op k x y=some (c,obs))(b:aa obs)(t:TypeId) :
  (binOp op t (.int k x) (.int k y)).events P w #[]=#[]:=by
 cases op <;> simp only[D6,bL,iy,reduceCtorEq] at h
 case quo =>
  obtain⟨rfl,rfl⟩:=h;obtain⟨d,a⟩:=b
  replace a:0<y:=a
  simp only[binOp,cf,e9,aM,Op.intDiv,show y≠0 by omega];rfl
 case rem =>
  obtain⟨rfl,rfl⟩:=h;obtain⟨d,a⟩:=b
  replace a:0<y:=a
  simp only[binOp,cf,e9,aM,Op.intDiv,show y≠0 by omega];rfl
 all_goals (simp only[binOp,cf,e9,aM,Op.intCmp,Op.intArith];rfl)
theorem Hq{P:Program}{w:World}{op:BinOp}{x y:ByteArray}{a b:List UInt8}{c:C}{obs:List Prop}(h:D8 op a b=some (c,obs))(d:aa obs)(f:x.data.toList=a)(j:y.data.toList=b)(t:TypeId) :
  (binOp op t (.string x) (.string y)).events P w #[]=#[]:=by
 subst f j;cases op <;> simp only[D8,bL,iy,reduceCtorEq] at h
 case add =>
  obtain⟨rfl,rfl⟩:=h;have g:¬((x.size+y.size:Nat):Int)>IntKind.i64.max:=by
   have l:x.data.toList.length=x.size:=fx;have k:y.data.toList.length=y.size:=fx;have e:IntKind.i64.max=9223372036854775807:=rfl;have i:x.data.toList.length+y.data.toList.length<=9223372036854775807:=d;rw[e];omega
  simp only[binOp,Op.stringOp,g,aM];rfl
 all_goals (simp only[binOp,Op.stringOp];rfl)
def Bv:IntKind->IntKind->Bool
 |.i8,.i8|.i16,.i16|.i32,.i32|.i64,.i64|.u8,.u8|.u16,.u16|.u32,.u32|.u64,.u64=>true
 |_,_=>false
theorem uU{k k':IntKind}(h:Bv k k'=true):k=k':=by cases k <;> cases k' <;> first|rfl|(cases h;done)
def G1(op:BinOp):C->C->Option (C×List Prop)
 |.int k x,.int k' y=>cond (Bv k k') (D6 op k x y) none
 |.str a,.str b=>D8 op a b
 |_,_=>none
theorem eu{P:Program}(op:BinOp)(t:TypeId)(x y:Operand)(k k':IntKind) (n a:Int)(u:World):(eqGuard op t x y (.int k n) (.int k' a)).run P u=.ok () u:=by cases op <;> rfl
theorem o4{P:Program}(op:BinOp)(t:TypeId)(x y:Operand)(a b:ByteArray)(u:World):(eqGuard op t x y (.string a) (.string b)).run P u=.ok () u:=by cases op <;> rfl
theorem gg{P:Program}(op:BinOp)(t:TypeId)(x y:Operand)(k k':IntKind) (n a:Int)(u:World)(es:Array Event):(eqGuard op t x y (.int k n) (.int k' a)).events P u es=es:=by cases op <;> rfl
theorem qX{P:Program}(op:BinOp)(t:TypeId)(x y:Operand)(a b:ByteArray)(u:World)(es:Array Event):(eqGuard op t x y (.string a) (.string b)).events P u es=es:=by cases op <;> rfl
theorem aH.binOp{P:Program}{o:Oper}{p:Operand->D}{σ:List ak}{op:BinOp}{t ty:TypeId}{x y:Operand}(h:o.op=.binOp op t x y ty){a b c:C}{obs:List Prop}
  (E:p x=.e (.one (.c a))) (A:p y=.e (.one (.c b))) (g:G1 op a b=some (c,obs)) (i:aa obs):aH P o p σ (.e (.one (.c c))) σ:=by
 refine .quiet λs r _ u=>?_
 have h1:=u x;have h2:=u y;rw[E] at h1;rw[A] at h2
 replace h1:=eB h1
 replace h2:=eB h2
 generalize f:r x=vx at h1;generalize d:r y=vy at h2;cases h1 <;> cases h2 <;> simp only[G1,reduceCtorEq] at g
 case int.int k n B k' n' O2 =>
  cases z:Bv k k' <;> simp only[z,cond,reduceCtorEq] at g
  cases uU z;obtain⟨v,j,m⟩:=D9 (P:=P) (w:=s.w) g i B O2 t s.M;exact⟨v,by simp only[execOp,h,aU,f,d,eu,bj,j,cd],m,by simp[execOp,h,f,d,eu,gg,Hp g i]⟩
 case str.str =>
  rename_i F l q hl y' l' hy yd
  obtain⟨v,j,m⟩:=Ea (P:=P) (w:=s.w) g i q hy t s.M;exact⟨v,by simp only[execOp,h,aU,f,d,o4,bj,j,cd],m,by simp[execOp,h,f,d,o4,qX,Hq g i q hy]⟩
def Ow(op:UnOp):C->Option C
 |.bool b=>match op with|.not=>some (.bool (!b))|_=>none
 |_=>none
theorem aH.unOp{P:Program}{o:Oper}{f:Operand->D}{σ:List ak}{op:UnOp}{t:TypeId}{x:Operand}(h:o.op=.unOp op t x){a c:C}
  (j:f x=.e (.one (.c a))) (d:Ow op a=some c):aH P o f σ (.e (.one (.c c))) σ:=by
 refine .quiet λs g _ i=>?_
 have h1:=i x;rw[j] at h1
 replace h1:=eB h1
 generalize b:g x=vx at h1;cases h1 <;> simp only[Ow,reduceCtorEq] at d
 cases op <;> simp only[reduceCtorEq,bL] at d
 subst d;exact⟨_,by simp only[execOp,h,b,Op.unary,aU,cd,bj],Rd.bool,by simp[execOp,h,b,Op.unary]⟩
theorem dX.get{σ:List ak}{s:St}{vs:List Value}{xs:List E1}(r:dX σ s vs xs){j:Nat}{x:E1}(h:xs[j]?=some x):∃ v,vs[j]?=some v/\jr σ s v x:=by
 induction vs generalizing xs j with
 |nil=>cases xs <;> simp_all [dX]
 |cons v vs ih =>
  cases xs with
  |nil=>simp[dX] at r
  |cons b cs =>
   cases j with
   |zero=>simp at h;subst h;exact⟨v,rfl,r.1⟩
   |succ j=>simp at h;obtain⟨u,a,c⟩:=ih r.2 h;exact⟨u,by simpa using a,c⟩
theorem aH.extract{P:Program}{o:Oper}{c:Operand->D}{σ:List ak}{x:Operand}{j:Nat}(h:o.op=.extract x j){xs:List E1}{e:E1}
  (i:c x=.eD xs) (k:xs[j]?=some e):aH P o c σ (.e e) σ:=by
 refine .quiet λs l _ g=>?_
 have h1:=g x;rw[i] at h1;obtain⟨vs,d,f⟩:=h1;obtain⟨v,a,b⟩:=f.get k;refine⟨v,?_,b,?_⟩ <;> simp[execOp,h,d,Instr.extract,a]
end Go.AM
namespace Go.AM
def ui (b o:Nat):Event:=⟨.cell ⟨b,o,none⟩,false,false⟩
def A9 (b o:Nat):Event:=⟨.cell ⟨b,o,none⟩,true,false⟩
theorem cg (b o n:Nat):(⟨b,o,none⟩:Addr).add n=⟨b,o+n,none⟩:=by
  unfold Addr.add;split <;> simp_all
section
variable {P:Program}
theorem uo {w:World} {b o:Nat} {v:Value} (h:w.cell? ⟨b,o,none⟩=some v) (es:Array Event):(load ⟨b,o,none⟩).events P w es=es.push (ui b o):=by
  rw[events_load,h];rfl
theorem ku {w:World} {b o:Nat}:∀ (n i:Nat) (acc:Array Value) (es:Array Event),(∀ j,j<n->∃ v,w.cell? ⟨b,o+(i+j),none⟩=some v) ->
    ∀ e∈(loadCellsFrom ⟨b,o,none⟩ i n acc).events P w es,e∈es∨∃ j,j<i+n/\e=ui b (o+j)
  | 0,i,acc,es,_=>λe h=>.inl (by simpa[loadCellsFrom] using h)
  | n+1,i,acc,es,d=>λe h=>by
    obtain⟨v,a⟩:=d 0 (by omega)
    simp only[ey] at a;simp only[loadCellsFrom,Sem.events_bind,cg,run_load,a,Result.evThen_ok,uo a] at h;rcases ku n (i+1) (acc.push v) _ (λj f=>by have:=d (j+1) (by omega);rwa [show i+1+j=i+(j+1) by omega]) e h with c|⟨j,f,rfl⟩
    · rcases nj.1 c with c|rfl
      · exact .inl c
      · exact .inr ⟨i,by omega,rfl⟩
    · exact .inr ⟨j,by omega,rfl⟩
theorem nq {w:World} {b o n:Nat} {es:Array Event} (h:∀ j,j<n->∃ v,w.cell? ⟨b,o+j,none⟩=some v):∀ e∈(loadCells ⟨b,o,none⟩ n).events P w es,e∈es∨∃ j,j<n/\e=ui b (o+j):=by
  intro e a;have:=ku (P:=P) n 0 #[] es (by simpa using h) e a
  simpa using this
theorem dL {b o:Nat} {t:TypeId}:∀ (vs:List Value) (i:Nat) (a:Array Value) (w:World) (es:Array Event),w.heap[b]?=some (.cells a t (0,0))->o+i+vs.length<=a.size->(∀ v∈vs,v.oneCell'=true) ->
    ∀ e∈(storeCells ⟨b,o,none⟩ vs i).events P w es,e∈es∨∃ j,i<=j/\j<i+vs.length/\e=A9 b (o+j)
  | [],_,_,_,_,_,_,_=>λe h=>.inl (by simpa[storeCells] using h)
  | v::rest,i,a,w,es,f,n,l=>λe h=>by
    have hi:o+i<a.size:=by simp at n;omega
    have c:w.cell? ⟨b,o+i,none⟩=some a[o+i]:=by simp[World.cell?,f,hi]
    have d:w.frozen? ⟨b,o+i,none⟩=false:=by simp[World.frozen?,f]
    have g:(store (⟨b,o+i,none⟩:Addr) v).run P w=.ok () (w.setRow b (a.setIfInBounds (o+i) v)):=by
      rw[run_store P w _ v _ (l v (by simp)),c]
      simp[d,setCell_eq_setRow w b (o+i) a t (0,0) v f]
    have m:(store (⟨b,o+i,none⟩:Addr) v).events P w es=es.push (A9 b (o+i)):=by
      rw[events_store P w es _ v _ (l v (by simp)),c]
      simp only[d,fO,aM];rfl
    simp only[storeCells,Sem.events_bind,cg,g,m,Result.evThen_ok] at h;rcases dL rest (i+1) (a.setIfInBounds (o+i) v) _ _ (setRow_heap _ _ _ _ _ _ f) (by simp at n ⊢;omega) (λu q=>l u (by simp[q])) e h with k|⟨j,r,p,rfl⟩
    · rcases nj.1 k with k|rfl
      · exact .inl k
      · exact .inr ⟨i,ar _,by simp,rfl⟩
    · exact .inr ⟨j,by omega,by simp at p ⊢;omega,rfl⟩
def bM {α:Type} (P:Program) (m:Sem α):Prop:=∀ w es,m.events P w es=es
theorem bM.bind {α β:Type} {m:Sem α} {f:α->Sem β} (h:bM P m) (k:∀ a,bM P (f a)):bM P (m >>= f):=by
  intro w es;rw[Sem.events_bind,h w es];cases m.run P w with
  | ok a w'=>exact k a w' es
  | halt x w'=>rfl
theorem bM.pure {α:Type} {a:α}:bM P (Pure.pure a:Sem α):=λ_ _=>rfl
theorem bM.stuck {α:Type} {a:String}:bM P (Go.stuck a:Sem α):=λ_ _=>rfl
theorem bM.unsupported {α:Type} {u:Unsupported}:bM P (Go.unsupported u:Sem α):=λ_ _=>rfl
theorem bM.sizeOf {t:TypeId}:bM P (sizeOf t):=λ_ _=>events_sizeOf ..
theorem bM.underlying {t:TypeId}:bM P (underlying t):=λ_ _=>events_underlying ..
theorem bM.zeroValue {t:TypeId}:bM P (zeroValue t):=λ_ _=>events_zeroValue ..
theorem bM.newObj {o:Obj}:bM P (newObj o):=λ_ _=>rfl
theorem bM.newRow {t:TypeId} {c:Array Value}:bM P (newRow t c):=.bind .newObj λ_=>.pure
theorem bM.IV {α β:Type} {f:α->Sem β} (h:∀ a,bM P (f a)):∀ l:List α,bM P (l.mapM f)
  | []=>by rw[List.mapM_nil];exact .pure
  | a::l=>by rw[jw];exact .bind (h a) λ_=>.bind (bM.IV h l) λ_=>.pure
theorem bM.map {α β:Type} {f:α->β} {m:Sem α} (h:bM P m):bM P (Functor.map f m):=λw es=>by rw[Sem.events_map];exact h w es
theorem bM.MJ {α β:Type} {f:α->Sem β} (h:∀ a,bM P (f a)) (l:Array α):bM P (l.mapM f):=by
  rw[qn];exact .map (.IV h _)
theorem bM.Ds {α β:Type} {F:α->β->Sem (ForInStep β)} (h:∀ a b,bM P (F a b)):∀ (l:List α) (b:β),bM P (forIn l b F)
  | [],b=>by rw[List.forIn_nil];exact .pure
  | a::l,b=>by
    rw[List.forIn_cons];refine .bind (h a b) λr=>?_
    cases r with
    | done b=>exact .pure
    | yield b=>exact bM.Ds h l b
theorem bM.build {t:TypeId} {parts:Array (Nat×Value)}:bM P (Instr.build t parts):=by
  unfold Instr.build;refine .bind .zeroValue λz=>.bind .underlying λd=>?_
  cases d <;> first
    | exact .stuck
    | (refine .bind (.MJ (λ_=>.bind .sizeOf λ_=>.pure) _) λpl=>?_
       split
       · exact .pure
       · exact .stuck)
    | (refine .bind .sizeOf λn=>?_
       split
       · exact .pure
       · exact .stuck)
theorem bM.buildSlice {t:TypeId} {n:Nat} {parts:Array (Nat×Value)}:bM P (Instr.buildSlice t n parts):=by
  unfold Instr.buildSlice;refine .bind .underlying λd=>?_
  cases d <;> first
    | exact .stuck
    | (refine .bind .sizeOf λm=>?_
       dsimp only
       have hj:∀ (elem:TypeId) (zero:Array Value),bM P (match Instr.fill (λi=>some (i*m,m)) (Array.map (λx=>zero[x % zero.size]!) (Array.range (n*m))) parts.toList with
          | some cells=>do
            let a<-Go.newRow elem cells
            Pure.pure (Value.slice (some a) n n)
          | _=>Go.stuck "buildSlice: a part of the wrong size"):=by
         intro elem zero;split
         · exact .bind .newRow λ_=>.pure
         · exact .stuck
       by_cases b:n*m=0
       · simp only[b,aV]
         rw[b] at hj;split
         · exact .bind .unsupported λ_=>.bind .pure λz=>hj _ z
         · exact .bind .pure λz=>hj _ z
       · simp only[b,aM]
         split
         · exact .bind .unsupported λ_=>.bind .zeroValue λz=>.bind .pure λz=>hj _ z
         · exact .bind .zeroValue λz=>.bind .pure λz=>hj _ z)
theorem nw {s:St} {b o:Nat} {L:Loc} (a:L∈s.β) (c:b∈L.bs):lF s (ui b o):=⟨rfl,rfl,.inr (.inl ⟨⟨L,a,c⟩,λh=>by cases h⟩)⟩
theorem vI {s:St} {b o:Nat} {v:Value} (h:s.M b o=some v):lF s (ui b o):=⟨rfl,rfl,.inr (.inr ⟨rfl,v,h⟩)⟩
theorem mb {s:St} {b o:Nat} {L:Loc} (c:L∈s.β) (d:b∈L.bs) (a:s.M b o=none):lF s (A9 b o):=⟨rfl,rfl,.inr (.inl ⟨⟨L,c,d⟩,λ_=>a⟩)⟩
end
structure TI where
 size:Nat
 bytes:Nat
 agg:Bool
 desc:TypeDesc
 zero:List C
 eq:List TypeDesc:=[]
def m2:TypeDesc->Value->Value->Option Bool
 |.int _,.int k a,.int k' b=>if k=k' then some (a==b) else none
 |.string,.string a,.string b=>some (a.toList==b.toList)
 |.bool,.bool a,.bool b=>some (a==b)
 |_,_,_=>none
def gk:List TypeDesc->List Value->List Value->Option Bool
 |[],[],[]=>some true
 |d::ds,v::vs,w::ws=>match m2 d v w with
  |some a=>match gk ds vs ws with
   |some b=>some (a&&b)
   |none=>none
  |none=>none
 |_,_,_=>none
def Eb:TypeDesc->Bool
 |.struct _|.array _ _=>true
 |_=>false
structure aC (P:Program)(t:TypeId)(i:TI):Prop where
 LL:P.underlying t=some i.desc
 agg:Eb i.desc=i.agg
 info:∃ inf z,P.info? t=some inf/\inf.size=i.size/\inf.bytes=i.bytes/\inf.zero=some z/\z.cells.toList.map oi=i.zero.map some/\(∃ cs,z=if i.agg then .agg cs else z)/\i.zero.length=i.size
 eqs:i.eq≠[]->P.eqGuardType P.depth t=false/\∀ (w:World) (vs ws:List Value) (b:Bool),gk i.eq vs ws=some b->(Op.equal t (.agg vs.toArray) (.agg ws.toArray)).run P w=.ok b w/\∀ es,(Op.equal t (.agg vs.toArray) (.agg ws.toArray)).events P w es=es
def aJ:List (Nat×TI)->Nat->Option TI
 |[],_=>none
 |(i,d)::r,t=>cond (Nat.beq i t) (some d) (aJ r t)
def bX(P:Program)(T:List (Nat×TI)):Prop:=∀ t i,aJ T t=some i->aC P t i
section
variable {P:Program}{w:World}{t:TypeId}{i:TI}
theorem aC.run_underlying(h:aC P t i):(underlying t).run P w=.ok i.desc w:=by
 simp[underlying,h.LL]
theorem aC.gK(h:aC P t i):(isAgg t).run P w=.ok i.agg w:=by
 have:=h.agg;unfold Go.isAgg;rw[aU,h.run_underlying];cases a:i.desc <;> rw[a] at this <;> simp[Eb] at this <;> simp[this]
theorem aC.run_sizeOf(h:aC P t i):(sizeOf t).run P w=.ok i.size w:=by
 obtain⟨a,z,h1,h2,_⟩:=h.info;simp[sizeOf,typeInfo,h1,h2]
theorem hI{σ:List ak}{s:St}:∀ {vs:List Value}{cs:List C},vs.map oi=cs.map some->cu σ s vs (cs.map A.c)
 |[],[],_=>trivial
 |[],_::_,h=>by simp at h
 |_::_,[],h=>by simp at h
 |v::vs,c::cs,h=>by
  simp only[iO,List.cons.injEq] at h;exact⟨Rd.oi h.1,hI h.2⟩
theorem aC.wB(h:aC P t i)(σ:List ak)(s:St):∃ z,(zeroValue t).run P w=.ok z w/\cu σ s z.cells.toList (i.zero.map A.c):=by
 obtain⟨d,z,h1,h2,e,a,b,_⟩:=h.info;exact⟨z,by simp[zeroValue,typeInfo,h1,a],hI b⟩
end
def k7:D->Option (List A)
 |.e (.one a)=>some [a]
 |.e (.agg cs)=>some cs
 |_=>none
theorem mn{σ:List ak}{s:St}{v:Value}{d:D}{cs:List A}(h:k7 d=some cs)(r:b5 σ s v d):cu σ s v.cells.toList cs:=by
 cases d with
 |e x =>
  cases x with
  |one a =>
   cases h;have:=eQ.cell r;cases v <;> first|exact⟨r,ab⟩|cases this
  |agg c =>
   cases h;obtain⟨vs,rfl,b⟩:=r;simpa[Value.cells] using b
 |eD xs=>cases h
 |any=>cases h
theorem aH.newVar{P:Program}{o:Oper}{b:Operand->D}{σ:List ak}{E:TypeId}{cs:List A}
  (h:∀ s a,ag σ s->(∀ y,b5 σ s (a y) (b y))->∃ v:Value,(execOp a o).run P s.w=((do pure (.value (.pointer (some (<-newVar E v))))):Sem Next).run P s.w/\cu σ s v.cells.toList cs/\(execOp a o).events P s.w #[]=#[]) :
  aH P o b σ (.e (.one (.ptr σ.length 0))) (σ++[.cells E cs]):=by
 intro s a hh hr;obtain⟨v,h1,h2,c⟩:=h s a hh hr;refine⟨.value (.pointer (some ⟨s.w.heap.size,0,none⟩)),s.dz E v.cells.toList,?_,?_,hh.dz h2,.dz s E _ _,by rw[c];exact .nil⟩
 ·rw[h1];simp[Go.newVar,newRow,St.dz]
 ·refine⟨by simp,⟨.pointer (some ⟨s.w.heap.size,0,none⟩),[s.w.heap.size]⟩,s.w.heap.size,?_,rfl,rfl⟩
  simp[St.dz,<-hh.len]
theorem aH.alloc{P:Program}{T:List (Nat×TI)}(d:bX P T){o:Oper}{f:Operand->D}{σ:List ak}{E:TypeId}(h:o.op=.alloc E){i:TI}(hi:aJ T E=some i) :
  aH P o f σ (.e (.one (.ptr σ.length 0))) (σ++[.cells E (i.zero.map A.c)]):=by
 refine .newVar λs g _ _=>?_
 obtain⟨z,a,b⟩:=(d E i hi).wB (w:=s.w) σ s;exact⟨z,by simp[execOp,h,Instr.alloc,a],b,by simp[execOp,h,Instr.alloc,a,Go.newVar,newRow]⟩
theorem aH.box{P:Program}{o:Oper}{a:Operand->D}{σ:List ak}{E:TypeId}{x:Operand}(h:o.op=.box E x){cs:List A}(d:k7 (a x)=some cs) :
  aH P o a σ (.e (.one (.ptr σ.length 0))) (σ++[.cells E cs]) :=
 .newVar λs c _ b=>⟨c x,by simp[execOp,h,Instr.box],mn d (b x),by simp[execOp,h,Instr.box,Go.newVar,newRow]⟩
def lk{α:Type}:Nat->List α->Option (List α)
 |0,_=>some []
 |n+1,x::xs=>match lk n xs with|some r=>some (x::r)|none=>none
 |_+1,[]=>none
theorem kl{α:Type}:∀ {n:Nat}{l r:List α},lk n l=some r->r=l.take n/\r.length=n
 |0,l,r,h=>by cases h;simp
 |n+1,[],r,h=>by simp[lk] at h
 |n+1,x::xs,r,h=>by
  simp only[lk] at h;cases a:lk n xs with
  |none=>simp[a] at h
  |some q =>
   simp[a] at h;subst h;obtain⟨b,c⟩:=kl a;simp[<-b,c]
def en{α:Type}:Nat->List α->Option α
 |_,[]=>none
 |0,x::_=>some x
 |n+1,_::xs=>en n xs
theorem cT{α:Type}:∀ {n:Nat}{l:List α}{x:α},en n l=some x->l[n]?=some x
 |_,[],_,h=>by simp[en] at h
 |0,x::_,_,h=>by simpa[en] using h
 |n+1,_::xs,_,h=>by simpa using cT (n:=n) (l:=xs) h
def eR{α:Type}:Nat->List α->List α
 |0,l=>l
 |_+1,[]=>[]
 |n+1,_::xs=>eR n xs
theorem ky{α:Type}:∀ (n:Nat)(l:List α),eR n l=l.drop n
 |0,_=>by simp[eR]
 |_+1,[]=>by simp[eR]
 |n+1,_::xs=>by simp[eR,ky n xs]
def ki(i:TI)(cs:List A):Option E1 :=
 match i.agg with
 |true=>match lk i.size cs with|some r=>some (.agg r)|none=>none
 |false=>match en 0 cs with|some a=>some (.one a)|none=>none
theorem lT{P:Program}{σ:List ak}{s:St}{t:TypeId}{i:TI}(l:aC P t i){b off:Nat}{vs:List Value}{cs:List A}{e:E1}
  (m:∀ (j:Nat) (v:Value),vs[j]?=some v->s.w.cell? ⟨b,off+j,none⟩=some v) (n:cu σ s vs cs) (f:ki i cs=some e) :
  ∃ v,(loadVar t ⟨b,off,none⟩).run P s.w=.ok v s.w/\jr σ s v e:=by
 simp only[loadVar,aU,l.gK,bj];cases u:i.agg <;> simp only[ki,u] at f
 ·cases d:en 0 cs with
  |none=>simp[d] at f
  |some a =>
   simp[d] at f;subst f;obtain⟨v,o,k⟩:=n.get (cT d);refine⟨v,?_,k⟩;have:=m 0 v o;simp at this;simp[run_load,this]
 ·cases d:lk i.size cs with
  |none=>simp[d] at f
  |some r =>
   simp[d] at f;subst f;obtain⟨q,x⟩:=kl d;have c:=n.take i.size;rw[<-q] at c;have p:(vs.take i.size).length=i.size:=by rw[c.length,x]
   have g:=run_loadCells_list (P:=P) s.w ⟨b,off,none⟩ (vs.take i.size) (λj v h=>by
    rw[cg];refine m j v ?_;rw[dx] at h;split at h
    ·exact h
    ·cases h)
   rw[p] at g;refine⟨.agg (vs.take i.size).toArray,?_,vs.take i.size,rfl,c⟩;simp[l.run_sizeOf,g]
theorem gL{P:Program}{w:World}{t:TypeId}{i:TI}(d:aC P t i){b off n:Nat}(g:∀ j,j<n->∃ v,w.cell? ⟨b,off+j,none⟩=some v)(c:(if i.agg then i.size else 1)<=n) :
  ∀ e∈(loadVar t ⟨b,off,none⟩).events P w #[],∃ j,j<n/\e=ui b (off+j):=by
 intro e a;simp only[loadVar,Sem.events_bind,d.gK,Result.evThen_ok,events_isAgg] at a;cases k:i.agg
 ·rw[k] at c a;obtain⟨v,f⟩:=g 0 (by simp at c;omega)
  simp only[ey] at f;simp only[fO,aM,uo f] at a;rcases nj.1 a with h|rfl
  ·simp at h
  ·exact⟨0,by simp at c;omega,rfl⟩
 ·rw[k] at c a;simp only[aV] at c;simp only[aV,Sem.events_bind,d.run_sizeOf,Result.evThen_ok,events_sizeOf] at a;have key:∀ e∈(loadCells ⟨b,off,none⟩ i.size).events P w #[],∃ j,j<n/\e=ui b (off+j):=by
   intro e a;rcases nq (P:=P) (λj l=>g j (by omega)) e a with h|⟨j,l,rfl⟩
   ·simp at h
   ·exact⟨j,by omega,rfl⟩
  apply key
  generalize (loadCells ⟨b,off,none⟩ i.size).run P w=r at a;cases r with
  |ok v w'=>simpa using a
  |halt x w'=>simpa using a
theorem nC{i:TI}{cs:List A}{e:E1}(h:ki i cs=some e):(if i.agg then i.size else 1)<=cs.length:=by
 unfold ki at h;cases b:i.agg <;> rw[b] at h
 ·cases cs with
  |nil=>simp[en] at h
  |cons c cs=>simp
 ·simp only at h;cases a:lk i.size cs with
  |none=>simp[a] at h
  |some r =>
   obtain⟨d,f⟩:=kl a;rw[d,List.length_take] at f;simp only[aV];omega
theorem aH.Ad{P:Program}{T:List (Nat×TI)}(y:bX P T){o:Oper}{C:Operand->D}{σ:List ak}{t:TypeId}{x:Operand}(h:o.op=.load t x){l off:Nat}{E:TypeId}{cs:List A}{i:TI}{e:E1}
  (F:C x=.e (.one (.ptr l off))) (G:σ[l]?=some (.cells E cs)) (hi:aJ T t=some i) (q:ki i (eR off cs)=some e):aH P o C σ (.e e) σ:=by
 refine .kU λs H hh hr=>?_
 have h1:=hr x;rw[F] at h1;obtain⟨_,L,b,u,f,r⟩:=h1;obtain⟨m,vs,rfl,B,k,_⟩:=hh.box l _ L G u;simp at f;subst f;rw[ky] at q;obtain⟨v,d,p⟩:=lT (s:=s) (σ:=σ) (P:=P) (y t i hi) (b:=m) (off:=off) (vs:=vs.drop off) (cs:=cs.drop off) (e:=e) (λj v hj=>by
  simp only[World.cell?,B];simpa using hj) (k.drop off) q
 refine⟨v,by simp[execOp,h,r,Instr.loadAt,Instr.sureAddr,d],p,λz g=>?_⟩
 have c:z∈(loadVar t ⟨m,off,none⟩).events P s.w #[]:=by
  have e:execOp H o=(do pure (.value (<-loadVar t ⟨m,off,none⟩))):=by simp[execOp,h,r,Instr.loadAt,Instr.sureAddr]
  rw[e] at g;simpa[d] using g
 have a:(vs.drop off).length=(cs.drop off).length:=(k.drop off).length;obtain⟨j,hj,rfl⟩:=gL (y t i hi) (n:=(vs.drop off).length) (λj hj=>by
  refine⟨(vs.drop off)[j],?_⟩;simp only[World.cell?,B];simp at hj ⊢ <;> omega) (by rw[a];exact nC q) z c
 exact nw (aG u) (by simp)
theorem aH.DC{P:Program}{T:List (Nat×TI)}(B:bX P T){o:Oper}{G:Operand->D}{σ:List ak}{t:TypeId}{x:Operand}(h:o.op=.load t x){cs:List C}{i:TI}{e:E1}
  (H:G x=.e (.one (.c (.rp cs)))) (hi:aJ T t=some i) (F:ki i (cs.map A.c)=some e):aH P o G σ (.e e) σ:=by
 refine .kU λs y hh hr=>?_
 have h1:=hr x;rw[H] at h1;have h2:=eB h1;generalize l:y x=vx at h2;cases h2
 rename_i b off f u r
 have p:∀ (n:Nat) (ds:List C),(∀ j c,ds[j]?=some c->Rd s.M (f (n+j)) c)->cu σ s ((List.range ds.length).map λj=>f (n+j)) (ds.map A.c):=by
  intro n ds
  induction ds generalizing n with
  |nil=>intro _;trivial
  |cons d ds ih =>
   intro z;rw[fa,tU];refine⟨z 0 d rfl,?_⟩;have:=ih (n+1) (λj c hj=>by have:=z (j+1) c (by simpa using hj);rwa [show n+1+j=n+(j+1) by omega])
   simpa[Function.comp_def,iz,iB 1] using this
 obtain⟨v,k,q⟩:=lT (s:=s) (σ:=σ) (P:=P) (B t i hi) (b:=b) (off:=off) (vs:=(List.range cs.length).map λj=>f (0+j)) (cs:=cs.map A.c) (e:=e) (λj v hj=>by
  simp only[kM,aw] at hj
  by_cases a:j<cs.length
  ·simp[a] at hj;subst hj;exact hh.mem _ _ _ (u j cs[j] (aj a))
  ·simp[a] at hj) (p 0 cs (by simpa using r)) F
 refine⟨v,by simp[execOp,h,l,Instr.loadAt,Instr.sureAddr,k],q,λE m=>?_⟩
 have g:E∈(loadVar t ⟨b,off,none⟩).events P s.w #[]:=by
  have e:execOp y o=(do pure (.value (<-loadVar t ⟨b,off,none⟩))):=by simp[execOp,h,l,Instr.loadAt,Instr.sureAddr]
  rw[e] at m;simpa[k] using m
 obtain⟨j,hj,rfl⟩:=gL (B t i hi) (n:=cs.length) (λj hj=>⟨f j,hh.mem _ _ _ (u j cs[j] (aj hj))⟩) (by have:=nC F;simpa using this) E g
 exact vI (u j cs[j] (aj hj))
def dv{α:Type}:Nat->List α->List α->Option (List α)
 |0,[],l=>some l
 |0,n::ns,_::cs=>match dv 0 ns cs with|some r=>some (n::r)|none=>none
 |k+1,ns,c::cs=>match dv k ns cs with|some r=>some (c::r)|none=>none
 |_,_,[]=>none
theorem mo{α:Type}:∀ {off:Nat}{new l r:List α},dv off new l=some r->off+new.length<=l.length/\r=l.take off++new++l.drop (off+new.length)
 |0,[],l,r,h=>by cases l <;> cases h <;> simp
 |0,n::ns,c::cs,r,h=>by
  simp only[dv] at h;cases a:dv 0 ns cs with
  |none=>simp[a] at h
  |some q =>
   simp[a] at h;subst h;obtain⟨d,b⟩:=mo a;refine⟨by simp at d ⊢;omega,?_⟩
   simp at b;simp[b]
 |0,n::ns,[],r,h=>by simp[dv] at h
 |k+1,ns,c::cs,r,h=>by
  simp only[dv] at h;cases a:dv k ns cs with
  |none=>simp[a] at h
  |some q =>
   simp[a] at h;subst h;obtain⟨d,b⟩:=mo a;refine⟨by simp;omega,?_⟩
   rw[show k+1+ns.length=(k+ns.length)+1 by omega]
   simp[b]
 |k+1,ns,[],r,h=>by simp[dv] at h
theorem cu.dv{σ:List ak}{s:St}{off:Nat}{vs new:List Value}{cs Kj r:List A}(h:AM.dv off Kj cs=some r)(h1:cu σ s vs cs)(h2:cu σ s new Kj) :
  off+new.length<=vs.length/\cu σ s (vs.take off++new++vs.drop (off+new.length)) r:=by
 obtain⟨k1,rfl⟩:=mo h;rw[h2.length,h1.length];refine⟨k1,((h1.take off).append h2).append (by have:=h1.drop (off+Kj.length);exact this)⟩
theorem aH.store{P:Program}{T:List (Nat×TI)}(C:bX P T){o:Oper}{u:Operand->D}{σ:List ak}{t:TypeId}{x y:Operand}(h:o.op=.store t x y){l off:Nat}{E:TypeId}{cs new lN:List A}{i:TI}
  (M:u x=.e (.one (.ptr l off))) (G:σ[l]?=some (.cells E cs)) (hi:aJ T t=some i) (N:k7 (u y)=some new) (I:new.length=i.size) (K:dv off new cs=some lN) :
  aH P o u σ .any (σ.set l (.cells E lN)):=by
 intro s d hh hr;have h1:=hr x;rw[M] at h1;obtain⟨_,L,b,B,k,F⟩:=h1;obtain⟨p,vs,rfl,J,q,m⟩:=hh.box l _ L G B;simp at k;subst k;have c:=mn N (hr y);obtain⟨k1,O⟩:=cu.dv K q c;obtain⟨w1,w2⟩:=hh.write G B rfl O;refine⟨.skip,_,?_,rfl,w1,w2,?_⟩
 rotate_left
 ·intro H a;have f:(d y).cells.size=i.size:=by rw[<-I,<-c.length,fx]
  have e:execOp d o=(do storeVar t ⟨p,off,none⟩ (d y);pure .skip):=by simp[execOp,h,F,Instr.storeAt,Instr.sureAddr]
  rw[e] at a;have n:H∈(storeCells ⟨p,off,none⟩ (d y).cells.toList).events P s.w #[]:=by
   simp only[storeVar,Sem.events_bind,(C t i hi).run_sizeOf,f,Result.evThen_ok,events_sizeOf,cf,e9,aM,aU,bj,Sem.events_pure] at a;generalize (storeCells ⟨p,off,none⟩ (d y).cells.toList).run P s.w=r at a;cases r with
   |ok v w'=>simpa using a
   |halt x w'=>simpa using a
  rcases dL (d y).cells.toList 0 vs.toArray s.w #[] J (by simpa using k1) c.cell H n with z|⟨j,_,_,rfl⟩
  ·simp at z
  ·exact mb (aG B) (by simp) (m _)
 have g:=run_storeCells_at P p off E (d y).cells.toList 0 vs.toArray s.w J (by simpa using k1) (c.cell)
 have f:(d y).cells.size=i.size:=by rw[<-I,<-c.length,fx]
 simp only[ey] at g;simp[execOp,h,F,Instr.storeAt,Instr.sureAddr,storeVar,(C t i hi).run_sizeOf,f,g]
def gh(T:List (Nat×TI))(t:TypeId)(f:Nat):Option (Nat×TI) :=
 match aJ T t with
 |some i=>match i.desc with
  |.struct fs=>match en f fs.toList with
   |some fl=>match aJ T fl.type with
    |some j=>cond (Nat.beq j.size 0) none (some (fl.offset,j))
    |none=>none
   |none=>none
  |_=>none
 |none=>none
theorem oA{P:Program}{T:List (Nat×TI)}(c:bX P T){t:TypeId}{f off:Nat}{j:TI}(h:gh T t f=some (off,j)) :
  ∃ i fs fl,aJ T t=some i/\i.desc=.struct fs/\fs[f]?=some fl/\fl.offset=off/\aJ T fl.type=some j/\j.size≠0/\aC P t i/\aC P fl.type j:=by
 unfold gh at h;split at h
 ·rename_i i hi
  split at h
  ·rename_i fs Ua
   split at h
   ·rename_i fl Ub
    split at h
    ·rename_i d b
     cases a:Nat.beq d.size 0 <;> simp[a] at h
     obtain⟨rfl,rfl⟩:=h;refine⟨i,fs,fl,hi,Ua,by simpa using cT Ub,rfl,b,?_,c _ _ hi,c _ _ b⟩
     intro e;rw[e] at a;cases a
    ·cases h
   ·cases h
  ·cases h
 ·cases h
theorem jK{P:Program}{T:List (Nat×TI)}(e:bX P T){t:TypeId}{f off:Nat}{j:TI}(h:gh T t f=some (off,j))(b o:Nat)(w:World) :
  (Instr.fieldAt t (.pointer (some ⟨b,o,none⟩)) f).run P w=.ok (.pointer (some ⟨b,o+off,none⟩)) w:=by
 obtain⟨i,fs,n,p,k,d,a,m,l,g,c⟩:=oA e h;simp[Instr.fieldAt,g.run_underlying,k,d,Instr.sureAddr,fieldPlace,c.run_sizeOf,l,cg,a]
theorem la{P:Program}{T:List (Nat×TI)}(d:bX P T){t:TypeId}{f off:Nat}{j:TI}(h:gh T t f=some (off,j))(b o:Nat)(w:World)(es:Array Event) :
  (Instr.fieldAt t (.pointer (some ⟨b,o,none⟩)) f).events P w es=es:=by
 obtain⟨i,fs,n,p,g,c,m,l,k,e,a⟩:=oA d h;simp[Instr.fieldAt,e.run_underlying,g,c,Instr.sureAddr,fieldPlace,a.run_sizeOf,k]
theorem aH.nL{P:Program}{T:List (Nat×TI)}(g:bX P T){o:Oper}{i:Operand->D}{σ:List ak}{t:TypeId}{x:Operand}{f:Nat}(h:o.op=.fieldAddr t x f){l off k:Nat}{j:TI}
  (n:i x=.e (.one (.ptr l off))) (d:gh T t f=some (k,j)):aH P o i σ (.e (.one (.ptr l (off+k)))) σ:=by
 refine .quiet λs q hh hr=>?_
 have h1:=hr x;rw[n] at h1;obtain⟨p,L,b,m,a,c⟩:=h1;exact⟨.pointer (some ⟨b,off+k,none⟩),by simp[execOp,h,c,jK g d],⟨p,L,b,m,a,rfl⟩,by simp[execOp,h,c,la g d]⟩
theorem aH.oV{P:Program}{T:List (Nat×TI)}(i:bX P T){o:Oper}{l:Operand->D}{σ:List ak}{t:TypeId}{x:Operand}{f:Nat}(h:o.op=.fieldAddr t x f){cs:List C}{k:Nat}{j:TI}
  (m:l x=.e (.one (.c (.rp cs)))) (g:gh T t f=some (k,j)):aH P o l σ (.e (.one (.c (.rp (eR k cs))))) σ:=by
 refine .quiet λs n hh hr=>?_
 have h1:=hr x;rw[m] at h1;have h2:=eB h1;generalize a:n x=vx at h2;cases h2
 rename_i b o p q d
 refine⟨.pointer (some ⟨b,o+k,none⟩),by simp[execOp,h,a,jK i g],?_,by simp[execOp,h,a,la i g]⟩
 rw[ky];refine Rd.rp b (o+k) (λj=>p (k+j)) (λj c hj=>?_) (λj c hj=>?_)
 ·rw[show o+k+j=o+(k+j) by omega];exact q (k+j) c (by simpa using hj)
 ·exact d (k+j) c (by simpa using hj)
theorem Ec{σ:List ak}{s:St}{P:Program}{t:TypeId}{i:TI}(g:aC P t i){vs:List Value}{cs:List A}(r:cu σ s vs cs){off:Nat}{e:E1}(b:ki i (eR off cs)=some e)(w:World) :
  ∃ v,(part t vs.toArray off).run P w=.ok v w/\jr σ s v e/\∀ es,(part t vs.toArray off).events P w es=es:=by
 simp only[part,aU,g.gK,bj,Sem.events_bind,Result.evThen_ok,events_isAgg];rw[ky] at b;cases k:i.agg <;> simp only[ki,k] at b
 ·cases c:en 0 (cs.drop off) with
  |none=>simp[c] at b
  |some a =>
   simp[c] at b;subst b;obtain⟨v,h,f⟩:=(r.drop off).get (cT c);simp at h;refine⟨v,?_,f,λes=>?_⟩ <;> simp[h]
 ·cases c:lk i.size (cs.drop off) with
  |none=>simp[c] at b
  |some q =>
   simp[c] at b;subst b;obtain⟨j,l⟩:=kl c;have d:=(r.drop off).take i.size;rw[<-j] at d;refine⟨.agg (vs.toArray.extract off (off+i.size)),by simp[g.run_sizeOf],⟨(vs.drop off).take i.size,?_,d⟩,λes=>by simp⟩
   simp
theorem aH.field{P:Program}{T:List (Nat×TI)}(r:bX P T){o:Oper}{n:Operand->D}{σ:List ak}{t:TypeId}{x:Operand}{f:Nat}(h:o.op=.field t x f){cs:List A}{k:Nat}{j:TI}{e:E1}
  (p:n x=.e (.agg cs)) (q:gh T t f=some (k,j)) (u:ki j (eR k cs)=some e):aH P o n σ (.e e) σ:=by
 refine .quiet λs z hh hr=>?_
 have h1:=hr x;rw[p] at h1;obtain⟨vs,g,b⟩:=h1;obtain⟨i,fs,fl,h1,h2,m,l,y,B,g1,g2⟩:=oA r q;obtain⟨v,d,a,c⟩:=Ec g2 b u s.w;exact⟨v,by simp[execOp,h,g,Instr.field,g1.run_underlying,h2,m,asAgg,l,d],a,by simp[execOp,h,g,Instr.field,g1.run_underlying,h2,m,asAgg,l,c]⟩
theorem aH.oX{P:Program}{o:Oper}{d:Operand->D}{σ:List ak}{x:Operand}(h:o.op=.nilCheck x){l off:Nat}(f:d x=.e (.one (.ptr l off))):aH P o d σ (.e (.one (.ptr l off))) σ:=by
 refine .quiet λs g hh hr=>?_
 have h1:=hr x;rw[f] at h1;have a:=h1;obtain⟨k,L,b,j,i,c⟩:=h1;exact⟨g x,by simp[execOp,h,c],a,by simp[execOp,h,c]⟩
theorem aH.qI{P:Program}{o:Oper}{b:Operand->D}{σ:List ak}{x:Operand}(h:o.op=.nilCheck x){cs:List C}(f:b x=.e (.one (.c (.rp cs)))):aH P o b σ (.e (.one (.c (.rp cs)))) σ:=by
 refine .quiet λs d hh hr=>?_
 have h1:=hr x;rw[f] at h1;have h2:=eB h1;generalize a:d x=vx at h2;cases h2;exact⟨_,by simp[execOp,h,a];rfl,by rw[<-a];exact h1,by simp[execOp,h,a]⟩
theorem Bz(new:List Value):∀ (j off:Nat)(cs:Array Value),off+j+new.length<=cs.size ->
  ((new.zipIdx j).foldl (λcs (x:Value×Nat)=>cs.setIfInBounds (off+x.2) x.1) cs).toList=cs.toList.take (off+j)++new++cs.toList.drop (off+j+new.length):=by
 induction new with
 |nil=>intro j off cs _;simp
 |cons v vs ih =>
  intro j off cs h;simp only[List.zipIdx_cons,kO];rw[ih (j+1) off _ (by simp at h ⊢;omega)]
  have:=list_seg_step cs.toList (off+j) v vs (by simp at h ⊢;omega)
  simpa[mP,iz] using this
def sZ(place:Nat->Option (Nat×Nat)):List (Nat×List A)->List A->Option (List A)
 |[],cs=>some cs
 |(i,new)::rest,cs=>match place i with
  |some (off,size)=>match Nat.beq new.length size with
   |true=>match dv off new cs with
    |some r=>sZ place rest r
    |none=>none
   |false=>none
  |none=>none
theorem qY{σ:List ak}{s:St}{place place':Nat->Option (Nat×Nat)}(u:∀ i p,place i=some p->place' i=some p):∀ {parts:List (Nat×List A)}{vparts:List (Nat×Value)}{cs r:List A}{vs:Array Value},
  sZ place parts cs=some r->vparts.map (·.1)=parts.map (·.1)->(∀ (k:Nat) (p:Nat×List A) (q:Nat×Value),parts[k]?=some p->vparts[k]?=some q->cu σ s q.2.cells.toList p.2)->cu σ s vs.toList cs ->
  ∃ g,Instr.fill place' vs vparts=some g/\cu σ s g.toList r
 |[],[],cs,r,vs,h,_,_,d=>by cases h;exact⟨vs,rfl,d⟩
 |[],_::_,cs,r,vs,h,a,_,d=>by simp at a
 |_::_,[],cs,r,vs,h,a,_,d=>by simp at a
 |(i,new)::rest,(n,v)::Na,cs,r,vs,h,a,w,d=>by
  simp only[iO,List.cons.injEq] at a;obtain⟨rfl,a⟩:=a;simp only[sZ] at h;cases b:place n with
  |none=>simp[b] at h
  |some p =>
   obtain⟨off,size⟩:=p;simp only[b] at h;cases l:Nat.beq new.length size with
   |false=>simp[l] at h
   |true =>
    simp only[l] at h;cases m:dv off new cs with
    |none=>simp[m] at h
    |some q =>
     simp only[m] at h;have j:=w 0 (n,new) (n,v) rfl rfl;simp only at j;have y:=j.length;have f:new.length=size:=bk l;obtain⟨k1,B⟩:=cu.dv m d j;have z:=Bz v.cells.toList 0 off vs (by simpa using k1)
     have c:v.cells.size=size:=by rw[<-f,<-y,fx]
     have C:off+size<=vs.size:=by simpa[c] using k1
     obtain⟨g,t,o⟩:=qY (σ:=σ) (s:=s) u (parts:=rest) (vparts:=Na) (cs:=q) (r:=r)
      (vs:=v.cells.zipIdx.foldl (λcs (x:Value×Nat)=>cs.setIfInBounds (off+x.2) x.1) vs) h a (λk p q t o=>w (k+1) p q (by simpa using t) (by simpa using o)) (by
       have e:(v.cells.zipIdx.foldl (λcs (x:Value×Nat)=>cs.setIfInBounds (off+x.2) x.1) vs).toList=((v.cells.toList.zipIdx 0).foldl (λcs (x:Value×Nat)=>cs.setIfInBounds (off+x.2) x.1) vs).toList:=by
        rw[<-Array.foldl_toList,Array.toList_zipIdx]
       rw[e,z];simpa using B)
     refine⟨g,?_,o⟩;simp only[Instr.fill,u _ _ b,c,cf,e9,decide_false,pS,aD];rw[an (by simp;omega)]
     exact t
def mq(T:List (Nat×TI)):List Field->Option (List (Nat×Nat))
 |[]=>some []
 |f::fs=>match aJ T f.type with
  |some j=>match mq T fs with
   |some r=>some ((f.offset,j.size)::r)
   |none=>none
  |none=>none
theorem qZ{P:Program}{T:List (Nat×TI)}(c:bX P T):∀ {fs:List Field}{r:List (Nat×Nat)},mq T fs=some r->fs.mapM (λf=>(P.info? f.type).map λi=>(f.offset,i.size))=some r
 |[],r,h=>by cases h;simp
 |f::fs,r,h=>by
  simp only[mq] at h;cases a:aJ T f.type with
  |none=>simp[a] at h
  |some j =>
   cases b:mq T fs with
   |none=>simp[a,b] at h
   |some q =>
    simp[a,b] at h;subst h;obtain⟨g,z,e,d,_⟩:=(c _ _ a).info;simp[jw,e,d,qZ c b]
def lU(a:Operand->D):List (Nat×Operand)->Option (List (Nat×List A))
 |[]=>some []
 |(i,x)::r=>match k7 (a x) with
  |some cs=>match lU a r with
   |some q=>some ((i,cs)::q)
   |none=>none
  |none=>none
theorem oB{σ:List ak}{s:St}{d:Operand->Value}{b:Operand->D}(g:∀ y,b5 σ s (d y) (b y)):∀ {l:List (Nat×Operand)}{q:List (Nat×List A)},lU b l=some q ->
  (l.map λ(i,x)=>(i,d x)).map (·.1)=q.map (·.1)/\∀ (k:Nat) (p:Nat×List A) (u:Nat×Value),q[k]?=some p->(l.map λ(i,x)=>(i,d x))[k]?=some u->cu σ s u.2.cells.toList p.2
 |[],q,h=>by cases h;simp
 |(i,x)::r,q,h=>by
  simp only[lU] at h;cases a:k7 (b x) with
  |none=>simp[a] at h
  |some cs =>
   cases f:lU b r with
   |none=>simp[a,f] at h
   |some q' =>
    simp[a,f] at h;subst h;obtain⟨m,j⟩:=oB g f;refine⟨by simpa using m,λk p u c e=>?_⟩
    cases k with
    |zero=>simp at c e;subst c e;exact mn a (g x)
    |succ k=>exact j k p u (by simpa using c) (by simpa using e)
def uI(T:List (Nat×TI))(a:Operand->D)(t:TypeId)(parts:List (Nat×Operand)):Option (List A) :=
 match aJ T t with
 |some i=>match i.desc with
  |.struct fs=>match mq T fs.toList with
   |some pl=>match lU a parts with
    |some ps=>sZ (λk=>en k pl) ps (i.zero.map A.c)
    |none=>none
   |none=>none
  |_=>none
 |none=>none
theorem aH.build{P:Program}{T:List (Nat×TI)}(g:bX P T){o:Oper}{j:Operand->D}{σ:List ak}{t:TypeId}{parts:Array (Nat×Operand)}(h:o.op=.build t parts){cs:List A}
  (a:uI T j t parts.toList=some cs):aH P o j σ (.e (.agg cs)) σ:=by
 refine .quiet λs u hh hr=>?_
 unfold uI at a;cases hi:aJ T t with
 |none=>simp[hi] at a
 |some i =>
  simp only[hi] at a;cases l:i.desc with
  |struct fs =>
   simp only[l] at a;cases c:mq T fs.toList with
   |none=>simp[c] at a
   |some pl =>
    simp only[c] at a;cases d:lU j parts.toList with
    |none=>simp[d] at a
    |some ps =>
     simp only[d] at a;obtain⟨v,z,r,F,H,C,B,I,G⟩:=(g t i hi).info;obtain⟨E,p2⟩:=oB (σ:=σ) (s:=s) hr d;obtain⟨f,q,n⟩:=qY (σ:=σ) (s:=s) (place':=λk=>pl.toArray[k]?) (λk p y=>by simpa using cT y) a E p2 (hI B)
     have m:P.built t (parts.map λ(i,x)=>(i,u x)).toList=some f:=by
      unfold Program.built;have b:=(g t i hi).LL;rw[l] at b;simp only[r,b,C,qZ g c];simpa using q
     refine⟨.agg f,?_,⟨f.toList,by simp,n⟩,?_⟩
     ·simp only[execOp,h,aU,run_build s.w t _ f m,bj,cd]
     ·simp only[execOp,h,Sem.events_bind,run_build s.w t _ f m,Result.evThen_ok,Sem.events_pure];exact bM.build s.w #[]
  |_=>simp[l] at a
theorem Kn{k n i j:Nat}(hi:i<n)(b:j<k):i*k+j<n*k:=by
 have a:(i+1)*k<=n*k:=eb k (by omega)
 rw[ez] at a;omega
theorem Hr{k i j:Nat}(a:j<k):(i*k+j) / k=i:=by
 rw[iA,Nat.mul_add_div (by omega),Nat.div_eq_of_lt a];omega
theorem Hs{k i j:Nat}(a:j<k):(i*k+j) % k=j:=by
 rw[iA,Nat.mul_add_mod,Nat.mod_eq_of_lt a]
theorem Flat.nil{M:Mem}{k:Nat}{es:Nat->List C}:Flat M k 0 es []:=⟨by simp,by omega,by omega⟩
def cz(n:Nat)(f g:Nat->List C):Nat->List C:=λi=>if i<n then f i else g (i-n)
theorem Flat.append{M:Mem}{k n m:Nat}{es es':Nat->List C}{vs r6:List Value}(h:Flat M k n es vs)(b:Flat M k m es' r6):Flat M k (n+m) (cz n es es') (vs++r6):=by
 refine⟨by simp[h.len,b.len,ez],λi hi=>?_,λi hi j c hj=>?_⟩
 ·simp only[cz];split
  ·rename_i a;exact h.width i a
  ·exact b.width _ (by omega)
 ·simp only[cz] at hj;split at hj
  ·rename_i a
   obtain⟨v,h1,h2⟩:=h.rd i a j c hj;refine⟨v,?_,h2⟩;rw[bS]
   ·exact h1
   ·exact(aE.1 h1).1
  ·rename_i d
   obtain⟨v,h1,h2⟩:=b.rd _ (by omega) j c hj
   refine⟨v,?_,h2⟩;have e1:i*k+j=vs.length+((i-n)*k+j):=by
    rw[h.len,<-iz,<-ez,uc (by omega)]
   rw[e1,cj (by omega)]
   rw[show vs.length+((i-n)*k+j)-vs.length=(i-n)*k+j by omega]
   exact h1
theorem Flat.cell{M:Mem}{k n:Nat}{es:Nat->List C}{vs:List Value}(h:Flat M k n es vs):∀ v∈vs,v.oneCell'=true:=by
 intro v c;obtain⟨p,a,rfl⟩:=dH c;rw[h.len] at a;have b:0<k:=by
  rcases ig k with rfl|b
  ·simp at a
  ·exact b
 have hi:p / k<n:=Nat.div_lt_of_lt_mul (by rw[iA];exact a)
 have hj:p % k<k:=jA _ b;have d:=h.width _ hi;obtain⟨v,h1,h2⟩:=h.rd (p / k) hi (p % k) ((es (p / k))[p % k]'(by omega)) (aj (by omega))
 have e:p / k*k+p % k=p:=Nat.div_add_mod' p k;rw[e] at h1;rw[aj (by rw[h.len];exact a)] at h1
 simp at h1;rw[h1];have:=Rd.cell h2;cases v <;> simp_all [cE,Value.oneCell']
theorem Rd.flat{M:Mem}{v:Value}{t:Bool}{k n:Nat}{es:Nat->List C}(h:Rd M v (.sl t k n es)) :
  ∃ a cap vs,v=.slice a n cap/\n<=cap/\cap<=9223372036854775807/\(t=true->cap=n)/\Flat M k n es vs/\∀ p u,vs[p]?=some u->∃ b off,a=some ⟨b,off,none⟩/\M b (off+p)=some u:=by
 cases h with
 |@sl a _ cap _ _ _ b off f g q r l w x s =>
  refine⟨a,cap,(List.range (n*k)).map λp=>f (p / k) (p % k),rfl,g,q,r,⟨by simp,l,?_⟩,?_⟩
  ·intro i hi j c hj;have e:j<k:=by
    rw[<-l i hi];exact(aE.1 hj).1
   refine⟨f i j,?_,s i hi j c hj⟩;simp[Kn hi e,Hr e,Hs e]
  ·intro p u m;simp only[kM] at m
   by_cases d:p<n*k
   ·simp[d] at m;subst m;have o:0<k:=by
     rcases ig k with rfl|l
     ·simp at d
     ·exact l
    have hi:p / k<n:=Nat.div_lt_of_lt_mul (by rw[iA];exact d)
    have hj:p % k<k:=jA _ o;have y:=l _ hi;have:=x (p / k) hi (p % k) ((es (p / k))[p % k]'(by omega)) (aj (by omega))
    refine⟨b,off,w (Nat.lt_of_le_of_lt (kS _) hi),?_⟩;rw[show off+p=off+p / k*k+p % k by rw[iz,Nat.div_add_mod' p k]]
    exact this
   ·simp[d] at m
theorem Rd.oh{M:Mem}{k n:Nat}{es:Nat->List C}{vs:List Value}(h:Flat M k n es vs){a:Option Addr}{b off cap:Nat}{t:Bool}(g:0<n->a=some ⟨b,off,none⟩)(d:n<=cap)(e:cap<=9223372036854775807)(f:t=true->cap=n)
  (l:∀ p u,vs[p]?=some u->M b (off+p)=some u):Rd M (.slice a n cap) (.sl t k n es):=by
 refine .sl b off (λi j=>(vs[i*k+j]?).getD undef) d e f h.width g (λi hi j c hj=>?_) (λi hi j c hj=>?_)
 ·obtain⟨v,h1,h2⟩:=h.rd i hi j c hj;rw[h1,show off+i*k+j=off+(i*k+j) by omega]
  exact l _ _ h1
 ·obtain⟨v,h1,h2⟩:=h.rd i hi j c hj;rw[h1];exact h2
theorem cD{P:Program}{σ:List ak}{s:St}(l:ag σ s){v:Value}{t:Bool}{k n:Nat}{es:Nat->List C}(h:Rd s.M v (.sl t k n es)) :
  ∃ vs,Flat s.M k n es vs/\(Builtin.firstCells k n v).run P s.w=.ok vs.toArray s.w/\Builtin.lenOf v=pure n:=by
 obtain⟨a,cap,vs,rfl,e,o,q,d,f⟩:=h.flat;refine⟨vs,d,?_,rfl⟩;have g:vs.length=n*k:=d.len;cases a with
 |none =>
  have:vs=[]:=by
   cases vs with
   |nil=>rfl
   |cons u p=>obtain⟨b,off,c,_⟩:=f 0 u rfl;cases c
  subst this;rfl
 |some ad =>
  simp only[Builtin.firstCells];rw[<-g];refine run_loadCells_list s.w ad vs λj u i=>?_
  obtain⟨b,off,c,m⟩:=f j u i;cases c;rw[cg];exact l.mem _ _ _ m
theorem aH.Dy{P:Program}{T:List (Nat×TI)}(q:bX P T){o:Oper}{f:Operand->D}{σ:List ak}{t:TypeId}{x y:Operand}(h:o.op=.index t x y){l:List UInt8}{j:Int}{k:IntKind}{i:TI}{m:Nat}(hi:aJ T t=some i)(p:i.desc=.string)
  (r:f x=.e (.one (.c (.str l)))) (u:f y=.e (.one (.c (.int k j)))) (hj:j=m) (z:m<l.length):aH P o f σ (.e (.one (.c (.int .u8 (l[m]).toNat)))) σ:=by
 refine .quiet λs n hh hr=>?_
 have h1:=hr x;have h2:=hr y;rw[r] at h1;rw[u] at h2
 replace h1:=eB h1
 replace h2:=eB h2
 generalize d:n x=vx at h1;generalize a:n y=vy at h2;cases h1 with
 |@str sb _ v hl =>
 cases h2;subst v;have g:sb[m]?=some (sb.data.toList[m]):=by
  have hm':m<sb.size:=by have e:sb.data.toList.length=sb.size:=fx;omega
  rw[getElem?_pos sb m hm']
  congr 1
 refine⟨.int .u8 (sb.data.toList[m]).toNat,?_,Rd.int ?_,?_⟩
 rotate_left 2
 ·have b:=(q t i hi).run_underlying (w:=s.w);rw[p] at b;simp[execOp,h,d,a,Instr.index,asIntOf,b,hj,g]
 ·have b:=(q t i hi).run_underlying (w:=s.w);rw[p] at b;simp[execOp,h,d,a,Instr.index,asIntOf,b,hj,g]
 ·have:=(sb.data.toList[m]).toNat_lt;simp only[aB];omega
theorem aH.indexAddr{P:Program}{T:List (Nat×TI)}(B:bX P T){o:Oper}{z:Operand->D}{σ:List ak}{t:TypeId}{x y:Operand}(h:o.op=.indexAddr t x y){i g:TI}{E:TypeId}(hi:aJ T t=some i)(H:i.desc=.slice E)(L:aJ T E=some g)
  {tt:Bool} {n:Nat} {es:Nat->List C} {j:Int} {k:IntKind} {m:Nat} (I:∀ s v,b5 σ s v (z x)->Rd s.M v (.sl tt g.size n es)) (J:z y=.e (.one (.c (.int k j)))) (hj:j=m) (d:m<n) :
  aH P o z σ (.e (.one (.c (.rp (es m))))) σ:=by
 refine .quiet λs F hh hr=>?_
 have h1:=I s _ (hr x);have h2:=hr y;rw[J] at h2
 replace h2:=eB h2
 generalize u:F x=vx at h1;generalize l:F y=vy at h2;cases h2;cases h1 with
 |@sl a _ cap _ _ _ b off f A O N Q K hm' GV =>
 have p:0<n:=by omega
 have G:=(B t i hi).run_underlying (w:=s.w);rw[H] at G;refine⟨.pointer (some ⟨b,off+m*g.size,none⟩),?_,Rd.rp b (off+m*g.size) (f m) (λq c r=>hm' m d q c r) (λq c r=>GV m d q c r),?_⟩ <;>
 simp[execOp,h,u,l,Instr.indexAt,asIntOf,G,hj,K p,(B E g L).run_sizeOf,cg,d]
theorem aH.MK{P:Program}{T:List (Nat×TI)}(r:bX P T){o:Oper}{j:Operand->D}{σ:List ak}{x:Operand}{b:Array TypeId}{t:TypeId}(h:o.op=.call { callee:=.builtin .len,args:=#[x],argTypes:=b })(q:b[0]?=some t){i:TI}{E:TypeId}(hi:aJ T t=some i)(p:i.desc=.slice E)
  {tt:Bool} {k n:Nat} {es:Nat->List C} (m:∀ s v,b5 σ s v (j x)->Rd s.M v (.sl tt k n es)):aH P o j σ (.e (.one (.c (.int .i64 n)))) σ:=by
 refine .quiet λs y hh hr=>?_
 obtain⟨a,cap,vs,l,f,u,_⟩:=(m s _ (hr x)).flat;have g:=(r t i hi).run_underlying (w:=s.w);rw[p] at g;have d:b[0]?=some t:=q;refine⟨.int .i64 n,?_,Rd.int (by simp only[aB];omega),?_⟩ <;>
 simp[execOp,h,resolve,invoke,builtin,Builtin.len_,l,g,goInt,d]
theorem aH.JQ{P:Program}{T:List (Nat×TI)}(q:bX P T){o:Oper}{j:Operand->D}{σ:List ak}{x:Operand}{a:Array TypeId}{t:TypeId}(h:o.op=.call { callee:=.builtin .len,args:=#[x],argTypes:=a })(p:a[0]?=some t){i:TI}(hi:aJ T t=some i)(n:i.desc=.string)
  {l:List UInt8} (k:j x=.e (.one (.c (.str l)))):aH P o j σ (.e (.one (.c (.int .i64 l.length)))) σ:=by
 refine .quiet λs m hh hr=>?_
 have h1:=hr x;rw[k] at h1
 replace h1:=eB h1
 generalize f:m x=vx at h1;cases h1 with
 |@str sb _ r hl =>
 have g:=(q t i hi).run_underlying (w:=s.w);rw[n] at g;have d:a[0]?=some t:=p;have b:sb.size=l.length:=by rw[<-r];exact fx.symm
 refine⟨.int .i64 l.length,?_,Rd.int (by simp only[aB];omega),?_⟩ <;>
 simp[execOp,h,resolve,invoke,builtin,Builtin.len_,f,g,goInt,d,b]
def St.newRow(s:St)(E:TypeId)(vs:List Value):St :=
 { β:=s.β,M:=λb o=>if b=s.w.heap.size then vs[o]? else s.M b o,w:=s.w.alloc (.cells vs.toArray E),own:=s.own }
theorem ag.newRow{σ:List ak}{s:St}(h:ag σ s)(E:TypeId)(vs:List Value):ag σ (s.newRow E vs)/\Step σ s σ (s.newRow E vs):=by
 refine h.grow (by simp) (λb c=>bP _ _ c) (λb c o=>by simp[show b≠s.w.heap.size by omega]) (λb c o v a=>?_) rfl rfl rfl
 by_cases e:b=s.w.heap.size
 ·subst e;simp at a;show World.cell? (s.w.alloc (.cells vs.toArray E)) ⟨s.w.heap.size,o,none⟩=some v;unfold World.cell?;simp only[cC];simpa using a
 ·simp only[e,aM] at a;have:=h.block a;omega
theorem BA(s:St)(E:TypeId)(vs:List Value):∀ p u,vs[p]?=some u->(s.newRow E vs).M s.w.heap.size (0+p)=some u:=by
 intro p u h;simpa[St.newRow] using h
def eJ:List A->Option (List C)
 |[]=>some []
 |.c c::r=>match eJ r with|some q=>some (c::q)|none=>none
 |.vec _ k n es::r=>match eJ r with|some q=>some (.sl false k n es::q)|none=>none
 |_::_=>none
theorem iK{σ:List ak}{s:St}:∀ {cs:List A}{r:List C}{vs:List Value},eJ cs=some r->cu σ s vs cs->cu σ s vs (r.map A.c)
 |[],r,vs,h,a=>by cases h;exact a
 |_::_,_,[],_,a=>a.elim
 |.c c::al,r,v::vs,h,a=>by
  simp only[eJ] at h;cases b:eJ al with
  |none=>simp[b] at h
  |some q=>simp[b] at h;subst h;exact⟨a.1,iK b a.2⟩
 |.vec l k n es::al,r,v::vs,h,a=>by
  simp only[eJ] at h;cases b:eJ al with
  |none=>simp[b] at h
  |some q=>simp[b] at h;subst h;exact⟨a.1.1,iK b a.2⟩
 |.ptr l o::al,r,v::vs,h,a=>by simp[eJ] at h
 |.ref l::al,r,v::vs,h,a=>by simp[eJ] at h
 |.bp l w::al,r,v::vs,h,a=>by simp[eJ] at h
 |.any::al,r,v::vs,h,a=>by simp[eJ] at h
def oC{α:Type}(k:Nat):Nat->List α->Option (List (List α))
 |0,[]=>some []
 |0,_::_=>none
 |n+1,l=>match lk k l with
  |some c=>match oC k n (eR k l) with
   |some r=>some (c::r)
   |none=>none
  |none=>none
theorem cu.closed{σ:List ak}{s:St}:∀ {vs:List Value}{cs:List C},cu σ s vs (cs.map A.c)->∀ (j:Nat)(c:C),cs[j]?=some c->∃ v,vs[j]?=some v/\Rd s.M v c:=by
 intro vs cs h j c hj;obtain⟨v,h1,h2⟩:=h.get (j:=j) (a:=.c c) (by simp[hj])
 exact⟨v,h1,h2⟩
theorem s8{M:Mem}{k:Nat}:∀ {n:Nat}{cs:List C}{es:List (List C)}{vs:List Value},oC k n cs=some es->vs.length=cs.length->(∀ (j:Nat)(c:C),cs[j]?=some c->∃ v,vs[j]?=some v/\Rd M v c)->es.length=n/\Flat M k n (λi=>es.getD i []) vs
 |0,[],es,vs,h,a,g=>by cases h;simp at a;subst a;exact⟨rfl,.nil⟩
 |0,_::_,es,vs,h,a,g=>by cases h
 |n+1,cs,es,vs,h,a,g=>by
  simp only[oC] at h;cases o:lk k cs with
  |none=>simp[o] at h
  |some c =>
   simp only[o] at h;cases l:oC k n (eR k cs) with
   |none=>simp[l] at h
   |some q =>
    simp[l] at h;subst h;obtain⟨m,f⟩:=kl o;rw[ky] at l;obtain⟨p,s⟩:=s8 (vs:=vs.drop k) l (by simp[a]) (λj c b=>by
     obtain⟨v,m,f⟩:=g (k+j) c (by simpa using b)
     exact⟨v,by simpa using m,f⟩)
    refine⟨by simp[p],?_⟩
    have u:k<=cs.length:=by rw[m,List.length_take] at f;omega
    have t:Flat M k 1 (λ_=>c) (vs.take k):=by
     refine⟨by simp[a];omega,by simp[f],λi hi j x b=>?_⟩
     cases i with
     |zero =>
      have d:j<k:=by rw[<-f];exact(aE.1 b).1
      obtain⟨v,r,p2⟩:=g j x (by rw[m,dx] at b;simpa[d] using b)
      exact⟨v,by rw[dx];simpa[d] using r,p2⟩
     |succ i=>omega
    have:=t.append s;rw[iB 1 n] at this;have e:cz 1 (λ_=>c) (λi=>q.getD i [])=λi=>(c::q).getD i []:=by
     funext i
     cases i <;> simp[cz]
    rw[e] at this;simpa using this
def G2(T:List (Nat×TI))(a:Operand->D)(t:TypeId)(n:Nat)(parts:List (Nat×Operand)):Option (Nat×List (List C)) :=
 match aJ T t with
 |some i=>match i.desc with
  |.slice E=>match aJ T E with
   |some ie=>match Nat.beq ie.size 0 with
    |true=>none
    |false=>match Nat.ble (n*ie.size) 16777216 with
     |true=>match lU a parts with
      |some ps=>match sZ (λk=>some (k*ie.size,ie.size)) ps (List.replicate (n*ie.size) A.any) with
       |some cs=>match eJ cs with
        |some r=>match oC ie.size n r with
         |some es=>some (ie.size,es)
         |none=>none
        |none=>none
       |none=>none
      |none=>none
     |false=>none
   |none=>none
  |_=>none
 |none=>none
theorem aH.buildSlice{P:Program}{T:List (Nat×TI)}(O:bX P T){o:Oper}{U:Operand->D}{σ:List ak}{t:TypeId}{n:Nat}{parts:Array (Nat×Operand)}(h:o.op=.buildSlice t n parts){k:Nat}{es:List (List C)}
  (a:G2 T U t n parts.toList=some (k,es)):aH P o U σ (.e (.one (.c (.sl true k n λi=>es.getD i [])))) σ:=by
 intro s Q hh hr;unfold G2 at a;cases hi:aJ T t with
 |none=>simp[hi] at a
 |some i =>
  simp only[hi] at a;cases V:i.desc with
  |slice E =>
   simp only[V] at a;cases N:aJ T E with
   |none=>simp[N] at a
   |some ie =>
    simp only[N] at a;cases R:Nat.beq ie.size 0 with
    |true=>simp[R] at a
    |false =>
     simp only[R] at a;cases B:Nat.ble (n*ie.size) 16777216 with
     |false=>simp[B] at a
     |true =>
      simp only[B] at a;cases j:lU U parts.toList with
      |none=>simp[j] at a
      |some ps =>
       simp only[j] at a;cases y:sZ (λk=>some (k*ie.size,ie.size)) ps (List.replicate (n*ie.size) A.any) with
       |none=>simp[y] at a
       |some cs =>
        simp only[y] at a;cases l:eJ cs with
        |none=>simp[l] at a
        |some r =>
         simp only[l] at a;cases f:oC ie.size n r with
         |none=>simp[f] at a
         |some es' =>
          simp only[f,bL,iy] at a;obtain⟨rfl,rfl⟩:=a;have X:ie.size≠0:=λe=>by rw[e] at R;cases R
          have Uc:=cY B;obtain⟨inf,z,z1,z2,z3,z4,z5,z6,z7⟩:=(O E ie N).info;have VZ:z.cells.size=ie.size:=by
           have:=b8 List.length z5;simp at this;omega
          have Z:∀ v∈z.cells.toList,cE v=true:=by
           intro v F;have d:oi v∈z.cells.toList.map oi:=nn.2 ⟨v,F,rfl⟩;rw[z5] at d;obtain⟨c,_,hc⟩:=nn.1 d;exact(Rd.oi (M:=s.M) hc.symm).cell
          have L:∀ m,(∀ v∈(List.range m).map (λq=>z.cells[q % z.cells.size]!),cE v=true):=by
           intro m v F;obtain⟨q,_,rfl⟩:=nn.1 F;have J:q % z.cells.size<z.cells.size:=jA _ (by omega)
           apply Z
           rw[nk z.cells _ J];exact Array.getElem_mem_toList J
          have G:∀ vs:List Value,(∀ v∈vs,cE v=true)->cu σ s vs (List.replicate vs.length A.any):=by
           intro vs
           induction vs with
           |nil=>intro _;trivial
           |cons v vs ih=>intro F;exact⟨F v (by simp),ih λu K=>F u (by simp[K])⟩
          obtain⟨p1,p2⟩:=oB (σ:=σ) (s:=s) hr j;have S:cu σ s ((Array.range (n*ie.size)).map (λq=>z.cells[q % z.cells.size]!)).toList (List.replicate (n*ie.size) A.any):=by
           have:=G _ (L (n*ie.size));simpa using this
          obtain⟨H,u1,u2⟩:=qY (σ:=σ) (s:=s) (place':=λk=>some (k*ie.size,ie.size)) (λk p hk=>hk) y p1 p2 S
          have u3:=iK l u2;obtain⟨c1,c2⟩:=s8 (M:=s.M) (vs:=H.toList) f (by simpa using u3.length) u3.closed
          obtain⟨g1,g2⟩:=hh.newRow E H.toList;refine⟨.value (.slice (some ⟨s.w.heap.size,0,none⟩) n n),s.newRow E H.toList,?_,?_,g1,g2,?_⟩
          rotate_left 2
          ·have e:(execOp Q o).events P s.w #[]=#[]:=by
            simp only[execOp,h];exact bM.bind bM.buildSlice (λ_=>bM.pure) _ _
           rw[e];exact .nil
          ·have K:=(O t i hi).run_underlying (w:=s.w);rw[V] at K;have Y:(zeroValue E).run P s.w=.ok z s.w:=by simp[zeroValue,typeInfo,z1,z4]
           have g:Instr.fill (λk=>some (k*ie.size,ie.size)) ((Array.range (n*ie.size)).map (λq=>z.cells[q % z.cells.size]!)) (parts.map λ(i,x)=>(i,Q x)).toList=some H:=by simpa using u1
           by_cases h0:n*ie.size=0
           ·have W:n=0:=by rcases Nat.mul_eq_zero.1 h0 with h|h;exact h;exact absurd h X
            subst W;have I:Array.range 0=#[]:=rfl;simp[I] at g;simp[execOp,h,Instr.buildSlice,K,(O E ie N).run_sizeOf,I,g,Go.newRow,St.newRow]
           ·rw[show execOp Q o=(do pure (.value (<-Instr.buildSlice t n (parts.map λ(i,x)=>(i,Q x))))) by simp[execOp,h]]
            simp only[Instr.buildSlice,aU,K,bj,(O E ie N).run_sizeOf,h0,aM,Y,show ¬n*ie.size>2 ^ 24 by omega,Sem.run_ite,g,cd]
            simp[Go.newRow,St.newRow]
          ·refine Rd.oh (c2.mono g2.mem) (b:=s.w.heap.size) (off:=0) (λ_=>rfl) (ar _) ?_ (λ_=>rfl) (BA s E H.toList)
           have:n<=n*ie.size:=tT n (by omega)
           omega
  |_=>simp[V] at a
theorem Ext.trans{σ σ1 σ2:List ak}{s a s2:St}(h:Ext σ s σ1 a)(k:Ext σ1 a σ2 s2):Ext σ s σ2 s2:=by
 refine⟨λb o v c=>k.mem _ _ _ (h.mem _ _ _ c),λl B L f e=>?_⟩
 obtain⟨B1,L1,h1,h2,j⟩:=h.box l B L f e;obtain⟨r,m,k1,n,p⟩:=k.box l B1 L1 h1 h2;exact⟨r,m,k1,n,j.trans p⟩
theorem dK{α:Type}{l:List α}{x y:α}{i:Nat}(h:(l++[x])[i]?=some y):l[i]?=some y∨(i=l.length/\y=x):=by
 rcases Nat.lt_trichotomy i l.length with a|rfl|c
 ·rw[bS a] at h;exact .inl h
 ·simp at h;exact .inr ⟨rfl,h.symm⟩
 ·rw[cj (by omega)] at h
  cases b:i-l.length with
  |zero=>omega
  |succ n=>simp[b] at h
theorem ag.ij{σ:List ak}{s c:St}(h1:ag σ c)(st:Step σ s σ c)(m:c.β=s.β)(hh:ag σ s){B:ak}{L:Loc}(u:dq (σ++[B]) { c with β:=c.β++[L] } B L)
  (f:∀ b∈L.bs,s.w.heap.size<=b/\b<c.w.heap.size):ag (σ++[B]) { c with β:=c.β++[L] }/\Step σ s (σ++[B]) { c with β:=c.β++[L] }:=by
 have ex:Ext σ c (σ++[B]) { c with β:=c.β++[L] }:=by
  refine⟨λ_ _ _ h=>h,λl B' L' ir eY=>?_⟩
  have hl:l<c.β.length:=(aE.1 eY).1;have o:l<σ.length:=(aE.1 ir).1;exact⟨B',L',by rw[bS o,ir],by rw[bS hl,eY],.refl _ _⟩
 have e2:=st.ext.trans ex;refine⟨⟨h1.mem,by simp[h1.len],?_,?_,?_,?_⟩,⟨st.size,st.ee,st.mem,st.gJ,?_,e2.box,st.os,st.tape,st.output,st.own⟩⟩
 ·intro l B' L' ir eY;rcases dK ir with n|⟨rfl,rfl⟩
  ·have hl:l<c.β.length:=by rw[h1.len];exact(aE.1 n).1
   rw[bS hl] at eY;exact(h1.box l B' L' n eY).carry ex h1.len λ_ _=>⟨rfl,λ_=>rfl⟩
  ·rcases dK eY with j|⟨_,rfl⟩
   ·have:=(aE.1 j).1;rw[h1.len] at this;omega
   ·exact u
 ·intro l l' L1 L2 j p b a k;rcases dK j with k1|⟨rfl,rfl⟩ <;> rcases dK p with r|⟨rfl,rfl⟩
  ·exact h1.eE l l' L1 L2 k1 r b a k
  ·have v:=f b k;have x:=hh.lt L1 (by rw[<-m];exact aG k1) b a
   omega
  ·have v:=f b a;have x:=hh.lt L2 (by rw[<-m];exact aG r) b k
   omega
  ·rfl
 ·intro L' eY b a;simp only[dJ,fy] at eY;rcases eY with eY|rfl
  ·exact h1.lt L' eY b a
  ·exact(f b a).2
 ·intro b a;refine⟨(h1.own b a).1,λL' eY IF=>?_⟩
  simp only[dJ,fy] at eY;rcases eY with eY|rfl
  ·exact(h1.own b a).2 L' eY IF
  ·have e:=st.own;simp only at a;rw[e] at a;have:=(hh.own b a).1;have:=(f b IF).1;omega
 ·intro L' eY b a;simp only[dJ,fy] at eY;rcases eY with eY|rfl
  ·exact st.pT L' eY b a
  ·exact .inl (f b a).1
theorem ag.iP{σ:List ak}{s:St}{M':Mem}{w':World}(hh:ag σ s){l:Nat}{B B':ak}{L L':Loc}(D:σ[l]?=some B)(j:s.β[l]?=some L)(Q:fW B L B' L')
  (K:s.w.heap.size<=w'.heap.size) (S:∀ b,b<s.w.heap.size->b∉L.bs->w'.heap[b]?=s.w.heap[b]?) (R:∀ b,b<s.w.heap.size->b∉L.bs->∀ o,M' b o=s.M b o)
  (G:∀ b o v,s.M b o=some v->M' b o=some v) (Z:∀ b o v,M' b o=some v->w'.cell? ⟨b,o,none⟩=some v)
  (n:∀ b∈L'.bs,(b∈L.bs∨s.w.heap.size<=b)/\b<w'.heap.size)
  (ho:w'.os=s.w.os) (V:w'.tape=s.w.tape) (hp:w'.output=s.w.output)
  (W:dq (σ.set l B') ⟨s.β.set l L',M',w',s.own⟩ B' L'):ag (σ.set l B') ⟨s.β.set l L',M',w',s.own⟩/\Step σ s (σ.set l B') ⟨s.β.set l L',M',w',s.own⟩:=by
 have p:l<σ.length:=(aE.1 D).1;have r:l<s.β.length:=(aE.1 j).1;have a:∀ i X,(s.β.set l L')[i]?=some X->(i=l/\X=L')∨(i≠l/\s.β[i]?=some X):=by
  intro i X c
  by_cases e:l=i
  ·subst e;rw[br r] at c;cases c;exact .inl ⟨rfl,rfl⟩
  ·rw[b7 e] at c;exact .inr ⟨λh=>e h.symm,c⟩
 have ex:Ext σ s (σ.set l B') ⟨s.β.set l L',M',w',s.own⟩:=by
  refine⟨G,λi X Y c x=>?_⟩
  by_cases e:l=i
  ·subst e;rw[D] at c;cases c;rw[j] at x;cases x;exact⟨B',L',br p,br r,Q⟩
  ·exact⟨X,Y,by rw[b7 e];exact c,by rw[b7 e];exact x,.refl _ _⟩
 have out:∀ i X,i≠l->s.β[i]?=some X->∀ b∈X.bs,b<s.w.heap.size/\b∉L.bs:=by
  intro i X hi c b f;exact⟨hh.lt X (aG c) b f,λI=>hi (hh.eE i l X L c j b f I)⟩
 refine⟨⟨Z,by simp[hh.len],?_,?_,?_,?_⟩,⟨K,?_,G,?_,?_,ex.box,ho,V,hp,rfl⟩⟩
 ·intro i X Y c x;rcases a i Y x with⟨rfl,rfl⟩|⟨hi,x⟩
  ·rw[br p] at c;cases c;exact W
  ·rw[b7 (λe=>hi e.symm)] at c
   refine(hh.box i X Y c x).carry ex hh.len λb f=>?_
   obtain⟨H,C⟩:=out i Y hi x b f;exact⟨S b H C,R b H C⟩
 ·intro i O X J c k b f z;rcases a i X c with⟨rfl,rfl⟩|⟨hi,F⟩ <;> rcases a O J k with⟨rfl,rfl⟩|⟨m,u⟩
  ·rfl
  ·obtain⟨H,C⟩:=out O J m u b z;rcases(n b f).1 with h|h
   ·exact absurd h C
   ·omega
  ·obtain⟨H,C⟩:=out i X hi F b f;rcases(n b z).1 with h|h
   ·exact absurd h C
   ·omega
  ·exact hh.eE i O X J F u b f z
 ·intro X c b f;obtain⟨i,hi,rfl⟩:=dH c;rcases a i _ (aj hi) with⟨rfl,e⟩|⟨m,k⟩
  ·rw[e] at f;exact(n b f).2
  ·have:=(out i _ m k b f).1;show b<w'.heap.size;omega
 ·intro b f;obtain⟨o1,U⟩:=hh.own b f;refine⟨by show b<w'.heap.size;omega,λX c y=>?_⟩
  obtain⟨i,hi,rfl⟩:=dH c;rcases a i _ (aj hi) with⟨rfl,e⟩|⟨m,k⟩
  ·rw[e] at y;rcases(n b y).1 with h|h
   ·exact U L (aG j) h
   ·omega
  ·exact U _ (aG k) y
 ·intro b f N;exact S b f (N L (aG j))
 ·intro b f N o;exact R b f (N L (aG j)) o
 ·intro X c b f;obtain⟨i,hi,rfl⟩:=dH c;rcases a i _ (aj hi) with⟨rfl,e⟩|⟨m,k⟩
  ·rw[e] at f;rcases(n b f).1 with h|h
   ·exact .inr ⟨L,aG j,h⟩
   ·exact .inl h
  ·exact .inr ⟨_,aG k,f⟩
theorem np{a old bytes:Nat}(h:old<a)(b:a*bytes<=140737488355328):¬Builtin.nextslicecap a old*bytes>2 ^ 48:=by
 have:=growslice_fits h b;omega
section
variable {P:Program}{T:List (Nat×TI)}(A:bX P T){σ:List ak}{s:St}{t g ty E:TypeId}{i q d:TI}
theorem ik(hi:aC P t i)(r:i.desc=.slice E)(f:aC P g q)(h:q.desc=.slice E)(z:aC P E d)(u:ag σ s)
  {a:Option Addr} {n cap:Nat} (b:n<=cap) {x:Value} {y:Bool} {es':Nat->List C} (k:Rd s.M x (.sl y d.size 0 es')) :
  (Builtin.append_ #[t,g] ty #[.slice a n cap,x]).run P s.w=.ok (.slice a n cap) s.w:=by
 obtain⟨e,p,v,m⟩:=cD (P:=P) u k;have l:=hi.run_underlying (w:=s.w);have c:=f.run_underlying (w:=s.w);rw[r] at l;rw[h] at c;obtain⟨a',o,vs,rfl,_⟩:=k.flat;have j:e=[]:=fu (by simpa using p.len)
 subst j;cases a <;> simp[Builtin.append_,l,c,z.run_sizeOf,Builtin.lenOf,b,v,storeCells]
theorem iQ(hi:aC P t i)(hd:i.desc=.slice E)(F:aC P g q)(G:q.desc=.slice E)(S:aC P E d)(hh:ag σ s)
  {a:Option Addr} {n cap m:Nat} {X U:Bool} {es es':Nat->List C} {x:Value} (V:Rd s.M (.slice a n cap) (.sl X d.size n es)) (hx:Rd s.M x (.sl U d.size m es')) (W:cap<n+m) (Q:(n+m)*d.bytes<=140737488355328) (H:d.bytes≠0) :
  ∃ vs zs GJ,Flat s.M d.size (n+m) (cz n es es') vs/\n+m<=GJ/\GJ<=9223372036854775807/\(vs++zs).length=GJ*d.size /\
   (Builtin.append_ #[t,g] ty #[.slice a n cap,x]).run P s.w=.ok (.slice (some ⟨s.w.heap.size,0,none⟩) (n+m) GJ) (s.w.drew.alloc (.cells (vs++zs).toArray E)):=by
 have p:ag σ { s with w:=s.w.drew }:=hh.same rfl;obtain⟨c,N,K,r⟩:=cD (P:=P) p (v:=x) hx;obtain⟨b,y,h,Y⟩:=cD (P:=P) p (v:=.slice a n cap) V;have R:=hi.run_underlying (w:=s.w);have j:=F.run_underlying (w:=s.w);rw[hd] at R;rw[G] at j;obtain⟨o,z,O,z2,z3,z4,z5,z6,z7⟩:=S.info;have hle:n+m<=140737488355328:=gd (tT _ (Nat.pos_of_ne_zero H)) Q;have J:z.cells.size=d.size:=by
  have:=b8 List.length z5;simp at this;omega
 refine⟨b++c,(Builtin.zeroCells z.cells (grownCap s.w (n+m) cap E-(n+m))).toList,grownCap s.w (n+m) cap E,y.append N,grownCap_ge _ _ _ _,?_,?_,?_⟩
 ·have:=grownCap_le_maxLen s.w (n+m) cap E (by unfold maxLen;omega)
  unfold maxLen at this;omega
 ·have LI:=grownCap_ge s.w (n+m) cap E;simp only[bc,y.len,N.len,fx,size_zeroCells,J,<-ez]
  congr 1
  omega
 ·have D:=np W Q;have l:¬Builtin.nextslicecap (n+m) cap*o.bytes>2 ^ 48:=by rw[z3];exact D
  have k:¬n+m<=cap:=by omega
  have L:¬((n+m:Nat):Int)>IntKind.i64.max:=by
   have e:IntKind.i64.max=9223372036854775807:=rfl;rw[e];omega
  have B:∀ u,(typeInfo E).run P u=.ok o u:=λu=>by simp[typeInfo,O]
  have I:∀ u,(zeroValue E).run P u=.ok z u:=λu=>by simp[zeroValue,typeInfo,O,z4]
  have f:(Builtin.lenOf x).run P s.w=.ok m s.w:=by rw[r];rfl
  replace K:(Builtin.firstCells d.size m x).run P s.w.drew=.ok c.toArray s.w.drew:=K
  replace h:(Builtin.firstCells d.size n (.slice a n cap)).run P s.w.drew=.ok b.toArray s.w.drew:=h
  unfold Builtin.append_;simp only[gb,mR,od,aU,R,j,bj,S.run_sizeOf,cd,fO,aM,f,k,
   L,false_and,B,l,run_choose,Question.forced,run_askRoom,Sem.run_ite,World.drew_eq,h,K,pR,aV,I]
  simp[Go.newRow,grownCap];have e:∀ Z:Array Value,(b++c).toArray++Z=(b++(c++Z.toList)).toArray:=λZ=>by apply gI;simp
  rw[e];rfl
theorem j7(hi:aC P t i)(B:i.desc=.slice E)(p:aC P g q)(r:q.desc=.slice E)(I:aC P E d)(D:ag σ s)
  {b n cap m:Nat} {y:TypeId} {c:List Value} (H:s.w.heap[b]?=some (.cells c.toArray y (0,0))) (j:c.length=cap*d.size) {z:Bool} {es':Nat->List C} {x:Value} (F:Rd s.M x (.sl z d.size m es')) (u:n+m<=cap) :
  ∃ a,Flat s.M d.size m es' a/\(Builtin.append_ #[t,g] ty #[.slice (some ⟨b,0,none⟩) n cap,x]).run P s.w=.ok (.slice (some ⟨b,0,none⟩) (n+m) cap) (s.w.setRow b (c.take (n*d.size)++a++c.drop (n*d.size+a.length)).toArray):=by
 obtain⟨a,o,G,l⟩:=cD (P:=P) D F;have v:=hi.run_underlying (w:=s.w);have h:=p.run_underlying (w:=s.w);rw[B] at v;rw[r] at h;have k:n*d.size+a.length<=c.length:=by
  rw[o.len,j,<-ez];exact eb _ u
 have f:=run_storeCells_at P b (n*d.size) y a 0 c.toArray s.w H (by simpa using k) o.cell
 simp only[ey] at f;have e:(Builtin.lenOf x).run P s.w=.ok m s.w:=by rw[l];rfl
 refine⟨a,o,?_⟩;unfold Builtin.append_;simp only[gb,mR,od,aU,v,h,bj,I.run_sizeOf,cd,fO,aM,e,u,aV,pR,G,cg,aw,f]
end
theorem x5{α:Type}{P:Program}{x:Sem α}{w:World}{es:Array Event}{e:Event}(h:e∈x.events P w es):e∈es∨e∈x.events P w #[]:=by
 rw[Sem.events_acc] at h;exact Array.mem_append.1 h
def Ry(s:St)(e:Event):Prop:=∃ b o u,e=ui b o/\s.M b o=some u
theorem fE{P:Program}{σ:List ak}{s:St}(B:ag σ s){v:Value}{t:Bool}{k n:Nat}{es:Nat->List C}(h:Rd s.M v (.sl t k n es)){w:World}(F:w.heap=s.w.heap) :
  ∀ e∈(Builtin.firstCells k n v).events P w #[],Ry s e:=by
 obtain⟨a,cap,vs,rfl,r,J,K,x,H⟩:=h.flat;have I:vs.length=n*k:=x.len;intro e m;cases a with
 |none=>simp[Builtin.firstCells] at m
 |some ad =>
  simp only[Builtin.firstCells] at m;have c:∀ j,j<n*k->∃ b off u,ad=⟨b,off,none⟩/\s.M b (off+j)=some u:=by
   intro j o;obtain⟨b,off,D,l⟩:=H j (vs[j]'(by omega)) (aj (by omega))
   cases D;exact⟨b,off,_,rfl,l⟩
  by_cases G:n*k=0
  ·rw[G] at m;simp[loadCells,loadCellsFrom] at m
  ·obtain⟨b,off,_,rfl,_⟩:=c 0 (by omega)
   have y:∀ j,j<n*k->∃ v,w.cell? ⟨b,off+j,none⟩=some v:=by
    intro j o;obtain⟨z,f,u,p,l⟩:=c j o;cases p;have:=B.mem _ _ _ l;exact⟨u,by simp only[World.cell?,F] at this ⊢;exact this⟩
   rcases nq (P:=P) y e m with h|⟨j,o,rfl⟩
   ·simp at h
   ·obtain⟨z,f,u,p,l⟩:=c j o;cases p;exact⟨_,_,u,rfl,l⟩
theorem qo{s:St}{e:Event}(h:Ry s e):lF s e:=by
 obtain⟨b,o,u,rfl,a⟩:=h;exact vI a
section
variable {P:Program}{σ:List ak}{s:St}{t g ty E:TypeId}{i q d:TI}
theorem iR(hi:aC P t i)(z:i.desc=.slice E)(j:aC P g q)(k:q.desc=.slice E)(F:aC P E d)(o:ag σ s)
  {a:Option Addr} {n cap:Nat} (b:n<=cap) {x:Value} {D:Bool} {es':Nat->List C} (h:Rd s.M x (.sl D d.size 0 es')) :
  eW s ((Builtin.append_ #[t,g] ty #[.slice a n cap,x]).events P s.w #[]):=by
 obtain⟨f,v,B,r⟩:=cD (P:=P) o h;have l:=fE (P:=P) o h (w:=s.w) rfl;have p:=hi.run_underlying (w:=s.w);have c:=j.run_underlying (w:=s.w);rw[z] at p;rw[k] at c;obtain⟨a',u,vs,rfl,_⟩:=h.flat;have m:f=[]:=fu (by simpa using v.len)
 subst m;intro e y;refine qo (l e ?_);cases a <;> simpa[Builtin.append_,p,c,F.run_sizeOf,Builtin.lenOf,b,B,storeCells] using y
theorem jY(hi:aC P t i)(hd:i.desc=.slice E)(K:aC P g q)(N:q.desc=.slice E)(hE:aC P E d)(L:ag σ s)
  {a:Option Addr} {n cap m:Nat} {td tx:Bool} {es es':Nat->List C} {x:Value} (W:Rd s.M (.slice a n cap) (.sl td d.size n es)) (hx:Rd s.M x (.sl tx d.size m es')) (hg:cap<n+m) (Y:(n+m)*d.bytes<=140737488355328) (O:d.bytes≠0) :
  eW s ((Builtin.append_ #[t,g] ty #[.slice a n cap,x]).events P s.w #[]):=by
 have H:ag σ { s with w:=s.w.drew }:=L.same rfl;obtain⟨G,hF,U,c⟩:=cD (P:=P) H (v:=x) hx;obtain⟨D,VF,l,VG⟩:=cD (P:=P) H (v:=.slice a n cap) W;have S:=fE (P:=P) L hx (w:=s.w.drew) rfl;have F:=fE (P:=P) L W (w:=s.w.drew) rfl;have Z:=hi.run_underlying (w:=s.w);have p:=K.run_underlying (w:=s.w);rw[hd] at Z;rw[N] at p;obtain⟨j,z,X,z2,z3,z4,z5,z6,z7⟩:=hE.info;have hle:n+m<=140737488355328:=gd (tT _ (Nat.pos_of_ne_zero O)) Y;have J:=np hg Y;have B:¬Builtin.nextslicecap (n+m) cap*j.bytes>2 ^ 48:=by rw[z3];exact J
 have y:¬n+m<=cap:=by omega
 have V:¬((n+m:Nat):Int)>IntKind.i64.max:=by
  have e:IntKind.i64.max=9223372036854775807:=rfl;rw[e];omega
 have I:∀ u,(typeInfo E).run P u=.ok j u:=λu=>by simp[typeInfo,X]
 have Q:∀ u,(zeroValue E).run P u=.ok z u:=λu=>by simp[zeroValue,typeInfo,X,z4]
 have f:(Builtin.lenOf x).run P s.w=.ok m s.w:=by rw[c];rfl
 have k:(Builtin.lenOf x).events P s.w #[]=#[]:=by rw[c];rfl
 replace U:(Builtin.firstCells d.size m x).run P s.w.drew=.ok G.toArray s.w.drew:=U
 replace l:(Builtin.firstCells d.size n (.slice a n cap)).run P s.w.drew=.ok D.toArray s.w.drew:=l
 intro e o;unfold Builtin.append_ at o;simp only[gb,mR,od,Sem.events_bind,aU,Z,p,bj,Result.evThen_ok,hE.run_sizeOf,cd,fO,aM,f,k,y,
  V,false_and,I,B,run_choose,Question.forced,run_askRoom,Sem.run_ite,Sem.events_ite,World.drew_eq,l,U,pR,aV,Q,events_underlying,events_sizeOf,events_typeInfo,events_choose,events_zeroValue,Sem.events_pure] at o
 have R:∀ (x:Nat) (w:World) (e:Event),e∈(askRoom x).events P w #[]->e=⟨.mark .noRoom,false,true⟩:=by
  intro x w e h;unfold askRoom at h;split at h
  ·simpa using h
  ·simp at h
 rw[bM.newRow (P:=P)] at o;generalize (Go.newRow E _).run P s.w.drew=r at o;have b:e∈(Builtin.firstCells d.size m x).events P s.w.drew ((Builtin.firstCells d.size n (.slice a n cap)).events P s.w.drew ((askRoom ((Question.appendCap (n+m) cap E).cut (s.w.tape s.w.drawn (Question.appendCap (n+m) cap E))*j.bytes)).events P s.w.drew #[])):=by
  cases r with
  |ok v w'=>simpa using o
  |halt v w'=>simpa using o
 rcases x5 b with b|b
 ·rcases x5 b with b|b
  ·rw[R _ _ _ b];exact .inl rfl
  ·exact qo (F e b)
 ·exact qo (S e b)
theorem lG(hi:aC P t i)(S:i.desc=.slice E)(F:aC P g q)(G:q.desc=.slice E)(W:aC P E d)(J:ag σ s)
  {b n cap m:Nat} {O:TypeId} {a:List Value} (Q:s.w.heap[b]?=some (.cells a.toArray O (0,0))) (y:a.length=cap*d.size) {R:Bool} {es':Nat->List C} {x:Value} (N:Rd s.M x (.sl R d.size m es')) (I:n+m<=cap)
  {L:Loc} (U:L∈s.β) (B:b∈L.bs) (r:∀ o,n*d.size<=o->s.M b o=none) :
  eW s ((Builtin.append_ #[t,g] ty #[.slice (some ⟨b,0,none⟩) n cap,x]).events P s.w #[]):=by
 obtain⟨c,z,V,k⟩:=cD (P:=P) J N;have H:=fE (P:=P) J N (w:=s.w) rfl;have K:=hi.run_underlying (w:=s.w);have v:=F.run_underlying (w:=s.w);rw[S] at K;rw[G] at v;have f:n*d.size+c.length<=a.length:=by
  rw[z.len,y,<-ez];exact eb _ I
 have u:=run_storeCells_at P b (n*d.size) O c 0 a.toArray s.w Q (by simpa using f) z.cell
 simp only[ey] at u;have l:(Builtin.lenOf x).run P s.w=.ok m s.w:=by rw[k];rfl
 have p:(Builtin.lenOf x).events P s.w #[]=#[]:=by rw[k];rfl
 intro e D;unfold Builtin.append_ at D;simp only[gb,mR,od,Sem.events_bind,aU,K,v,Result.evThen_ok,W.run_sizeOf,cd,fO,aM,l,p,I,aV,pR,V,cg,aw,u,
  Sem.run_ite,Sem.events_ite,events_underlying,events_sizeOf,Sem.events_pure] at D
 rcases dL c 0 a.toArray s.w _ Q (by simpa using f) z.cell e D with h|⟨j,Y,X,rfl⟩
 ·exact qo (H e h)
 ·exact mb U B (r _ (by omega))
end
structure vJ (P:Program)(o:Oper)(x y:Operand)(E:TypeId)(d:TI):Prop where
 op:∃ t g i q,o.op=.call { callee:=.builtin .append,args:=#[x,y],argTypes:=#[t,g] }/\aC P t i/\i.desc=.slice E/\aC P g q/\q.desc=.slice E
 elem:aC P E d
 bytes:d.bytes≠0
 size:d.size≠0
def St.grown(s:St)(E:TypeId)(vs zs:List Value)(β:List Loc):St :=
 { β:=β,M:=λb o=>if b=s.w.heap.size then vs[o]? else s.M b o,w:=s.w.drew.alloc (.cells (vs++zs).toArray E),own:=s.own }
theorem sD{σ:List ak}{s:St}(h:ag σ s)(E:TypeId)(vs zs:List Value):∀ b o v,(if b=s.w.heap.size then vs[o]? else s.M b o)=some v->(s.w.drew.alloc (.cells (vs++zs).toArray E)).cell? ⟨b,o,none⟩=some v:=by
 intro b o v a
 by_cases e:b=s.w.heap.size
 ·subst e;simp only[aV] at a;unfold World.cell?;have:(s.w.drew.alloc (.cells (vs++zs).toArray E)).heap[s.w.heap.size]?=some (.cells (vs++zs).toArray E):=cC s.w.drew _;simp only[this];have c:o<vs.length:=(aE.1 a).1;simpa[bS c] using a
 ·simp only[e,aM] at a;have f:=h.block a;rw[<-h.mem b o v a];unfold World.cell?;have:(s.w.drew.alloc (.cells (vs++zs).toArray E)).heap[b]?=s.w.heap[b]?:=bP s.w.drew _ f;simp only[this]
theorem sE{σ:List ak}{s:St}(h:ag σ s)(vs:List Value):∀ b o v,s.M b o=some v->(if b=s.w.heap.size then vs[o]? else s.M b o)=some v:=by
 intro b o v a;have:=h.block a;rw[an (by omega)]
 exact a
theorem dC{P:Program}{s:St}{m:Sem Value}(h:eW s (m.events P s.w #[])):eW s ((do pure (.value (<-m)):Sem Next).events P s.w #[]):=by
 intro e a;rw[Sem.events_bind] at a;refine h e ?_;generalize m.run P s.w=r at a;cases r with
 |ok v w'=>simpa using a
 |halt v w'=>simpa using a
theorem dM{o:Oper}{x y:Operand}{t g:TypeId}(h:o.op=.call { callee:=.builtin .append,args:=#[x,y],argTypes:=#[t,g] })(a:Operand->Value) :
  execOp a o=(do pure (.value (<-Builtin.append_ #[t,g] o.type #[a x,a y]))):=by
 simp[execOp,h,resolve,invoke,builtin]
theorem Rd.loose{M:Mem}{v:Value}{t:Bool}{k n:Nat}{es:Nat->List C}(h:Rd M v (.sl t k n es)):Rd M v (.sl false k n es):=by
 cases h with
 |sl b off f a c o m j l e=>exact .sl b off f a c (by simp) m j l e
theorem Rd.x4{M:Mem}{v:Value}{t:Bool}{k n:Nat}{es es':Nat->List C}(e:∀ i,i<n->es i=es' i)(h:Rd M v (.sl t k n es)):Rd M v (.sl t k n es'):=by
 cases h with
 |sl b off f a l m u p r o=>exact .sl b off f a l m (λi hi=>by rw[<-e i hi];exact u i hi) p (λi hi j c hj=>r i hi j c (by rw[e i hi];exact hj)) (λi hi j c hj=>o i hi j c (by rw[e i hi];exact hj))
theorem Rd.uh{M:Mem}{v:Value}{k k' n:Nat}{es:Nat->List C}(f:k=k'∨n=0)(h:Rd M v (.sl true k n es)):Rd M v (.sl true k' n es):=by
 rcases f with rfl|rfl
 ·exact h
 ·obtain⟨a,cap,vs,b,j,e,c,_⟩:=h.flat;rw[b];have:=c rfl;subst this;exact Rd.iS
theorem mc{σ:List ak}{s:St}{l:Nat}{E:TypeId}{k n:Nat}{es:Nat->List C}{L:Loc}(a:σ[l]?=some (.vec E k n es))(b:s.β[l]?=some L)(h:dq σ s (.vec E k n es) L):eQ σ s L.v (.vec l k n es):=by
 refine⟨h.1,(aE.1 a).1,λc k' n' es' he=>?_⟩
 rw[a] at he;cases he;exact⟨ar _,λ_=>⟨L,b,rfl⟩⟩
theorem aH.lH{P:Program}{o:Oper}{Q:Operand->D}{σ:List ak}{x y:Operand}{E:TypeId}{d:TI}(h:vJ P o x y E d){n m k:Nat}{tx:Bool}{es es':Nat->List C}
  (hx:Q x=.e (.one (.c (.sl true k n es)))) (hk:k=d.size∨n=0) (hy:∀ s v,b5 σ s v (Q y)->Rd s.M v (.sl tx d.size m es')) (z:(n+m)*d.bytes<=140737488355328) (hz:n=0∨0<m) :
  aH P o Q σ (.e (.one (.vec σ.length d.size (n+m) (cz n es es')))) (σ++[.vec E d.size (n+m) (cz n es es')]):=by
 intro s ρ hh hr;obtain⟨t,g,i,q,V,hi,N,B,F⟩:=h.op;have h1:=hr x;rw[hx] at h1;have j:=Rd.uh hk (eB h1);have h2:=hy s _ (hr y);obtain⟨a,cap,vs,hv,G,L5,Y,hF,W⟩:=j.flat;have R:cap=n:=Y rfl;subst R;rw[dM V];rw[hv] at j ⊢
 by_cases Z:m=0
 ·subst Z;have r:=ik (P:=P) (ty:=o.type) hi N B F h.elem hh (a:=a) G h2;simp only[ey];have j:=Rd.x4 (es':=cz cap es es') (λi hi=>by simp[cz,hi]) j
  have J:dq (σ++[.vec E d.size cap (cz cap es es')]) { s with β:=s.β++[⟨.slice a cap cap,[]⟩] } (.vec E d.size cap (cz cap es es')) ⟨.slice a cap cap,[]⟩:=⟨j.loose,.inl ⟨⟨rfl,by omega⟩,j⟩⟩
  obtain⟨g1,g2⟩:=hh.ij (.refl _ _) rfl hh J (by simp)
  refine⟨.value (.slice a cap cap),_,?_,?_,g1,g2,dC (iR hi N B F h.elem hh G h2)⟩
  ·simp[r]
  ·exact mc (by simp) (by simp[<-hh.len]) J
 ·have X:cap<cap+m:=by omega
  obtain⟨f,H,l,K,U,S,L,r⟩:=iQ (P:=P) (ty:=o.type) hi N B F h.elem hh j h2 X z h.bytes;have I:ag σ (s.grown E f H s.β)/\Step σ s σ (s.grown E f H s.β) :=
   hh.grow (by simp) (λb z=>bP s.w.drew _ z) (λb z o=>by simp[show b≠s.w.heap.size by omega])
    (λb z o v W=>sD hh E f H b o v W) rfl rfl rfl
  have O:Rd (s.grown E f H s.β).M (.slice (some ⟨s.w.heap.size,0,none⟩) (cap+m) l) (.sl false d.size (cap+m) (cz cap es es')) :=
   Rd.oh (K.mono I.2.mem) (b:=s.w.heap.size) (off:=0) (λ_=>rfl) U S (by simp) (λp u hp=>by simpa[St.grown] using hp)
  have J:dq (σ++[.vec E d.size (cap+m) (cz cap es es')]) { (s.grown E f H s.β) with β:=(s.grown E f H s.β).β++[⟨.slice (some ⟨s.w.heap.size,0,none⟩) (cap+m) l,[s.w.heap.size]⟩] } (.vec E d.size (cap+m) (cz cap es es')) ⟨.slice (some ⟨s.w.heap.size,0,none⟩) (cap+m) l,[s.w.heap.size]⟩:=by
   refine⟨O,.inr ⟨s.w.heap.size,l,f++H,rfl,cC s.w.drew _,L,λo V=>?_⟩⟩
   have hl:f.length<=o:=by rw[K.len];exact V
   simp[St.grown,iL hl]
  obtain⟨g1,g2⟩:=I.1.ij I.2 rfl hh J (λb z=>by
   simp at z;subst z;refine⟨ar _,?_⟩;simp[St.grown])
  refine⟨.value (.slice (some ⟨s.w.heap.size,0,none⟩) (cap+m) l),_,?_,?_,g1,g2,dC (jY hi N B F h.elem hh j h2 X z h.bytes)⟩
  ·simp[r];rfl
  ·exact mc (by simp) (by simp[St.grown,<-hh.len]) J
theorem aH.A7{P:Program}{o:Oper}{η:Operand->D}{σ:List ak}{x y:Operand}{E:TypeId}{d:TI}(h:vJ P o x y E d){l n m:Nat}{tx:Bool}{es es':Nat->List C}
  (hx:η x=.e (.one (.vec l d.size n es))) (hl:σ[l]?=some (.vec E d.size n es)) (hy:∀ s v,b5 σ s v (η y)->Rd s.M v (.sl tx d.size m es')) (V:(n+m)*d.bytes<=140737488355328) :
  aH P o η σ (.e (.one (.vec l d.size (n+m) (cz n es es')))) (σ.set l (.vec E d.size (n+m) (cz n es es'))):=by
 intro s ρ hh hr;obtain⟨t,g,i,q,ho,hi,hd,Q,R⟩:=h.op;have F:l<σ.length:=(aE.1 hl).1;have h1:=hr x;rw[hx] at h1;obtain⟨Z,_,SJ⟩:=h1;obtain⟨L,hL,hv⟩:=(SJ _ _ _ _ hl).2 rfl;have h2:=hy s _ (hr y);have G:l<s.β.length:=(aE.1 hL).1;have U:=hh.box l _ L hl hL;obtain⟨a,cap,vs,L6,Jz,L5,ht,hF,hm⟩:=Z.flat;rw[dM ho,L6];rw[L6] at Z;have X:L.v=.slice a n cap:=by rw[<-hv,L6]
 by_cases h0:m=0
 ·subst h0;have J:=ik (P:=P) (ty:=o.type) hi hd Q R h.elem hh (a:=a) Jz h2;simp only[ey];have ha:∀ i,i<n->es i=cz n es es' i:=λi hi=>by simp[cz,hi]
  have Oj:dq (σ.set l (.vec E d.size n (cz n es es'))) ⟨s.β.set l L,s.M,s.w,s.own⟩ (.vec E d.size n (cz n es es')) L:=by
   refine⟨U.1.x4 ha,?_⟩;rcases U.2 with⟨h3,h4⟩|h3
   ·exact .inl ⟨h3,h4.x4 ha⟩
   ·exact .inr h3
  have r:=hh.iP (M':=s.M) (w':=s.w) (B':=.vec E d.size n (cz n es es')) (L':=L) hl hL ⟨λ_=>rfl,ar _⟩ (ar _) (λ_ _ _=>rfl) (λ_ _ _ _=>rfl) (λ_ _ _ h=>h) hh.mem
   (λb V=>⟨.inl V,hh.lt L (aG hL) b V⟩) rfl rfl rfl Oj
  refine⟨.value (.slice a n cap),_,?_,?_,r.1,r.2,dC (iR hi hd Q R h.elem hh Jz h2)⟩
  ·simp[J]
  ·rw[<-X];exact mc (E:=E) (by rw[br F]) (by simp only;rw[br G]) Oj
 ·have S:¬(n+m=n):=by omega
  by_cases z:n+m<=cap
  ·rcases U.2 with⟨Rz,O⟩|⟨b,L8,I,rfl,hw,W,B⟩
   ·rw[X] at O;obtain⟨_,_,_,e,_,_,SK,_⟩:=O.flat;cases e;have:=SK rfl;omega
   ·simp only at X;cases X;obtain⟨c,JA,J⟩:=j7 (P:=P) (ty:=o.type) hi hd Q R h.elem hh hw W h2 z;have SL:c.length=m*d.size:=JA.len;have OW:b<s.w.heap.size:=(dF.1 hw).1
    let M':Mem:=λN o=>if N=b/\n*d.size<=o/\o<(n+m)*d.size then c[o-n*d.size]? else s.M N o
    have xZ:I.length=cap*d.size:=W;have VH:(n+m)*d.size=n*d.size+m*d.size:=ez _ _ _;have RA:(n+m)*d.size<=cap*d.size:=eb _ z;have LJ:∀ N o v,s.M N o=some v->M' N o=some v:=by
     intro N o v f;simp only[M'];rw[an ?_]
     ·exact f
     ·rintro⟨rfl,h1,_⟩;rw[B o h1] at f;cases f
    have OX:∀ p u,c[p]?=some u->M' b (n*d.size+p)=some u:=by
     intro p u Y;have oR:p<c.length:=(aE.1 Y).1;simp only[M'];rw[aq ⟨by first|rfl|trivial,by omega,by omega⟩,kG]
     exact Y
    have OY:Rd M' (.slice (some ⟨b,0,none⟩) (n+m) cap) (.sl false d.size (n+m) (cz n es es')):=by
     refine Rd.oh (vs:=vs++c) ((hF.append JA).mono LJ) (b:=b) (off:=0) (λ_=>rfl) z L5 (by simp) (λp u Y=>?_)
     have OZ:vs.length=n*d.size:=hF.len;rcases bC p vs.length with oR|LI
     ·rw[bS oR] at Y;obtain⟨b1,SM,e,L9⟩:=hm p u Y;cases e;exact LJ _ _ _ L9
     ·rw[cj LI] at Y;have:=OX _ u Y;rw[show n*d.size+(p-vs.length)=0+p by omega] at this
      exact this
    have r:=hh.iP (M':=M') (w':=s.w.setRow b (I.take (n*d.size)++c++I.drop (n*d.size+c.length)).toArray) (B':=.vec E d.size (n+m) (cz n es es')) (L':=⟨.slice (some ⟨b,0,none⟩) (n+m) cap,[b]⟩) hl hL
     ⟨λe=>absurd e S,by omega⟩ (by simp) (λN _ k=>setRow_other _ _ _ _ (by simpa using k)) (λN _ k o=>by
      simp only[M'];rw[an (by simp at k;rintro⟨e,_⟩;exact k e)]) LJ ?_ (λN k=>by
      simp at k;subst k;exact⟨.inl (by simp),by simpa using OW⟩) rfl rfl rfl ?_
    ·refine⟨.value (.slice (some ⟨b,0,none⟩) (n+m) cap),_,?_,?_,r.1,r.2,dC (lG hi hd Q R h.elem hh hw W h2 z (aG hL) (by simp) B)⟩
     ·simp[J]
     ·exact mc (L:=⟨.slice (some ⟨b,0,none⟩) (n+m) cap,[b]⟩) (E:=E) (by rw[br F]) (by simp only;rw[br G]) (r.1.box l _ _ (by rw[br F]) (by simp only;rw[br G]))
    ·intro N o v f
     by_cases k:N=b
     ·subst k;have Ma:∀ j,(s.w.setRow N (I.take (n*d.size)++c++I.drop (n*d.size+c.length)).toArray).cell? ⟨N,j,none⟩=(I.take (n*d.size)++c++I.drop (n*d.size+c.length))[j]?:=by
       intro j;rw[cell_setRow_same _ _ _ _ _ _ _ hw];simp
      rw[Ma];simp only[M'] at f;have SN:(I.take (n*d.size)).length=n*d.size:=by rw[List.length_take];omega
      split at f
      ·rename_i hc
       rw[c9,cj (by omega),SN,bS (by omega)]
       exact f
      ·rename_i hc
       have h3:=hh.mem N o v f;have ho:o<n*d.size:=by
        rcases bC o (n*d.size) with h|h
        ·exact h
        ·rw[B o h] at f;cases f
       rw[c9,bS (by omega),dx,aq ho]
       simp only[World.cell?,hw] at h3;simpa using h3
     ·simp only[M'] at f;rw[an (by rintro⟨e,_⟩;exact k e)] at f
      rw[<-hh.mem N o v f];simp only[World.cell?];rw[setRow_other _ _ _ _ k]
    ·refine⟨OY,.inr ⟨b,cap,_,rfl,setRow_heap _ _ _ _ _ _ hw,?_,λo ho=>?_⟩⟩
     ·simp only[bc,List.length_take,kI];omega
     ·simp only[M'];rw[an (by rintro⟨_,_,h⟩;omega)]
      exact B o (by omega)
  ·have hg:cap<n+m:=by omega
   obtain⟨H,zs,K,RB,LK,Ol,hlen,J⟩:=iQ (P:=P) (ty:=o.type) hi hd Q R h.elem hh Z h2 hg V h.bytes;have VI:∀ b∈L.bs,b<s.w.heap.size:=hh.lt L (aG hL);have OY:Rd (λb o=>if b=s.w.heap.size then H[o]? else s.M b o) (.slice (some ⟨s.w.heap.size,0,none⟩) (n+m) K) (.sl false d.size (n+m) (cz n es es')) :=
    Rd.oh (RB.mono (sE hh H)) (b:=s.w.heap.size) (off:=0) (λ_=>rfl) LK Ol (by simp) (λp u Y=>by simpa using Y)
   have r:=hh.iP (M':=λb o=>if b=s.w.heap.size then H[o]? else s.M b o) (w':=s.w.drew.alloc (.cells (H++zs).toArray E)) (B':=.vec E d.size (n+m) (cz n es es')) (L':=⟨.slice (some ⟨s.w.heap.size,0,none⟩) (n+m) K,[s.w.heap.size]⟩) hl hL
    ⟨λe=>absurd e S,by omega⟩ (by simp) (λb V _=>bP s.w.drew _ V) (λb V _ o=>by simp[show b≠s.w.heap.size by omega]) (sE hh H) (sD hh E H zs) (λb V=>by
     simp at V;subst V;exact⟨.inr (ar _),by simp⟩) rfl rfl rfl ⟨OY,.inr ⟨s.w.heap.size,K,H++zs,rfl,cC s.w.drew _,hlen,λo ho=>by
      have hl:H.length<=o:=by rw[RB.len];exact ho
      simp[iL hl]⟩⟩
   refine⟨.value (.slice (some ⟨s.w.heap.size,0,none⟩) (n+m) K),_,?_,?_,r.1,r.2,dC (jY hi hd Q R h.elem hh Z h2 hg V h.bytes)⟩
   ·simp[J]
   ·exact mc (L:=⟨.slice (some ⟨s.w.heap.size,0,none⟩) (n+m) K,[s.w.heap.size]⟩) (E:=E) (by rw[br F]) (by simp only;rw[br G]) (r.1.box l _ _ (by rw[br F]) (by simp only;rw[br G]))
end Go.AM
namespace Go.AM
open Go.Conc (G)
def iW{α:Type}:List Nat->List α->Option (List α)
 |[],_=>some []
 |k::ks,l=>match en k l with
  |some x=>match iW ks l with
   |some r=>some (x::r)
   |none=>none
  |none=>none
theorem dg{α:Type}:∀ (n:Nat)(l:List α),en n l=l[n]?
 |_,[]=>by simp[en]
 |0,x::_=>by simp[en]
 |n+1,_::xs=>by simpa[en] using dg n xs
theorem fj{α:Type}:∀ {ks:List Nat}{l r:List α},iW ks l=some r->r.length=ks.length/\∀ (j k:Nat),ks[j]?=some k->∃ x,r[j]?=some x/\l[k]?=some x
 |[],l,r,h=>by cases h;simp
 |k::ks,l,r,h=>by
  simp only[iW] at h;cases a:en k l with
  |none=>simp[a] at h
  |some x =>
   cases b:iW ks l with
   |none=>simp[a,b] at h
   |some q =>
    simp[a,b] at h;subst h;obtain⟨f,e⟩:=fj b;refine⟨by simp[f],λj k' hj=>?_⟩
    cases j with
    |zero=>simp at hj;subst hj;exact⟨x,rfl,cT a⟩
    |succ j=>simp at hj;obtain⟨y,d,c⟩:=e j k' hj;exact⟨y,by simpa using d,c⟩
theorem ur{α e:Type}:∀ {ks:List Nat}{l r:List α}{l':List e},iW ks l=some r->l'.length=l.length->∃ r',iW ks l'=some r'
 |[],l,r,l',_,_=>⟨[],rfl⟩
 |k::ks,l,r,l',h,c=>by
  simp only[iW] at h;cases a:en k l with
  |none=>simp[a] at h
  |some x =>
   cases d:iW ks l with
   |none=>simp[a,d] at h
   |some q =>
    obtain⟨r',b⟩:=ur (l':=l') d c;have f:k<l'.length:=by rw[c];exact(aE.1 (cT a)).1
    exact⟨l'[k]::r',by simp[iW,dg,f,b]⟩
def lp(ks:List Nat):A->A
 |.ptr l o=>match en l ks with|some k=>.ptr k o|none=>.any
 |.vec l k n es=>match en l ks with|some m=>.vec m k n es|none=>.c (.sl false k n es)
 |.ref l=>match en l ks with|some k=>.ref k|none=>.any
 |.bp l w=>match en l ks with|some k=>.bp k w|none=>.any
 |.c x=>.c x
 |.any=>.any
def vO(ks:List Nat):List A->List A
 |[]=>[]
 |a::r=>lp ks a::vO ks r
def uu(ks:List Nat):E1->E1
 |.one a=>.one (lp ks a)
 |.agg cs=>.agg (vO ks cs)
def sH(ks:List Nat):List E1->List E1
 |[]=>[]
 |a::r=>uu ks a::sH ks r
def iC(ks:List Nat):D->D
 |.e x=>.e (uu ks x)
 |.eD xs=>.eD (sH ks xs)
 |.any=>.any
def jC(ks:List Nat):List D->List D
 |[]=>[]
 |a::r=>iC ks a::jC ks r
def yc:A->Bool
 |.c _|.any=>true
 |_=>false
def uv:List A->Bool
 |[]=>true
 |a::r=>match yc a with|true=>uv r|false=>false
def qv:ak->Bool
 |.cells _ cs=>uv cs
 |.loop ..=>false
 |_=>true
def cr:List ak->Bool
 |[]=>true
 |a::r=>match qv a with|true=>cr r|false=>false
theorem hJ:∀ {l:List ak},cr l=true->∀ B∈l,qv B=true
 |[],_,B,a=>by simp at a
 |b::r,h,B,a=>by
  simp only[cr] at h;cases c:qv b with
  |false=>simp[c] at h
  |true =>
   simp only[c] at h;rcases dy.1 a with rfl|a
   ·exact c
   ·exact hJ h B a
theorem cu.plain{σ σ':List ak}{s s':St}(e:s'.M=s.M):∀ {vs:List Value}{cs:List A},uv cs=true->cu σ s vs cs->cu σ' s' vs cs
 |[],[],_,_=>trivial
 |[],_::_,_,h=>h.elim
 |_::_,[],_,h=>h.elim
 |v::vs,a::al,b,h=>by
  simp only[uv] at b;cases d:yc a with
  |false=>simp[d] at b
  |true =>
   simp only[d] at b;refine⟨?_,cu.plain e b h.2⟩;cases a with
   |c x=>have:=h.1;simp only[eQ] at this ⊢;rw[e];exact this
   |any=>exact h.1
   |_=>simp[yc] at d
theorem dq.plain{σ σ':List ak}{s s':St}(a:s'.M=s.M)(c:s'.w=s.w){B:ak}{L:Loc}(d:qv B=true)(h:dq σ s B L):dq σ' s' B L:=by
 cases B with
 |cells E cs =>
  obtain⟨b,vs,h1,h2,f,e⟩:=h;exact⟨b,vs,h1,by rw[c];exact h2,f.plain a d,λo=>by rw[a];exact e o⟩
 |vec E k n es=>simp only[dq,a,c] at h ⊢;exact h
 |cQ H=>simp only[dq,a,c] at h ⊢;exact h
 |dead=>trivial
 |loop N φ r=>simp[qv] at d
 |oc=>simp only[dq,a,c] at h ⊢;exact h
 |buf E k n es=>simp only[dq,a,c] at h ⊢;exact h
def fH:Nat->List Nat->Bool
 |_,[]=>false
 |k,x::r=>match Nat.beq k x with|true=>true|false=>fH k r
def dk:List Nat->Bool
 |[]=>true
 |k::r=>match fH k r with|true=>false|false=>dk r
theorem uw:∀ {k:Nat}{l:List Nat},k∈l->fH k l=true
 |k,[],h=>by simp at h
 |k,x::r,h=>by
  simp only[fH];cases a:Nat.beq k x with
  |true=>rfl
  |false =>
   rcases dy.1 h with rfl|h
   ·rw[jX] at a;cases a
   ·exact uw h
theorem qw:∀ {l:List Nat},dk l=true->∀ (i j k:Nat),l[i]?=some k->l[j]?=some k->i=j
 |[],_,i,j,k,hi,_=>by simp at hi
 |x::r,h,i,j,k,hi,a=>by
  simp only[dk] at h;cases b:fH x r with
  |true=>simp[b] at h
  |false =>
   simp only[b] at h;have no:∀ q,r[q]?=some x->False:=λq c=>by
    have:=uw (aG c);rw[b] at this;cases this
   cases i with
   |zero =>
    cases j with
    |zero=>rfl
    |succ j =>
     simp at hi a;subst hi;exact(no _ a).elim
   |succ i =>
    cases j with
    |zero =>
     simp at hi a;subst a;exact(no _ hi).elim
    |succ j =>
     simp at hi a;rw[qw h i j k hi a]
def Bb(n:Nat):A->Bool
 |.ptr l _|.vec l _ _ _|.ref l|.bp l _=>Nat.ble (l+1) n
 |_=>true
def Bc(n:Nat):List A->Bool
 |[]=>true
 |a::r=>match Bb n a with|true=>Bc n r|false=>false
def De(n:Nat):E1->Bool
 |.one a=>Bb n a
 |.agg cs=>Bc n cs
def r9(n:Nat):List E1->Bool
 |[]=>true
 |a::r=>match De n a with|true=>r9 n r|false=>false
def ux(n:Nat):D->Bool
 |.e x=>De n x
 |.eD xs=>r9 n xs
 |.any=>true
def pn(n:Nat):List D->Bool
 |[]=>true
 |a::r=>match ux n a with|true=>pn n r|false=>false
section sub
variable {ks:List Nat}{σ σ':List ak}{s:St}{g:List Loc}
theorem eQ.sub(C:iW ks σ=some σ')(z:iW ks s.β=some g){v:Value}{a:A}(d:eQ σ s v (lp ks a))(f:Bb ks.length a=true):eQ σ' { s with β:=g } v a:=by
 obtain⟨G,g1⟩:=fj C;obtain⟨I,g2⟩:=fj z;cases a with
 |c x=>exact d
 |any=>exact d
 |ptr l o =>
  have hl:l<ks.length:=cY f;simp only[lp,dg,aj hl] at d;obtain⟨h1,L,b,h2,j,u⟩:=d;obtain⟨x,h,q⟩:=g1 l _ (aj hl);obtain⟨y,m,i⟩:=g2 l _ (aj hl);rw[i] at h2;cases h2;exact⟨λB p=>h1 B (by rw[q,<-h,p]),L,b,m,j,u⟩
 |vec l k n es =>
  have hl:l<ks.length:=cY f;simp only[lp,dg,aj hl] at d;obtain⟨h1,h2,j⟩:=d;obtain⟨x,h,q⟩:=g1 l _ (aj hl);obtain⟨y,m,i⟩:=g2 l _ (aj hl);refine⟨h1,by rw[G];exact hl,λE k' n' es' p=>?_⟩
  obtain⟨D,p2⟩:=j E k' n' es' (by rw[q,<-h,p])
  refine⟨D,λe=>?_⟩
  obtain⟨L,r,t⟩:=p2 e;rw[i] at r;cases r;exact⟨_,m,t⟩
 |ref l =>
  have hl:l<ks.length:=cY f;simp only[lp,dg,aj hl] at d;obtain⟨h1,L,h2,j,u⟩:=d;obtain⟨x,h,q⟩:=g1 l _ (aj hl);obtain⟨y,m,i⟩:=g2 l _ (aj hl);rw[i] at h2;cases h2;exact⟨λB p=>h1 B (by rw[q,<-h,p]),L,m,j,u⟩
 |bp l w =>
  have hl:l<ks.length:=cY f;simp only[lp,dg,aj hl] at d;obtain⟨lv,h1,h2,j⟩:=d;obtain⟨x,h,q⟩:=g1 l _ (aj hl);obtain⟨y,m,i⟩:=g2 l _ (aj hl);refine⟨lv,h1,(aE.1 h).1,λE k n es p=>?_⟩
  obtain⟨H,F⟩:=j E k n es (by rw[q,<-h,p])
  refine⟨H,λe=>?_⟩
  obtain⟨L,r,t⟩:=F e;rw[i] at r;cases r;exact⟨y,m,t⟩
theorem eQ.kh{σ2:List ak}{s2:St}(I:s2.M=s.M)(i:∀ (j:Nat)(B:ak),σ[j]?=some B->∃ k,ks[j]?=some k/\σ2[k]?=some B)(h:∀ (j:Nat)(L:Loc),s.β[j]?=some L->∃ k,ks[j]?=some k/\s2.β[k]?=some L)(m:s.β.length=σ.length)
  {v:Value} {a:A} (r:eQ σ s v a):eQ σ2 s2 v (lp ks a):=by
 cases a with
 |c x=>simp only[lp,eQ,I];exact r
 |any=>exact r
 |ptr l o =>
  obtain⟨h1,L,b,h2,p,D⟩:=r;obtain⟨k,k1,y⟩:=h l L h2;have hl:l<σ.length:=by rw[<-m];exact(aE.1 h2).1
  obtain⟨k',f,q⟩:=i l _ (aj hl);rw[k1] at f;cases f;simp only[lp,dg,k1];refine⟨λB d=>?_,L,b,y,p,D⟩
  rw[q] at d;exact h1 B (by rw[aj hl];exact d)
 |vec l k n es =>
  obtain⟨h1,h2,p⟩:=r;obtain⟨k1,u,p2⟩:=i l _ (aj h2);simp only[lp,dg,u];refine⟨by rw[I];exact h1,(aE.1 p2).1,λE k' n' es' d=>?_⟩
  rw[p2] at d;obtain⟨H,F⟩:=p E k' n' es' (by rw[aj h2];exact d)
  refine⟨H,λe=>?_⟩
  obtain⟨L,C,z⟩:=F e;obtain⟨y,t,G⟩:=h l L C;rw[u] at t;cases t;exact⟨L,G,z⟩
 |ref l =>
  obtain⟨h1,L,h2,p,D⟩:=r;obtain⟨k,k1,y⟩:=h l L h2;have hl:l<σ.length:=by rw[<-m];exact(aE.1 h2).1
  obtain⟨k',f,q⟩:=i l _ (aj hl);rw[k1] at f;cases f;simp only[lp,dg,k1];refine⟨λB d=>?_,L,y,p,D⟩
  rw[q] at d;exact h1 B (by rw[aj hl];exact d)
 |bp l w =>
  obtain⟨lv,h1,h2,p⟩:=r;obtain⟨k1,u,p2⟩:=i l _ (aj h2);simp only[lp,dg,u];refine⟨lv,h1,(aE.1 p2).1,λE k' n' es' d=>?_⟩
  rw[p2] at d;obtain⟨H,F⟩:=p E k' n' es' (by rw[aj h2];exact d)
  refine⟨H,λe=>?_⟩
  obtain⟨L,C,z⟩:=F e;obtain⟨y,t,G⟩:=h l L C;rw[u] at t;cases t;exact⟨L,G,z⟩
theorem cu.sub(c:iW ks σ=some σ')(b:iW ks s.β=some g):∀ {vs:List Value}{cs:List A},cu σ s vs (vO ks cs)->Bc ks.length cs=true->cu σ' { s with β:=g } vs cs
 |[],[],_,_=>trivial
 |[],_::_,h,_=>h.elim
 |_::_,[],h,_=>h.elim
 |v::vs,a::al,h,d=>by
  simp only[Bc] at d;cases e:Bb ks.length a with
  |false=>simp[e] at d
  |true=>simp only[e] at d;exact⟨h.1.sub c b e,cu.sub c b h.2 d⟩
theorem jr.sub(c:iW ks σ=some σ')(b:iW ks s.β=some g){v:Value}{x:E1}(h:jr σ s v (uu ks x))(d:De ks.length x=true):jr σ' { s with β:=g } v x:=by
 cases x with
 |one a=>exact eQ.sub c b h d
 |agg cs=>obtain⟨vs,h1,h2⟩:=h;exact⟨vs,h1,h2.sub c b d⟩
theorem dX.sub(c:iW ks σ=some σ')(b:iW ks s.β=some g):∀ {vs:List Value}{xs:List E1},dX σ s vs (sH ks xs)->r9 ks.length xs=true->dX σ' { s with β:=g } vs xs
 |[],[],_,_=>trivial
 |[],_::_,h,_=>h.elim
 |_::_,[],h,_=>h.elim
 |v::vs,a::al,h,d=>by
  simp only[r9] at d;cases e:De ks.length a with
  |false=>simp[e] at d
  |true=>simp only[e] at d;exact⟨h.1.sub c b e,dX.sub c b h.2 d⟩
theorem b5.sub(b:iW ks σ=some σ')(a:iW ks s.β=some g){v:Value}{d:D}(h:b5 σ s v (iC ks d))(c:ux ks.length d=true):b5 σ' { s with β:=g } v d:=by
 cases d with
 |e x=>exact jr.sub b a h c
 |eD xs=>obtain⟨vs,h1,h2⟩:=h;exact⟨vs,h1,h2.sub b a c⟩
 |any=>trivial
theorem bZ.sub(c:iW ks σ=some σ')(b:iW ks s.β=some g):∀ {vs:List Value}{ds:List D},bZ σ s vs (jC ks ds)->pn ks.length ds=true->bZ σ' { s with β:=g } vs ds
 |[],[],_,_=>trivial
 |[],_::_,h,_=>h.elim
 |_::_,[],h,_=>h.elim
 |v::vs,a::al,h,d=>by
  simp only[pn] at d;cases e:ux ks.length a with
  |false=>simp[e] at d
  |true=>simp only[e] at d;exact⟨h.1.sub c b e,bZ.sub c b h.2 d⟩
variable {σ2:List ak}{s2:St}
theorem cu.kh(d:s2.M=s.M)(c:∀ (j:Nat)(B:ak),σ[j]?=some B->∃ k,ks[j]?=some k/\σ2[k]?=some B)(b:∀ (j:Nat)(L:Loc),s.β[j]?=some L->∃ k,ks[j]?=some k/\s2.β[k]?=some L)(a:s.β.length=σ.length) :
  ∀ {vs:List Value} {cs:List A},cu σ s vs cs->cu σ2 s2 vs (vO ks cs)
 |[],[],_=>trivial
 |[],_::_,h=>h.elim
 |_::_,[],h=>h.elim
 |_::_,_::_,h=>⟨h.1.kh d c b a,cu.kh d c b a h.2⟩
theorem jr.kh(e:s2.M=s.M)(d:∀ (j:Nat)(B:ak),σ[j]?=some B->∃ k,ks[j]?=some k/\σ2[k]?=some B)(c:∀ (j:Nat)(L:Loc),s.β[j]?=some L->∃ k,ks[j]?=some k/\s2.β[k]?=some L)(b:s.β.length=σ.length)
  {v:Value} {x:E1} (h:jr σ s v x):jr σ2 s2 v (uu ks x):=by
 cases x with
 |one a=>exact eQ.kh e d c b h
 |agg cs=>obtain⟨vs,h1,h2⟩:=h;exact⟨vs,h1,h2.kh e d c b⟩
theorem dX.kh(d:s2.M=s.M)(c:∀ (j:Nat)(B:ak),σ[j]?=some B->∃ k,ks[j]?=some k/\σ2[k]?=some B)(b:∀ (j:Nat)(L:Loc),s.β[j]?=some L->∃ k,ks[j]?=some k/\s2.β[k]?=some L)(a:s.β.length=σ.length) :
  ∀ {vs:List Value} {xs:List E1},dX σ s vs xs->dX σ2 s2 vs (sH ks xs)
 |[],[],_=>trivial
 |[],_::_,h=>h.elim
 |_::_,[],h=>h.elim
 |_::_,_::_,h=>⟨h.1.kh d c b a,dX.kh d c b a h.2⟩
theorem b5.kh(f:s2.M=s.M)(c:∀ (j:Nat)(B:ak),σ[j]?=some B->∃ k,ks[j]?=some k/\σ2[k]?=some B)(b:∀ (j:Nat)(L:Loc),s.β[j]?=some L->∃ k,ks[j]?=some k/\s2.β[k]?=some L)(a:s.β.length=σ.length)
  {v:Value} {d:D} (h:b5 σ s v d):b5 σ2 s2 v (iC ks d):=by
 cases d with
 |e x=>exact jr.kh f c b a h
 |eD xs=>obtain⟨vs,h1,h2⟩:=h;exact⟨vs,h1,h2.kh f c b a⟩
 |any=>trivial
end sub
def cU.po{α:Type}:Nat->α->List α->List α
 |_,_,[]=>[]
 |0,x,_::r=>x::r
 |k+1,x,y::r=>y::cU.po k x r
def cU{α:Type}:List Nat->List α->List α->List α
 |[],new,old=>old++new
 |k::ks,x::new,old=>cU ks new (cU.po k x old)
 |_::_,[],old=>old
theorem jD{α:Type}:∀ (k:Nat)(x:α)(l:List α),cU.po k x l=l.set k x
 |_,_,[]=>by simp[cU.po]
 |0,x,_::r=>by simp[cU.po]
 |k+1,x,y::r=>by simp[cU.po,jD k x r]
theorem qx{α:Type}:∀ {ks:List Nat}{new old:List α},dk ks=true->(∀ k∈ks,k<old.length)->ks.length<=new.length ->
  (cU ks new old).length=old.length+(new.length-ks.length)/\(∀ (j k:Nat),ks[j]?=some k->(cU ks new old)[k]?=new[j]?) /\
  (∀ j,(cU ks new old)[old.length+j]?=new[ks.length+j]?)/\(∀ l,l<old.length->l∉ks->(cU ks new old)[l]?=old[l]?)
 |[],new,old,_,_,_=>by
  refine⟨by simp[cU],by simp,λj=>?_,λl f _=>?_⟩
  ·simp only[cU,kK,aw];rw[cj (by omega),kG]
  ·simp[cU,bS f]
 |k::ks,[],old,_,_,h=>by simp at h
 |k::ks,x::new,old,b,c,m=>by
  have q:=b;simp only[dk] at b;cases d:fH k ks with
  |true=>simp[d] at b
  |false =>
   simp only[d] at b;have o:k<old.length:=c k (by simp)
   have i:k∉ks:=λh=>by rw[uw h] at d;cases d
   obtain⟨t,r,p,n⟩:=qx (ks:=ks) (new:=new) (old:=old.set k x) b (λk' LM=>by simpa using c k' (by simp[LM])) (by simpa using m)
   simp only[cU,jD];refine⟨by simp[t],λj k' hj=>?_,λj=>?_,λl f a=>?_⟩
   ·cases j with
    |zero =>
     simp at hj;subst hj;rw[n k (by simpa using o) i,br o]
     rfl
    |succ j =>
     simp at hj;rw[r j k' hj];simp
   ·have:=p j;simp only[List.length_set] at this;rw[this];simp[Nat.add_right_comm]
   ·simp only[dy,not_or] at a;rw[n l (by simpa using f) a.2,b7 (λe=>a.1 e.symm)]
def Ev{P:Program}(X:Cx P)(f:FuncId)(args:List D)(σ:List ak)(res:D)(σ':List ak):Prop :=
 (∃ fn,P.funcs[f]?=some fn/\(fn.name== "runtime.NumGoroutine")=false/\fn.body.isNone=false) /\
 ∀ s (vs:List Value),bZ σ s vs args->ag σ s->∀ (S:Goroutine->St->Prop) (cs:List Frame),
  (∀ a v s',uk P f a v s'->b5 σ' s' v res->ag σ' s'->bq σ s σ' s'->db X S (G a cs) s')->db X S (G (Frame.enter P f vs.toArray .normal) cs) s
def fb{P:Program}{ι:Type}(X:Cx P)(f:FuncId)(args:List D)(σ:List ak)(res:ι->D)(σ':ι->List ak):Prop :=
 (∃ fn,P.funcs[f]?=some fn/\(fn.name== "runtime.NumGoroutine")=false/\fn.body.isNone=false) /\
 ∀ s (vs:List Value),bZ σ s vs args->ag σ s->∀ (S:Goroutine->St->Prop) (cs:List Frame),
  (∀ i a v s',uk P f a v s'->b5 (σ' i) s' v (res i)->ag (σ' i) s'->bq σ s (σ' i) s'->db X S (G a cs) s')->db X S (G (Frame.enter P f vs.toArray .normal) cs) s
theorem Ev.Mo{P:Program}{X:Cx P}{f:FuncId}{args:List D}{σ:List ak}{res:D}{σ':List ak}(h:Ev X f args σ res σ'):fb (ι:=Unit) X f args σ (λ_=>res) (λ_=>σ') :=
 ⟨h.1,λs vs hr hh S cs hS=>h.2 s vs hr hh S cs (hS ())⟩
theorem fb.Df{P:Program}{X:Cx P}{f:FuncId}{args:List D}{σ:List ak}{res:D}{σ':List ak}(h:fb (ι:=Unit) X f args σ (λ_=>res) (λ_=>σ')):Ev X f args σ res σ' :=
 ⟨h.1,λs vs hr hh S cs hS=>h.2 s vs hr hh S cs (λ_=>hS)⟩
def uy(s:St)(a:List Loc):Nat->Prop:=λb=>s.own b∨((∃ L∈s.β,b∈L.bs)/\∀ L∈a,b∉L.bs)
def lL(n:Nat):Nat->List Nat
 |0=>[]
 |m+1=>n::lL (n+1) m
theorem vP:∀ (m n j:Nat),(lL n m)[j]?=if j<m then some (n+j) else none
 |0,n,j=>by simp[lL]
 |m+1,n,0=>by simp[lL]
 |m+1,n,j+1=>by
  simp only[lL,od,vP m (n+1) j,Nat.add_lt_add_iff_right];split
  ·congr 1;omega
  ·rfl
theorem frame{ks:List Nat}{σ Y σ1:List ak}{s d:St}{u:List Loc}(r:ag σ s)(hσ:iW ks σ=some Y)(hβ:iW ks s.β=some u)(hn:dk ks=true)
  (hp:cr σ1=true) (H:ag σ1 d) (st:bq Y { s with β:=u,own:=uy s u } σ1 d) (IN:ks.length<=σ1.length) {v:Value} {res:D} (hr:b5 σ1 d v res) :
  ∃ s2:St,s2.w=d.w/\b5 (cU ks σ1 σ) s2 v (iC (ks++lL σ.length (σ1.length-ks.length)) res)/\ag (cU ks σ1 σ) s2/\bq σ s (cU ks σ1 σ) s2/\s2.M=d.M/\s2.own=s.own/\∀ L∈s2.β,L∈d.β∨(L∈s.β/\∀ b∈L.bs,∀ L'∈u,b∉L'.bs):=by
 have N:∀ k∈ks,k<σ.length:=by
  intro k C;obtain⟨j,p,rfl⟩:=dH C;obtain⟨x,_,h2⟩:=(fj hσ).2 j _ (aj p);exact(aE.1 h2).1
 have J:∀ k∈ks,k<s.β.length:=by rw[r.len];exact N
 have R:ks.length<=d.β.length:=by rw[H.len];exact IN
 obtain⟨a1,a2,a3,a4⟩:=qx (new:=σ1) (old:=σ) hn N IN;obtain⟨b1,b2,b3,b4⟩:=qx (new:=d.β) (old:=s.β) hn J R;obtain⟨c1,c2⟩:=fj hσ;obtain⟨d1,d2⟩:=fj hβ
 let I:=ks++lL σ.length (σ1.length-ks.length)
 have K:∀ j,j<σ1.length->∃ k,I[j]?=some k/\(cU ks σ1 σ)[k]?=σ1[j]?/\(cU ks d.β s.β)[k]?=d.β[j]?:=by
  intro j p;rcases bC j ks.length with a|t
  ·refine⟨ks[j],?_,a2 j _ (aj a),b2 j _ (aj a)⟩;simp only[I];rw[bS a,aj a]
  ·refine⟨σ.length+(j-ks.length),?_,?_,?_⟩
   ·simp only[I];rw[cj t,vP,aq (by omega)]
   ·rw[a3];congr 1;omega
   ·rw[<-r.len,b3];congr 1;omega
 have m:∀ l L,(cU ks d.β s.β)[l]?=some L->(∃ j,j<σ1.length/\d.β[j]?=some L/\(∀ B,(cU ks σ1 σ)[l]?=some B->σ1[j]?=some B)/\(∀ k,ks[j]?=some k->k=l)/\(j≥ks.length->l=σ.length+(j-ks.length))) ∨
   (l<σ.length/\l∉ks/\s.β[l]?=some L/\(cU ks σ1 σ)[l]?=σ[l]?):=by
  intro l L c;have Te:l<(cU ks d.β s.β).length:=(aE.1 c).1;rcases bC l σ.length with a|t
  ·by_cases z:l∈ks
   ·obtain⟨j,p,rfl⟩:=dH z;have C:=aj p;refine .inl ⟨j,by omega,by rw[<-b2 j _ C];exact c,λB q=>by rw[<-a2 j _ C];exact q,λk LM=>by rw[C] at LM;cases LM;rfl,λh=>by omega⟩
   ·exact .inr ⟨a,z,by rw[<-b4 l (by rw[r.len];exact a) z];exact c,a4 l a z⟩
  ·rw[b1,H.len,r.len] at Te;refine .inl ⟨ks.length+(l-σ.length),by omega,?_,λB q=>?_,λk C=>?_,λ_=>by omega⟩
   ·rw[<-b3,r.len,uc t];exact c
   ·rw[<-a3,uc t];exact q
   ·have:=(aE.1 C).1;omega
 have A:∀ L∈u,L∈s.β:=by
  intro L c;obtain⟨j,p,rfl⟩:=dH c;have F:j<ks.length:=by rw[<-d1];exact p
  obtain⟨x,Q,T⟩:=d2 j _ (aj F);rw[aj p] at Q;cases Q;exact aG T
 have other:∀ l L,l∉ks->s.β[l]?=some L->∀ b∈L.bs,b<s.w.heap.size/\∀ L'∈u,b∉L'.bs:=by
  intro l L E c b f;refine⟨r.lt L (aG c) b f,λL' eY Ba=>?_⟩
  obtain⟨j,p,rfl⟩:=dH eY;have F:j<ks.length:=by rw[<-d1];exact p
  obtain⟨x,Q,T⟩:=d2 j _ (aj F);rw[aj p] at Q;cases Q;have:=r.eE l ks[j] L _ c T b f Ba;exact E (this▸gF F)
 have out:∀ b,b<s.w.heap.size->(∀ L∈s.β,b∉L.bs)->∀ L∈u,b∉L.bs:=λb _ h L c=>h L (A L c)
 have ex:Ext σ s (cU ks σ1 σ) ⟨cU ks d.β s.β,d.M,d.w,s.own⟩:=by
  refine⟨st.mem,λl B L q c=>?_⟩
  have a:l<σ.length:=(aE.1 q).1
  by_cases z:l∈ks
  ·obtain⟨j,p,rfl⟩:=dH z;have C:=aj p;obtain⟨x,Q,T⟩:=c2 j _ C;obtain⟨y,y1,y2⟩:=d2 j _ C;rw[q] at T;cases T;rw[c] at y2;cases y2;obtain⟨B',L',p1,p2,p3⟩:=st.box j B L Q y1;exact⟨B',L',by rw[a2 j _ C,p1],by simp only;rw[b2 j _ C,p2],p3⟩
  ·exact⟨B,L,by rw[a4 l a z,q],by simp only;rw[b4 l (by rw[r.len];exact a) z,c],.refl _ _⟩
 refine⟨⟨cU ks d.β s.β,d.M,d.w,s.own⟩,rfl,?_,⟨H.mem,?_,?_,?_,?_,?_⟩,⟨st.size,?_,st.mem,?_,?_,ex.box,st.os,st.tape,st.output,rfl⟩,rfl,rfl,?_⟩
 ·refine b5.kh (s:=d) (s2:=⟨cU ks d.β s.β,d.M,d.w,s.own⟩) (σ2:=cU ks σ1 σ) (ks:=I) rfl (λj B q=>?_) (λj L c=>?_) H.len hr
  ·obtain⟨k,k1,k2,_⟩:=K j (aE.1 q).1;exact⟨k,k1,by rw[k2,q]⟩
  ·obtain⟨k,k1,_,k3⟩:=K j (by rw[<-H.len];exact(aE.1 c).1)
   exact⟨k,k1,by simp only;rw[k3,c]⟩
 ·simp only;rw[a1,b1,H.len,r.len]
 ·intro l B L q c;rcases m l L c with⟨j,p,i,RD,_⟩|⟨E,z,eY,ir⟩
  ·exact dq.plain (σ:=σ1) (s:=d) (s':=⟨cU ks d.β s.β,d.M,d.w,s.own⟩) rfl rfl (hJ hp B (aG (RD B q))) (H.box j B L (RD B q) i)
  ·rw[ir] at q;refine(r.box l B L q eY).carry ex r.len λb f=>?_
   obtain⟨o1,U⟩:=other l L z eY b f;exact⟨st.ee b (.inr ⟨⟨L,aG eY,f⟩,U⟩),st.gJ b o1 U⟩
 ·intro l l' L L' c eY b f Ba;rcases m l L c with⟨j,p,i,_,Mq,Om⟩|⟨E,z,n,_⟩ <;> rcases m l' L' eY with⟨j',F,P,_,Z,X⟩|⟨yd,hm',O,_⟩
  ·have e:=H.eE j j' L L' i P b f Ba;subst e;rcases bC j ks.length with a|t
   ·rw[<-Mq _ (aj a),<-Z _ (aj a)]
   ·rw[Om t,X t]
  ·obtain⟨o1,U⟩:=other l' L' hm' O b Ba;rcases st.pT L (aG i) b f with h|⟨S,W,G⟩
   ·simp only at h;omega
   ·exact absurd G (U S W)
  ·obtain⟨o1,U⟩:=other l L z n b f;rcases st.pT L' (aG P) b Ba with h|⟨S,W,G⟩
   ·simp only at h;omega
   ·exact absurd G (U S W)
  ·exact r.eE l l' L L' n O b f Ba
 ·intro L c b f;obtain⟨l,E,rfl⟩:=dH c;rcases m l _ (aj E) with⟨j,p,i,_⟩|⟨_,_,n,_⟩
  ·exact H.lt _ (aG i) b f
  ·have:=r.lt _ (aG n) b f;have:=st.size;simp only at this ⊢;omega
 ·intro b f;refine⟨?_,λL c V=>?_⟩
  ·have:=(r.own b f).1;have:=st.size;simp only at this ⊢;omega
  ·obtain⟨l,E,rfl⟩:=dH c;rcases m l _ (aj E) with⟨j,p,i,_⟩|⟨_,_,n,_⟩
   ·have ho:d.own b:=by rw[st.own];exact .inl f
    exact(H.own b ho).2 _ (aG i) V
   ·exact(r.own b f).2 _ (aG n) V
 ·intro b f;exact st.ee b (.inl f)
 ·intro b f O2 o;exact st.gJ b f (out b f O2) o
 ·intro L c b f;obtain⟨l,E,rfl⟩:=dH c;rcases m l _ (aj E) with⟨j,p,i,_⟩|⟨_,_,n,_⟩
  ·rcases st.pT _ (aG i) b f with h|⟨S,W,G⟩
   ·exact .inl h
   ·exact .inr ⟨S,A S W,G⟩
  ·exact .inr ⟨_,aG n,f⟩
 ·intro L c;obtain⟨l,E,rfl⟩:=dH c;rcases m l _ (aj E) with⟨j,p,i,_⟩|⟨_,z,n,_⟩
  ·exact .inl (aG i)
  ·exact .inr ⟨aG n,λb f=>(other l _ z n b f).2⟩
def gT:D->Option (FuncId×List C)
 |.e (.one (.c (.fn (.func f) [] cap)))=>some (f,cap)
 |_=>none
theorem pX{σ:List ak}{s:St}{a:Operand->Value}{c:Operand->D}(b:∀ y,b5 σ s (a y) (c y)):∀ l:List Operand,bZ σ s (l.map a) (l.map c)
 |[]=>trivial
 |x::r=>⟨b x,pX b r⟩
theorem bZ.append{σ:List ak}{s:St}:∀ {vs r6:List Value}{ds Mr:List D},bZ σ s vs ds->bZ σ s r6 Mr->bZ σ s (vs++r6) (ds++Mr)
 |[],_,[],_,_,h=>h
 |[],_,_::_,_,h,_=>h.elim
 |_::_,_,[],_,h,_=>h.elim
 |_::_,_,_::_,_,h,a=>⟨h.1,bZ.append h.2 a⟩
def JG:A->A
 |.vec _ k n es=>.c (.sl false k n es)
 |.c (.sl _ k n es)=>.c (.sl false k n es)
 |a=>a
theorem zU{σ:List ak}{s:St}{v:Value}{a:A}(h:eQ σ s v a):eQ σ s v (JG a):=by
 cases a with
 |vec l k n es=>exact h.1
 |c x=>cases x <;> first|exact h|exact Rd.loose h
 |_=>exact h
def JH:List A->List A
 |[]=>[]
 |a::r=>JG a::JH r
theorem zV{σ:List ak}{s:St}:∀ {vs:List Value}{cs:List A},cu σ s vs cs->cu σ s vs (JH cs)
 |[],[],_=>trivial
 |[],_::_,h=>h.elim
 |_::_,[],h=>h.elim
 |_::_,_::_,h=>⟨zU h.1,zV h.2⟩
def Ms:D->D
 |.e (.one a)=>.e (.one (JG a))
 |.e (.agg cs)=>.e (.agg (JH cs))
 |d=>d
theorem GU{σ:List ak}{s:St}{v:Value}{d:D}(h:b5 σ s v d):b5 σ s v (Ms d):=by
 cases d with
 |e x=>cases x with
  |one a=>exact zU h
  |agg cs=>obtain⟨vs,c,b⟩:=h;exact⟨vs,c,zV b⟩
 |eD xs=>exact h
 |any=>trivial
def ny:List D->List D
 |[]=>[]
 |a::r=>Ms a::ny r
theorem qy{σ:List ak}{s:St}:∀ {vs:List Value}{ds:List D},bZ σ s vs ds->bZ σ s vs (ny ds)
 |[],[],_=>trivial
 |[],_::_,h=>h.elim
 |_::_,[],h=>h.elim
 |_::_,_::_,h=>⟨GU h.1,qy h.2⟩
def jE:List C->List D
 |[]=>[]
 |c::r=>.e (.one (.c c))::jE r
theorem nz{σ:List ak}{s:St}:∀ {vs:List Value}{cs:List C},(∀ (j:Nat)(c:C),cs[j]?=some c->∃ v,vs[j]?=some v/\Rd s.M v c)->vs.length=cs.length->bZ σ s vs (jE cs)
 |[],[],_,_=>trivial
 |[],_::_,_,h=>by simp at h
 |_::_,[],_,h=>by simp at h
 |v::vs,c::cs,h,e=>by
  obtain⟨u,a,d⟩:=h 0 c rfl;simp at a;subst a;exact⟨d,nz (λj c b=>by simpa using h (j+1) c (by simpa using b)) (by simpa using e)⟩
theorem uz{α:Type}{ks:List Nat}{l r:List α}(h:iW ks l=some r):∀ x∈r,x∈l:=by
 intro x b;obtain⟨f,e⟩:=fj h;obtain⟨j,d,rfl⟩:=dH b;obtain⟨y,a,c⟩:=e j _ (aj (by omega))
 rw[aj d] at a;cases a;exact aG c
theorem ag.sub{ks:List Nat}{σ f:List ak}{s:St}{a:List Loc}(hh:ag σ s)(t:iW ks σ=some f)(i:iW ks s.β=some a)(w:cr f=true)(z:dk ks=true) :
  ag f { s with β:=a,own:=uy s a }/\er s { s with β:=a,own:=uy s a }:=by
 obtain⟨c1,c2⟩:=fj t;obtain⟨d1,d2⟩:=fj i;have g:∀ L∈a,L∈s.β:=uz i;refine⟨⟨hh.mem,by simp[c1,d1],?_,?_,?_,?_⟩,⟨rfl,λ_ _ _ h=>h,λ_ _ _=>rfl,hh.mem,?_⟩⟩
 ·intro j B L p c;have hj:j<ks.length:=by rw[<-c1];exact(aE.1 p).1
  obtain⟨x,v,A⟩:=c2 j _ (aj hj);obtain⟨y,k,r⟩:=d2 j _ (aj hj);rw[p] at v;cases v;simp only at c;rw[c] at k;cases k;exact dq.plain (σ:=σ) (s:=s) (s':={ s with β:=a,own:=uy s a }) rfl rfl (hJ w B (aG p)) (hh.box _ B L A r)
 ·intro j o L L' c e b d n;simp only at c e;have hj:j<ks.length:=by rw[<-d1];exact(aE.1 c).1
  have m:o<ks.length:=by rw[<-d1];exact(aE.1 e).1
  obtain⟨y,k,r⟩:=d2 j _ (aj hj);obtain⟨C,l,u⟩:=d2 o _ (aj m);rw[c] at k;cases k;rw[e] at l;cases l;have:=hh.eE _ _ L L' r u b d n;exact qw z j o ks[j] (aj hj) (by rw[aj m,this])
 ·intro L c b d;exact hh.lt _ (g L c) b d
 ·rintro b (d|⟨⟨L,c,d⟩,q⟩)
  ·exact⟨(hh.own b d).1,λL c=>(hh.own b d).2 L (g L c)⟩
  ·exact⟨hh.lt L c b d,q⟩
 ·rintro b ((d|⟨⟨L,c,d⟩,_⟩)|⟨L,c,d⟩)
  ·exact .inl d
  ·exact .inr ⟨L,c,d⟩
  ·exact .inr ⟨L,g L c,d⟩
theorem er.back{σ e σ1:List ak}{s c s2:St}{a:List Loc}(hh:ag σ s)(h1:ag σ1 c)(st:bq e { s with β:=a,own:=uy s a } σ1 c)(l:s2.w=c.w)(g:s2.M=c.M)(i:s2.own=s.own)
  (f:∀ L∈s2.β,L∈c.β∨(L∈s.β/\∀ b∈L.bs,∀ L'∈a,b∉L'.bs)):er c s2:=by
 refine⟨l,λb o v h=>by rw[g];exact h,λb _ o=>by rw[g],λb o v h=>by rw[g] at h;exact h1.mem b o v h,?_⟩
 rintro b (d|⟨L,j,d⟩)
 ·left;rw[st.own];exact .inl (by rw[<-i];exact d)
 ·rcases f L j with h|⟨h,k⟩
  ·exact .inr ⟨L,h,d⟩
  ·left;rw[st.own];exact .inr ⟨⟨L,h,d⟩,k b d⟩
theorem sI{P:Program}{ι:Type}{X:Cx P}{S:Goroutine->St->Prop}{b:Frame}{k:List Item}{cs:List Frame}{a:Act}{s:St}{ops:Array Oper}{i:Nat}{rest:List Nat}{o:Oper}{ks:List Nat}{σ g:List ak}{σ1:ι->List ak}{f:FuncId}{d:List D}{res:ι->D}{vs:List Value}
  (hb:b.kind≠.early) (ho:ops[i]?=some o) (hw:Region.wanted o (yielded ops a.tmps)=true) (hh:ag σ s) (E:∀ w,(execOp a.eval o).run P w=.ok (.enter f vs.toArray) w) (A:∀ w,(execOp a.eval o).events P w #[]=#[])
  (V:fb X f d g res σ1) (t:bZ σ s vs (jC ks d)) (I:pn ks.length d=true) (p:iW ks σ=some g) (hp:cr g=true) (Q:∀ j,cr (σ1 j)=true) (hn:dk ks=true) (M:∀ j,ks.length<=(σ1 j).length)
  (h:∀ j v s',b5 (cU ks (σ1 j) σ) s' v (iC (ks++lL σ.length ((σ1 j).length-ks.length)) (res j))->ag (cU ks (σ1 j) σ) s'->bq σ s (cU ks (σ1 j) σ) s'->db X S (G (b.aT (a.put o.dst v) (.inRegion ops rest::k)) cs) s') :
  db X S (G (b.aT a (.inRegion ops (i::rest)::k)) cs) s:=by
 obtain⟨_,u⟩:=V;refine .next rfl λn Y=>?_
 have U:=X.fG Y;have e:=hh.rely U;obtain⟨m,r⟩:=ur (l':=n.β) p e.len;obtain⟨y,T⟩:=e.sub p r hp hn;have q:bZ σ n vs (jC ks d):=t.mono U.stepW.ext hh.len;have C:bZ g { n with β:=m,own:=uy n m } vs d:=(q.sub (s:=n) p r I).mono (σ:=g) (s:={ n with β:=m }) (σ':=g) (s':={ n with β:=m,own:=uy n m }) ⟨λ_ _ _ h=>h,λl B L hB hL=>⟨B,L,hB,hL,.refl _ _⟩⟩ y.len
 refine⟨_,n,_,qq ho hw hb (E n.w),?_,.ghost T (u _ vs C y S _ λj fr v s2 hl ph LN nA=>?_)⟩
 ·refine⟨⟨σ,σ,e,e,.refl _ _⟩,eW.seen ?_⟩;rw[A];exact .nil
 refine sJ (cs:=cs) (c:=b.aT a (.inRegion ops (i::rest)::k)) LN hl λs3 x=>?_
 have z:=LN.rely x;have H:=nA.trans x.stepW;obtain⟨s4,O,Z,K,N,R,J,F⟩:=frame e p r hn (Q j) z H (M j) (ph.mono x.stepW.ext LN.len);refine .ghost (er.back e z H O R J F) ?_;have W:=j8 (b:=b) (a:=a) (k:=k) ops i rest v;rw[ho] at W;simp only[kN] at W;rw[W];exact h j v s4 Z K (U.stepW.trans N)
theorem Dg{P:Program}{X:Cx P}{S:Goroutine->St->Prop}{b:Frame}{k:List Item}{cs:List Frame}{a:Act}{s:St}{ops:Array Oper}{i:Nat}{rest:List Nat}{o:Oper}{ks:List Nat}{σ e:List ak}{σ1:List ak}{f:FuncId}{c:List D}{res:D}{vs:List Value}
  (t:b.kind≠.early) (r:ops[i]?=some o) (y:Region.wanted o (yielded ops a.tmps)=true) (x:ag σ s) (j:∀ w,(execOp a.eval o).run P w=.ok (.enter f vs.toArray) w) (g:∀ w,(execOp a.eval o).events P w #[]=#[])
  (p:Ev X f c e res σ1) (d:bZ σ s vs (jC ks c)) (l:pn ks.length c=true) (m:iW ks σ=some e) (u:cr e=true) (q:cr σ1=true) (z:dk ks=true) (n:ks.length<=σ1.length)
  (h:∀ v s',b5 (cU ks σ1 σ) s' v (iC (ks++lL σ.length (σ1.length-ks.length)) res)->ag (cU ks σ1 σ) s'->bq σ s (cU ks σ1 σ) s'->db X S (G (b.aT (a.put o.dst v) (.inRegion ops rest::k)) cs) s') :
  db X S (G (b.aT a (.inRegion ops (i::rest)::k)) cs) s :=
 sI t r y x j g p.Mo d l m u (λ_=>q) z (λ_=>n) (λ_=>h)
theorem mh{P:Program}{o:Oper}{m:Operand}{xs:Array Operand}{i:Array TypeId}(l:o.op=.call { callee:=.value m,args:=xs,argTypes:=i }){f:FuncId}{fn:Func}(g:P.funcs[f]?=some fn)(h:(fn.name== "runtime.NumGoroutine")=false)(d:fn.body.isNone=false)
  {a:Act} {cs:List Value} (k:a.eval m=.func (.func f) #[] cs.toArray) (w:World) :
  (execOp a.eval o).run P w=.ok (.enter f (xs.toList.map a.eval++cs).toArray) w/\(execOp a.eval o).events P w #[]=#[]:=by
 have j:(xs.map a.eval++cs.toArray)=(xs.toList.map a.eval++cs).toArray:=by apply gI;simp
 have c:fn.name≠ "runtime.NumGoroutine":=by simpa using h
 have b:fn.body≠none:=by intro e;rw[e] at d;cases d
 constructor
 ·simp[execOp,l,resolve,k,Deferred.ofValue,invoke,callFunc,g,c,b,j]
 ·simp[execOp,l,resolve,k,Deferred.ofValue,invoke,callFunc,g,c,b]
theorem gA.Mt{P:Program}{ι:Type}{X:Cx P}{N:Nat}{all rest:List Oper}{Q:Fr->List ak->Prop}{φ:Fr}{σ:List ak}{o:Oper}{A:Operand}{xs:Array Operand}{I:Array TypeId}
  (V:∀ σ s a,bg N σ s φ a->Region.wanted o (yielded all.toArray a.tmps)=true) (T:o.op=.call { callee:=.value A,args:=xs,argTypes:=I })
  {f:FuncId} {cap:List C} (B:gT (bz φ A)=some (f,cap)) (ks:List Nat) {e:List D} {p:List ak} {σ1:ι->List ak} {res:ι->D} (y:fb X f e p res σ1)
  (r:∀ s vs,bZ σ s vs (xs.toList.map (bz φ)++jE cap)->bZ σ s vs (jC ks e)) (G:pn ks.length e=true) (K:iW ks σ=some p) (Z:cr p=true) (J:∀ j,cr (σ1 j)=true) (hn:dk ks=true) (H:∀ j,ks.length<=(σ1 j).length)
  (d:Option Nat) (Y:o.dst=d) (W:∀ t,d=some t->t<N)
  (k:∀ j,gA X N all rest Q (mX d (iC (ks++lL σ.length ((σ1 j).length-ks.length)) (res j)) φ) (cU ks (σ1 j) σ)):gA X N all (o::rest) Q φ σ:=by
 subst Y;intro s a h hh b kk cs S idx hb lM hQ;cases idx with
 |nil=>exact lM.elim
 |cons i idx =>
 obtain⟨hi,lM⟩:=lM;have z:=fK h A;unfold gT at B;split at B
 case h_2=>cases B
 case h_1 f' L8 he =>
  cases B;rw[he] at z;have m:=eB z;generalize R:a.eval A=fv at m;cases m with
  |fn fs lN hl yd f1 f2 h1 h2 r1 r2 =>
   have L:fs=[]:=fu hl;subst L;have n:bZ σ s lN (jE cap):=nz (λj c hj=>⟨f2 j,h2 j (by rw[yd];exact(aE.1 hj).1),r2 j c hj⟩) yd
   have u:bZ σ s (xs.toList.map a.eval++lN) (jC ks e):=by
    exact r _ _ ((pX (fK h) xs.toList).append n)
   obtain⟨fn,x,l,g⟩:=y.1;refine sI hb hi (V _ _ _ h) hh (λw=>(mh T x l g R w).1) (λw=>(mh T x l g R w).2) y u G K Z J hn H λj v s' hr j9 st=>?_
   refine k j s' _ ?_ j9 b kk cs S idx hb lM λO F s3 a3 q f3 U M=>hQ O F s3 a3 q f3 U (st.trans M)
   cases E:o.dst with
   |none=>exact h.mono st hh.len
   |some t=>exact(h.mono st hh.len).put (W t E) hr
theorem gA.IP{P:Program}{ι:Type}{X:Cx P}{N:Nat}{all rest:List Oper}{Q:Fr->List ak->Prop}{φ:Fr}{σ:List ak}{o:Oper}{q:Operand}{xs:Array Operand}{m:Array TypeId}
  (r:∀ σ s a,bg N σ s φ a->Region.wanted o (yielded all.toArray a.tmps)=true) (u:o.op=.call { callee:=.value q,args:=xs,argTypes:=m })
  {f:FuncId} {cap:List C} (y:gT (bz φ q)=some (f,cap)) (ks:List Nat) {b:List D} {e:List ak} {σ1:ι->List ak} {res:ι->D} (n:fb X f b e res σ1)
  (c:ny (xs.toList.map (bz φ)++jE cap)=jC ks b) (g:pn ks.length b=true) (i:iW ks σ=some e) (v:cr e=true) (p:∀ j,cr (σ1 j)=true) (z:dk ks=true) (l:∀ j,ks.length<=(σ1 j).length)
  (d:Option Nat) (x:o.dst=d) (w:∀ t,d=some t->t<N)
  (k:∀ j,gA X N all rest Q (mX d (iC (ks++lL σ.length ((σ1 j).length-ks.length)) (res j)) φ) (cU ks (σ1 j) σ)):gA X N all (o::rest) Q φ σ :=
 gA.Mt r u y ks n (λs vs h=>by rw[<-c];exact qy h) g i v p z l d x w k
theorem gA.call{P:Program}{X:Cx P}{N:Nat}{all rest:List Oper}{Q:Fr->List ak->Prop}{φ:Fr}{σ:List ak}{o:Oper}{n:Operand}{xs:Array Operand}{j:Array TypeId}
  (p:∀ σ s a,bg N σ s φ a->Region.wanted o (yielded all.toArray a.tmps)=true) (q:o.op=.call { callee:=.value n,args:=xs,argTypes:=j })
  {f:FuncId} {cap:List C} (w:gT (bz φ n)=some (f,cap)) (ks:List Nat) {b:List D} {e σ1:List ak} {res:D} (l:Ev X f b e res σ1)
  (c:ny (xs.toList.map (bz φ)++jE cap)=jC ks b) (g:pn ks.length b=true) (h:iW ks σ=some e) (r:cr e=true) (m:cr σ1=true) (x:dk ks=true) (i:ks.length<=σ1.length)
  (d:Option Nat) (v:o.dst=d) (u:∀ t,d=some t->t<N)
  (k:gA X N all rest Q (mX d (iC (ks++lL σ.length (σ1.length-ks.length)) res) φ) (cU ks σ1 σ)):gA X N all (o::rest) Q φ σ :=
 gA.IP p q w ks l.Mo c g h r (λ_=>m) x (λ_=>i) d v u (λ_=>k)
theorem Names.range(all:List Oper):Names all (List.range all.toArray.size) all:=by
 have key:∀ (l:List Oper) (n:Nat),(∀ j o,l[j]?=some o->all[n+j]?=some o)->Names all (List.range' n l.length) l:=by
  intro l
  induction l with
  |nil=>intro n _;trivial
  |cons o r a =>
   intro n h;rw[fa,List.range'_succ];refine⟨by simpa using h 0 o rfl,a (n+1) λj b hj=>?_⟩
   have:=h (j+1) b (by simpa using hj)
   rwa [show n+(j+1)=n+1+j by omega] at this
 have:=key all 0 (λj o h=>by simpa using h)
 rw[List.range_eq_range'];simpa using this
theorem AW.region{P:Program}{X:Cx P}{N:Nat}{Q:Post}{φ:Fr}{σ:List ak}{id:Nat}{ops:Array Oper}(h:gA X N ops.toList ops.toList (λφ σ=>Q .normal φ σ) φ σ):AW X N (.region id ops false) Q φ σ:=by
 intro s a f hh b k cs S d g;refine .ctl hh rfl (λ_=>md) λi h1=>?_
 have:=h i a (f.rely h1 hh) (hh.rely h1) b k cs S (List.range ops.size) d (by simpa using Names.range ops.toList) λφ' σ' s' a' q e c st=>g .normal φ' σ' s' a' q e c (h1.stepW.trans st)
 simpa using this
theorem gA.nil{P:Program}{X:Cx P}{N:Nat}{all:List Oper}{Q:Fr->List ak->Prop}{φ:Fr}{σ:List ak}(h:Q φ σ):gA X N all [] Q φ σ:=by
 intro s a f hh b k cs S idx _ c e;cases idx with
 |cons i idx=>exact c.elim
 |nil=>exact .ctl hh rfl (λ_=>dN) λd h1=>e φ σ d a h (f.rely h1 hh) (hh.rely h1) h1.stepW
theorem gA.mono{P:Program}{X:Cx P}{N:Nat}{all rest:List Oper}{Q c:Fr->List ak->Prop}{φ:Fr}{σ:List ak}(h:gA X N all rest Q φ σ)(e:∀ φ σ,Q φ σ->c φ σ):gA X N all rest c φ σ :=
 λs a f hh b k cs S idx hb hi hQ=>h s a f hh b k cs S idx hb hi λφ' σ' s' a' q d g st=>hQ φ' σ' s' a' (e _ _ q) d g st
def gC:Nat->List D->Fr
 |_,[]=>[]
 |i,d::r=>(i,d)::gC (i+1) r
theorem kY:∀ (ds:List D)(i t:Nat),look (gC i ds) t=if i<=t then (ds[t-i]?).getD .any else .any
 |[],i,t=>by simp[gC,look]
 |d::r,i,t=>by
  simp only[gC,look]
  by_cases e:i=t
  ·subst e;rw[show Nat.beq i i=true from jX i]
   simp
  ·have:Nat.beq i t=false:=by
    cases h:Nat.beq i t
    ·rfl
    ·exact absurd (bk h) e
   rw[this];simp only[cond,kY r (i+1) t]
   by_cases a:i<=t
   ·rw[aq (by omega),aq a,show t-i=(t-(i+1))+1 by omega]
    simp
   ·rw[an (by omega),an a]
theorem bZ.get{σ:List ak}{s:St}:∀ {vs:List Value}{ds:List D},bZ σ s vs ds->vs.length=ds.length/\∀ (j:Nat),b5 σ s ((vs[j]?).getD undef) ((ds[j]?).getD .any)
 |[],[],_=>⟨rfl,λj=>by simp[b5]⟩
 |[],_::_,h=>h.elim
 |_::_,[],h=>h.elim
 |v::vs,d::ds,h=>by
  obtain⟨h1,h2⟩:=bZ.get h.2;refine⟨by simp[h1],λj=>?_⟩
  cases j with
  |zero=>simpa using h.1
  |succ j=>simpa using h2 j
def sa(φ:Fr):List ResultVar->Option (List D)
 |[]=>some []
 |.tmp t::r=>match sa φ r with
  |some q=>some (look φ t::q)
  |none=>none
 |.cell _ _::_=>none
def oS:List D->Option (List E1)
 |[]=>some []
 |.e x::r=>match oS r with
  |some q=>some (x::q)
  |none=>none
 |_::_=>none
def nB:List D->Option D
 |[d]=>some d
 |ds=>match oS ds with
  |some es=>some (.eD es)
  |none=>none
def fz(a:Act):ResultVar->Sem Value
 |ResultVar.tmp t=>pure (a.tmps.getD t undef)
 |ResultVar.cell ad t=>do loadVar t (<-asAddr (a.tmps.getD ad undef))
theorem zW(P:Program){N:Nat}{σ:List ak}{s:St}{φ:Fr}{a:Act}(f:bg N σ s φ a):∀ {b:List ResultVar}{ds:List D},sa φ b=some ds ->
  ∃ vs,(∀ w,(b.mapM (fz a)).run P w=Result.ok vs w)/\bZ σ s vs ds/\bM P (b.mapM (fz a))
 |[],ds,h=>by cases h;exact⟨[],by simp,ab,by rw[List.mapM_nil];exact .pure⟩
 |.tmp t::r,ds,h=>by
  simp only[sa] at h;cases c:sa φ r with
  |none=>simp[c] at h
  |some q =>
   simp[c] at h;subst h;obtain⟨vs,g,e,d⟩:=zW P f c;refine⟨a.tmps.getD t undef::vs,?_,⟨f.slot t,e⟩,?_⟩
   ·intro w;simp only[jw,aU,fz,cd,bj,g]
   ·rw[jw];exact .bind .pure λ_=>.bind d λ_=>.pure
 |.cell ad t::r,ds,h=>by simp[sa] at h
theorem vQ{σ:List ak}{s:St}:∀ {vs:List Value}{ds:List D}{es:List E1},oS ds=some es->bZ σ s vs ds->dX σ s vs es
 |[],[],es,h,_=>by cases h;trivial
 |[],_::_,_,_,h=>h.elim
 |_::_,[],_,_,h=>h.elim
 |v::vs,.e x::r,es,h,b=>by
  simp only[oS] at h;cases a:oS r with
  |none=>simp[a] at h
  |some q=>simp[a] at h;subst h;exact⟨b.1,vQ a b.2⟩
 |_::_,.eD _::_,es,h,_=>by simp[oS] at h
 |_::_,.any::_,es,h,_=>by simp[oS] at h
theorem vR{σ:List ak}{s:St}{vs:List Value}{ds:List D}{d:D}(h:nB ds=some d)(a:bZ σ s vs ds):b5 σ s (if h:vs.length=1 then vs[0] else .tuple vs.toArray) d:=by
 unfold nB at h;split at h
 ·rename_i g
  cases h
  match vs,a with
  |[v],a=>simpa using a.1
 ·rename_i b
  cases c:oS ds with
  |none=>simp[c] at h
  |some es =>
   simp[c] at h;subst h;have f:vs.length≠1:=by
    intro e;rw[(bZ.get a).1] at e
    match ds,e with
    |[x],_=>exact b x rfl
   rw[dif_neg f];exact⟨vs,rfl,vQ c a⟩
def vS(P:Program)(fn:Func)(φ:Fr)(d:D):Prop:=∀ {N:Nat}{σ:List ak}{s:St}{a:Act},bg N σ s φ a->∃ v,b5 σ s v d/\∀ w,(∀ b o u,s.M b o=some u->w.cell? ⟨b,o,none⟩=some u)->(results fn a.tmps).run P w=.ok v w/\∀ e∈(results fn a.tmps).events P w #[],∃ b o u,e=⟨.cell ⟨b,o,none⟩,false,false⟩/\s.M b o=some u
theorem oT{P:Program}{N:Nat}{σ:List ak}{s:St}{φ:Fr}{a:Act}(f:bg N σ s φ a){fn:Func}{ds:List D}{d:D}(h:sa φ fn.results.toList=some ds)(b:nB ds=some d) :
  ∃ v,(∀ w,(results fn a.tmps).run P w=.ok v w)/\b5 σ s v d/\bM P (results fn a.tmps):=by
 obtain⟨vs,g,c,i⟩:=zW P f h;refine⟨_,λw=>?_,vR b c,?_⟩
 ·have e:(fn.results.mapM (fz a)).run P w=Result.ok vs.toArray w:=by
   rw[qn];simp only[Sem.run_map,g,bj]
  unfold results;rw[aU];refine(b8 (λr=>Result.andThen r _) (Eq.trans ?_ e)).trans ?_
  ·congr 2
  ·simp
 ·unfold results;have e:bM P (fn.results.mapM (fz a)):=by
   rw[qn];exact .map i
  exact .bind e λ_=>.pure
theorem vS.of{P:Program}{fn:Func}{φ:Fr}{ds:List D}{d:D}(h:sa φ fn.results.toList=some ds)(hj:nB ds=some d):vS P fn φ d:=by
 intro N σ s a f;obtain⟨v,h1,h2,c⟩:=oT (P:=P) f h hj;exact⟨v,h2,λw _=>⟨h1 w,λe b=>by rw[c w #[]] at b;simp at b⟩⟩
theorem ag.jF{σ:List ak}{s:St}(h:ag σ s):ag (σ.map λ_=>.dead) s:=by
 refine⟨h.mem,by simp[h.len],λl B L a c=>?_,h.eE,h.lt,h.own⟩
 simp only[kM] at a;cases b:σ[l]? with
 |none=>rw[b] at a;cases a
 |some x=>rw[b] at a;cases a;trivial
structure IQ (ls:List Nat)(s s':St):Prop where
 β:s'.β=s.β
 M:s'.M=s.M
 own:s'.own=s.own
 size:s.w.heap.size<=s'.w.heap.size
 ee:∀ b,(s.own b∨∃ (l:Nat) (L:Loc),s.β[l]?=some L/\l∉ls/\b∈L.bs)->s'.w.heap[b]?=s.w.heap[b]?
 mem:∀ b o v,s.M b o=some v->s'.w.cell? ⟨b,o,none⟩=some v
 os:s'.w.os=s.w.os
 tape:s'.w.tape=s.w.tape
 output:s'.w.output=s.w.output
theorem aX.Ti{s s':St}(h:aX s s')(a:List Nat):IQ a s s' :=
 ⟨h.β,h.M,h.own,h.size,λb d=>h.ee b (d.imp id λ⟨l,L,h1,_,c⟩=>⟨L,aG h1,c⟩),h.mem,h.os,h.tape,h.output⟩
theorem IQ.cat{l:Nat}{e:List Nat}{s f s2:St}(h:IQ [l] s f)(k:IQ e f s2):IQ (l::e) s s2:=by
 refine⟨k.β.trans h.β,k.M.trans h.M,k.own.trans h.own,gd h.size k.size,λb d=>?_,λb o v g=>k.mem b o v (by rw[h.M];exact g),k.os.trans h.os,k.tape.trans h.tape,k.output.trans h.output⟩
 rw[k.ee b,h.ee b (d.imp id λ⟨l',L,h1,h2,c⟩=>⟨l',L,h1,λa=>h2 (by simp at a;simp[a]),c⟩)]
 rw[h.own,h.β];exact d.imp id λ⟨l',L,h1,h2,c⟩=>⟨l',L,h1,λa=>h2 (mT _ a),c⟩
theorem Dk{P:Program}{w:World}{r:Nat}(a:w.heap[r]?=some (.deferred (some []))) :
  (Instr.takeDeferred r).run P w=.ok [] { w with heap:=w.heap.setIfInBounds r (.deferred none) }/\(Instr.takeDeferred r).events P w #[]=#[⟨.obj r,false,false⟩,⟨.obj r,true,false⟩]:=by
 have b:(getObj r).run P w=.ok (.deferred (some [])) w:=by simp only[getObj,Sem.run,a]
 have e:(setObj r (.deferred none)).run P w=.ok () { w with heap:=w.heap.setIfInBounds r (.deferred none) }:=by simp only[setObj,Sem.run,a]
 have d:∀ es,(getObj r).events P w es=es.push ⟨.obj r,false,false⟩:=λes=>by simp only[getObj,Sem.events,Sem.runT,a];rfl
 have c:∀ es,(setObj r (.deferred none)).events P w es=es.push ⟨.obj r,true,false⟩:=λes=>by simp only[setObj,Sem.events,Sem.runT,a];rfl
 constructor
 ·simp[Instr.takeDeferred,b,e]
 ·simp[Instr.takeDeferred,b,d,c]
variable {P:Program}{X:Cx P}{S:Goroutine->St->Prop}{cs:List Frame}{main:Bool}
theorem GX{a:Frame}{r:Nat}{ds:List Deferred}{w:World}(f:a.mode=.returning)(b:a.defers={ target:=.collected r,args:=#[] }::ds)(c:w.heap[r]?=some (.deferred (some []))) :
  stepG P main (G a cs) w=.go (G { a with defers:=ds } cs) { w with heap:=w.heap.setIfInBounds r (.deferred none) } (seen P a.fn #[⟨.obj r,false,false⟩,⟨.obj r,true,false⟩]):=by
 obtain⟨e,d⟩:=Dk (P:=P) c;simp[G,stepG,unwind,f,b,e,d,GStep.after]
def qz(s:St):List Deferred->List Nat->Prop
 |[],[]=>True
 |d::ds,l::ls=>(∃ r:Nat,s.β[l]?=some ⟨.int .i64 r,[r]⟩/\s.w.heap[r]?=some (.deferred (some []))/\(∀ o,s.M r o=none)/\d={ target:=.collected r,args:=#[] })/\l∉ls/\qz s ds ls
 |_,_=>False
theorem j0.taken{σ:List ak}{s:St}(hh:ag σ s):∀ {ds:List Deferred}{a:List Nat},j0 σ s ds a->qz s ds a
 |[],[],_=>trivial
 |[],_::_,r=>r.elim
 |_::_,[],r=>r.elim
 |d::ds,l::a,⟨⟨h1,L,r,h2,f,c⟩,b,h⟩=>by
  obtain⟨r',k1,g,i⟩:=hh.box l _ L h1 h2;subst k1;simp at f;have e:r'=r:=by omega
  subst e;exact⟨⟨r',h2,g,i,c⟩,b,j0.taken hh h⟩
theorem qz.mono{s s':St}{c:Nat}(h:IQ [c] s s'):∀ {ds:List Deferred}{b:List Nat},c∉b->qz s ds b->qz s' ds b
 |[],[],_,_=>trivial
 |[],_::_,_,r=>r.elim
 |_::_,[],_,r=>r.elim
 |d::ds,l::b,a,⟨⟨r,h1,h2,i,g⟩,f,j⟩=>by
  simp only[dy,not_or] at a;refine⟨⟨r,by rw[h.β];exact h1,by rw[h.ee r (.inr ⟨l,_,h1,by simp;exactλe=>a.1 e.symm,by simp⟩)];exact h2,λo=>by rw[h.M];exact i o,g⟩,f,qz.mono h a.2 j⟩
theorem mY:∀ (A:List Nat)(g:Frame)(s:St)(σ:List ak),ag σ s->(∀ B∈σ,B=.dead)->g.mode=.returning->qz s g.defers A ->
  (∀ s',IQ A s s'->db X S (G { g with defers:=[] } cs) s')->db X S (G g cs) s
 |[],g,s,σ,y,q,E,n,k=>by
  have t:g.defers=[]:=by
   cases t:g.defers with
   |nil=>rfl
   |cons d ds=>rw[t] at n;exact n.elim
  have:=k s ((aX.refl y).Ti _);have e:{ g with defers:=[] }=g:=by cases g;simp_all
  rwa [e] at this
 |l::A,g,s,σ,y,q,E,n,k=>by
  cases t:g.defers with
  |nil=>rw[t] at n;exact n.elim
  |cons d ds =>
   rw[t] at n;obtain⟨⟨r,C,R,Q,V⟩,U,W⟩:=n;subst V;refine .next rfl λi J=>?_
   have f:=X.fG J;have a:=y.rely f;have I:i.β[l]?=some ⟨.int .i64 r,[r]⟩:=by rw[f.β];exact C
   have H:i.w.heap[r]?=some (.deferred (some [])):=by rw[f.ee r (.inr ⟨_,aG C,by simp⟩)];exact R
   have D:∀ o,i.M r o=none:=λo=>by rw[f.M];exact Q o
   let s2:St:={ i with w:={ i.w with heap:=i.w.heap.setIfInBounds r (.deferred none) } }
   have F:∀ b,b≠r->s2.w.heap[b]?=i.w.heap[b]?:=λb c=>by
    show (i.w.heap.setIfInBounds r _)[b]?=_;rw[ic (λe=>c e.symm)]
   have j:∀ b o v,i.M b o=some v->s2.w.cell? ⟨b,o,none⟩=some v:=by
    intro b o v x;have m:b≠r:=by rintro rfl;rw[D] at x;cases x
    rw[<-a.mem b o v x];simp only[World.cell?];rw[F b m]
   have z:ag σ s2:=by
    refine⟨j,a.len,λl' B L T u=>?_,a.eE,λL u b c=>?_,λb c=>⟨?_,(a.own b c).2⟩⟩
    ·rw[q B (aG T)];trivial
    ·have:=a.lt L u b c;simpa[s2] using this
    ·have:=(a.own b c).1;simpa[s2] using this
   have p:∃ L∈i.β,r∈L.bs:=⟨_,aG I,by simp⟩
   have st:Step σ i σ s2:=by
    refine⟨by simp[s2],λb _ c=>F b ?_,λ_ _ _ h=>h,λ_ _ _ _=>rfl,λL u b c=>.inr ⟨L,u,c⟩,λ_ B L h O=>⟨B,L,h,O,.refl _ _⟩,rfl,rfl,rfl,rfl⟩
    rintro rfl;obtain⟨L,u,N⟩:=p;exact c L u N
   have un:IQ [l] s s2:=by
    refine⟨f.β,f.M,f.own,gd f.size (by simp[s2]),λb c=>?_,λb o v x=>j b o v (by rw[f.M];exact x),f.os,f.tape,f.output⟩
    have m:b≠r:=by
     rintro rfl;rcases c with c|⟨l',L',K,p2,p3⟩
     ·exact(y.own b c).2 _ (aG C) (by simp)
     ·exact p2 (by simp;exact y.eE l' l L' _ K C b p3 (by simp))
    rw[F b m];exact f.ee b (c.imp id λ⟨l',L',K,_,p3⟩=>⟨L',aG K,p3⟩)
   refine⟨_,s2,_,GX E t H,⟨⟨σ,σ,a,z,st⟩,eW.seen (.two ?_ ?_)⟩,?_⟩
   ·exact⟨rfl,.inr p⟩
   ·exact⟨rfl,.inr p⟩
   refine mY A { g with defers:=ds } s2 σ z q E (W.mono un U) λs' hu=>?_
   exact k s' (un.cat hu)
end Go.AM
