/-
  Part 1 of a machine of values without memory, proved sound over the model, and of contracts of the functions that the laws reach. Nothing is taken for granted: no condition.
-/
import Derived.Tactics2
import Derived.Conc.Own
import Derived.Conc.Events
import Derived.Conc.Listed
import Derived.Laws.CopyRow
import Derived.Laws.AppendOwn
import Derived.Laws.Rows
import Derived.Laws.Strings
import Derived.Laws.Cells
set_option linter.unusedVariables false
set_option linter.unusedSimpArgs false
set_option linter.defProp false
set_option linter.deprecated false
namespace Go
set_option linter.defProp false
set_option linter.deprecated false
def aj:=@_root_.List.getElem?_eq_getElem
def ab:=@_root_.trivial
def aF:=@_root_.List.getElem?_eq_some_iff
def aH:=@_root_.List.mem_of_getElem?
def az:=@_root_.Int.toNat_natCast
def aD:=@_root_.decide_eq_true_eq
def ah:=@_root_.and_true
def ai:=@_root_.true_and
def bn:=@_root_.Nat.eq_of_beq_eq_true
def bS:=@_root_.List.getElem?_append_left
def aY:=@_root_.decide_eq_false_iff_not
def aq:=@_root_.Nat.le_refl
def bP:=@_root_.Array.getD_eq_getD_getElem?
def bo:=@_root_.List.getElem?_set_self
def ay:=@_root_.Nat.zero_add
def bd:=@_root_.List.length_append
def b0:=@_root_.Array.getElem?_eq_getElem
def bk:=@_root_.Nat.lt_of_lt_of_le
def bh:=@_root_.Go.Result.andThen_ok
def aP:=@_root_.decide_eq_true
def cv:=@_root_.List.getElem?_append_right
def bA:=@_root_.Bool.and_eq_true
def bG:=@_root_.Option.some.injEq
def b7:=@_root_.List.getElem?_set_ne
def aU:=@_root_.Go.Sem.run_bind
def an:=@_root_.if_neg
def bR:=@_root_.decide_eq_false
def ar:=@_root_.if_pos
def c6:=@_root_.Nat.le_of_ble_eq_true
def dC:=@_root_.Nat.lt_succ_iff_lt_or_eq
def bC:=@_root_.Nat.lt_or_ge
def ey:=@_root_.Array.getElem?_eq_some_iff
def cw:=@_root_.Option.getD_some
def fO:=@_root_.List.eq_nil_of_length_eq_zero
def cf:=@_root_.Bool.true_and
def cW:=@_root_.List.take_length
def aQ:=@_root_.if_false
def jF:=@_root_.Array.getElem?_setIfInBounds_self_of_lt
def b8:=@_root_.Go.Sem.run_pure
def dV:=@_root_.List.getElem_of_mem
def dD:=@_root_.List.getElem?_take
def hO:=@_root_.Array.getElem?_setIfInBounds_ne
def dt:=@_root_.List.append_assoc
def eT:=@_root_.Nat.mul_le_mul_right
def fi:=@_root_.List.length_singleton
def eU:=@_root_.beq_eq_false_iff_ne
def aZ:=@_root_.if_true
def dE:=@_root_.List.mem_append
def fj:=@_root_.Array.length_toList
def gd:=@_root_.List.getElem?_toArray
def eW:=@_root_.not_true_eq_false
def fp:=@_root_.List.mem_singleton
def fQ:=@_root_.Bool.false_eq_true
def dF:=@_root_.List.mem_cons
def ft:=@_root_.List.length_cons
def b5:=@_root_.congrArg
def jG:=@_root_.Array.getElem?_replicate
def fR:=@_root_.Nat.not_lt_zero
def eg:=@_root_.Nat.add_zero
def hU:=@_root_.Nat.eq_zero_or_pos
def jH:=@_root_.List.take_append_drop
def jI:=@_root_.List.getElem?_eq_none
def kh:=@_root_.Nat.add_sub_cancel_left
def eh:=@_root_.Nat.add_mul
def jJ:=@_root_.List.mem_of_mem_take
def jK:=@_root_.List.mem_iff_getElem
def gG:=@_root_.Option.map_some
def hX:=@_root_.List.getElem_mem
def iC:=@_root_.Bool.not_eq_true'
def mr:=@_root_.List.findIdx?_eq_none_iff
def gf:=@_root_.Nat.le_trans
def iD:=@_root_.List.length_map
def iE:=@_root_.List.append_nil
def mv:=@_root_.List.getElem?_cons_zero
def ki:=@_root_.of_decide_eq_true
def mx:=@_root_.Option.map_eq_some_iff
def k6:=@_root_.Nat.add_sub_cancel
def kl:=@_root_.Bool.not_eq_true
def iF:=@_root_.List.map_cons
def k7:=@_root_.List.take_add_one
def nO:=@_root_.List.getElem?_cons_succ
def k8:=@_root_.List.ext_getElem?
def k9:=@_root_.Int.emod_eq_of_lt
def kn:=@_root_.List.length_nil
def ko:=@_root_.Bool.or_eq_true
def la:=@_root_.List.length_drop
def pU:=@_root_.Array.toList_setIfInBounds
def nP:=@_root_.Classical.choose_spec
def nQ:=@_root_.Array.mem_of_getElem?
def nR:=@_root_.Array.getElem?_toList
def tq:=@_root_.List.findIdx?_eq_some_iff_getElem
def pV:=@_root_.Array.mapM_eq_mapM_toList
def lb:=@_root_.Option.some.inj
def ld:=@_root_.Bool.eq_iff_iff
def my:=@_root_.List.size_toArray
def nS:=@_root_.List.mem_cons_of_mem
def mz:=@_root_.List.getElem?_map
def nT:=@_root_.Array.toArray_toList
def kp:=@_root_.Prod.mk.injEq
def kq:=@_root_.Nat.add_assoc
def fH:=@_root_.Array.ext'
def kr:=@_root_.Option.bind_some
def jh:=@_root_.List.mapM_cons
def gg:=@_root_.beq_iff_eq
def iq:=@_root_.Nat.mul_comm
def ir:=@_root_.Nat.beq_refl
def iu:=@_root_.Nat.add_comm
def mT:=@_root_.Array.getElem?_push_lt
def b9:=@_root_.ne_eq
def kt:=@_root_.List.foldl_cons
def mU:=@_root_.Bool.and_eq_false_iff
def ku:=@_root_.Bool.false_and
def kx:=@_root_.Bool.and_false
def ji:=@_root_.List.map_nil
def ph:=@_root_.List.mem_or_eq_of_mem_set
def lN:=@_root_.UInt8.toNat_inj
def mV:=@_root_.Option.toList_some
def mW:=@_root_.List.getElem?_drop
def ky:=@_root_.Nat.sub_zero
def lO:=@_root_.List.mem_range
def mX:=@_root_.List.foldl_append
def pj:=@_root_.Array.getElem?_eq_none
def pn:=@_root_.Nat.ble_eq_true_of_le
def jj:=@_root_.Nat.mod_lt
def mY:=@_root_.List.map_append
def po:=@_root_.Nat.mul_le_mul_left
def pq:=@_root_.List.flatMap_append
def mZ:=@_root_.Array.mem_push
def tr:=@_root_.List.pairwise_iff_getElem
def tu:=@_root_.List.drop_eq_getElem_cons
def lP:=@_root_.Nat.zero_le
def lQ:=@_root_.Nat.one_mul
def lR:=@_root_.Nat.mul_one
def pr:=@_root_.List.any_eq_false
def tv:=@_root_.Nat.le_mul_of_pos_right
def pt:=@_root_.List.not_mem_nil
def pv:=@_root_.List.ext_getElem
def m0:=@_root_.getElem!_pos
def tw:=@_root_.List.range_succ_eq_map
def tz:=@_root_.List.length_pos_of_mem
def tA:=@_root_.List.drop_eq_nil_of_le
def pw:=@_root_.List.mem_filter
def tB:=@_root_.List.mem_iff_getElem?
def tC:=@_root_.List.contains_iff_mem
def tD:=@_root_.Array.getElem?_modify
def tE:=@_root_.UInt8.lt_or_lt_of_ne
def px:=@_root_.List.take_zero
def py:=@_root_.Bool.not_false
def tF:=@_root_.Nat.add_sub_cancel'
def tG:=@_root_.List.toList_toArray
def tH:=@_root_.List.flatten_append
def tI:=@_root_.List.findSome?_cons
def tJ:=@_root_.Int.toNat_of_nonneg
def pz:=@_root_.Bool.false_or
end Go
namespace Go.AM
inductive C where
  | int (k:IntKind) (n:Int)
  | bool (b:Bool)
  | str (s:List UInt8)
  | sl (tight:Bool) (k n:Nat) (es:Nat->List C)
  | rp (cs:List C)
  | ll
  | ifs (t:TypeId) (c:C)
  | CG (t:TypeId) (cs:List C)
  | mf
  | fn (f:Fn) (first cap:List C)
  | Az
  | val (x:Value)
inductive BP where
  | sl (g k o n:Nat)
  | el (g k i f:Nat)
def BP.g:BP->Nat
  | .sl g _ _ _=>g
  | .el g _ _ _=>g
def BP.K:BP->Value->Value->Prop
  | .sl _ k o n,lv,v=>∃ a a0 cap c0,v=.slice a n cap/\n<=cap/\o+cap=c0/\c0<=9223372036854775807/\lv=.slice a0 0 c0/\(0<cap->∃ b,a0=some ⟨b,0,none⟩/\a=some ⟨b,o*k,none⟩)
  | .el _ k i f,lv,v=>∃ b c0,lv=.slice (some ⟨b,0,none⟩) 0 c0/\v=.pointer (some ⟨b,i*k+f,none⟩)
inductive A where
  | c (x:C)
  | ptr (l off:Nat)
  | vec (l k n:Nat) (es:Nat->List C)
  | ref (l:Nat)
  | bp (l:Nat) (w:BP)
  | any
abbrev A.v (x:Value):A:=.c (.val x)
inductive E1 where
  | one (a:A)
  | agg (cs:List A)
inductive D where
  | e (x:E1)
  | eY (xs:List E1)
  | any
abbrev Fr:=List (Nat×D)
def look:Fr->Nat->D
  | [],_=>.any
  | (i,d)::r,t=>cond (Nat.beq i t) d (look r t)
inductive ak where
  | cells (E:TypeId) (cs:List A)
  | vec (E:TypeId) (k n:Nat) (es:Nat->List C)
  | eB (H:Value->(Nat->Option Obj)->Prop)
  | dead
  | loop (N:Nat) (φ:Fr) (r:Loop)
  | nN
  | buf (E:TypeId) (k n:Nat) (es:Nat->List C)
@[simp] def ak.gr:ak->Bool
  | .vec _ _ _ _=>true
  | .buf _ _ _ _=>true
  | _=>false
structure Loc where
  v:Value
  bs:List Nat
abbrev Mem:=Nat->Nat->Option Value
structure St where
  β:List Loc
  M:Mem
  w:World
  own:Nat->Prop
def aB:IntKind->Int->Prop
  | .i8,n=>-128<=n/\n<=127
  | .i16,n=>-32768<=n/\n<=32767
  | .i32,n=>-2147483648<=n/\n<=2147483647
  | .i64,n=>-9223372036854775808<=n/\n<=9223372036854775807
  | .u8,n=>0<=n/\n<=255
  | .u16,n=>0<=n/\n<=65535
  | .u32,n=>0<=n/\n<=4294967295
  | .u64,n=>0<=n/\n<=18446744073709551615
def cJ:Value->Bool
  | .agg _|.tuple _=>false
  | _=>true
theorem BP.K.cell {w:BP} {lv v:Value} (h:w.K lv v):cJ v=true:=by
  cases w with
  | sl=>obtain⟨_,_,_,_,rfl,_⟩:=h;rfl
  | el=>obtain⟨_,_,_,rfl⟩:=h;rfl
inductive Rd (M:Mem):Value->C->Prop
  | int {k:IntKind} {n:Int} (h:aB k n):Rd M (.int k n) (.int k n)
  | bool {b:Bool}:Rd M (.bool b) (.bool b)
  | str {s:ByteArray} {l:List UInt8} (h:s.data.toList=l) (hl:l.length<=9223372036854775807):Rd M (.string s) (.str l)
  | sl {a:Option Addr} {n cap:Nat} {tight:Bool} {k:Nat} {es:Nat->List C} (b off:Nat) (f:Nat->Nat->Value)
      (ID:n<=cap) (hb:cap<=9223372036854775807) (ht:tight=true->cap=n) (hk:∀ i,i<n->(es i).length=k)
      (ha:0<n->a=some ⟨b,off,none⟩)
      (hm:∀ i,i<n->∀ j c,(es i)[j]?=some c->M b (off+i*k+j)=some (f i j))
      (hr:∀ i,i<n->∀ j c,(es i)[j]?=some c->Rd M (f i j) c):Rd M (.slice a n cap) (.sl tight k n es)
  | rp {cs:List C} (b off:Nat) (f:Nat->Value)
      (hm:∀ j c,cs[j]?=some c->M b (off+j)=some (f j))
      (hr:∀ j c,cs[j]?=some c->Rd M (f j) c):Rd M (.pointer (some ⟨b,off,none⟩)) (.rp cs)
  | ll:Rd M (.pointer none) .ll
  | ifs {t:TypeId} {v:Value} {c:C} (h:Rd M v c) (hc:cJ v=true):Rd M (.iface t v) (.ifs t c)
  | CG {t:TypeId} {vs:List Value} {cs:List C} (hl:vs.length=cs.length)
      (f:Nat->Value) (hf:∀ j,j<vs.length->vs[j]?=some (f j)) (hr:∀ j c,cs[j]?=some c->Rd M (f j) c):Rd M (.iface t (.agg vs.toArray)) (.CG t cs)
  | mf:Rd M .nilIface .mf
  | fn {g:Fn} {first cap:List C} (fs cs:List Value) (hl:fs.length=first.length) (xE:cs.length=cap.length) (f1 f2:Nat->Value)
      (h1:∀ j,j<fs.length->fs[j]?=some (f1 j)) (h2:∀ j,j<cs.length->cs[j]?=some (f2 j))
      (r1:∀ j c,first[j]?=some c->Rd M (f1 j) c) (r2:∀ j c,cap[j]?=some c->Rd M (f2 j) c):Rd M (.func g fs.toArray cs.toArray) (.fn g first cap)
  | Az:Rd M .nilFunc .Az
  | val {x:Value} (h:cJ x=true):Rd M x (.val x)
theorem Rd.fD {M:Mem} {v x:Value} (h:Rd M v (.val x)):v=x:=by cases h;rfl
theorem Rd.cell {M:Mem} {v:Value} {c:C} (h:Rd M v c):cJ v=true:=by cases h <;> first|rfl|assumption
theorem Rd.mono {M M':Mem} (k:∀ b o v,M b o=some v->M' b o=some v) {v:Value} {c:C} (h:Rd M v c):Rd M' v c:=by
  induction h with
  | int h=>exact .int h
  | bool=>exact .bool
  | str h hl=>exact .str h hl
  | sl b off f d q n l p e g a =>
    exact .sl b off f d q n l p (λi hi j c hj=>k _ _ _ (e i hi j c hj)) (λi hi j c hj=>a i hi j c hj)
  | rp b off f e g a=>exact .rp b off f (λj c hj=>k _ _ _ (e j c hj)) (λj c hj=>a j c hj)
  | ll=>exact .ll
  | ifs h m a=>exact .ifs a m
  | CG hl f r g a=>exact .CG hl f r (λj c hj=>a j c hj)
  | mf=>exact .mf
  | fn fs cs hl xE f1 f2 h1 h2 r1 r2 R0 R2=>exact .fn fs cs hl xE f1 f2 h1 h2 (λj c hj=>R0 j c hj) (λj c hj=>R2 j c hj)
  | Az=>exact .Az
  | val h=>exact .val h
def fz (σ:List ak) (s:St) (v:Value):A->Prop
  | .c x=>Rd s.M v x
  | .ptr l off=>(∀ B,σ[l]?=some B->B.gr=false)/\∃ L b,s.β[l]?=some L/\L.v=.pointer (some ⟨b,0,none⟩)/\v=.pointer (some ⟨b,off,none⟩)
  | .vec l k n es=>Rd s.M v (.sl false k n es)/\l<σ.length/\∀ E k' n' es',σ[l]?=some (ak.vec E k' n' es')->n<=n'/\(n'=n->∃ L,s.β[l]?=some L/\v=L.v)
  | .ref l=>(∀ B,σ[l]?=some B->B.gr=false)/\∃ L,s.β[l]?=some L/\v=L.v/\cJ v=true
  | .bp l w=>∃ a,w.K a v/\l<σ.length/\∀ E k n es,σ[l]?=some (ak.buf E k n es)->w.g<=n/\(w.g=n->∃ L,s.β[l]?=some L/\L.v=a)
  | .any=>cJ v=true
def cA (σ:List ak) (s:St):List Value->List A->Prop
  | [],[]=>True
  | v::vs,a::al=>fz σ s v a/\cA σ s vs al
  | _,_=>False
def k5 (σ:List ak) (s:St) (v:Value):E1->Prop
  | .one a=>fz σ s v a
  | .agg cs=>∃ vs:List Value,v=.agg vs.toArray/\cA σ s vs cs
def eZ (σ:List ak) (s:St):List Value->List E1->Prop
  | [],[]=>True
  | v::vs,a::al=>k5 σ s v a/\eZ σ s vs al
  | _,_=>False
def cd (σ:List ak) (s:St) (v:Value):D->Prop
  | .e x=>k5 σ s v x
  | .eY xs=>∃ vs:List Value,v=.tuple vs.toArray/\eZ σ s vs xs
  | .any=>True
def bX (σ:List ak) (s:St):List Value->List D->Prop
  | [],[]=>True
  | v::vs,a::al=>cd σ s v a/\bX σ s vs al
  | _,_=>False
structure Flat (M:Mem) (k n:Nat) (es:Nat->List C) (vs:List Value):Prop where
  len:vs.length=n*k
  width:∀ i,i<n->(es i).length=k
  rd:∀ i,i<n->∀ (j:Nat) (c:C),(es i)[j]?=some c->∃ v,vs[i*k+j]?=some v/\Rd M v c
theorem Flat.mono {M M':Mem} (a:∀ b o v,M b o=some v->M' b o=some v) {k n:Nat} {es:Nat->List C} {vs:List Value} (h:Flat M k n es vs):Flat M' k n es vs :=
  ⟨h.len,h.width,λi hi j c hj=>let ⟨v,h1,h2⟩:=h.rd i hi j c hj;⟨v,h1,h2.mono a⟩⟩
def dj (σ:List ak) (s:St):ak->Loc->Prop
  | .cells E cs,L=>∃ b vs,L=⟨.pointer (some ⟨b,0,none⟩),[b]⟩/\s.w.heap[b]?=some (.cells (List.toArray vs) E (0,0))/\cA σ s vs cs/\∀ o,s.M b o=none
  | .vec E k n es,L=>Rd s.M L.v (.sl false k n es) /\
      (((L.bs=[]/\n=0)/\Rd s.M L.v (.sl true k n es)) ∨
       ∃ b cap vs,L=⟨.slice (some ⟨b,0,none⟩) n cap,[b]⟩/\s.w.heap[b]?=some (.cells (List.toArray vs) E (0,0))/\vs.length=cap*k/\∀ o,n*k<=o->s.M b o=none)
  | .eB H,L=>∃ c,H L.v c/\(∀ (b:Nat) (o:Obj),c b=some o->s.w.heap[b]?=some o)/\(∀ b,b∈L.bs↔(c b).isSome=true)/\∀ b∈L.bs,∀ o,s.M b o=none
  | .dead,_=>True
  | .loop N φ r,L=>∃ l tmps fn df,L=⟨.func (.yield l) #[] #[],[l]⟩/\s.w.heap[l]?=some (.loop { r with tmps:=tmps,fn:=fn,defers:=df })/\tmps.size=N/\(∀ t,cd σ s (tmps.getD t undef) (look φ t))/\∀ o,s.M l o=none
  | .nN,L=>∃ r:Nat,L=⟨.int .i64 r,[r]⟩/\s.w.heap[r]?=some (.deferred (some []))/\∀ o,s.M r o=none
  | .buf E k n es,L=>(n=0/\L=⟨.slice none 0 0,[]⟩)∨∃ b a vs zs,L=⟨.slice (some ⟨b,0,none⟩) 0 a,[b]⟩/\s.w.heap[b]?=some (.cells (List.toArray (vs++zs)) E (0,0))/\(vs++zs).length=a*k/\n<=a/\a<=9223372036854775807/\Flat s.M k n es vs/\∀ o,s.M b o=none
structure ag (σ:List ak) (s:St):Prop where
  mem:∀ b o v,s.M b o=some v->s.w.cell? ⟨b,o,none⟩=some v
  len:s.β.length=σ.length
  box:∀ (l:Nat) (B:ak) (L:Loc),σ[l]?=some B->s.β[l]?=some L->dj σ s B L
  ez:∀ (l l':Nat) (L L':Loc),s.β[l]?=some L->s.β[l']?=some L'->∀ b∈L.bs,b∈L'.bs->l=l'
  lt:∀ L∈s.β,∀ b∈L.bs,b<s.w.heap.size
  own:∀ b,s.own b->b<s.w.heap.size/\∀ L∈s.β,b∉L.bs
def fX:ak->Loc->ak->Loc->Prop
  | .vec _ _ n _,L,.vec _ _ a _,L'=>(a=n->L'.v=L.v)/\n<=a
  | .vec _ _ _ _,_,.dead,_=>True
  | .vec _ _ _ _,_,_,_=>False
  | .buf _ _ n _,L,.buf _ _ a _,L'=>(a=n->L'.v=L.v)/\n<=a
  | .buf _ _ _ _,_,.dead,_=>True
  | .buf _ _ _ _,_,_,_=>False
  | _,_,.vec _ _ _ _,_=>False
  | _,_,.buf _ _ _ _,_=>False
  | .dead,L,.dead,L'=>L'.v=L.v
  | .dead,_,_,_=>False
  | .nN,L,.nN,L'=>L'.v=L.v
  | .nN,_,_,_=>False
  | _,_,.nN,_=>False
  | _,L,_,L'=>L'.v=L.v
structure Ext (σ:List ak) (s:St) (σ':List ak) (s':St):Prop where
  mem:∀ b o v,s.M b o=some v->s'.M b o=some v
  box:∀ (l:Nat) (B:ak) (L:Loc),σ[l]?=some B->s.β[l]?=some L->∃ B' L',σ'[l]?=some B'/\s'.β[l]?=some L'/\fX B L B' L'
structure Step (σ:List ak) (s:St) (σ':List ak) (s':St):Prop where
  size:s.w.heap.size<=s'.w.heap.size
  en:∀ b,b<s.w.heap.size->(∀ L∈s.β,b∉L.bs)->s'.w.heap[b]?=s.w.heap[b]?
  mem:∀ b o v,s.M b o=some v->s'.M b o=some v
  hZ:∀ b,b<s.w.heap.size->(∀ L∈s.β,b∉L.bs)->∀ o,s'.M b o=s.M b o
  rF:∀ L'∈s'.β,∀ b∈L'.bs,s.w.heap.size<=b∨∃ L∈s.β,b∈L.bs
  box:∀ (l:Nat) (B:ak) (L:Loc),σ[l]?=some B->s.β[l]?=some L->∃ B' L',σ'[l]?=some B'/\s'.β[l]?=some L'/\fX B L B' L'
  os:s'.w.os=s.w.os
  tape:s'.w.tape=s.w.tape
  output:s'.w.output=s.w.output
  own:s'.own=s.own
structure bD (σ:List ak) (s:St) (σ':List ak) (s':St):Prop where
  size:s.w.heap.size<=s'.w.heap.size
  en:∀ b,s.own b->s'.w.heap[b]?=s.w.heap[b]?
  mem:∀ b o v,s.M b o=some v->s'.M b o=some v
  hZ:∀ b,b<s.w.heap.size->(∀ L∈s.β,b∉L.bs)->∀ o,s'.M b o=s.M b o
  rF:∀ L'∈s'.β,∀ b∈L'.bs,s.w.heap.size<=b∨∃ L∈s.β,b∈L.bs
  box:∀ (l:Nat) (B:ak) (L:Loc),σ[l]?=some B->s.β[l]?=some L->∃ B' L',σ'[l]?=some B'/\s'.β[l]?=some L'/\fX B L B' L'
  os:s'.w.os=s.w.os
  tape:s'.w.tape=s.w.tape
  output:s'.w.output=s.w.output
  own:s'.own=s.own
structure aX (s s':St):Prop where
  β:s'.β=s.β
  M:s'.M=s.M
  own:s'.own=s.own
  size:s.w.heap.size<=s'.w.heap.size
  en:∀ b,(s.own b∨∃ L∈s.β,b∈L.bs)->s'.w.heap[b]?=s.w.heap[b]?
  mem:∀ b o v,s.M b o=some v->s'.w.cell? ⟨b,o,none⟩=some v
  os:s'.w.os=s.w.os
  tape:s'.w.tape=s.w.tape
  output:s'.w.output=s.w.output
def lf (s:St) (e:Event):Prop :=
  match e.loc with
  | .cell a=>e.sync=false/\a.spot=none/\(False∨((∃ L∈s.β,a.block∈L.bs)/\(e.write=true->s.M a.block a.off=none))∨(e.write=false/\∃ v,s.M a.block a.off=some v))
  | .obj r=>e.sync=false/\(False∨∃ L∈s.β,r∈L.bs)
  | .mark m=>m=.noRoom∨∃ f,m=.extern f
  | _=>False
def eP (s:St) (es:Array Event):Prop:=∀ e∈es,lf s e
theorem eP.nil {s:St}:eP s #[]:=by intro e h;simp at h
theorem fX.refl (B:ak) (L:Loc):fX B L B L:=by cases B <;> simp[fX]
theorem fX.trans {B B' NS:ak} {L L' Qx:Loc} (h:fX B L B' L') (b:fX B' L' NS Qx):fX B L NS Qx:=by
  cases B <;> cases B' <;> cases NS <;> simp_all [fX]
  all_goals
    obtain⟨h1,h2⟩:=h;obtain⟨a,c⟩:=b;refine⟨λe=>?_,by omega⟩
    rw[a (by omega),h1 (by omega)]
theorem Step.refl (σ:List ak) (s:St):Step σ s σ s :=
  ⟨aq _,λ_ _ _=>rfl,λ_ _ _ h=>h,λ_ _ _ _=>rfl,λL h b a=>.inr ⟨L,h,a⟩,λ_ B L h c=>⟨B,L,h,c,.refl _ _⟩,rfl,rfl,rfl,rfl⟩
theorem Step.trans {σ σ1 σ2:List ak} {s g s2:St} (h:Step σ s σ1 g) (k:Step σ1 g σ2 s2):Step σ s σ2 s2:=by
  have out:∀ b,b<s.w.heap.size->(∀ L∈s.β,b∉L.bs)->∀ L∈g.β,b∉L.bs:=by
    intro b a c L d f;rcases h.rF L d b f with h1|⟨p,m,e⟩
    · omega
    · exact c p m e
  refine⟨gf h.size k.size,?_,λb o v t=>k.mem _ _ _ (h.mem _ _ _ t),?_,?_,?_,k.os.trans h.os,k.tape.trans h.tape,k.output.trans h.output,k.own.trans h.own⟩
  · intro b a c
    rw[k.en b (bk a h.size) (out b a c),h.en b a c]
  · intro b a c o
    rw[k.hZ b (bk a h.size) (out b a c),h.hZ b a c]
  · intro L d b a
    rcases k.rF L d b a with h1|⟨L1,j,i⟩
    · exact .inl (gf h.size h1)
    · exact h.rF L1 j b i
  · intro l B L n d
    obtain⟨B1,L1,h1,h2,r⟩:=h.box l B L n d;obtain⟨u,y,k1,q,x⟩:=k.box l B1 L1 h1 h2;exact⟨u,y,k1,q,r.trans x⟩
theorem bD.refl (σ:List ak) (s:St):bD σ s σ s :=
  ⟨aq _,λ_ _=>rfl,λ_ _ _ h=>h,λ_ _ _ _=>rfl,λL h b a=>.inr ⟨L,h,a⟩,λ_ B L h c=>⟨B,L,h,c,.refl _ _⟩,rfl,rfl,rfl,rfl⟩
theorem bD.trans {σ σ1 σ2:List ak} {s g s2:St} (h:bD σ s σ1 g) (k:bD σ1 g σ2 s2):bD σ s σ2 s2:=by
  have out:∀ b,b<s.w.heap.size->(∀ L∈s.β,b∉L.bs)->∀ L∈g.β,b∉L.bs:=by
    intro b a d L c f;rcases h.rF L c b f with h1|⟨p,m,e⟩
    · omega
    · exact d p m e
  refine⟨gf h.size k.size,?_,λb o v t=>k.mem _ _ _ (h.mem _ _ _ t),?_,?_,?_,k.os.trans h.os,k.tape.trans h.tape,k.output.trans h.output,k.own.trans h.own⟩
  · intro b a
    rw[k.en b (by rw[h.own];exact a),h.en b a]
  · intro b a d o
    rw[k.hZ b (bk a h.size) (out b a d),h.hZ b a d]
  · intro L c b a
    rcases k.rF L c b a with h1|⟨L1,j,i⟩
    · exact .inl (gf h.size h1)
    · exact h.rF L1 j b i
  · intro l B L n c
    obtain⟨B1,L1,h1,h2,r⟩:=h.box l B L n c;obtain⟨u,y,k1,q,x⟩:=k.box l B1 L1 h1 h2;exact⟨u,y,k1,q,r.trans x⟩
theorem Step.mH {σ σ':List ak} {s s':St} (hh:ag σ s) (h:Step σ s σ' s'):bD σ s σ' s' :=
  ⟨h.size,λb a=>h.en b (hh.own b a).1 (hh.own b a).2,h.mem,h.hZ,h.rF,h.box,h.os,h.tape,h.output,h.own⟩
theorem bD.ext {σ σ':List ak} {s s':St} (h:bD σ s σ' s'):Ext σ s σ' s':=⟨h.mem,h.box⟩
theorem aX.refl {σ:List ak} {s:St} (hh:ag σ s):aX s s:=⟨rfl,rfl,rfl,aq _,λ_ _=>rfl,hh.mem,rfl,rfl,rfl⟩
theorem aX.stepW {σ:List ak} {s s':St} (h:aX s s'):bD σ s σ s' :=
  ⟨h.size,λb a=>h.en b (.inl a),λb o v e=>by rw[h.M];exact e,λ_ _ _ _=>by rw[h.M],λL c b a=>.inr ⟨L,by rw[<-h.β];exact c,a⟩,
    λl B L d c=>⟨B,L,d,by rw[h.β];exact c,.refl _ _⟩,h.os,h.tape,h.output,h.own⟩
theorem Step.ext {σ σ':List ak} {s s':St} (h:Step σ s σ' s'):Ext σ s σ' s':=⟨h.mem,h.box⟩
section mono
variable {σ σ':List ak} {s s':St}
theorem Ext.F6 (h:Ext σ s σ' s') {l:Nat} {L:Loc} (b:s.β[l]?=some L) (hl:s.β.length=σ.length) (d:∀ B,σ[l]?=some B->B.gr=false) :
    (∀ B,σ'[l]?=some B->B.gr=false)/\∃ L',s'.β[l]?=some L'/\L'.v=L.v:=by
  have a:l<σ.length:=by rw[<-hl];exact(aF.1 b).1
  obtain⟨B',L',k1,e,f⟩:=h.box l (σ[l]) L (aj a) b;have c:=d _ (aj a);generalize σ[l]=B at *;rw[k1];cases B <;> cases B' <;> simp_all [fX,ak.gr]
theorem fz.mono (h:Ext σ s σ' s') (hl:s.β.length=σ.length) {v:Value} {a:A} (r:fz σ s v a):fz σ' s' v a:=by
  cases a with
  | c x=>exact Rd.mono h.mem r
  | any=>exact r
  | ptr l off =>
    obtain⟨z,L,b,h1,h2,q⟩:=r;obtain⟨i,L',k1,g⟩:=h.F6 h1 hl z;exact⟨i,L',b,k1,by rw[g,h2],q⟩
  | vec l k n es =>
    obtain⟨y,f,p⟩:=r;obtain⟨B',L',k1,g,j⟩:=h.box l (σ[l]) (s.β[l]'(by omega)) (aj f) (aj (by omega))
    have d:l<σ'.length:=(aF.1 k1).1;refine⟨Rd.mono h.mem y,d,λE k' i es' he=>?_⟩
    rw[he] at k1;cases k1;have o:=aj f;generalize σ[l]=B at *;cases B with
    | vec E0 k0 n0 Qy =>
      obtain⟨u,C⟩:=j;obtain⟨D,p2⟩:=p _ _ _ _ o;refine⟨by omega,λe=>?_⟩
      obtain⟨L,m,t⟩:=p2 (by omega)
      rw[aj (by omega)] at m
      cases m;exact⟨L',g,by rw[u (by omega),t]⟩
    | _=>simp[fX] at j
  | ref l =>
    obtain⟨z,L,h1,h2,q⟩:=r;obtain⟨i,L',k1,g⟩:=h.F6 h1 hl z;exact⟨i,L',k1,by rw[g,h2],q⟩
  | bp l w =>
    obtain⟨lv,y,f,p⟩:=r;obtain⟨B',L',k1,g,j⟩:=h.box l (σ[l]) (s.β[l]'(by omega)) (aj f) (aj (by omega))
    have d:l<σ'.length:=(aF.1 k1).1;refine⟨lv,y,d,λE k' i es' he=>?_⟩
    rw[he] at k1;cases k1;have o:=aj f;generalize σ[l]=B at *;cases B with
    | buf E0 k0 n0 Qy =>
      obtain⟨u,C⟩:=j;obtain⟨D,p2⟩:=p _ _ _ _ o;refine⟨by omega,λe=>?_⟩
      obtain⟨L,m,t⟩:=p2 (by omega)
      rw[aj (by omega)] at m
      cases m;exact⟨L',g,by rw[u (by omega),t]⟩
    | _=>simp[fX] at j
theorem cA.mono (h:Ext σ s σ' s') (hl:s.β.length=σ.length) {vs:List Value} {cs:List A} (r:cA σ s vs cs):cA σ' s' vs cs:=by
  induction vs generalizing cs with
  | nil=>cases cs <;> simp_all [cA]
  | cons v vs ih =>
    cases cs with
    | nil=>simp[cA] at r
    | cons a cs=>exact⟨r.1.mono h hl,ih r.2⟩
theorem k5.mono (h:Ext σ s σ' s') (hl:s.β.length=σ.length) {v:Value} {x:E1} (r:k5 σ s v x):k5 σ' s' v x:=by
  cases x with
  | one a=>exact fz.mono h hl r
  | agg cs=>obtain⟨vs,h1,h2⟩:=r;exact⟨vs,h1,h2.mono h hl⟩
theorem eZ.mono (h:Ext σ s σ' s') (hl:s.β.length=σ.length) {vs:List Value} {xs:List E1} (r:eZ σ s vs xs):eZ σ' s' vs xs:=by
  induction vs generalizing xs with
  | nil=>cases xs <;> simp_all [eZ]
  | cons v vs ih =>
    cases xs with
    | nil=>simp[eZ] at r
    | cons a cs=>exact⟨r.1.mono h hl,ih r.2⟩
theorem cd.mono (h:Ext σ s σ' s') (hl:s.β.length=σ.length) {v:Value} {d:D} (r:cd σ s v d):cd σ' s' v d:=by
  cases d with
  | e x=>exact k5.mono h hl r
  | eY xs=>obtain⟨vs,h1,h2⟩:=r;exact⟨vs,h1,h2.mono h hl⟩
  | any=>trivial
theorem bX.mono (h:Ext σ s σ' s') (hl:s.β.length=σ.length) {vs:List Value} {xs:List D} (r:bX σ s vs xs):bX σ' s' vs xs:=by
  induction vs generalizing xs with
  | nil=>cases xs <;> simp_all [bX]
  | cons v vs ih =>
    cases xs with
    | nil=>simp[bX] at r
    | cons a cs=>exact⟨r.1.mono h hl,ih r.2⟩
end mono
def kW (σ:List ak) (s:St):List Deferred->List Nat->Prop
  | [],[]=>True
  | d::ds,l::ls=>(σ[l]?=some .nN/\∃ (L:Loc) (r:Nat),s.β[l]?=some L/\L.v=.int .i64 r/\d={ target:=.collected r,args:=#[] })/\l∉ls/\kW σ s ds ls
  | _,_=>False
theorem kW.mono {σ σ':List ak} {s s':St} (h:Ext σ s σ' s'):∀ {ds:List Deferred} {a:List Nat},kW σ s ds a->kW σ' s' ds a
  | [],[],_=>trivial
  | [],_::_,r=>r.elim
  | _::_,[],r=>r.elim
  | d::ds,l::a,⟨⟨h1,L,r,h2,f,c⟩,i,g⟩=>by
    obtain⟨B',L',k1,e,b⟩:=h.box l _ L h1 h2;cases B' <;> simp[fX] at b
    exact⟨⟨k1,L',r,e,by rw[b,f],c⟩,i,kW.mono h g⟩
def jZ:List ak->Bool
  | []=>true
  | .nN::_=>false
  | _::r=>jZ r
theorem lY:∀ {l:List ak},jZ l=true->∀ B∈l,B≠.nN
  | [],_,B,a=>by simp at a
  | b::r,h,B,a=>by
    have c:b≠.nN/\jZ r=true:=by cases b <;> simp_all [jZ]
    rcases dF.1 a with rfl|a
    · exact c.1
    · exact lY c.2 B a
theorem iP {s:St} {r:Nat} {wr:Bool} {L:Loc} (b:L∈s.β) (a:r∈L.bs):lf s ⟨.obj r,wr,false⟩:=⟨rfl,.inr ⟨L,b,a⟩⟩
theorem eP.one {s:St} {e:Event} (h:lf s e):eP s #[e]:=by intro x a;simp at a;subst a;exact h
theorem eP.two {s:St} {e a:Event} (h:lf s e) (c:lf s a):eP s #[e,a]:=by
  intro x b;simp at b;rcases b with rfl|rfl <;> assumption
end Go.AM
namespace Go.AM
open Go.Conc (G listed)
def mD(s s':St)(es:Array Event):Prop:=(∃ σ σ',ag σ s/\ag σ' s'/\Step σ s σ' s')/\eP s es
structure Cx (P:Program) where
 main:Bool
 rely:St->St->Prop
 rG:Goroutine->St->(Goroutine->St->Prop)->Prop
 fC:∀ {s s'},rely s s'->aX s s'
 vh:Prop
class Cx.sc {P:Program} (X:Cx P):Prop where
 ok:X.vh
structure eX (s s':St):Prop where
 w:s'.w=s.w
 mem:∀ b o v,s.M b o=some v->s'.M b o=some v
 hZ:∀ b,(∀ L∈s.β,b∉L.bs)->∀ o,s'.M b o=s.M b o
 cell:∀ b o v,s'.M b o=some v->s.w.cell? ⟨b,o,none⟩=some v
 blk:∀ b,(s'.own b∨∃ L∈s'.β,b∈L.bs)->s.own b∨∃ L∈s.β,b∈L.bs
structure lj (s s':St):Prop where
 w:s'.w=s.w
 β:s'.β=s.β
 own:s'.own=s.own
 less:∀ b o v,s'.M b o=some v->s.M b o=some v
 mem:∀ b o v,s.M b o=some v->s'.M b o=some v∨s.own b
inductive dk {P:Program} (X:Cx P) (S:Goroutine->St->Prop):Goroutine->St->Prop
 |stop {g:Goroutine} {s:St}:S g s->dk X S g s
 |step {g:Goroutine} {s:St} (ng:St->Goroutine) (ns:St->St) (ne:St->Array Event):g.status=.running ->
   (∀ s1,X.rely s s1->stepG P X.main g s1.w=.go (ng s1) (ns s1).w (ne s1))->(∀ s1,X.rely s s1->mD s1 (ns s1) (ne s1))->(∀ s1,X.rely s s1->dk X S (ng s1) (ns s1))->dk X S g s
 |ghost {g:Goroutine} {s s':St}:eX s s'->dk X S g s'->dk X S g s
 |forget {g:Goroutine} {s s':St}:X.vh->lj s s'->dk X S g s'->dk X S g s
 |rG {g:Goroutine} {s:St} {T:Goroutine->St->Prop}:X.rG g s T->(∀ g' s',T g' s'->dk X S g' s')->dk X S g s
section
variable {P:Program}{X:Cx P}{S:Goroutine->St->Prop}
theorem dk.next{g:Goroutine}{s:St}(f:g.status=.running)(h:∀ c,X.rely s c->∃ g' s' es,stepG P X.main g c.w=.go g' s'.w es/\mD c s' es/\dk X S g' s'):dk X S g s:=by
 classical
 have hh:∀ c,∃ r:Goroutine×St×Array Event,X.rely s c->stepG P X.main g c.w=.go r.1 r.2.1.w r.2.2/\mD c r.2.1 r.2.2/\dk X S r.1 r.2.1:=by
  intro c
  by_cases d:X.rely s c
  ·obtain⟨g',s',es,h1⟩:=h c d;exact⟨(g',s',es),λ_=>h1⟩
  ·exact⟨(g,c,#[]),λe=>absurd e d⟩
 refine .step (λc=>(Classical.choose (hh c)).1) (λc=>(Classical.choose (hh c)).2.1) (λc=>(Classical.choose (hh c)).2.2) f ?_ ?_ ?_
 ·exactλc d=>(nP (hh c) d).1
 ·exactλc d=>(nP (hh c) d).2.1
 ·exactλc d=>(nP (hh c) d).2.2
theorem eX.of{σ σ':List ak}{s s':St}(hh:ag σ s)(d:ag σ' s')(f:s'.w=s.w)(st:bD σ s σ' s'):eX s s':=by
 have g:∀ b o v,s'.M b o=some v->s.w.cell? ⟨b,o,none⟩=some v:=λb o v h=>by rw[<-f];exact d.mem b o v h
 have e:∀ b o v,s.w.cell? ⟨b,o,none⟩=some v->b<s.w.heap.size:=by
  intro b o v h;rcases bC b s.w.heap.size with h1|h1
  ·exact h1
  ·simp[World.cell?,pj h1] at h
 refine⟨f,st.mem,λb c o=>?_,g,λb c=>?_⟩
 ·rcases bC b s.w.heap.size with h1|h1
  ·exact st.hZ b h1 c o
  ·cases h2:s'.M b o with
   |some v=>have:=e _ _ _ (g _ _ _ h2);omega
   |none=>cases j:s.M b o with
    |none=>rfl
    |some v=>have:=e _ _ _ (hh.mem _ _ _ j);omega
 ·rcases c with c|⟨L,i,c⟩
  ·exact .inl (by rw[<-st.own];exact c)
  ·rcases st.rF L i b c with h1|h1
   ·have:=d.lt L i b c;rw[f] at this;omega
   ·exact .inr h1
theorem ag.rely{σ:List ak}{s s':St}(hh:ag σ s)(h:aX s s'):ag σ s':=by
 have ex:Ext σ s σ s':=h.stepW.ext;have D:∀ v a,fz σ s v a->fz σ s' v a:=λv a r=>r.mono ex hh.len
 refine⟨λb o v C=>h.mem b o v (by rw[<-h.M];exact C),by rw[h.β];exact hh.len,?_,by rw[h.β];exact hh.ez,?_,?_⟩
 ·intro l B L p g;rw[h.β] at g;have c:=hh.box l B L p g;have f:∀ b∈L.bs,s'.w.heap[b]?=s.w.heap[b]?:=λb c=>h.en b (.inr ⟨L,aH g,c⟩)
  cases B with
  |cells E cs =>
   obtain⟨b,vs,h1,h2,d,e⟩:=c;subst h1;exact⟨b,vs,rfl,by rw[f b (by simp),h2],d.mono ex hh.len,λo=>by rw[h.M,e]⟩
  |vec E k n es =>
   obtain⟨h1,h2⟩:=c;refine⟨by rw[h.M];exact h1,?_⟩
   rcases h2 with⟨h2,d⟩|⟨b,cap,vs,h2,d,e,i⟩
   ·exact .inl ⟨h2,by rw[h.M];exact d⟩
   ·subst h2;exact .inr ⟨b,cap,vs,rfl,by rw[f b (by simp),d],e,λo z=>by rw[h.M,i o z]⟩
  |eB H =>
   obtain⟨ch,h1,h2,d,e⟩:=c;refine⟨ch,h1,λb o j=>?_,d,λb m o=>by rw[h.M,e b m]⟩
   rw[f b ((d b).2 (by simp[j])),h2 b o j]
  |dead=>trivial
  |loop N φ r =>
   obtain⟨l,tmps,fn,x,h1,h2,d,e,i⟩:=c;subst h1;exact⟨l,tmps,fn,x,rfl,by rw[f l (by simp),h2],d,λt=>(e t).mono ex hh.len,λo=>by rw[h.M,i]⟩
  |nN =>
   obtain⟨r,h1,h2,d⟩:=c;subst h1;exact⟨r,rfl,by rw[f r (by simp),h2],λo=>by rw[h.M,d]⟩
  |buf E k n es =>
   rcases c with c|⟨b,q,vs,u,h1,h2,d,e,i,y,A⟩
   ·exact .inl c
   ·subst h1;exact .inr ⟨b,q,vs,u,rfl,by rw[f b (by simp),h2],d,e,i,by rw[h.M];exact y,λo=>by rw[h.M,A]⟩
 ·intro L g b c;rw[h.β] at g;exact bk (hh.lt L g b c) h.size
 ·intro b c;rw[h.own] at c;rw[h.β];exact⟨bk (hh.own b c).1 h.size,(hh.own b c).2⟩
theorem mD.quiet{σ:List ak}{s:St}(hh:ag σ s):mD s s #[]:=⟨⟨σ,σ,hh,hh,.refl _ _⟩,.nil⟩
def _root_.Go.Frame.aT(b:Frame)(a:Act)(todo:List Item):Frame:={ b with tmps:=a.tmps,todo:=todo,defers:=a.defers++b.defers,mode:=.run }
variable {b:Frame}{a:Act}{k:List Item}{cs:List Frame}{w:World}{main:Bool}
theorem zg(b:Frame)(a:Act)(c:List Item):(b.aT a c).eval=a.eval:=by funext x;cases x <;> rfl
theorem zh:stepG P main (G (b.aT a (.code .skip::k)) cs) w=.go (G (b.aT a k) cs) w:=by simp[G,stepG,stepG.exec,Frame.aT]
theorem mE{id:Nat}:stepG P main (G (b.aT a (.inBlock id::k)) cs) w=.go (G (b.aT a k) cs) w:=by simp[G,stepG,stepG.exec,Frame.aT]
theorem kz{x y:Code}:stepG P main (G (b.aT a (.code (.seq x y)::k)) cs) w=.go (G (b.aT a (.code x::.code y::k)) cs) w:=by simp[G,stepG,stepG.exec,Frame.aT]
theorem pA{c:Operand}{x y:Code}{t:Bool}(h:a.eval c=.bool t) :
  stepG P main (G (b.aT a (.code (.cond c x y)::k)) cs) w=.go (G (b.aT a (.code (if t then x else y)::k)) cs) w:=by
 have d:(b.aT a (.code (.cond c x y)::k)).eval c=.bool t:=by rw[zg];exact h
 simp only[Frame.aT] at d;simp[G,stepG,stepG.exec,Frame.aT,d]
theorem m4{id:Nat}{c:Code}:stepG P main (G (b.aT a (.code (.block id c)::k)) cs) w=.go (G (b.aT a (.code c::.inBlock id::k)) cs) w:=by simp[G,stepG,stepG.exec,Frame.aT]
theorem zi{c:Code}:stepG P main (G (b.aT a (.code (.loop c)::k)) cs) w=.go (G (b.aT a (.code c::.inLoop c::k)) cs) w:=by simp[G,stepG,stepG.exec,Frame.aT]
theorem sd{c:Code}:stepG P main (G (b.aT a (.inLoop c::k)) cs) w=.go (G (b.aT a (.code c::.inLoop c::k)) cs) w:=by simp[G,stepG,stepG.exec,Frame.aT]
theorem tN{id:Nat}{k':List Item}(h:exitTo id k=some k'):stepG P main (G (b.aT a (.code (.exit id)::k)) cs) w=.go (G (b.aT a k') cs) w:=by simp[G,stepG,stepG.exec,Frame.aT,h]
theorem lU{id:Nat}{ops:Array Oper}:stepG P main (G (b.aT a (.code (.region id ops false)::k)) cs) w=.go (G (b.aT a (.inRegion ops (List.range ops.size)::k)) cs) w:=by simp[G,stepG,stepG.exec,Frame.aT]
theorem iJ{id:Nat}{ops:Array Oper}:stepG P main (G (b.aT a (.code (.region id ops true)::k)) cs) w =
  .go (G (b.aT a (.inRegion ops (Region.schedule (P.follows .mixedOrders) ops (w.tape w.drawn (.order b.fn id)))::k)) cs) { w with drawn:=w.drawn+1 }:=by
 simp[G,stepG,stepG.exec,Frame.aT,choose,Sem.run,Question.forced,Question.cut]
theorem et{ops:Array Oper}:stepG P main (G (b.aT a (.inRegion ops []::k)) cs) w=.go (G (b.aT a k) cs) w:=by simp[G,stepG,stepG.exec,Frame.aT]
theorem Cm(h:b.roundOf=none):stepG P main (G (b.aT a (.code .ret::k)) cs) w=.go (G { b.aT a (.code .ret::k) with mode:=.returning } cs) w:=by simp[G,stepG,stepG.exec,Frame.aT,h]
theorem Cn(h:b.roundOf=none):stepG P main (G (b.aT a []) cs) w=.go (G { b.aT a [] with mode:=.returning } cs) w:=by simp[G,stepG,stepG.exec,Frame.aT,h]
theorem jV(ops:Array Oper)(i:Nat)(rest:List Nat)(v:Value) :
  (b.aT a (.inRegion ops (i::rest)::k)).finish v=b.aT (a.put ((ops[i]?).bind (·.dst)) v) (.inRegion ops rest::k):=by
 cases h:(ops[i]?).bind (·.dst) <;> simp[Frame.finish,Frame.aT,Act.put,h]
theorem F4{ops:Array Oper}{i:Nat}{rest:List Nat}{o:Oper}(d:ops[i]?=some o)(e:Region.wanted o (yielded ops a.tmps)=false) :
  stepG P main (G (b.aT a (.inRegion ops (i::rest)::k)) cs) w=.go (G (b.aT (a.put o.dst undef) (.inRegion ops rest::k)) cs) w:=by
 have c:=jV (b:=b) (a:=a) (k:=k) ops i rest undef;rw[d] at c;simp only[kr] at c;rw[<-c];simp[G,stepG,stepG.exec,Frame.aT,d,e]
theorem m5{f:Operand->Value}{o:Oper}{c:Call}(h:o.op=.defer c){i:Next}{w':World}(e:(execOp f o).run P w=.ok i w'):∃ d,i=.defer d:=by
 simp only[execOp,h,aU] at e;cases g:(resolve f c o.type).run P w with
 |ok d w2=>rw[g] at e;simp at e;exact⟨_,e.1.symm⟩
 |halt x w2=>rw[g] at e;simp at e
theorem pB{ops:Array Oper}{i:Nat}{rest:List Nat}{o:Oper}(f:ops[i]?=some o)(h:Region.wanted o (yielded ops a.tmps)=true)(g:∀ c,o.op≠.defer c) :
  stepG P main (G (b.aT a (.inRegion ops (i::rest)::k)) cs) w=stepG.apply P true (b.aT a (.inRegion ops (i::rest)::k)) cs none (execOp a.eval o) w:=by
 have e:=zg b a (.inRegion ops (i::rest)::k);simp only[Frame.aT] at e;simp[G,stepG,stepG.exec,stepG.oper,Frame.oper?,Frame.aT,f,h,e];cases j:b.roundOf with
 |none=>rfl
 |some l=>cases d:o.op <;> first|rfl|exact absurd d (g _)
theorem Co{ops:Array Oper}{i:Nat}{rest:List Nat}{o:Oper}{v:Value}{w':World}(h:ops[i]?=some o)(m:Region.wanted o (yielded ops a.tmps)=true)
  (j:b.kind≠.early) (g:(execOp a.eval o).run P w=.ok (.value v) w') :
  stepG P main (G (b.aT a (.inRegion ops (i::rest)::k)) cs) w=.go (G (b.aT (a.put o.dst v) (.inRegion ops rest::k)) cs) w' (listed P b.fn a o w):=by
 have e:=jV (b:=b) (a:=a) (k:=k) ops i rest v;rw[h] at e;simp only[kr] at e;have f:(b.kind==CallKind.early)=false:=by simpa using j
 rw[pB h m (λc l=>by obtain⟨d,n⟩:=m5 l g;cases n),<-e]
 simp[stepG.apply,g,G,Frame.aT,f,GStep.after,listed]
theorem zj{ops:Array Oper}{i:Nat}{rest:List Nat}{o:Oper}{w':World}(h:ops[i]?=some o)(m:Region.wanted o (yielded ops a.tmps)=true)
  (j:b.kind≠.early) (g:(execOp a.eval o).run P w=.ok .skip w') :
  stepG P main (G (b.aT a (.inRegion ops (i::rest)::k)) cs) w=.go (G (b.aT (a.put o.dst undef) (.inRegion ops rest::k)) cs) w' (listed P b.fn a o w):=by
 have e:=jV (b:=b) (a:=a) (k:=k) ops i rest undef;rw[h] at e;simp only[kr] at e;have f:(b.kind==CallKind.early)=false:=by simpa using j
 rw[pB h m (λc l=>by obtain⟨d,n⟩:=m5 l g;cases n),<-e]
 simp[stepG.apply,g,G,Frame.aT,f,GStep.after,listed]
theorem pY{ops:Array Oper}{i:Nat}{rest:List Nat}{o:Oper}{f:FuncId}{args:Array Value}{w':World}(l:ops[i]?=some o)(m:Region.wanted o (yielded ops a.tmps)=true)
  (h:b.kind≠.early) (g:(execOp a.eval o).run P w=.ok (.enter f args) w') :
  stepG P main (G (b.aT a (.inRegion ops (i::rest)::k)) cs) w=.go (G (Frame.enter P f args .normal) (b.aT a (.inRegion ops (i::rest)::k)::cs)) w' (listed P b.fn a o w):=by
 have e:(b.kind==CallKind.early)=false:=by simpa using h
 rw[pB l m (λc j=>by obtain⟨d,n⟩:=m5 j g;cases n)]
 simp[stepG.apply,g,G,Frame.aT,e,GStep.after,listed]
structure tO (P:Program)(f:FuncId)(fr:Frame)(v:Value)(s:St):Prop where
 Rz:fr.fn=f
 mode:fr.mode=.returning
 defers:fr.defers=[]
 kind:fr.kind=.normal
 fn:∃ fn,P.funcs[fr.fn]?=some fn/\∀ w,(∀ b o u,s.M b o=some u->w.cell? ⟨b,o,none⟩=some u)->(results fn fr.tmps).run P w=.ok v w/\∀ e∈(results fn fr.tmps).events P w #[],∃ b o u,e=⟨.cell ⟨b,o,none⟩,false,false⟩/\s.M b o=some u
theorem tO.mono{f:FuncId}{fr:Frame}{v:Value}{s s':St}(h:tO P f fr v s)(c:∀ b o u,s.M b o=some u->s'.M b o=some u):tO P f fr v s':=by
 obtain⟨h1,h2,j,g,fn,n,m⟩:=h;refine⟨h1,h2,j,g,fn,n,λw q=>?_⟩
 obtain⟨k1,i⟩:=m w λb o u l=>q b o u (c b o u l)
 refine⟨k1,λe p=>?_⟩
 obtain⟨b,o,u,r,d⟩:=i e p;exact⟨b,o,u,r,c b o u d⟩
theorem eP.seen{s:St}{es:Array Event}{fn:FuncId}(h:eP s es):eP s (seen P fn es):=λe c=>h e (Go.Conc.mem_seen c)
theorem Cp{f:FuncId}{g c:Frame}{v:Value}{s:St}(h:tO P f g v s)(w:World)(m:∀ b o u,s.M b o=some u->w.cell? ⟨b,o,none⟩=some u):∃ es,stepG P main (G g (c::cs)) w=.go (G (c.finish v) cs) w es/\∀ e∈es,∃ b o u,e=⟨.cell ⟨b,o,none⟩,false,false⟩/\s.M b o=some u:=by
 obtain⟨fn,n,d⟩:=h.fn;obtain⟨j,i⟩:=d w m;refine⟨seen P g.fn ((results fn g.tmps).events P w #[]),?_,λe l=>i e (Go.Conc.mem_seen l)⟩
 simp[G,stepG,unwind,doReturn,h.mode,h.defers,h.kind,n,j,GStep.after]
end
end Go.AM
namespace Go.AM
open Go.Conc (G)
structure br (N:Nat)(σ:List ak)(s:St)(φ:Fr)(a:Act):Prop where
 size:a.tmps.size=N
 defers:∃ ls,kW σ s a.defers ls
 slot:∀ t,cd σ s (a.tmps.getD t undef) (look φ t)
theorem br.mono{N:Nat}{σ σ':List ak}{s s':St}{φ:Fr}{a:Act}(h:bD σ s σ' s')(hl:s.β.length=σ.length)(f:br N σ s φ a):br N σ' s' φ a :=
 ⟨f.size,f.defers.imp λ_ h1=>h1.mono h.ext,λt=>(f.slot t).mono h.ext hl⟩
theorem br.rely{N:Nat}{σ:List ak}{s s':St}{φ:Fr}{a:Act}(h:aX s s')(hh:ag σ s)(f:br N σ s φ a):br N σ s' φ a:=f.mono h.stepW hh.len
theorem br.put{N:Nat}{σ:List ak}{s:St}{φ:Fr}{a:Act}(f:br N σ s φ a){d:Nat}(c:d<N){v:Value}{x:D}(r:cd σ s v x):br N σ s ((d,x)::φ) (a.put (some d) v):=by
 refine⟨by simp[Act.put,f.size],f.defers,λt=>?_⟩
 simp only[Act.put,look]
 by_cases e:d=t
 ·subst e;rw[show Nat.beq d d=true from ir d]
  have g:d<a.tmps.size:=by rw[f.size];exact c
  simp only[bP,jF g,cw,cond];exact r
 ·have:Nat.beq d t=false:=by
   cases h:Nat.beq d t
   ·rfl
   ·exact absurd (bn h) e
  rw[this];have h:=f.slot t;simp only[bP] at h ⊢;rw[hO e];exact h
def nz(φ φ':Fr):Prop:=∀ σ s v t,cd σ s v (look φ t)->cd σ s v (look φ' t)
theorem br.le{N:Nat}{σ:List ak}{s:St}{φ φ':Fr}{a:Act}(h:nz φ φ')(f:br N σ s φ a):br N σ s φ' a :=
 ⟨f.size,f.defers,λt=>h _ _ _ _ (f.slot t)⟩
abbrev Post:=Exit->Fr->List ak->Prop
def ends{P:Program}(X:Cx P)(S:Goroutine->St->Prop)(b:Frame)(k:List Item)(cs:List Frame):Exit->Act->St->Prop
 |.normal,a,s=>dk X S (G (b.aT a k) cs) s
 |.exit id,a,s=>∀ pre,(∀ k',exitTo id (pre++k')=exitTo id k')->dk X S (G (b.aT a (.code (.exit id)::(pre++k))) cs) s
 |.ret,a,s=>∀ pre,dk X S (G (b.aT a (.code .ret::pre)) cs) s
 |.panic ch,a,s=>∀ c,dk X S (G { b.aT a c with mode:=.panicking ch } cs) s
 |_,_,_=>False
section
variable {P:Program}{X:Cx P}{S:Goroutine->St->Prop}{b:Frame}{k:List Item}{cs:List Frame}{a:Act}{s:St}
theorem ends.cons{x:Item}(d:∀ id k',exitTo id (x::k')=exitTo id k'){e:Exit}(c:e≠.normal)(h:ends X S b k cs e a s):ends X S b (x::k) cs e a s:=by
 cases e with
 |normal=>exact absurd rfl c
 |exit id =>
  intro pre hp;have:=h (pre++[x]) (λk'=>by rw[dt,hp];exact d id k')
  simpa using this
 |ret=>exact h
 |panic ch=>exact h
 |goto l=>exact h
 |outgrown=>exact h
theorem dk.ctl{σ:List ak}{g g':Goroutine}(hh:ag σ s)(e:g.status=.running)(d:∀ w,stepG P X.main g w=.go g' w #[])(h:∀ c,aX s c->dk X S g' c):dk X S g s :=
 .next e λc h1=>⟨g',c,#[],d c.w,.quiet (hh.rely (X.fC h1)),h c (X.fC h1)⟩
theorem si{σ:List ak}{f:FuncId}{j c:Frame}{cs:List Frame}{v:Value}{s:St}(m:ag σ s)(h:tO P f j v s)(k:∀ d,aX s d->dk X S (G (c.finish v) cs) d):dk X S (G j (c::cs)) s:=by
 refine .next rfl λd l=>?_
 have i:=X.fC l;have g:=m.rely i;obtain⟨es,p,q⟩:=Cp (main:=X.main) (c:=c) (cs:=cs) h d.w i.mem;refine⟨_,d,es,p,⟨⟨σ,σ,g,g,.refl _ _⟩,λe r=>?_⟩,k d i⟩
 obtain⟨b,o,u,rfl,n⟩:=q e r;exact⟨rfl,rfl,.inr (.inr ⟨rfl,u,by rw[i.M];exact n⟩)⟩
theorem qw{c:Code}(I:Nat->Act->St->Prop)(i:∀ n a s,I n a s->∃ σ,ag σ s/\∀ d,aX s d->I n a d)
  (round:∀ n a s,I n a s->(∀ a' s' m,m<n->I m a' s'->dk X S (G (b.aT a' (.inLoop c::k)) cs) s')->dk X S (G (b.aT a (.code c::.inLoop c::k)) cs) s) {n:Nat} (j:I n a s) :
  dk X S (G (b.aT a (.code (.loop c)::k)) cs) s:=by
 have key:∀ n a s,I n a s->dk X S (G (b.aT a (.inLoop c::k)) cs) s:=by
  intro n
  induction n using Nat.strongRecOn with
  |_ n o =>
   intro a s hi;obtain⟨σ,h,f⟩:=i n a s hi;exact .ctl h rfl (λw=>sd) λd g=>round n a d (f d g) λa' s' m l e=>o m l a' s' e
 obtain⟨σ,h,f⟩:=i n a s j;exact .ctl h rfl (λw=>zi) λd g=>round n a d (f d g) λa' s' m _ e=>key m a' s' e
end
def AW{P:Program}(X:Cx P)(N:Nat)(c:Code)(Q:Post)(φ:Fr)(σ:List ak):Prop :=
 ∀ s a,br N σ s φ a->ag σ s->∀ (b:Frame) (k:List Item) (cs:List Frame) (S:Goroutine->St->Prop),b.kind≠.early ->
  (∀ e φ' σ' s' a',Q e φ' σ'->br N σ' s' φ' a'->ag σ' s'->bD σ s σ' s'->ends X S b k cs e a' s')->dk X S (G (b.aT a (.code c::k)) cs) s
def Names(all:List Oper):List Nat->List Oper->Prop
 |[],[]=>True
 |i::idx,o::rest=>all.toArray[i]?=some o/\Names all idx rest
 |_,_=>False
def gB{P:Program}(X:Cx P)(N:Nat)(all rest:List Oper)(Q:Fr->List ak->Prop)(φ:Fr)(σ:List ak):Prop :=
 ∀ s a,br N σ s φ a->ag σ s->∀ (b:Frame) (k:List Item) (cs:List Frame) (S:Goroutine->St->Prop) (idx:List Nat),b.kind≠.early->Names all idx rest ->
  (∀ φ' σ' s' a',Q φ' σ'->br N σ' s' φ' a'->ag σ' s'->bD σ s σ' s'->dk X S (G (b.aT a' k) cs) s')->dk X S (G (b.aT a (.inRegion all.toArray idx::k)) cs) s
section rules
variable {P:Program}{X:Cx P}{N:Nat}{Q:Post}{φ:Fr}{σ:List ak}
theorem AW.mono{c:Code}{d:Post}(h:AW X N c Q φ σ)(j:∀ e φ σ,Q e φ σ->d e φ σ):AW X N c d φ σ :=
 λs a m hh b k cs S i g=>h s a m hh b k cs S i λe φ' σ' s' a' q l f st=>g e φ' σ' s' a' (j _ _ _ q) l f st
theorem AW.le{c:Code}{φ':Fr}(h:AW X N c Q φ' σ)(hl:nz φ φ'):AW X N c Q φ σ :=
 λs a d hh b k cs S e f=>h s a (d.le hl) hh b k cs S e f
theorem AW.skip(h:Q .normal φ σ):AW X N .skip Q φ σ:=λs a c hh b k cs S _ e =>
 .ctl hh rfl (λ_=>zh) λd h1=>e .normal φ σ d a h (c.rely h1 hh) (hh.rely h1) h1.stepW
theorem AW.ret(h:Q .ret φ σ):AW X N .ret Q φ σ:=λs a c hh b k cs S _ d=>d .ret φ σ s a h c hh (.refl _ _) k
theorem AW.exit{id:Nat}(h:Q (.exit id) φ σ):AW X N (.exit id) Q φ σ:=λs a c hh b k cs S _ d=>by
 have:=d (.exit id) φ σ s a h c hh (.refl _ _) [] (λ_=>rfl)
 simpa using this
def zE(next:Fr->List ak->Prop)(Q:Post):Post
 |.normal,φ,σ=>next φ σ
 |e,φ,σ=>Q e φ σ
theorem AW.seq{x y:Code}(h:AW X N x (zE (AW X N y Q) Q) φ σ):AW X N (.seq x y) Q φ σ:=by
 intro s a l hh b k cs S i g;refine .ctl hh rfl (λ_=>kz) λm h1=>?_
 refine h m a (l.rely h1 hh) (hh.rely h1) b (.code y::k) cs S i ?_;intro e φ' σ' s' a' q j f st;have c:=h1.stepW.trans st;cases e with
 |normal=>exact q s' a' j f b k cs S i λe d σ2 s2 a2 q2 f2 h2 na=>g e d σ2 s2 a2 q2 f2 h2 (c.trans na)
 |_=>exact ends.cons (λ_ _=>rfl) (by simp) (g _ _ _ _ _ q j f c)
theorem AW.cond{c:Operand}{x y:Code}{t:Bool}{u:Nat}(l:c=.tmp u)(hl:look φ u=.e (.one (.c (.bool t))))
  (m:t=true->AW X N x Q φ σ) (r:t=false->AW X N y Q φ σ):AW X N (.cond c x y) Q φ σ:=by
 intro s a f hh b k cs S j n;have g:=f.slot u;rw[hl] at g;have h:a.eval c=.bool t:=by
  subst l;generalize h:a.tmps.getD u undef=v at g;simp only[cd,k5,fz] at g;cases g;exact h
 refine .ctl hh rfl (λ_=>pA h) λi h1=>?_
 have d:∀ e φ' σ' s' a',Q e φ' σ'->br N σ' s' φ' a'->ag σ' s'->bD σ i σ' s'->ends X S b k cs e a' s':=λe φ' σ' s' a' q p o st=>n e φ' σ' s' a' q p o (h1.stepW.trans st)
 cases t
 ·exact r rfl i a (f.rely h1 hh) (hh.rely h1) b k cs S j d
 ·exact m rfl i a (f.rely h1 hh) (hh.rely h1) b k cs S j d
def uo(id:Nat)(Q:Post):Post
 |.exit Ch,φ,σ=>if Ch=id then Q .normal φ σ else Q (.exit Ch) φ σ
 |e,φ,σ=>Q e φ σ
theorem AW.block{id:Nat}{c:Code}(h:AW X N c (uo id Q) φ σ):AW X N (.block id c) Q φ σ:=by
 intro s a n hh b k cs S m g;refine .ctl hh rfl (λ_=>m4) λo h1=>?_
 refine h o a (n.rely h1 hh) (hh.rely h1) b (.inBlock id::k) cs S m ?_;intro e φ' σ' s' a' q i f st;have d:=h1.stepW.trans st;cases e with
 |normal =>
  exact .ctl f rfl (λ_=>mE) λs2 h2=>g .normal φ' σ' s2 a' q (i.rely h2 f) (f.rely h2) (d.trans h2.stepW)
 |exit Ch =>
  simp only[uo] at q;split at q
  ·rename_i e
   subst e;intro pre hp;refine .ctl f rfl (λ_=>tN (k':=k) (by rw[hp];simp[exitTo])) λs2 h2=>?_
   exact g .normal φ' σ' s2 a' q (i.rely h2 f) (f.rely h2) (d.trans h2.stepW)
  ·rename_i j
   intro pre hp;have:=g (.exit Ch) φ' σ' s' a' q i f d (pre++[.inBlock id]) (λk'=>by
    rw[dt,hp];have:(id==Ch)=false:=by simp;exactλh=>j h.symm
    simp[exitTo,this])
   simpa using this
 |ret=>exact g _ _ _ _ _ q i f d
 |panic ch=>exact g _ _ _ _ _ q i f d
 |goto l=>exact g _ _ _ _ _ q i f d
 |outgrown=>exact g _ _ _ _ _ q i f d
theorem AW.loop{S:Type}{c:Code}(I:S->Prop)(fr:S->Fr)(st:S->List ak)(h:S->Nat)(x:S)(r:I x)(i:nz φ (fr x))(o:st x=σ)
  (round:∀ x,I x->AW X N c (zE (λφ' σ'=>∃ y,I y/\h y<h x/\nz φ' (fr y)/\σ'=st y) Q) (fr x) (st x)):AW X N (.loop c) Q φ σ:=by
 intro s a A hh b k cs S w u;subst o;refine qw (λn a' s'=>∃ y,I y/\br N (st y) s' (fr y) a'/\ag (st y) s'/\bD (st x) s (st y) s'/\h y=n) ?_ ?_ ⟨x,r,A.le i,hh,.refl _ _,rfl⟩
 ·rintro n a' s' ⟨y,j,m,f,d,e⟩;exact⟨st y,f,λC h1=>⟨y,j,m.rely h1 f,f.rely h1,d.trans h1.stepW,e⟩⟩
 rintro n a' s' ⟨y,j,m,f,d,rfl⟩ B;refine round y j s' a' m f b (.inLoop c::k) cs S w ?_;intro e t σ2 s2 a2 q p h2 na;cases e with
 |normal =>
  obtain⟨z,v,l,g,rfl⟩:=q;exact B a2 s2 (h z) l ⟨z,v,p.le g,h2,d.trans na,rfl⟩
 |_=>exact ends.cons (λ_ _=>rfl) (by simp) (u _ _ _ _ _ q p h2 (d.trans na))
end rules
end Go.AM
namespace Go.AM
theorem cA.length{σ:List ak}{s:St}{vs:List Value}{cs:List A}(r:cA σ s vs cs):vs.length=cs.length:=by
 induction vs generalizing cs with
 |nil=>cases cs <;> simp_all [cA]
 |cons v vs ih =>
  cases cs with
  |nil=>simp[cA] at r
  |cons a cs=>simp[ih r.2]
theorem fz.cell{σ:List ak}{s:St}{v:Value}{a:A}(r:fz σ s v a):cJ v=true:=by
 cases a with
 |c x=>exact Rd.cell r
 |ptr l off=>obtain⟨_,_,_,_,_,rfl⟩:=r;rfl
 |vec l k n es=>exact Rd.cell r.1
 |ref l=>obtain⟨_,_,_,_,h⟩:=r;exact h
 |bp l w=>obtain⟨_,h,_⟩:=r;exact h.cell
 |any=>exact r
theorem cA.get{σ:List ak}{s:St}{vs:List Value}{cs:List A}(r:cA σ s vs cs){j:Nat}{a:A}(h:cs[j]?=some a):∃ v,vs[j]?=some v/\fz σ s v a:=by
 induction vs generalizing cs j with
 |nil=>cases cs <;> simp_all [cA]
 |cons v vs ih =>
  cases cs with
  |nil=>simp[cA] at r
  |cons b cs =>
   cases j with
   |zero=>simp at h;subst h;exact⟨v,rfl,r.1⟩
   |succ j=>simp at h;obtain⟨u,d,c⟩:=ih r.2 h;exact⟨u,by simpa using d,c⟩
theorem cA.cell{σ:List ak}{s:St}{vs:List Value}{cs:List A}(r:cA σ s vs cs):∀ v∈vs,v.oneCell'=true:=by
 induction vs generalizing cs with
 |nil=>simp
 |cons v vs ih =>
  cases cs with
  |nil=>simp[cA] at r
  |cons a cs =>
   intro u b;rcases dF.1 b with rfl|b
   ·have:=fz.cell r.1;cases u <;> simp_all [cJ,Value.oneCell']
   ·exact ih r.2 u b
theorem cA.append{σ:List ak}{s:St}{vs ve:List Value}{cs lr:List A}(r:cA σ s vs cs)(r':cA σ s ve lr):cA σ s (vs++ve) (cs++lr):=by
 induction vs generalizing cs with
 |nil=>cases cs <;> simp_all [cA]
 |cons v vs ih =>
  cases cs with
  |nil=>simp[cA] at r
  |cons a cs=>exact⟨r.1,ih r.2⟩
theorem cA.take{σ:List ak}{s:St}{vs:List Value}{cs:List A}(r:cA σ s vs cs)(k:Nat):cA σ s (vs.take k) (cs.take k):=by
 induction vs generalizing cs k with
 |nil=>cases cs <;> simp_all [cA]
 |cons v vs ih =>
  cases cs with
  |nil=>simp[cA] at r
  |cons a cs=>cases k with
   |zero=>simp[cA]
   |succ k=>exact⟨r.1,ih r.2 k⟩
theorem cA.drop{σ:List ak}{s:St}{vs:List Value}{cs:List A}(r:cA σ s vs cs)(k:Nat):cA σ s (vs.drop k) (cs.drop k):=by
 induction vs generalizing cs k with
 |nil=>cases cs <;> simp_all [cA]
 |cons v vs ih =>
  cases cs with
  |nil=>simp[cA] at r
  |cons a cs=>cases k with
   |zero=>exact r
   |succ k=>simpa using ih r.2 k
theorem ag.block{σ:List ak}{s:St}(h:ag σ s){b o:Nat}{v:Value}(a:s.M b o=some v):b<s.w.heap.size:=by
 have:=h.mem b o v a;rcases bC b s.w.heap.size with h|h
 ·exact h
 ·simp[World.cell?,pj h] at this
theorem ag.same{σ:List ak}{s:St}(h:ag σ s){w':World}(d:w'.heap=s.w.heap):ag σ { s with w:=w' }:=by
 have q:∀ a,w'.cell? a=s.w.cell? a:=λa=>by simp[World.cell?,d]
 have A:∀ v a,fz σ s v a->fz σ { s with w:=w' } v a:=λv a r=>by cases a <;> exact r
 have j:∀ vs al,cA σ s vs al->cA σ { s with w:=w' } vs al:=by
  intro vs
  induction vs with
  |nil=>intro al r;cases al <;> simp_all [cA]
  |cons v vs ih=>intro al r;cases al with
   |nil=>simp[cA] at r
   |cons a al=>exact⟨A _ _ r.1,ih _ r.2⟩
 refine⟨λb o v z=>by rw[q];exact h.mem b o v z,h.len,?_,h.ez,λL j b f=>by show b<w'.heap.size;rw[d];exact h.lt L j b f,λb f=>⟨by show b<w'.heap.size;rw[d];exact(h.own b f).1,(h.own b f).2⟩⟩
 intro l B L m g;have:=h.box l B L m g;cases B with
 |cells E cs =>
  obtain⟨b,vs,h1,h2,c,e⟩:=this;exact⟨b,vs,h1,by show w'.heap[b]?=_;rw[d];exact h2,j _ _ c,e⟩
 |vec E k n es =>
  obtain⟨h1,h2⟩:=this;refine⟨h1,?_⟩;rcases h2 with h2|⟨b,cap,vs,h2,c,e,i⟩
  ·exact .inl h2
  ·exact .inr ⟨b,cap,vs,h2,by show w'.heap[b]?=_;rw[d];exact c,e,i⟩
 |eB H =>
  obtain⟨ch,h1,h2,c,e⟩:=this;exact⟨ch,h1,λb o f=>by show w'.heap[b]?=_;rw[d];exact h2 b o f,c,e⟩
 |dead=>trivial
 |loop N φ r =>
  obtain⟨l,tmps,fn,y,h1,h2,c,e,i⟩:=this;exact⟨l,tmps,fn,y,h1,by show w'.heap[l]?=_;rw[d];exact h2,c,λt=>cd.mono (s:=s) (σ':=σ) (s':={ s with w:=w' }) ⟨λ_ _ _ h=>h,λ_ B L h x=>⟨B,L,h,x,.refl _ _⟩⟩ h.len (e t),i⟩
 |nN =>
  obtain⟨r,h1,h2,c⟩:=this;exact⟨r,h1,by show w'.heap[r]?=_;rw[d];exact h2,c⟩
 |buf E k n es =>
  rcases this with h1|⟨b,p,vs,u,h1,h2,c⟩
  ·exact .inl h1
  ·exact .inr ⟨b,p,vs,u,h1,by show w'.heap[b]?=_;rw[d];exact h2,c⟩
theorem Step.same{σ:List ak}{s:St}{w':World}(a:w'.heap=s.w.heap)(g:w'.os=s.w.os)(d:w'.tape=s.w.tape)(e:w'.output=s.w.output):Step σ s σ { s with w:=w' } :=
 ⟨by show s.w.heap.size<=w'.heap.size;rw[a];exact aq _,λb _ _=>by show w'.heap[b]?=_;rw[a],λ_ _ _ h=>h,λ_ _ _ _=>rfl,λL h b f=>.inr ⟨L,h,f⟩,λ_ B L h c=>⟨B,L,h,c,.refl _ _⟩,g,d,e,rfl⟩
theorem dj.carry{σ σ':List ak}{s s':St}{B:ak}{L:Loc}(i:Ext σ s σ' s')(hl:s.β.length=σ.length)(f:∀ b∈L.bs,s'.w.heap[b]?=s.w.heap[b]?/\∀ o,s'.M b o=s.M b o)(h:dj σ s B L):dj σ' s' B L:=by
 cases B with
 |cells E cs =>
  obtain⟨b,vs,h1,h2,a,d⟩:=h;subst h1;obtain⟨k1,c⟩:=f b (by simp)
  exact⟨b,vs,rfl,by rw[k1,h2],a.mono i hl,λo=>by rw[c,d]⟩
 |vec E k n es =>
  obtain⟨h1,h2⟩:=h;refine⟨h1.mono i.mem,?_⟩;rcases h2 with⟨h2,a⟩|⟨b,cap,vs,h2,a,d,g⟩
  ·exact .inl ⟨h2,a.mono i.mem⟩
  ·subst h2;obtain⟨k1,c⟩:=f b (by simp)
   exact .inr ⟨b,cap,vs,rfl,by rw[k1,a],d,λo v=>by rw[c,g o v]⟩
 |eB H =>
  obtain⟨ch,h1,h2,a,d⟩:=h;refine⟨ch,h1,λb o j=>?_,a,λb e o=>by rw[(f b e).2,d b e]⟩
  have e:b∈L.bs:=(a b).2 (by simp[j])
  rw[(f b e).1,h2 b o j]
 |dead=>trivial
 |loop N φ r =>
  obtain⟨l,tmps,fn,q,h1,h2,a,d,g⟩:=h;subst h1;obtain⟨k1,c⟩:=f l (by simp)
  exact⟨l,tmps,fn,q,rfl,by rw[k1,h2],a,λt=>(d t).mono i hl,λo=>by rw[c,g]⟩
 |nN =>
  obtain⟨r,h1,h2,a⟩:=h;subst h1;obtain⟨k1,c⟩:=f r (by simp)
  exact⟨r,rfl,by rw[k1,h2],λo=>by rw[c,a]⟩
 |buf E k n es =>
  rcases h with h1|⟨b,m,vs,p,h1,h2,a,d,g,u,x⟩
  ·exact .inl h1
  ·subst h1;obtain⟨k1,c⟩:=f b (by simp)
   exact .inr ⟨b,m,vs,p,rfl,by rw[k1,h2],a,d,g,u.mono i.mem,λo=>by rw[c,x]⟩
def St.dv(s:St)(E:TypeId)(vs:List Value):St :=
 { β:=s.β++[⟨.pointer (some ⟨s.w.heap.size,0,none⟩),[s.w.heap.size]⟩],M:=s.M,w:=s.w.alloc (.cells vs.toArray E),own:=s.own }
theorem bK(w:World)(o:Obj){b:Nat}(h:b<w.heap.size):(w.alloc o).heap[b]?=w.heap[b]?:=by
 show (w.heap.push o)[b]?=w.heap[b]?;rw[Array.getElem?_push,an (by omega)]
theorem cB(w:World)(o:Obj):(w.alloc o).heap[w.heap.size]?=some o:=by
 show (w.heap.push o)[w.heap.size]?=some o;simp
theorem Step.dv{σ:List ak}(s:St)(E:TypeId)(vs:List Value)(B:ak):Step σ s (σ++[B]) (s.dv E vs):=by
 refine⟨by simp[St.dv],?_,λ_ _ _ h=>h,λ_ _ _ _=>rfl,?_,?_,rfl,rfl,rfl,rfl⟩
 ·intro b d _;exact bK _ _ d
 ·intro L a b d;simp only[St.dv,dE,fp] at a;rcases a with a|rfl
  ·exact .inr ⟨L,a,d⟩
  ·simp at d;omega
 ·intro l B' L c a;have hl:l<s.β.length:=(aF.1 a).1;have e:l<σ.length:=(aF.1 c).1;exact⟨B',L,by rw[bS e,c],by simp only[St.dv];rw[bS hl,a],.refl _ _⟩
theorem ag.dv{σ:List ak}{s:St}(h:ag σ s){E:TypeId}{vs:List Value}{cs:List A}(r:cA σ s vs cs):ag (σ++[.cells E cs]) (s.dv E vs):=by
 have st:=Step.dv (σ:=σ) s E vs (.cells E cs);have j:(s.dv E vs).w.heap.size=s.w.heap.size+1:=by simp[St.dv]
 refine⟨?_,by simp[St.dv,h.len],?_,?_,?_,?_⟩
 ·intro b o v k;have c:=h.block k;have:=h.mem b o v k;rw[<-this];simp only[World.cell?,St.dv];rw[bK _ _ c]
 ·intro l B L f a;rcases Nat.lt_trichotomy l σ.length with e|rfl|m
  ·rw[bS e] at f;simp only[St.dv] at a;rw[bS (by rw[h.len];exact e)] at a
   refine(h.box l B L f a).carry st.ext h.len λb c=>⟨?_,λ_=>rfl⟩
   have:=h.lt L (aH a) b c;exact bK _ _ this
  ·simp at f;subst f;simp only[St.dv] at a;rw[cv (by rw[h.len];exact aq _)] at a
   simp[h.len] at a;subst a;refine⟨s.w.heap.size,vs,rfl,cB _ _,r.mono st.ext h.len,λo=>?_⟩
   cases k:s.M s.w.heap.size o with
   |none=>exact k
   |some v=>have:=h.block k;omega
  ·rw[cv (by omega)] at f
   have:l-σ.length≠0:=by omega
   cases p:l-σ.length with
   |zero=>omega
   |succ n=>simp[p] at f
 ·intro l l' L L' a i b c d;simp only[St.dv] at a i;have g:∀ l L,(s.β++[⟨.pointer (some ⟨s.w.heap.size,0,none⟩),[s.w.heap.size]⟩])[l]?=some L->(s.β[l]?=some L)∨(l=s.β.length/\L.bs=[s.w.heap.size]):=by
   intro l L a;rcases Nat.lt_trichotomy l s.β.length with e|rfl|m
   ·rw[bS e] at a;exact .inl a
   ·simp at a;subst a;exact .inr ⟨rfl,rfl⟩
   ·rw[cv (by omega)] at a
    cases p:l-s.β.length with
    |zero=>omega
    |succ n=>simp[p] at a
  rcases g l L a with h1|⟨rfl,h1⟩ <;> rcases g l' L' i with h2|⟨rfl,h2⟩
  ·exact h.ez l l' L L' h1 h2 b c d
  ·have:=h.lt L (aH h1) b c;rw[h2] at d;simp at d;omega
  ·have:=h.lt L' (aH h2) b d;rw[h1] at c;simp at c;omega
  ·rfl
 ·intro L a b c;rw[j];simp only[St.dv,dE,fp] at a;rcases a with a|rfl
  ·have:=h.lt L a b c;omega
  ·simp at c;omega
 ·intro b c;obtain⟨t,q⟩:=h.own b c;refine⟨by rw[j];omega,λL a=>?_⟩
  simp only[St.dv,dE,fp] at a;rcases a with a|rfl
  ·exact q L a
  ·simp;omega
theorem ag.grow{σ:List ak}{s:St}(h:ag σ s){M':Mem}{w':World}(c:s.w.heap.size<=w'.heap.size)(g:∀ b,b<s.w.heap.size->w'.heap[b]?=s.w.heap[b]?)
  (f:∀ b,b<s.w.heap.size->∀ o,M' b o=s.M b o) (k:∀ b,s.w.heap.size<=b->∀ o v,M' b o=some v->w'.cell? ⟨b,o,none⟩=some v)
  (p:w'.os=s.w.os) (m:w'.tape=s.w.tape) (n:w'.output=s.w.output):ag σ ⟨s.β,M',w',s.own⟩/\Step σ s σ ⟨s.β,M',w',s.own⟩:=by
 have st:Step σ s σ ⟨s.β,M',w',s.own⟩ :=
  ⟨c,λb a _=>g b a,λb o v e=>by rw[<-e];exact f b (h.block e) o,λb a _ o=>f b a o,λL h b a=>.inr ⟨L,h,a⟩,λ_ B L h j=>⟨B,L,h,j,.refl _ _⟩,p,m,n,rfl⟩
 refine⟨⟨?_,h.len,?_,h.ez,λL d b a=>bk (h.lt L d b a) c,λb a=>⟨bk (h.own b a).1 c,(h.own b a).2⟩⟩,st⟩
 ·intro b o v e;rcases bC b s.w.heap.size with a|a
  ·have hm':s.M b o=some v:=by rw[<-f b a o];exact e
   rw[<-h.mem b o v hm'];simp only[World.cell?];rw[g b a]
  ·exact k b a o v e
 ·intro l B L i d;exact(h.box l B L i d).carry st.ext h.len λb a=>⟨g b (h.lt L (aH d) b a),λo=>f b (h.lt L (aH d) b a) o⟩
theorem ag.write{σ:List ak}{s:St}(h:ag σ s){l b:Nat}{L:Loc}{E:TypeId}{cs lr:List A}{a:List Value}(i:σ[l]?=some (.cells E cs))(d:s.β[l]?=some L)(f:L.bs=[b])
  (r:cA σ s a lr):ag (σ.set l (.cells E lr)) { s with w:=s.w.setRow b a.toArray }/\Step σ s (σ.set l (.cells E lr)) { s with w:=s.w.setRow b a.toArray }:=by
 have g:l<σ.length:=(aF.1 i).1;obtain⟨n,vs,h1,h2,t,p⟩:=h.box l _ L i d;subst h1;simp at f;subst f;have st:Step σ s (σ.set l (.cells E lr)) { s with w:=s.w.setRow n a.toArray }:=by
  refine⟨by simp,?_,λ_ _ _ h=>h,λ_ _ _ _=>rfl,λL h b c=>.inr ⟨L,h,c⟩,?_,rfl,rfl,rfl,rfl⟩
  ·intro b c q;exact setRow_other _ _ _ _ (λe=>q _ (aH d) (by simp[e]))
  ·intro l' B L' ig eR
   by_cases e:l=l'
   ·subst e;rw[i] at ig;cases ig;exact⟨_,L',by rw[bo g],eR,by simp[fX]⟩
   ·exact⟨B,L',by rw[b7 e];exact ig,eR,.refl _ _⟩
 refine⟨⟨?_,by simp[h.len],?_,h.ez,λL d b c=>by simpa using h.lt L d b c,λb c=>by simpa using h.own b c⟩,st⟩
 ·intro b o v k;have j:b≠n:=λe=>by subst e;rw[p] at k;cases k
  rw[<-h.mem b o v k];simp only[World.cell?];rw[setRow_other _ _ _ _ j]
 ·intro l' B L' ig eR
  by_cases e:l=l'
  ·subst e;rw[bo g] at ig;cases ig;rw[d] at eR;cases eR;exact⟨n,a,rfl,setRow_heap _ _ _ _ _ _ h2,r.mono st.ext h.len,p⟩
  ·rw[b7 e] at ig;refine(h.box l' B L' ig eR).carry st.ext h.len λb c=>⟨setRow_other _ _ _ _ λm=>?_,λ_=>rfl⟩
   subst m;exact e (h.ez l l' _ L' d eR b (by simp) c)
end Go.AM
namespace Go.AM
open Go.Conc (G)
def LS(σ:List ak)(s:St):Next->D->Prop
 |.value v,x=>cd σ s v x
 |.skip,x=>x=.any
 |_,_=>False
def aG(P:Program)(o:Oper)(c:Operand->D)(σ:List ak)(x:D)(σ':List ak):Prop :=
 ∀ s a,ag σ s->(∀ y,cd σ s (a y) (c y))->∃ b s',(execOp a o).run P s.w=.ok b s'.w/\LS σ' s' b x/\ag σ' s'/\Step σ s σ' s'/\eP s ((execOp a o).events P s.w #[])
theorem aG.kA{P:Program}{o:Oper}{b:Operand->D}{σ:List ak}{x:D}
  (h:∀ s a,ag σ s->(∀ y,cd σ s (a y) (b y))->∃ v,(execOp a o).run P s.w=.ok (.value v) s.w/\cd σ s v x/\eP s ((execOp a o).events P s.w #[])):aG P o b σ x σ :=
 λs a hh hr=>let ⟨v,h1,h2,c⟩:=h s a hh hr;⟨.value v,s,h1,h2,hh,.refl _ _,c⟩
theorem aG.quiet{P:Program}{o:Oper}{b:Operand->D}{σ:List ak}{x:D}
  (h:∀ s a,ag σ s->(∀ y,cd σ s (a y) (b y))->∃ v,(execOp a o).run P s.w=.ok (.value v) s.w/\cd σ s v x/\(execOp a o).events P s.w #[]=#[]):aG P o b σ x σ :=
 λs a hh hr=>let ⟨v,h1,h2,c⟩:=h s a hh hr;⟨.value v,s,h1,h2,hh,.refl _ _,by rw[c];exact .nil⟩
def GD:IntKind->Int->Bool
 |.i64,.ofNat m=>Nat.ble m 9223372036854775807
 |.i64,.negSucc m=>Nat.ble m 9223372036854775807
 |.u8,.ofNat m=>Nat.ble m 255
 |.i32,.ofNat m=>Nat.ble m 2147483647
 |.i32,.negSucc m=>Nat.ble m 2147483647
 |.u64,.ofNat m=>Nat.ble m 18446744073709551615
 |.u32,.ofNat m=>Nat.ble m 4294967295
 |_,_=>false
theorem Jm{k:IntKind}{n:Int}(h:GD k n=true):aB k n:=by
 cases k <;> cases n <;> simp only[GD,aB] at h ⊢ <;> first|(cases h;done)|(have:=c6 h;simp only[Int.ofNat_eq_natCast,Int.negSucc_eq];omega)
def nU:Value->Option C
 |.int k n=>cond (GD k n) (some (.int k n)) none
 |.bool b=>some (.bool b)
 |.string s=>cond (Nat.ble s.size 9223372036854775807) (some (.str s.data.toList)) none
 |.slice none 0 0=>some (.sl true 0 0 (λ_=>[]))
 |.pointer none=>some .ll
 |.nilIface=>some .mf
 |.nilFunc=>some .Az
 |.map m=>some (.val (.map m))
 |_=>none
theorem Rd.iI{M:Mem}{t:Bool}{k:Nat}{a:Option Addr}{es:Nat->List C}:Rd M (.slice a 0 0) (.sl t k 0 es) :=
 Rd.sl 0 0 (λ_ _=>undef) (aq _) (by omega) (λ_=>rfl) (by omega) (by omega) (by omega) (by omega)
theorem Rd.nU{M:Mem}{v:Value}{c:C}(h:nU v=some c):Rd M v c:=by
 unfold AM.nU at h;split at h <;> first
  |(rename_i k n;cases a:GD k n <;> rw[a] at h <;> cases h;exact .int (Jm a))
  |(rename_i s;cases a:Nat.ble s.size 9223372036854775807 <;> rw[a] at h <;> cases h;exact .str rfl (by rw[fj];exact c6 a))
  |(cases h;done)
  |(cases h;exact .bool)
  |(cases h;exact Rd.iI)
  |(cases h;exact .ll)
  |(cases h;exact .mf)
  |(cases h;exact .Az)
  |(cases h;exact .val rfl)
def SX:Option C->D
 |some c=>.e (.one (.c c))
 |none=>.any
def bw(φ:Fr):Operand->D
 |.tmp t=>look φ t
 |.const v=>SX (nU v)
 |.func f=>.e (.one (.c (.fn (.func f) [] [])))
 |.global _=>.any
theorem fJ{N:Nat}{σ:List ak}{s:St}{φ:Fr}{a:Act}(f:br N σ s φ a)(y:Operand):cd σ s (a.eval y) (bw φ y):=by
 cases y with
 |tmp t=>exact f.slot t
 |const v =>
  simp only[bw,Act.eval];cases h:nU v with
  |none=>trivial
  |some c=>exact Rd.nU h
 |func g =>
  exact Rd.fn [] [] rfl rfl (λ_=>undef) (λ_=>undef) (by simp) (by simp) (by simp) (by simp)
 |global g=>trivial
def mF:Option Nat->D->Fr->Fr
 |some t,x,φ=>(t,x)::φ
 |none,_,φ=>φ
theorem xU{P:Program}{X:Cx P}{S:Goroutine->St->Prop}{b:Frame}{k:List Item}{cs:List Frame}{a:Act}{s:St}{ops:Array Oper}{i:Nat}{rest:List Nat}{o:Oper}(j:b.kind≠.early)(l:ops[i]?=some o)(m:Region.wanted o (yielded ops a.tmps)=true)
  (h:∀ c,aX s c->∃ d s' v,(execOp a.eval o).run P c.w=.ok d s'.w/\(d=.value v∨(d=.skip/\v=undef))/\mD c s' ((execOp a.eval o).events P c.w #[])/\dk X S (G (b.aT (a.put o.dst v) (.inRegion ops rest::k)) cs) s') :
  dk X S (G (b.aT a (.inRegion ops (i::rest)::k)) cs) s:=by
 refine .next rfl λc n=>?_
 obtain⟨d,s',v,f,e,g,p⟩:=h c (X.fC n);refine⟨_,s',Go.Conc.listed P b.fn a o c.w,?_,⟨g.1,g.2.seen⟩,p⟩;rcases e with rfl|⟨rfl,rfl⟩
 ·exact Co l m j f
 ·exact zj l m j f
theorem aG.move{P:Program}{o:Oper}{a:Operand->D}{σ:List ak}{x:Operand}(h:o.op=.move x):aG P o a σ (a x) σ :=
 .quiet λs b _ c=>⟨b x,by simp[execOp,h,pure],c x,by simp[execOp,h]⟩
theorem aG.assign{P:Program}{o:Oper}{a:Operand->D}{σ:List ak}{x:Operand}(h:o.op=.assign x):aG P o a σ (a x) σ :=
 .quiet λs b _ c=>⟨b x,by simp[execOp,h,pure],c x,by simp[execOp,h]⟩
theorem ei{σ:List ak}{s:St}{v:Value}{c:C}(h:cd σ s v (.e (.one (.c c)))):Rd s.M v c:=h
theorem aG.pick{P:Program}{o:Oper}{f:Operand->D}{σ:List ak}{c a b:Operand}(h:o.op=.pick c a b){t:Bool}(j:f c=.e (.one (.c (.bool t)))) :
  aG P o f σ (match t with|true=>f a|false=>f b) σ:=by
 refine .quiet λs i _ g=>?_
 have h1:=g c;rw[j] at h1;have h2:=ei h1;generalize d:i c=v at h2;cases h2;cases t
 ·exact⟨i b,by simp[execOp,h,d,asBool],g b,by simp[execOp,h,d,asBool]⟩
 ·exact⟨i a,by simp[execOp,h,d,asBool],g a,by simp[execOp,h,d,asBool]⟩
def Dq(op:BinOp)(k:IntKind) (x y:Int):Option (C×List Prop) :=
 match op with
 |.add=>some (.int k (x+y),[aB k (x+y)])
 |.sub=>some (.int k (x-y),[aB k (x-y)])
 |.mul=>some (.int k (x*y),[aB k (x*y)])
 |.quo=>some (.int k (x / y),[0<=x,0<y])
 |.rem=>some (.int k (x % y),[0<=x,0<y])
 |.eql=>some (.bool (x==y),[])
 |.neq=>some (.bool (x != y),[])
 |.lss=>some (.bool (decide (x<y)),[])
 |.leq=>some (.bool (decide (x<=y)),[])
 |.gtr=>some (.bool (decide (y<x)),[])
 |.geq=>some (.bool (decide (y<=x)),[])
 |_=>none
def Dr(op:BinOp)(x y:List UInt8):Option (C×List Prop) :=
 match op with
 |.add=>some (.str (x++y),[x.length+y.length<=9223372036854775807])
 |.eql=>some (.bool (x==y),[])
 |.neq=>some (.bool (!(x==y)),[])
 |.lss=>some (.bool (Op.bytesLess x y),[])
 |.leq=>some (.bool (Op.bytesLess x y||x==y),[])
 |.gtr=>some (.bool (!(Op.bytesLess x y||x==y)),[])
 |.geq=>some (.bool (!(Op.bytesLess x y)),[])
 |_=>none
def aa:List Prop->Prop
 |[]=>True
 |[p]=>p
 |p::q::r=>p/\aa (q::r)
theorem aa.cons{p:Prop}{r:List Prop}:aa (p::r)↔p/\aa r:=by cases r <;> simp[aa]
theorem jk{k:IntKind}{n:Int}(h:aB k n):k.wrap n=n:=by
 cases k <;> simp only[aB,IntKind.wrap,IntKind.bits,IntKind.signed] at h ⊢ <;> simp <;> (try split) <;> omega
theorem Ds{P:Program}{w:World}{op:BinOp}{k:IntKind}{x y:Int}{c:C}{obs:List Prop}(h:Dq op k x y=some (c,obs))(a:aa obs)(j:aB k x)(i:aB k y)(t:TypeId)(M:Mem) :
  ∃ v,(binOp op t (.int k x) (.int k y)).run P w=.ok v w/\Rd M v c:=by
 cases op <;> simp only[Dq,bG,kp,reduceCtorEq] at h
 case add=>obtain⟨rfl,rfl⟩:=h;exact⟨_,by simp only[binOp,b9,eW,aQ,Op.intArith,jk a];rfl,.int a⟩
 case sub=>obtain⟨rfl,rfl⟩:=h;exact⟨_,by simp only[binOp,b9,eW,aQ,Op.intArith,jk a];rfl,.int a⟩
 case mul=>obtain⟨rfl,rfl⟩:=h;exact⟨_,by simp only[binOp,b9,eW,aQ,Op.intArith,jk a];rfl,.int a⟩
 case quo =>
  obtain⟨rfl,rfl⟩:=h;obtain⟨d,b⟩:=a
  replace b:0<y:=b
  have e:x.tdiv y=x / y:=Int.tdiv_eq_ediv_of_nonneg d;have f:aB k (x / y):=by
   have l:0<=x / y:=Int.ediv_nonneg d (by omega)
   have g:x / y<=x:=Int.ediv_le_self _ d;cases k <;> simp only[aB] at j ⊢ <;> omega
  exact⟨_,by simp only[binOp,b9,eW,aQ,Op.intDiv,show y≠0 by omega,e,jk f];rfl,.int f⟩
 case rem =>
  obtain⟨rfl,rfl⟩:=h;obtain⟨d,b⟩:=a
  replace b:0<y:=b
  have e:x.tmod y=x % y:=Int.tmod_eq_emod_of_nonneg d;have f:aB k (x % y):=by
   have l:0<=x % y:=Int.emod_nonneg _ (by omega)
   have g:x % y<y:=Int.emod_lt_of_pos _ b;cases k <;> simp only[aB] at i ⊢ <;> omega
  exact⟨_,by simp only[binOp,b9,eW,aQ,Op.intDiv,show y≠0 by omega,e];rfl,.int f⟩
 all_goals (obtain⟨rfl,rfl⟩:=h;exact⟨_,by simp only[binOp,b9,eW,aQ,Op.intCmp,gt_iff_lt,ge_iff_le];rfl,.bool⟩)
theorem Dt{P:Program}{w:World}{op:BinOp}{x y:ByteArray}{a b:List UInt8}{c:C}{obs:List Prop}(h:Dr op a b=some (c,obs))(d:aa obs)(j:x.data.toList=a)(g:y.data.toList=b)(t:TypeId)(M:Mem) :
  ∃ v,(binOp op t (.string x) (.string y)).run P w=.ok v w/\Rd M v c:=by
 subst j g;cases op <;> simp only[Dr,bG,kp,reduceCtorEq] at h
 case add =>
  obtain⟨rfl,rfl⟩:=h;have f:¬((x.size+y.size:Nat):Int)>IntKind.i64.max:=by
   have l:x.data.toList.length=x.size:=fj;have k:y.data.toList.length=y.size:=fj;have e:IntKind.i64.max=9223372036854775807:=rfl;have i:x.data.toList.length+y.data.toList.length<=9223372036854775807:=d;rw[e];omega
  refine⟨_,by simp only[binOp,Op.stringOp,f,aQ];rfl,.str (by simp) (by simpa[aa] using d)⟩
 all_goals (obtain⟨rfl,rfl⟩:=h;exact⟨_,by simp only[binOp,Op.stringOp,ByteArray.toList_eq];rfl,.bool⟩)
theorem GF{P:Program}{w:World}{op:BinOp}{k:IntKind}{x y:Int}{c:C}{obs:List Prop}(h:Dq op k x y=some (c,obs))(b:aa obs)(t:TypeId) :
  (binOp op t (.int k x) (.int k y)).events P w #[]=#[]:=by
 cases op <;> simp only[Dq,bG,kp,reduceCtorEq] at h
 case quo =>
  obtain⟨rfl,rfl⟩:=h;obtain⟨d,a⟩:=b
  replace a:0<y:=a
  simp only[binOp,b9,eW,aQ,Op.intDiv,show y≠0 by omega];rfl
 case rem =>
  obtain⟨rfl,rfl⟩:=h;obtain⟨d,a⟩:=b
  replace a:0<y:=a
  simp only[binOp,b9,eW,aQ,Op.intDiv,show y≠0 by omega];rfl
 all_goals (simp only[binOp,b9,eW,aQ,Op.intCmp,Op.intArith];rfl)
theorem GG{P:Program}{w:World}{op:BinOp}{x y:ByteArray}{a b:List UInt8}{c:C}{obs:List Prop}(h:Dr op a b=some (c,obs))(d:aa obs)(j:x.data.toList=a)(g:y.data.toList=b)(t:TypeId) :
  (binOp op t (.string x) (.string y)).events P w #[]=#[]:=by
 subst j g;cases op <;> simp only[Dr,bG,kp,reduceCtorEq] at h
 case add =>
  obtain⟨rfl,rfl⟩:=h;have f:¬((x.size+y.size:Nat):Int)>IntKind.i64.max:=by
   have l:x.data.toList.length=x.size:=fj;have k:y.data.toList.length=y.size:=fj;have e:IntKind.i64.max=9223372036854775807:=rfl;have i:x.data.toList.length+y.data.toList.length<=9223372036854775807:=d;rw[e];omega
  simp only[binOp,Op.stringOp,f,aQ];rfl
 all_goals (simp only[binOp,Op.stringOp];rfl)
def AT:IntKind->IntKind->Bool
 |.i8,.i8|.i16,.i16|.i32,.i32|.i64,.i64|.u8,.u8|.u16,.u16|.u32,.u32|.u64,.u64=>true
 |_,_=>false
theorem uv{k k':IntKind}(h:AT k k'=true):k=k':=by cases k <;> cases k' <;> first|rfl|(cases h;done)
def Gi(op:BinOp):C->C->Option (C×List Prop)
 |.int k x,.int k' y=>cond (AT k k') (Dq op k x y) none
 |.str a,.str b=>Dr op a b
 |_,_=>none
theorem ef{P:Program}(op:BinOp)(t:TypeId)(x y:Operand)(k k':IntKind) (n a:Int)(u:World):(eqGuard op t x y (.int k n) (.int k' a)).run P u=.ok () u:=by cases op <;> rfl
theorem oJ{P:Program}(op:BinOp)(t:TypeId)(x y:Operand)(a b:ByteArray)(u:World):(eqGuard op t x y (.string a) (.string b)).run P u=.ok () u:=by cases op <;> rfl
theorem gh{P:Program}(op:BinOp)(t:TypeId)(x y:Operand)(k k':IntKind) (n a:Int)(u:World)(es:Array Event):(eqGuard op t x y (.int k n) (.int k' a)).events P u es=es:=by cases op <;> rfl
theorem qD{P:Program}(op:BinOp)(t:TypeId)(x y:Operand)(a b:ByteArray)(u:World)(es:Array Event):(eqGuard op t x y (.string a) (.string b)).events P u es=es:=by cases op <;> rfl
theorem aG.binOp{P:Program}{o:Oper}{m:Operand->D}{σ:List ak}{op:BinOp}{t ty:TypeId}{x y:Operand}(h:o.op=.binOp op t x y ty){a b c:C}{obs:List Prop}
  (A:m x=.e (.one (.c a))) (B:m y=.e (.one (.c b))) (g:Gi op a b=some (c,obs)) (i:aa obs):aG P o m σ (.e (.one (.c c))) σ:=by
 refine .quiet λs u _ q=>?_
 have h1:=q x;have h2:=q y;rw[A] at h1;rw[B] at h2
 replace h1:=ei h1
 replace h2:=ei h2
 generalize d:u x=vx at h1;generalize f:u y=vy at h2;cases h1 <;> cases h2 <;> simp only[Gi,reduceCtorEq] at g
 case int.int k n E k' n' NP =>
  cases r:AT k k' <;> simp only[r,cond,reduceCtorEq] at g
  cases uv r;obtain⟨v,j,p⟩:=Ds (P:=P) (w:=s.w) g i E NP t s.M;exact⟨v,by simp only[execOp,h,aU,d,f,ef,bh,j,b8],p,by simp[execOp,h,d,f,ef,gh,GF g i]⟩
 case str.str =>
  rename_i F l z hl y' l' hy xE
  obtain⟨v,j,p⟩:=Dt (P:=P) (w:=s.w) g i z hy t s.M;exact⟨v,by simp only[execOp,h,aU,d,f,oJ,bh,j,b8],p,by simp[execOp,h,d,f,oJ,qD,GG g i z hy]⟩
def Nk(op:UnOp):C->Option C
 |.bool b=>match op with|.not=>some (.bool (!b))|_=>none
 |_=>none
theorem aG.unOp{P:Program}{o:Oper}{f:Operand->D}{σ:List ak}{op:UnOp}{t:TypeId}{x:Operand}(h:o.op=.unOp op t x){a c:C}
  (j:f x=.e (.one (.c a))) (d:Nk op a=some c):aG P o f σ (.e (.one (.c c))) σ:=by
 refine .quiet λs i _ g=>?_
 have h1:=g x;rw[j] at h1
 replace h1:=ei h1
 generalize b:i x=vx at h1;cases h1 <;> simp only[Nk,reduceCtorEq] at d
 cases op <;> simp only[reduceCtorEq,bG] at d
 subst d;exact⟨_,by simp only[execOp,h,b,Op.unary,aU,b8,bh],Rd.bool,by simp[execOp,h,b,Op.unary]⟩
theorem eZ.get{σ:List ak}{s:St}{vs:List Value}{xs:List E1}(r:eZ σ s vs xs){j:Nat}{x:E1}(h:xs[j]?=some x):∃ v,vs[j]?=some v/\k5 σ s v x:=by
 induction vs generalizing xs j with
 |nil=>cases xs <;> simp_all [eZ]
 |cons v vs ih =>
  cases xs with
  |nil=>simp[eZ] at r
  |cons b cs =>
   cases j with
   |zero=>simp at h;subst h;exact⟨v,rfl,r.1⟩
   |succ j=>simp at h;obtain⟨u,c,a⟩:=ih r.2 h;exact⟨u,by simpa using c,a⟩
theorem aG.extract{P:Program}{o:Oper}{c:Operand->D}{σ:List ak}{x:Operand}{j:Nat}(h:o.op=.extract x j){xs:List E1}{e:E1}
  (i:c x=.eY xs) (k:xs[j]?=some e):aG P o c σ (.e e) σ:=by
 refine .quiet λs l _ d=>?_
 have h1:=d x;rw[i] at h1;obtain⟨vs,g,f⟩:=h1;obtain⟨v,b,a⟩:=f.get k;refine⟨v,?_,a,?_⟩ <;> simp[execOp,h,g,Instr.extract,b]
end Go.AM
namespace Go.AM
def tL (b o:Nat):Event:=⟨.cell ⟨b,o,none⟩,false,false⟩
def Aw (b o:Nat):Event:=⟨.cell ⟨b,o,none⟩,true,false⟩
theorem ck (b o n:Nat):(⟨b,o,none⟩:Addr).add n=⟨b,o+n,none⟩:=by
  unfold Addr.add;split <;> simp_all
section
variable {P:Program}
theorem tQ {w:World} {b o:Nat} {v:Value} (h:w.cell? ⟨b,o,none⟩=some v) (es:Array Event):(load ⟨b,o,none⟩).events P w es=es.push (tL b o):=by
  rw[events_load,h];rfl
theorem j2 {w:World} {b o:Nat}:∀ (n i:Nat) (acc:Array Value) (es:Array Event),(∀ j,j<n->∃ v,w.cell? ⟨b,o+(i+j),none⟩=some v) ->
    ∀ e∈(loadCellsFrom ⟨b,o,none⟩ i n acc).events P w es,e∈es∨∃ j,j<i+n/\e=tL b (o+j)
  | 0,i,acc,es,_=>λe h=>.inl (by simpa[loadCellsFrom] using h)
  | n+1,i,acc,es,d=>λe h=>by
    obtain⟨v,a⟩:=d 0 (by omega)
    simp only[eg] at a;simp only[loadCellsFrom,Sem.events_bind,ck,run_load,a,Result.evThen_ok,tQ a] at h;rcases j2 n (i+1) (acc.push v) _ (λj f=>by have:=d (j+1) (by omega);rwa [show i+1+j=i+(j+1) by omega]) e h with c|⟨j,f,rfl⟩
    · rcases mZ.1 c with c|rfl
      · exact .inl c
      · exact .inr ⟨i,by omega,rfl⟩
    · exact .inr ⟨j,by omega,rfl⟩
theorem m3 {w:World} {b o n:Nat} {es:Array Event} (h:∀ j,j<n->∃ v,w.cell? ⟨b,o+j,none⟩=some v):∀ e∈(loadCells ⟨b,o,none⟩ n).events P w es,e∈es∨∃ j,j<n/\e=tL b (o+j):=by
  intro e a;have:=j2 (P:=P) n 0 #[] es (by simpa using h) e a
  simpa using this
theorem dH {b o:Nat} {t:TypeId}:∀ (vs:List Value) (i:Nat) (a:Array Value) (w:World) (es:Array Event),w.heap[b]?=some (.cells a t (0,0))->o+i+vs.length<=a.size->(∀ v∈vs,v.oneCell'=true) ->
    ∀ e∈(storeCells ⟨b,o,none⟩ vs i).events P w es,e∈es∨∃ j,i<=j/\j<i+vs.length/\e=Aw b (o+j)
  | [],_,_,_,_,_,_,_=>λe h=>.inl (by simpa[storeCells] using h)
  | v::rest,i,a,w,es,f,n,k=>λe h=>by
    have hi:o+i<a.size:=by simp at n;omega
    have c:w.cell? ⟨b,o+i,none⟩=some a[o+i]:=by simp[World.cell?,f,hi]
    have d:w.frozen? ⟨b,o+i,none⟩=false:=by simp[World.frozen?,f]
    have m:(store (⟨b,o+i,none⟩:Addr) v).run P w=.ok () (w.setRow b (a.setIfInBounds (o+i) v)):=by
      rw[run_store P w _ v _ (k v (by simp)),c]
      simp[d,setCell_eq_setRow w b (o+i) a t (0,0) v f]
    have l:(store (⟨b,o+i,none⟩:Addr) v).events P w es=es.push (Aw b (o+i)):=by
      rw[events_store P w es _ v _ (k v (by simp)),c]
      simp only[d,fQ,aQ];rfl
    simp only[storeCells,Sem.events_bind,ck,m,l,Result.evThen_ok] at h;rcases dH rest (i+1) (a.setIfInBounds (o+i) v) _ _ (setRow_heap _ _ _ _ _ _ f) (by simp at n ⊢;omega) (λu q=>k u (by simp[q])) e h with g|⟨j,r,p,rfl⟩
    · rcases mZ.1 g with g|rfl
      · exact .inl g
      · exact .inr ⟨i,aq _,by simp,rfl⟩
    · exact .inr ⟨j,by omega,by simp at p ⊢;omega,rfl⟩
def bH {α:Type} (P:Program) (m:Sem α):Prop:=∀ w es,m.events P w es=es
theorem bH.bind {α β:Type} {m:Sem α} {f:α->Sem β} (h:bH P m) (k:∀ a,bH P (f a)):bH P (m >>= f):=by
  intro w es;rw[Sem.events_bind,h w es];cases m.run P w with
  | ok a w'=>exact k a w' es
  | halt x w'=>rfl
theorem bH.pure {α:Type} {a:α}:bH P (Pure.pure a:Sem α):=λ_ _=>rfl
theorem bH.stuck {α:Type} {a:String}:bH P (Go.stuck a:Sem α):=λ_ _=>rfl
theorem bH.unsupported {α:Type} {u:Unsupported}:bH P (Go.unsupported u:Sem α):=λ_ _=>rfl
theorem bH.sizeOf {t:TypeId}:bH P (sizeOf t):=λ_ _=>events_sizeOf ..
theorem bH.underlying {t:TypeId}:bH P (underlying t):=λ_ _=>events_underlying ..
theorem bH.zeroValue {t:TypeId}:bH P (zeroValue t):=λ_ _=>events_zeroValue ..
theorem bH.newObj {o:Obj}:bH P (newObj o):=λ_ _=>rfl
theorem bH.newRow {t:TypeId} {c:Array Value}:bH P (newRow t c):=.bind .newObj λ_=>.pure
theorem bH.HW {α β:Type} {f:α->Sem β} (h:∀ a,bH P (f a)):∀ l:List α,bH P (l.mapM f)
  | []=>by rw[List.mapM_nil];exact .pure
  | a::l=>by rw[jh];exact .bind (h a) λ_=>.bind (bH.HW h l) λ_=>.pure
theorem bH.map {α β:Type} {f:α->β} {m:Sem α} (h:bH P m):bH P (Functor.map f m):=λw es=>by rw[Sem.events_map];exact h w es
theorem bH.Lv {α β:Type} {f:α->Sem β} (h:∀ a,bH P (f a)) (l:Array α):bH P (l.mapM f):=by
  rw[pV];exact .map (.HW h _)
theorem bH.CP {α β:Type} {F:α->β->Sem (ForInStep β)} (h:∀ a b,bH P (F a b)):∀ (l:List α) (b:β),bH P (forIn l b F)
  | [],b=>by rw[List.forIn_nil];exact .pure
  | a::l,b=>by
    rw[List.forIn_cons];refine .bind (h a b) λr=>?_
    cases r with
    | done b=>exact .pure
    | yield b=>exact bH.CP h l b
theorem bH.build {t:TypeId} {parts:Array (Nat×Value)}:bH P (Instr.build t parts):=by
  unfold Instr.build;refine .bind .zeroValue λz=>.bind .underlying λd=>?_
  cases d <;> first
    | exact .stuck
    | (refine .bind (.Lv (λ_=>.bind .sizeOf λ_=>.pure) _) λpl=>?_
       split
       · exact .pure
       · exact .stuck)
    | (refine .bind .sizeOf λn=>?_
       split
       · exact .pure
       · exact .stuck)
theorem bH.buildSlice {t:TypeId} {n:Nat} {parts:Array (Nat×Value)}:bH P (Instr.buildSlice t n parts):=by
  unfold Instr.buildSlice;refine .bind .underlying λd=>?_
  cases d <;> first
    | exact .stuck
    | (refine .bind .sizeOf λm=>?_
       dsimp only
       have hj:∀ (elem:TypeId) (zero:Array Value),bH P (match Instr.fill (λi=>some (i*m,m)) (Array.map (λx=>zero[x % zero.size]!) (Array.range (n*m))) parts.toList with
          | some cells=>do
            let a<-Go.newRow elem cells
            Pure.pure (Value.slice (some a) n n)
          | _=>Go.stuck "buildSlice: a part of the wrong size"):=by
         intro elem zero;split
         · exact .bind .newRow λ_=>.pure
         · exact .stuck
       by_cases b:n*m=0
       · simp only[b,aZ]
         rw[b] at hj;split
         · exact .bind .unsupported λ_=>.bind .pure λz=>hj _ z
         · exact .bind .pure λz=>hj _ z
       · simp only[b,aQ]
         split
         · exact .bind .unsupported λ_=>.bind .zeroValue λz=>.bind .pure λz=>hj _ z
         · exact .bind .zeroValue λz=>.bind .pure λz=>hj _ z)
theorem m7 {s:St} {b o:Nat} {L:Loc} (c:L∈s.β) (a:b∈L.bs):lf s (tL b o):=⟨rfl,rfl,.inr (.inl ⟨⟨L,c,a⟩,λh=>by cases h⟩)⟩
theorem vf {s:St} {b o:Nat} {v:Value} (h:s.M b o=some v):lf s (tL b o):=⟨rfl,rfl,.inr (.inr ⟨rfl,v,h⟩)⟩
theorem lS {s:St} {b o:Nat} {L:Loc} (d:L∈s.β) (c:b∈L.bs) (a:s.M b o=none):lf s (Aw b o):=⟨rfl,rfl,.inr (.inl ⟨⟨L,d,c⟩,λ_=>a⟩)⟩
end
structure TI where
 size:Nat
 bytes:Nat
 agg:Bool
 desc:TypeDesc
 zero:List C
 eq:List TypeDesc:=[]
def mK:TypeDesc->Value->Value->Option Bool
 |.int _,.int k a,.int k' b=>if k=k' then some (a==b) else none
 |.string,.string a,.string b=>some (a.toList==b.toList)
 |.bool,.bool a,.bool b=>some (a==b)
 |_,_,_=>none
def gn:List TypeDesc->List Value->List Value->Option Bool
 |[],[],[]=>some true
 |d::ds,v::vs,w::ws=>match mK d v w with
  |some a=>match gn ds vs ws with
   |some b=>some (a&&b)
   |none=>none
  |none=>none
 |_,_,_=>none
def Du:TypeDesc->Bool
 |.struct _|.array _ _=>true
 |_=>false
structure aC (P:Program)(t:TypeId)(i:TI):Prop where
 KJ:P.underlying t=some i.desc
 agg:Du i.desc=i.agg
 info:∃ inf z,P.info? t=some inf/\inf.size=i.size/\inf.bytes=i.bytes/\inf.zero=some z/\z.cells.toList.map nU=i.zero.map some/\(∃ cs,z=if i.agg then .agg cs else z)/\i.zero.length=i.size
 eqs:i.eq≠[]->P.eqGuardType P.depth t=false/\∀ (w:World) (vs ws:List Value) (b:Bool),gn i.eq vs ws=some b->(Op.equal t (.agg vs.toArray) (.agg ws.toArray)).run P w=.ok b w/\∀ es,(Op.equal t (.agg vs.toArray) (.agg ws.toArray)).events P w es=es
def aJ:List (Nat×TI)->Nat->Option TI
 |[],_=>none
 |(i,d)::r,t=>cond (Nat.beq i t) (some d) (aJ r t)
def bV(P:Program)(T:List (Nat×TI)):Prop:=∀ t i,aJ T t=some i->aC P t i
section
variable {P:Program}{w:World}{t:TypeId}{i:TI}
theorem aC.run_underlying(h:aC P t i):(underlying t).run P w=.ok i.desc w:=by
 simp[underlying,h.KJ]
theorem aC.iz(h:aC P t i):(isAgg t).run P w=.ok i.agg w:=by
 have:=h.agg;unfold Go.isAgg;rw[aU,h.run_underlying];cases a:i.desc <;> rw[a] at this <;> simp[Du] at this <;> simp[this]
theorem aC.run_sizeOf(h:aC P t i):(sizeOf t).run P w=.ok i.size w:=by
 obtain⟨a,z,h1,h2,_⟩:=h.info;simp[sizeOf,typeInfo,h1,h2]
theorem gX{σ:List ak}{s:St}:∀ {vs:List Value}{cs:List C},vs.map nU=cs.map some->cA σ s vs (cs.map A.c)
 |[],[],_=>trivial
 |[],_::_,h=>by simp at h
 |_::_,[],h=>by simp at h
 |v::vs,c::cs,h=>by
  simp only[iF,List.cons.injEq] at h;exact⟨Rd.nU h.1,gX h.2⟩
theorem aC.vN(h:aC P t i)(σ:List ak)(s:St):∃ z,(zeroValue t).run P w=.ok z w/\cA σ s z.cells.toList (i.zero.map A.c):=by
 obtain⟨d,z,h1,h2,e,a,b,_⟩:=h.info;exact⟨z,by simp[zeroValue,typeInfo,h1,a],gX b⟩
end
def kI:D->Option (List A)
 |.e (.one a)=>some [a]
 |.e (.agg cs)=>some cs
 |_=>none
theorem l5{σ:List ak}{s:St}{v:Value}{d:D}{cs:List A}(h:kI d=some cs)(r:cd σ s v d):cA σ s v.cells.toList cs:=by
 cases d with
 |e x =>
  cases x with
  |one a =>
   cases h;have:=fz.cell r;cases v <;> first|exact⟨r,ab⟩|cases this
  |agg c =>
   cases h;obtain⟨vs,rfl,b⟩:=r;simpa[Value.cells] using b
 |eY xs=>cases h
 |any=>cases h
theorem aG.newVar{P:Program}{o:Oper}{b:Operand->D}{σ:List ak}{E:TypeId}{cs:List A}
  (h:∀ s a,ag σ s->(∀ y,cd σ s (a y) (b y))->∃ v:Value,(execOp a o).run P s.w=((do pure (.value (.pointer (some (<-newVar E v))))):Sem Next).run P s.w/\cA σ s v.cells.toList cs/\(execOp a o).events P s.w #[]=#[]) :
  aG P o b σ (.e (.one (.ptr σ.length 0))) (σ++[.cells E cs]):=by
 intro s a hh hr;obtain⟨v,h1,h2,c⟩:=h s a hh hr;refine⟨.value (.pointer (some ⟨s.w.heap.size,0,none⟩)),s.dv E v.cells.toList,?_,?_,hh.dv h2,.dv s E _ _,by rw[c];exact .nil⟩
 ·rw[h1];simp[Go.newVar,newRow,St.dv]
 ·refine⟨by simp,⟨.pointer (some ⟨s.w.heap.size,0,none⟩),[s.w.heap.size]⟩,s.w.heap.size,?_,rfl,rfl⟩
  simp[St.dv,<-hh.len]
theorem aG.alloc{P:Program}{T:List (Nat×TI)}(f:bV P T){o:Oper}{d:Operand->D}{σ:List ak}{E:TypeId}(h:o.op=.alloc E){i:TI}(hi:aJ T E=some i) :
  aG P o d σ (.e (.one (.ptr σ.length 0))) (σ++[.cells E (i.zero.map A.c)]):=by
 refine .newVar λs g _ _=>?_
 obtain⟨z,a,b⟩:=(f E i hi).vN (w:=s.w) σ s;exact⟨z,by simp[execOp,h,Instr.alloc,a],b,by simp[execOp,h,Instr.alloc,a,Go.newVar,newRow]⟩
theorem aG.box{P:Program}{o:Oper}{a:Operand->D}{σ:List ak}{E:TypeId}{x:Operand}(h:o.op=.box E x){cs:List A}(c:kI (a x)=some cs) :
  aG P o a σ (.e (.one (.ptr σ.length 0))) (σ++[.cells E cs]) :=
 .newVar λs b _ d=>⟨b x,by simp[execOp,h,Instr.box],l5 c (d x),by simp[execOp,h,Instr.box,Go.newVar,newRow]⟩
def kQ{α:Type}:Nat->List α->Option (List α)
 |0,_=>some []
 |n+1,x::xs=>match kQ n xs with|some r=>some (x::r)|none=>none
 |_+1,[]=>none
theorem jY{α:Type}:∀ {n:Nat}{l r:List α},kQ n l=some r->r=l.take n/\r.length=n
 |0,l,r,h=>by cases h;simp
 |n+1,[],r,h=>by simp[kQ] at h
 |n+1,x::xs,r,h=>by
  simp only[kQ] at h;cases a:kQ n xs with
  |none=>simp[a] at h
  |some q =>
   simp[a] at h;subst h;obtain⟨b,c⟩:=jY a;simp[<-b,c]
def eb{α:Type}:Nat->List α->Option α
 |_,[]=>none
 |0,x::_=>some x
 |n+1,_::xs=>eb n xs
theorem cO{α:Type}:∀ {n:Nat}{l:List α}{x:α},eb n l=some x->l[n]?=some x
 |_,[],_,h=>by simp[eb] at h
 |0,x::_,_,h=>by simpa[eb] using h
 |n+1,_::xs,_,h=>by simpa using cO (n:=n) (l:=xs) h
def eL{α:Type}:Nat->List α->List α
 |0,l=>l
 |_+1,[]=>[]
 |n+1,_::xs=>eL n xs
theorem j4{α:Type}:∀ (n:Nat)(l:List α),eL n l=l.drop n
 |0,_=>by simp[eL]
 |_+1,[]=>by simp[eL]
 |n+1,_::xs=>by simp[eL,j4 n xs]
def jX(i:TI)(cs:List A):Option E1 :=
 match i.agg with
 |true=>match kQ i.size cs with|some r=>some (.agg r)|none=>none
 |false=>match eb 0 cs with|some a=>some (.one a)|none=>none
theorem lB{P:Program}{σ:List ak}{s:St}{t:TypeId}{i:TI}(n:aC P t i){b off:Nat}{vs:List Value}{cs:List A}{e:E1}
  (l:∀ (j:Nat) (v:Value),vs[j]?=some v->s.w.cell? ⟨b,off+j,none⟩=some v) (m:cA σ s vs cs) (f:jX i cs=some e) :
  ∃ v,(loadVar t ⟨b,off,none⟩).run P s.w=.ok v s.w/\k5 σ s v e:=by
 simp only[loadVar,aU,n.iz,bh];cases u:i.agg <;> simp only[jX,u] at f
 ·cases d:eb 0 cs with
  |none=>simp[d] at f
  |some a =>
   simp[d] at f;subst f;obtain⟨v,q,k⟩:=m.get (cO d);refine⟨v,?_,k⟩;have:=l 0 v q;simp at this;simp[run_load,this]
 ·cases d:kQ i.size cs with
  |none=>simp[d] at f
  |some r =>
   simp[d] at f;subst f;obtain⟨p,o⟩:=jY d;have c:=m.take i.size;rw[<-p] at c;have x:(vs.take i.size).length=i.size:=by rw[c.length,o]
   have g:=run_loadCells_list (P:=P) s.w ⟨b,off,none⟩ (vs.take i.size) (λj v h=>by
    rw[ck];refine l j v ?_;rw[dD] at h;split at h
    ·exact h
    ·cases h)
   rw[x] at g;refine⟨.agg (vs.take i.size).toArray,?_,vs.take i.size,rfl,c⟩;simp[n.run_sizeOf,g]
theorem iL{P:Program}{w:World}{t:TypeId}{i:TI}(k:aC P t i){b off n:Nat}(d:∀ j,j<n->∃ v,w.cell? ⟨b,off+j,none⟩=some v)(c:(if i.agg then i.size else 1)<=n) :
  ∀ e∈(loadVar t ⟨b,off,none⟩).events P w #[],∃ j,j<n/\e=tL b (off+j):=by
 intro e a;simp only[loadVar,Sem.events_bind,k.iz,Result.evThen_ok,events_isAgg] at a;cases g:i.agg
 ·rw[g] at c a;obtain⟨v,f⟩:=d 0 (by simp at c;omega)
  simp only[eg] at f;simp only[fQ,aQ,tQ f] at a;rcases mZ.1 a with h|rfl
  ·simp at h
  ·exact⟨0,by simp at c;omega,rfl⟩
 ·rw[g] at c a;simp only[aZ] at c;simp only[aZ,Sem.events_bind,k.run_sizeOf,Result.evThen_ok,events_sizeOf] at a;have key:∀ e∈(loadCells ⟨b,off,none⟩ i.size).events P w #[],∃ j,j<n/\e=tL b (off+j):=by
   intro e a;rcases m3 (P:=P) (λj l=>d j (by omega)) e a with h|⟨j,l,rfl⟩
   ·simp at h
   ·exact⟨j,by omega,rfl⟩
  apply key
  generalize (loadCells ⟨b,off,none⟩ i.size).run P w=r at a;cases r with
  |ok v w'=>simpa using a
  |halt x w'=>simpa using a
theorem nc{i:TI}{cs:List A}{e:E1}(h:jX i cs=some e):(if i.agg then i.size else 1)<=cs.length:=by
 unfold jX at h;cases f:i.agg <;> rw[f] at h
 ·cases cs with
  |nil=>simp[eb] at h
  |cons c cs=>simp
 ·simp only at h;cases a:kQ i.size cs with
  |none=>simp[a] at h
  |some r =>
   obtain⟨b,d⟩:=jY a;rw[b,List.length_take] at d;simp only[aZ];omega
theorem aG.zx{P:Program}{T:List (Nat×TI)}(B:bV P T){o:Oper}{y:Operand->D}{σ:List ak}{t:TypeId}{x:Operand}(h:o.op=.load t x){l off:Nat}{E:TypeId}{cs:List A}{i:TI}{e:E1}
  (H:y x=.e (.one (.ptr l off))) (F:σ[l]?=some (.cells E cs)) (hi:aJ T t=some i) (q:jX i (eL off cs)=some e):aG P o y σ (.e e) σ:=by
 refine .kA λs G hh hr=>?_
 have h1:=hr x;rw[H] at h1;obtain⟨_,L,b,C,k,u⟩:=h1;obtain⟨p,vs,rfl,z,a,_⟩:=hh.box l _ L F C;simp at k;subst k;rw[j4] at q;obtain⟨v,d,m⟩:=lB (s:=s) (σ:=σ) (P:=P) (B t i hi) (b:=p) (off:=off) (vs:=vs.drop off) (cs:=cs.drop off) (e:=e) (λj v hj=>by
  simp only[World.cell?,z];simpa using hj) (a.drop off) q
 refine⟨v,by simp[execOp,h,u,Instr.loadAt,Instr.sureAddr,d],m,λr g=>?_⟩
 have f:r∈(loadVar t ⟨p,off,none⟩).events P s.w #[]:=by
  have e:execOp G o=(do pure (.value (<-loadVar t ⟨p,off,none⟩))):=by simp[execOp,h,u,Instr.loadAt,Instr.sureAddr]
  rw[e] at g;simpa[d] using g
 have c:(vs.drop off).length=(cs.drop off).length:=(a.drop off).length;obtain⟨j,hj,rfl⟩:=iL (B t i hi) (n:=(vs.drop off).length) (λj hj=>by
  refine⟨(vs.drop off)[j],?_⟩;simp only[World.cell?,z];simp at hj ⊢ <;> omega) (by rw[c];exact nc q) r f
 exact m7 (aH C) (by simp)
theorem aG.CZ{P:Program}{T:List (Nat×TI)}(F:bV P T){o:Oper}{E:Operand->D}{σ:List ak}{t:TypeId}{x:Operand}(h:o.op=.load t x){cs:List C}{i:TI}{e:E1}
  (H:E x=.e (.one (.c (.rp cs)))) (hi:aJ T t=some i) (B:jX i (cs.map A.c)=some e):aG P o E σ (.e e) σ:=by
 refine .kA λs y hh hr=>?_
 have h1:=hr x;rw[H] at h1;have h2:=ei h1;generalize m:y x=vx at h2;cases h2
 rename_i b off f r q
 have u:∀ (n:Nat) (ds:List C),(∀ j c,ds[j]?=some c->Rd s.M (f (n+j)) c)->cA σ s ((List.range ds.length).map λj=>f (n+j)) (ds.map A.c):=by
  intro n ds
  induction ds generalizing n with
  |nil=>intro _;trivial
  |cons d ds ih =>
   intro G;rw[ft,tw];refine⟨G 0 d rfl,?_⟩;have:=ih (n+1) (λj c hj=>by have:=G (j+1) c (by simpa using hj);rwa [show n+1+j=n+(j+1) by omega])
   simpa[Function.comp_def,kq,iu 1] using this
 obtain⟨v,g,p⟩:=lB (s:=s) (σ:=σ) (P:=P) (F t i hi) (b:=b) (off:=off) (vs:=(List.range cs.length).map λj=>f (0+j)) (cs:=cs.map A.c) (e:=e) (λj v hj=>by
  simp only[mz,ay] at hj
  by_cases a:j<cs.length
  ·simp[a] at hj;subst hj;exact hh.mem _ _ _ (r j cs[j] (aj a))
  ·simp[a] at hj) (u 0 cs (by simpa using q)) B
 refine⟨v,by simp[execOp,h,m,Instr.loadAt,Instr.sureAddr,g],p,λz l=>?_⟩
 have k:z∈(loadVar t ⟨b,off,none⟩).events P s.w #[]:=by
  have e:execOp y o=(do pure (.value (<-loadVar t ⟨b,off,none⟩))):=by simp[execOp,h,m,Instr.loadAt,Instr.sureAddr]
  rw[e] at l;simpa[g] using l
 obtain⟨j,hj,rfl⟩:=iL (F t i hi) (n:=cs.length) (λj hj=>⟨f j,hh.mem _ _ _ (r j cs[j] (aj hj))⟩) (by have:=nc B;simpa using this) z k
 exact vf (r j cs[j] (aj hj))
def du{α:Type}:Nat->List α->List α->Option (List α)
 |0,[],l=>some l
 |0,n::ns,_::cs=>match du 0 ns cs with|some r=>some (n::r)|none=>none
 |k+1,ns,c::cs=>match du k ns cs with|some r=>some (c::r)|none=>none
 |_,_,[]=>none
theorem l6{α:Type}:∀ {off:Nat}{new l r:List α},du off new l=some r->off+new.length<=l.length/\r=l.take off++new++l.drop (off+new.length)
 |0,[],l,r,h=>by cases l <;> cases h <;> simp
 |0,n::ns,c::cs,r,h=>by
  simp only[du] at h;cases a:du 0 ns cs with
  |none=>simp[a] at h
  |some q =>
   simp[a] at h;subst h;obtain⟨d,b⟩:=l6 a;refine⟨by simp at d ⊢;omega,?_⟩
   simp at b;simp[b]
 |0,n::ns,[],r,h=>by simp[du] at h
 |k+1,ns,c::cs,r,h=>by
  simp only[du] at h;cases a:du k ns cs with
  |none=>simp[a] at h
  |some q =>
   simp[a] at h;subst h;obtain⟨d,b⟩:=l6 a;refine⟨by simp;omega,?_⟩
   rw[show k+1+ns.length=(k+ns.length)+1 by omega]
   simp[b]
 |k+1,ns,[],r,h=>by simp[du] at h
theorem cA.du{σ:List ak}{s:St}{off:Nat}{vs new:List Value}{cs Jn r:List A}(h:AM.du off Jn cs=some r)(h1:cA σ s vs cs)(h2:cA σ s new Jn) :
  off+new.length<=vs.length/\cA σ s (vs.take off++new++vs.drop (off+new.length)) r:=by
 obtain⟨k1,rfl⟩:=l6 h;rw[h2.length,h1.length];refine⟨k1,((h1.take off).append h2).append (by have:=h1.drop (off+Jn.length);exact this)⟩
theorem aG.store{P:Program}{T:List (Nat×TI)}(H:bV P T){o:Oper}{z:Operand->D}{σ:List ak}{t:TypeId}{x y:Operand}(h:o.op=.store t x y){l off:Nat}{E:TypeId}{cs new lr:List A}{i:TI}
  (K:z x=.e (.one (.ptr l off))) (F:σ[l]?=some (.cells E cs)) (hi:aJ T t=some i) (M:kI (z y)=some new) (J:new.length=i.size) (N:du off new cs=some lr) :
  aG P o z σ .any (σ.set l (.cells E lr)):=by
 intro s d hh hr;have h1:=hr x;rw[K] at h1;obtain⟨_,L,b,q,n,G⟩:=h1;obtain⟨p,vs,rfl,I,B,k⟩:=hh.box l _ L F q;simp at n;subst n;have c:=l5 M (hr y);obtain⟨k1,O⟩:=cA.du N B c;obtain⟨w1,w2⟩:=hh.write F q rfl O;refine⟨.skip,_,?_,rfl,w1,w2,?_⟩
 rotate_left
 ·intro C a;have f:(d y).cells.size=i.size:=by rw[<-J,<-c.length,fj]
  have e:execOp d o=(do storeVar t ⟨p,off,none⟩ (d y);pure .skip):=by simp[execOp,h,G,Instr.storeAt,Instr.sureAddr]
  rw[e] at a;have g:C∈(storeCells ⟨p,off,none⟩ (d y).cells.toList).events P s.w #[]:=by
   simp only[storeVar,Sem.events_bind,(H t i hi).run_sizeOf,f,Result.evThen_ok,events_sizeOf,b9,eW,aQ,aU,bh,Sem.events_pure] at a;generalize (storeCells ⟨p,off,none⟩ (d y).cells.toList).run P s.w=r at a;cases r with
   |ok v w'=>simpa using a
   |halt x w'=>simpa using a
  rcases dH (d y).cells.toList 0 vs.toArray s.w #[] I (by simpa using k1) c.cell C g with u|⟨j,_,_,rfl⟩
  ·simp at u
  ·exact lS (aH q) (by simp) (k _)
 have m:=run_storeCells_at P p off E (d y).cells.toList 0 vs.toArray s.w I (by simpa using k1) (c.cell)
 have f:(d y).cells.size=i.size:=by rw[<-J,<-c.length,fj]
 simp only[eg] at m;simp[execOp,h,G,Instr.storeAt,Instr.sureAddr,storeVar,(H t i hi).run_sizeOf,f,m]
def gj(T:List (Nat×TI))(t:TypeId)(f:Nat):Option (Nat×TI) :=
 match aJ T t with
 |some i=>match i.desc with
  |.struct fs=>match eb f fs.toList with
   |some fl=>match aJ T fl.type with
    |some j=>cond (Nat.beq j.size 0) none (some (fl.offset,j))
    |none=>none
   |none=>none
  |_=>none
 |none=>none
theorem oc{P:Program}{T:List (Nat×TI)}(c:bV P T){t:TypeId}{f off:Nat}{j:TI}(h:gj T t f=some (off,j)) :
  ∃ i fs fl,aJ T t=some i/\i.desc=.struct fs/\fs[f]?=some fl/\fl.offset=off/\aJ T fl.type=some j/\j.size≠0/\aC P t i/\aC P fl.type j:=by
 unfold gj at h;split at h
 ·rename_i i hi
  split at h
  ·rename_i fs SY
   split at h
   ·rename_i fl SZ
    split at h
    ·rename_i d b
     cases a:Nat.beq d.size 0 <;> simp[a] at h
     obtain⟨rfl,rfl⟩:=h;refine⟨i,fs,fl,hi,SY,by simpa using cO SZ,rfl,b,?_,c _ _ hi,c _ _ b⟩
     intro e;rw[e] at a;cases a
    ·cases h
   ·cases h
  ·cases h
 ·cases h
theorem jy{P:Program}{T:List (Nat×TI)}(l:bV P T){t:TypeId}{f off:Nat}{j:TI}(h:gj T t f=some (off,j))(b o:Nat)(w:World) :
  (Instr.fieldAt t (.pointer (some ⟨b,o,none⟩)) f).run P w=.ok (.pointer (some ⟨b,o+off,none⟩)) w:=by
 obtain⟨i,fs,m,n,c,g,d,p,k,a,e⟩:=oc l h;simp[Instr.fieldAt,a.run_underlying,c,g,Instr.sureAddr,fieldPlace,e.run_sizeOf,k,ck,d]
theorem kK{P:Program}{T:List (Nat×TI)}(k:bV P T){t:TypeId}{f off:Nat}{j:TI}(h:gj T t f=some (off,j))(b o:Nat)(w:World)(es:Array Event) :
  (Instr.fieldAt t (.pointer (some ⟨b,o,none⟩)) f).events P w es=es:=by
 obtain⟨i,fs,m,n,c,e,l,p,g,a,d⟩:=oc k h;simp[Instr.fieldAt,a.run_underlying,c,e,Instr.sureAddr,fieldPlace,d.run_sizeOf,g]
theorem aG.nt{P:Program}{T:List (Nat×TI)}(g:bV P T){o:Oper}{d:Operand->D}{σ:List ak}{t:TypeId}{x:Operand}{f:Nat}(h:o.op=.fieldAddr t x f){l off k:Nat}{j:TI}
  (p:d x=.e (.one (.ptr l off))) (i:gj T t f=some (k,j)):aG P o d σ (.e (.one (.ptr l (off+k)))) σ:=by
 refine .quiet λs q hh hr=>?_
 have h1:=hr x;rw[p] at h1;obtain⟨n,L,b,m,a,c⟩:=h1;exact⟨.pointer (some ⟨b,off+k,none⟩),by simp[execOp,h,c,jy g i],⟨n,L,b,m,a,rfl⟩,by simp[execOp,h,c,kK g i]⟩
theorem aG.oE{P:Program}{T:List (Nat×TI)}(i:bV P T){o:Oper}{g:Operand->D}{σ:List ak}{t:TypeId}{x:Operand}{f:Nat}(h:o.op=.fieldAddr t x f){cs:List C}{k:Nat}{j:TI}
  (q:g x=.e (.one (.c (.rp cs)))) (l:gj T t f=some (k,j)):aG P o g σ (.e (.one (.c (.rp (eL k cs))))) σ:=by
 refine .quiet λs n hh hr=>?_
 have h1:=hr x;rw[q] at h1;have h2:=ei h1;generalize a:n x=vx at h2;cases h2
 rename_i b o p m d
 refine⟨.pointer (some ⟨b,o+k,none⟩),by simp[execOp,h,a,jy i l],?_,by simp[execOp,h,a,kK i l]⟩
 rw[j4];refine Rd.rp b (o+k) (λj=>p (k+j)) (λj c hj=>?_) (λj c hj=>?_)
 ·rw[show o+k+j=o+(k+j) by omega];exact m (k+j) c (by simpa using hj)
 ·exact d (k+j) c (by simpa using hj)
theorem Dv{σ:List ak}{s:St}{P:Program}{t:TypeId}{i:TI}(g:aC P t i){vs:List Value}{cs:List A}(r:cA σ s vs cs){off:Nat}{e:E1}(b:jX i (eL off cs)=some e)(w:World) :
  ∃ v,(part t vs.toArray off).run P w=.ok v w/\k5 σ s v e/\∀ es,(part t vs.toArray off).events P w es=es:=by
 simp only[part,aU,g.iz,bh,Sem.events_bind,Result.evThen_ok,events_isAgg];rw[j4] at b;cases k:i.agg <;> simp only[jX,k] at b
 ·cases c:eb 0 (cs.drop off) with
  |none=>simp[c] at b
  |some a =>
   simp[c] at b;subst b;obtain⟨v,h,f⟩:=(r.drop off).get (cO c);simp at h;refine⟨v,?_,f,λes=>?_⟩ <;> simp[h]
 ·cases c:kQ i.size (cs.drop off) with
  |none=>simp[c] at b
  |some q =>
   simp[c] at b;subst b;obtain⟨j,l⟩:=jY c;have d:=(r.drop off).take i.size;rw[<-j] at d;refine⟨.agg (vs.toArray.extract off (off+i.size)),by simp[g.run_sizeOf],⟨(vs.drop off).take i.size,?_,d⟩,λes=>by simp⟩
   simp
theorem aG.field{P:Program}{T:List (Nat×TI)}(q:bV P T){o:Oper}{n:Operand->D}{σ:List ak}{t:TypeId}{x:Operand}{f:Nat}(h:o.op=.field t x f){cs:List A}{k:Nat}{j:TI}{e:E1}
  (u:n x=.e (.agg cs)) (r:gj T t f=some (k,j)) (p:jX j (eL k cs)=some e):aG P o n σ (.e e) σ:=by
 refine .quiet λs y hh hr=>?_
 have h1:=hr x;rw[u] at h1;obtain⟨vs,m,a⟩:=h1;obtain⟨i,fs,fl,h1,h2,l,g,z,B,g1,g2⟩:=oc q r;obtain⟨v,c,d,b⟩:=Dv g2 a p s.w;exact⟨v,by simp[execOp,h,m,Instr.field,g1.run_underlying,h2,l,asAgg,g,c],d,by simp[execOp,h,m,Instr.field,g1.run_underlying,h2,l,asAgg,g,b]⟩
theorem aG.oF{P:Program}{o:Oper}{d:Operand->D}{σ:List ak}{x:Operand}(h:o.op=.nilCheck x){l off:Nat}(i:d x=.e (.one (.ptr l off))):aG P o d σ (.e (.one (.ptr l off))) σ:=by
 refine .quiet λs f hh hr=>?_
 have h1:=hr x;rw[i] at h1;have a:=h1;obtain⟨k,L,b,j,g,c⟩:=h1;exact⟨f x,by simp[execOp,h,c],a,by simp[execOp,h,c]⟩
theorem aG.qm{P:Program}{o:Oper}{b:Operand->D}{σ:List ak}{x:Operand}(h:o.op=.nilCheck x){cs:List C}(f:b x=.e (.one (.c (.rp cs)))):aG P o b σ (.e (.one (.c (.rp cs)))) σ:=by
 refine .quiet λs d hh hr=>?_
 have h1:=hr x;rw[f] at h1;have h2:=ei h1;generalize a:d x=vx at h2;cases h2;exact⟨_,by simp[execOp,h,a];rfl,by rw[<-a];exact h1,by simp[execOp,h,a]⟩
theorem AX(new:List Value):∀ (j off:Nat)(cs:Array Value),off+j+new.length<=cs.size ->
  ((new.zipIdx j).foldl (λcs (x:Value×Nat)=>cs.setIfInBounds (off+x.2) x.1) cs).toList=cs.toList.take (off+j)++new++cs.toList.drop (off+j+new.length):=by
 induction new with
 |nil=>intro j off cs _;simp
 |cons v vs ih =>
  intro j off cs h;simp only[List.zipIdx_cons,kt];rw[ih (j+1) off _ (by simp at h ⊢;omega)]
  have:=list_seg_step cs.toList (off+j) v vs (by simp at h ⊢;omega)
  simpa[pU,kq] using this
def sC(place:Nat->Option (Nat×Nat)):List (Nat×List A)->List A->Option (List A)
 |[],cs=>some cs
 |(i,new)::rest,cs=>match place i with
  |some (off,size)=>match Nat.beq new.length size with
   |true=>match du off new cs with
    |some r=>sC place rest r
    |none=>none
   |false=>none
  |none=>none
theorem qE{σ:List ak}{s:St}{place place':Nat->Option (Nat×Nat)}(w:∀ i p,place i=some p->place' i=some p):∀ {parts:List (Nat×List A)}{vparts:List (Nat×Value)}{cs r:List A}{vs:Array Value},
  sC place parts cs=some r->vparts.map (·.1)=parts.map (·.1)->(∀ (k:Nat) (p:Nat×List A) (q:Nat×Value),parts[k]?=some p->vparts[k]?=some q->cA σ s q.2.cells.toList p.2)->cA σ s vs.toList cs ->
  ∃ g,Instr.fill place' vs vparts=some g/\cA σ s g.toList r
 |[],[],cs,r,vs,h,_,_,c=>by cases h;exact⟨vs,rfl,c⟩
 |[],_::_,cs,r,vs,h,a,_,c=>by simp at a
 |_::_,[],cs,r,vs,h,a,_,c=>by simp at a
 |(i,new)::rest,(l,v)::LW,cs,r,vs,h,a,u,c=>by
  simp only[iF,List.cons.injEq] at a;obtain⟨rfl,a⟩:=a;simp only[sC] at h;cases b:place l with
  |none=>simp[b] at h
  |some p =>
   obtain⟨off,size⟩:=p;simp only[b] at h;cases o:Nat.beq new.length size with
   |false=>simp[o] at h
   |true =>
    simp only[o] at h;cases t:du off new cs with
    |none=>simp[t] at h
    |some q =>
     simp only[t] at h;have n:=u 0 (l,new) (l,v) rfl rfl;simp only at n;have C:=n.length;have f:new.length=size:=bn o;obtain⟨k1,y⟩:=cA.du t c n;have z:=AX v.cells.toList 0 off vs (by simpa using k1)
     have d:v.cells.size=size:=by rw[<-f,<-C,fj]
     have B:off+size<=vs.size:=by simpa[d] using k1
     obtain⟨g,m,j⟩:=qE (σ:=σ) (s:=s) w (parts:=rest) (vparts:=LW) (cs:=q) (r:=r)
      (vs:=v.cells.zipIdx.foldl (λcs (x:Value×Nat)=>cs.setIfInBounds (off+x.2) x.1) vs) h a (λk p q m j=>u (k+1) p q (by simpa using m) (by simpa using j)) (by
       have e:(v.cells.zipIdx.foldl (λcs (x:Value×Nat)=>cs.setIfInBounds (off+x.2) x.1) vs).toList=((v.cells.toList.zipIdx 0).foldl (λcs (x:Value×Nat)=>cs.setIfInBounds (off+x.2) x.1) vs).toList:=by
        rw[<-Array.foldl_toList,Array.toList_zipIdx]
       rw[e,z];simpa using y)
     refine⟨g,?_,j⟩;simp only[Instr.fill,w _ _ b,d,b9,eW,decide_false,pz,aD];rw[an (by simp;omega)]
     exact m
def l7(T:List (Nat×TI)):List Field->Option (List (Nat×Nat))
 |[]=>some []
 |f::fs=>match aJ T f.type with
  |some j=>match l7 T fs with
   |some r=>some ((f.offset,j.size)::r)
   |none=>none
  |none=>none
theorem qF{P:Program}{T:List (Nat×TI)}(c:bV P T):∀ {fs:List Field}{r:List (Nat×Nat)},l7 T fs=some r->fs.mapM (λf=>(P.info? f.type).map λi=>(f.offset,i.size))=some r
 |[],r,h=>by cases h;simp
 |f::fs,r,h=>by
  simp only[l7] at h;cases a:aJ T f.type with
  |none=>simp[a] at h
  |some j =>
   cases b:l7 T fs with
   |none=>simp[a,b] at h
   |some q =>
    simp[a,b] at h;subst h;obtain⟨g,z,e,d,_⟩:=(c _ _ a).info;simp[jh,e,d,qF c b]
def lC(a:Operand->D):List (Nat×Operand)->Option (List (Nat×List A))
 |[]=>some []
 |(i,x)::r=>match kI (a x) with
  |some cs=>match lC a r with
   |some q=>some ((i,cs)::q)
   |none=>none
  |none=>none
theorem od{σ:List ak}{s:St}{c:Operand->Value}{b:Operand->D}(g:∀ y,cd σ s (c y) (b y)):∀ {l:List (Nat×Operand)}{q:List (Nat×List A)},lC b l=some q ->
  (l.map λ(i,x)=>(i,c x)).map (·.1)=q.map (·.1)/\∀ (k:Nat) (p:Nat×List A) (u:Nat×Value),q[k]?=some p->(l.map λ(i,x)=>(i,c x))[k]?=some u->cA σ s u.2.cells.toList p.2
 |[],q,h=>by cases h;simp
 |(i,x)::r,q,h=>by
  simp only[lC] at h;cases a:kI (b x) with
  |none=>simp[a] at h
  |some cs =>
   cases f:lC b r with
   |none=>simp[a,f] at h
   |some q' =>
    simp[a,f] at h;subst h;obtain⟨m,j⟩:=od g f;refine⟨by simpa using m,λk p u e d=>?_⟩
    cases k with
    |zero=>simp at e d;subst e d;exact l5 a (g x)
    |succ k=>exact j k p u (by simpa using e) (by simpa using d)
def ud(T:List (Nat×TI))(a:Operand->D)(t:TypeId)(parts:List (Nat×Operand)):Option (List A) :=
 match aJ T t with
 |some i=>match i.desc with
  |.struct fs=>match l7 T fs.toList with
   |some pl=>match lC a parts with
    |some ps=>sC (λk=>eb k pl) ps (i.zero.map A.c)
    |none=>none
   |none=>none
  |_=>none
 |none=>none
theorem aG.build{P:Program}{T:List (Nat×TI)}(l:bV P T){o:Oper}{j:Operand->D}{σ:List ak}{t:TypeId}{parts:Array (Nat×Operand)}(h:o.op=.build t parts){cs:List A}
  (a:ud T j t parts.toList=some cs):aG P o j σ (.e (.agg cs)) σ:=by
 refine .quiet λs y hh hr=>?_
 unfold ud at a;cases hi:aJ T t with
 |none=>simp[hi] at a
 |some i =>
  simp only[hi] at a;cases g:i.desc with
  |struct fs =>
   simp only[g] at a;cases c:l7 T fs.toList with
   |none=>simp[c] at a
   |some pl =>
    simp only[c] at a;cases d:lC j parts.toList with
    |none=>simp[d] at a
    |some ps =>
     simp only[d] at a;obtain⟨u,z,B,H,I,C,q,F,G⟩:=(l t i hi).info;obtain⟨r,p2⟩:=od (σ:=σ) (s:=s) hr d;obtain⟨f,v,E⟩:=qE (σ:=σ) (s:=s) (place':=λk=>pl.toArray[k]?) (λk p n=>by simpa using cO n) a r p2 (gX q)
     have m:P.built t (parts.map λ(i,x)=>(i,y x)).toList=some f:=by
      unfold Program.built;have b:=(l t i hi).KJ;rw[g] at b;simp only[B,b,C,qF l c];simpa using v
     refine⟨.agg f,?_,⟨f.toList,by simp,E⟩,?_⟩
     ·simp only[execOp,h,aU,run_build s.w t _ f m,bh,b8]
     ·simp only[execOp,h,Sem.events_bind,run_build s.w t _ f m,Result.evThen_ok,Sem.events_pure];exact bH.build s.w #[]
  |_=>simp[g] at a
theorem Jq{k n i j:Nat}(hi:i<n)(b:j<k):i*k+j<n*k:=by
 have a:(i+1)*k<=n*k:=eT k (by omega)
 rw[eh] at a;omega
theorem GH{k i j:Nat}(a:j<k):(i*k+j) / k=i:=by
 rw[iq,Nat.mul_add_div (by omega),Nat.div_eq_of_lt a];omega
theorem GI{k i j:Nat}(a:j<k):(i*k+j) % k=j:=by
 rw[iq,Nat.mul_add_mod,Nat.mod_eq_of_lt a]
theorem Flat.nil{M:Mem}{k:Nat}{es:Nat->List C}:Flat M k 0 es []:=⟨by simp,by omega,by omega⟩
def cx(n:Nat)(f g:Nat->List C):Nat->List C:=λi=>if i<n then f i else g (i-n)
theorem Flat.append{M:Mem}{k n m:Nat}{es es':Nat->List C}{vs ve:List Value}(h:Flat M k n es vs)(b:Flat M k m es' ve):Flat M k (n+m) (cx n es es') (vs++ve):=by
 refine⟨by simp[h.len,b.len,eh],λi hi=>?_,λi hi j c hj=>?_⟩
 ·simp only[cx];split
  ·rename_i a;exact h.width i a
  ·exact b.width _ (by omega)
 ·simp only[cx] at hj;split at hj
  ·rename_i a
   obtain⟨v,h1,h2⟩:=h.rd i a j c hj;refine⟨v,?_,h2⟩;rw[bS]
   ·exact h1
   ·exact(aF.1 h1).1
  ·rename_i d
   obtain⟨v,h1,h2⟩:=b.rd _ (by omega) j c hj
   refine⟨v,?_,h2⟩;have e1:i*k+j=vs.length+((i-n)*k+j):=by
    rw[h.len,<-kq,<-eh,tF (by omega)]
   rw[e1,cv (by omega)]
   rw[show vs.length+((i-n)*k+j)-vs.length=(i-n)*k+j by omega]
   exact h1
theorem Flat.cell{M:Mem}{k n:Nat}{es:Nat->List C}{vs:List Value}(h:Flat M k n es vs):∀ v∈vs,v.oneCell'=true:=by
 intro v c;obtain⟨p,a,rfl⟩:=dV c;rw[h.len] at a;have b:0<k:=by
  rcases hU k with rfl|b
  ·simp at a
  ·exact b
 have hi:p / k<n:=Nat.div_lt_of_lt_mul (by rw[iq];exact a)
 have hj:p % k<k:=jj _ b;have d:=h.width _ hi;obtain⟨v,h1,h2⟩:=h.rd (p / k) hi (p % k) ((es (p / k))[p % k]'(by omega)) (aj (by omega))
 have e:p / k*k+p % k=p:=Nat.div_add_mod' p k;rw[e] at h1;rw[aj (by rw[h.len];exact a)] at h1
 simp at h1;rw[h1];have:=Rd.cell h2;cases v <;> simp_all [cJ,Value.oneCell']
theorem Rd.flat{M:Mem}{v:Value}{t:Bool}{k n:Nat}{es:Nat->List C}(h:Rd M v (.sl t k n es)) :
  ∃ a cap vs,v=.slice a n cap/\n<=cap/\cap<=9223372036854775807/\(t=true->cap=n)/\Flat M k n es vs/\∀ p u,vs[p]?=some u->∃ b off,a=some ⟨b,off,none⟩/\M b (off+p)=some u:=by
 cases h with
 |@sl a _ cap _ _ _ b off f l w r g s x q =>
  refine⟨a,cap,(List.range (n*k)).map λp=>f (p / k) (p % k),rfl,l,w,r,⟨by simp,g,?_⟩,?_⟩
  ·intro i hi j c hj;have e:j<k:=by
    rw[<-g i hi];exact(aF.1 hj).1
   refine⟨f i j,?_,q i hi j c hj⟩;simp[Jq hi e,GH e,GI e]
  ·intro p u m;simp only[mz] at m
   by_cases d:p<n*k
   ·simp[d] at m;subst m;have o:0<k:=by
     rcases hU k with rfl|g
     ·simp at d
     ·exact g
    have hi:p / k<n:=Nat.div_lt_of_lt_mul (by rw[iq];exact d)
    have hj:p % k<k:=jj _ o;have y:=g _ hi;have:=x (p / k) hi (p % k) ((es (p / k))[p % k]'(by omega)) (aj (by omega))
    refine⟨b,off,s (Nat.lt_of_le_of_lt (lP _) hi),?_⟩;rw[show off+p=off+p / k*k+p % k by rw[kq,Nat.div_add_mod' p k]]
    exact this
   ·simp[d] at m
theorem Rd.pX{M:Mem}{k n:Nat}{es:Nat->List C}{vs:List Value}(h:Flat M k n es vs){a:Option Addr}{b off cap:Nat}{t:Bool}(f:0<n->a=some ⟨b,off,none⟩)(d:n<=cap)(g:cap<=9223372036854775807)(e:t=true->cap=n)
  (l:∀ p u,vs[p]?=some u->M b (off+p)=some u):Rd M (.slice a n cap) (.sl t k n es):=by
 refine .sl b off (λi j=>(vs[i*k+j]?).getD undef) d g e h.width f (λi hi j c hj=>?_) (λi hi j c hj=>?_)
 ·obtain⟨v,h1,h2⟩:=h.rd i hi j c hj;rw[h1,show off+i*k+j=off+(i*k+j) by omega]
  exact l _ _ h1
 ·obtain⟨v,h1,h2⟩:=h.rd i hi j c hj;rw[h1];exact h2
theorem cC{P:Program}{σ:List ak}{s:St}(i:ag σ s){v:Value}{t:Bool}{k n:Nat}{es:Nat->List C}(h:Rd s.M v (.sl t k n es)) :
  ∃ vs,Flat s.M k n es vs/\(Builtin.firstCells k n v).run P s.w=.ok vs.toArray s.w/\Builtin.lenOf v=pure n:=by
 obtain⟨a,cap,vs,rfl,e,p,o,d,f⟩:=h.flat;refine⟨vs,d,?_,rfl⟩;have m:vs.length=n*k:=d.len;cases a with
 |none =>
  have:vs=[]:=by
   cases vs with
   |nil=>rfl
   |cons u q=>obtain⟨b,off,c,_⟩:=f 0 u rfl;cases c
  subst this;rfl
 |some ad =>
  simp only[Builtin.firstCells];rw[<-m];refine run_loadCells_list s.w ad vs λj u l=>?_
  obtain⟨b,off,c,g⟩:=f j u l;cases c;rw[ck];exact i.mem _ _ _ g
theorem aG.CX{P:Program}{T:List (Nat×TI)}(q:bV P T){o:Oper}{f:Operand->D}{σ:List ak}{t:TypeId}{x y:Operand}(h:o.op=.index t x y){l:List UInt8}{j:Int}{k:IntKind}{i:TI}{m:Nat}(hi:aJ T t=some i)(p:i.desc=.string)
  (v:f x=.e (.one (.c (.str l)))) (u:f y=.e (.one (.c (.int k j)))) (hj:j=m) (z:m<l.length):aG P o f σ (.e (.one (.c (.int .u8 (l[m]).toNat)))) σ:=by
 refine .quiet λs n hh hr=>?_
 have h1:=hr x;have h2:=hr y;rw[v] at h1;rw[u] at h2
 replace h1:=ei h1
 replace h2:=ei h2
 generalize d:n x=vx at h1;generalize a:n y=vy at h2;cases h1 with
 |@str sb _ r hl =>
 cases h2;subst r;have g:sb[m]?=some (sb.data.toList[m]):=by
  have hm':m<sb.size:=by have e:sb.data.toList.length=sb.size:=fj;omega
  rw[getElem?_pos sb m hm']
  congr 1
 refine⟨.int .u8 (sb.data.toList[m]).toNat,?_,Rd.int ?_,?_⟩
 rotate_left 2
 ·have b:=(q t i hi).run_underlying (w:=s.w);rw[p] at b;simp[execOp,h,d,a,Instr.index,asIntOf,b,hj,g]
 ·have b:=(q t i hi).run_underlying (w:=s.w);rw[p] at b;simp[execOp,h,d,a,Instr.index,asIntOf,b,hj,g]
 ·have:=(sb.data.toList[m]).toNat_lt;simp only[aB];omega
theorem aG.indexAddr{P:Program}{T:List (Nat×TI)}(A:bV P T){o:Oper}{r:Operand->D}{σ:List ak}{t:TypeId}{x y:Operand}(h:o.op=.indexAddr t x y){i g:TI}{E:TypeId}(hi:aJ T t=some i)(J:i.desc=.slice E)(I:aJ T E=some g)
  {tt:Bool} {n:Nat} {es:Nat->List C} {j:Int} {k:IntKind} {m:Nat} (H:∀ s v,cd σ s v (r x)->Rd s.M v (.sl tt g.size n es)) (K:r y=.e (.one (.c (.int k j)))) (hj:j=m) (d:m<n) :
  aG P o r σ (.e (.one (.c (.rp (es m))))) σ:=by
 refine .quiet λs B hh hr=>?_
 have h1:=H s _ (hr x);have h2:=hr y;rw[K] at h2
 replace h2:=ei h2
 generalize p:B x=vx at h1;generalize z:B y=vy at h2;cases h2;cases h1 with
 |@sl a _ cap _ _ _ b off f G Q O N L hm' Gc =>
 have l:0<n:=by omega
 have F:=(A t i hi).run_underlying (w:=s.w);rw[J] at F;refine⟨.pointer (some ⟨b,off+m*g.size,none⟩),?_,Rd.rp b (off+m*g.size) (f m) (λq c u=>hm' m d q c u) (λq c u=>Gc m d q c u),?_⟩ <;>
 simp[execOp,h,p,z,Instr.indexAt,asIntOf,F,hj,L l,(A E g I).run_sizeOf,ck,d]
theorem aG.Lw{P:Program}{T:List (Nat×TI)}(q:bV P T){o:Oper}{j:Operand->D}{σ:List ak}{x:Operand}{b:Array TypeId}{t:TypeId}(h:o.op=.call { callee:=.builtin .len,args:=#[x],argTypes:=b })(m:b[0]?=some t){i:TI}{E:TypeId}(hi:aJ T t=some i)(p:i.desc=.slice E)
  {tt:Bool} {k n:Nat} {es:Nat->List C} (r:∀ s v,cd σ s v (j x)->Rd s.M v (.sl tt k n es)):aG P o j σ (.e (.one (.c (.int .i64 n)))) σ:=by
 refine .quiet λs u hh hr=>?_
 obtain⟨a,cap,vs,l,g,y,_⟩:=(r s _ (hr x)).flat;have f:=(q t i hi).run_underlying (w:=s.w);rw[p] at f;have d:b[0]?=some t:=m;refine⟨.int .i64 n,?_,Rd.int (by simp only[aB];omega),?_⟩ <;>
 simp[execOp,h,resolve,invoke,builtin,Builtin.len_,l,f,goInt,d]
theorem aG.IW{P:Program}{T:List (Nat×TI)}(q:bV P T){o:Oper}{j:Operand->D}{σ:List ak}{x:Operand}{a:Array TypeId}{t:TypeId}(h:o.op=.call { callee:=.builtin .len,args:=#[x],argTypes:=a })(m:a[0]?=some t){i:TI}(hi:aJ T t=some i)(n:i.desc=.string)
  {l:List UInt8} (r:j x=.e (.one (.c (.str l)))):aG P o j σ (.e (.one (.c (.int .i64 l.length)))) σ:=by
 refine .quiet λs k hh hr=>?_
 have h1:=hr x;rw[r] at h1
 replace h1:=ei h1
 generalize f:k x=vx at h1;cases h1 with
 |@str sb _ p hl =>
 have g:=(q t i hi).run_underlying (w:=s.w);rw[n] at g;have b:a[0]?=some t:=m;have d:sb.size=l.length:=by rw[<-p];exact fj.symm
 refine⟨.int .i64 l.length,?_,Rd.int (by simp only[aB];omega),?_⟩ <;>
 simp[execOp,h,resolve,invoke,builtin,Builtin.len_,f,g,goInt,b,d]
def St.newRow(s:St)(E:TypeId)(vs:List Value):St :=
 { β:=s.β,M:=λb o=>if b=s.w.heap.size then vs[o]? else s.M b o,w:=s.w.alloc (.cells vs.toArray E),own:=s.own }
theorem ag.newRow{σ:List ak}{s:St}(h:ag σ s)(E:TypeId)(vs:List Value):ag σ (s.newRow E vs)/\Step σ s σ (s.newRow E vs):=by
 refine h.grow (by simp) (λb c=>bK _ _ c) (λb c o=>by simp[show b≠s.w.heap.size by omega]) (λb c o v a=>?_) rfl rfl rfl
 by_cases e:b=s.w.heap.size
 ·subst e;simp at a;show World.cell? (s.w.alloc (.cells vs.toArray E)) ⟨s.w.heap.size,o,none⟩=some v;unfold World.cell?;simp only[cB];simpa using a
 ·simp only[e,aQ] at a;have:=h.block a;omega
theorem AY(s:St)(E:TypeId)(vs:List Value):∀ p u,vs[p]?=some u->(s.newRow E vs).M s.w.heap.size (0+p)=some u:=by
 intro p u h;simpa[St.newRow] using h
def eD:List A->Option (List C)
 |[]=>some []
 |.c c::r=>match eD r with|some q=>some (c::q)|none=>none
 |.vec _ k n es::r=>match eD r with|some q=>some (.sl false k n es::q)|none=>none
 |_::_=>none
theorem iB{σ:List ak}{s:St}:∀ {cs:List A}{r:List C}{vs:List Value},eD cs=some r->cA σ s vs cs->cA σ s vs (r.map A.c)
 |[],r,vs,h,a=>by cases h;exact a
 |_::_,_,[],_,a=>a.elim
 |.c c::al,r,v::vs,h,a=>by
  simp only[eD] at h;cases b:eD al with
  |none=>simp[b] at h
  |some q=>simp[b] at h;subst h;exact⟨a.1,iB b a.2⟩
 |.vec l k n es::al,r,v::vs,h,a=>by
  simp only[eD] at h;cases b:eD al with
  |none=>simp[b] at h
  |some q=>simp[b] at h;subst h;exact⟨a.1.1,iB b a.2⟩
 |.ptr l o::al,r,v::vs,h,a=>by simp[eD] at h
 |.ref l::al,r,v::vs,h,a=>by simp[eD] at h
 |.bp l w::al,r,v::vs,h,a=>by simp[eD] at h
 |.any::al,r,v::vs,h,a=>by simp[eD] at h
def oe{α:Type}(k:Nat):Nat->List α->Option (List (List α))
 |0,[]=>some []
 |0,_::_=>none
 |n+1,l=>match kQ k l with
  |some c=>match oe k n (eL k l) with
   |some r=>some (c::r)
   |none=>none
  |none=>none
theorem cA.closed{σ:List ak}{s:St}:∀ {vs:List Value}{cs:List C},cA σ s vs (cs.map A.c)->∀ (j:Nat)(c:C),cs[j]?=some c->∃ v,vs[j]?=some v/\Rd s.M v c:=by
 intro vs cs h j c hj;obtain⟨v,h1,h2⟩:=h.get (j:=j) (a:=.c c) (by simp[hj])
 exact⟨v,h1,h2⟩
theorem sD{M:Mem}{k:Nat}:∀ {n:Nat}{cs:List C}{es:List (List C)}{vs:List Value},oe k n cs=some es->vs.length=cs.length->(∀ (j:Nat)(c:C),cs[j]?=some c->∃ v,vs[j]?=some v/\Rd M v c)->es.length=n/\Flat M k n (λi=>es.getD i []) vs
 |0,[],es,vs,h,a,g=>by cases h;simp at a;subst a;exact⟨rfl,.nil⟩
 |0,_::_,es,vs,h,a,g=>by cases h
 |n+1,cs,es,vs,h,a,g=>by
  simp only[oe] at h;cases o:kQ k cs with
  |none=>simp[o] at h
  |some c =>
   simp only[o] at h;cases m:oe k n (eL k cs) with
   |none=>simp[m] at h
   |some q =>
    simp[m] at h;subst h;obtain⟨l,b⟩:=jY o;rw[j4] at m;obtain⟨r,p⟩:=sD (vs:=vs.drop k) m (by simp[a]) (λj c d=>by
     obtain⟨v,l,b⟩:=g (k+j) c (by simpa using d)
     exact⟨v,by simpa using l,b⟩)
    refine⟨by simp[r],?_⟩
    have u:k<=cs.length:=by rw[l,List.length_take] at b;omega
    have s:Flat M k 1 (λ_=>c) (vs.take k):=by
     refine⟨by simp[a];omega,by simp[b],λi hi j x d=>?_⟩
     cases i with
     |zero =>
      have f:j<k:=by rw[<-b];exact(aF.1 d).1
      obtain⟨v,t,p2⟩:=g j x (by rw[l,dD] at d;simpa[f] using d)
      exact⟨v,by rw[dD];simpa[f] using t,p2⟩
     |succ i=>omega
    have:=s.append p;rw[iu 1 n] at this;have e:cx 1 (λ_=>c) (λi=>q.getD i [])=λi=>(c::q).getD i []:=by
     funext i
     cases i <;> simp[cx]
    rw[e] at this;simpa using this
def Gj(T:List (Nat×TI))(a:Operand->D)(t:TypeId)(n:Nat)(parts:List (Nat×Operand)):Option (Nat×List (List C)) :=
 match aJ T t with
 |some i=>match i.desc with
  |.slice E=>match aJ T E with
   |some ie=>match Nat.beq ie.size 0 with
    |true=>none
    |false=>match Nat.ble (n*ie.size) 16777216 with
     |true=>match lC a parts with
      |some ps=>match sC (λk=>some (k*ie.size,ie.size)) ps (List.replicate (n*ie.size) A.any) with
       |some cs=>match eD cs with
        |some r=>match oe ie.size n r with
         |some es=>some (ie.size,es)
         |none=>none
        |none=>none
       |none=>none
      |none=>none
     |false=>none
   |none=>none
  |_=>none
 |none=>none
theorem aG.buildSlice{P:Program}{T:List (Nat×TI)}(Q:bV P T){o:Oper}{X:Operand->D}{σ:List ak}{t:TypeId}{n:Nat}{parts:Array (Nat×Operand)}(h:o.op=.buildSlice t n parts){k:Nat}{es:List (List C)}
  (a:Gj T X t n parts.toList=some (k,es)):aG P o X σ (.e (.one (.c (.sl true k n λi=>es.getD i [])))) σ:=by
 intro s R hh hr;unfold Gj at a;cases hi:aJ T t with
 |none=>simp[hi] at a
 |some i =>
  simp only[hi] at a;cases W:i.desc with
  |slice E =>
   simp only[W] at a;cases J:aJ T E with
   |none=>simp[J] at a
   |some ie =>
    simp only[J] at a;cases O:Nat.beq ie.size 0 with
    |true=>simp[O] at a
    |false =>
     simp only[O] at a;cases f:Nat.ble (n*ie.size) 16777216 with
     |false=>simp[f] at a
     |true =>
      simp only[f] at a;cases l:lC X parts.toList with
      |none=>simp[l] at a
      |some ps =>
       simp only[l] at a;cases g:sC (λk=>some (k*ie.size,ie.size)) ps (List.replicate (n*ie.size) A.any) with
       |none=>simp[g] at a
       |some cs =>
        simp only[g] at a;cases y:eD cs with
        |none=>simp[y] at a
        |some r =>
         simp only[y] at a;cases j:oe ie.size n r with
         |none=>simp[j] at a
         |some es' =>
          simp only[j,bG,kp] at a;obtain⟨rfl,rfl⟩:=a;have Y:ie.size≠0:=λe=>by rw[e] at O;cases O
          have S0:=c6 f;obtain⟨inf,z,z1,z2,z3,z4,z5,z6,z7⟩:=(Q E ie J).info;have UM:z.cells.size=ie.size:=by
           have:=b5 List.length z5;simp at this;omega
          have S:∀ v∈z.cells.toList,cJ v=true:=by
           intro v F;have d:nU v∈z.cells.toList.map nU:=List.mem_map.2 ⟨v,F,rfl⟩;rw[z5] at d;obtain⟨c,_,hc⟩:=List.mem_map.1 d;exact(Rd.nU (M:=s.M) hc.symm).cell
          have N:∀ m,(∀ v∈(List.range m).map (λq=>z.cells[q % z.cells.size]!),cJ v=true):=by
           intro m v F;obtain⟨q,_,rfl⟩:=List.mem_map.1 F;have H:q % z.cells.size<z.cells.size:=jj _ (by omega)
           apply S
           rw[m0 z.cells _ H];exact Array.getElem_mem_toList H
          have I:∀ vs:List Value,(∀ v∈vs,cJ v=true)->cA σ s vs (List.replicate vs.length A.any):=by
           intro vs
           induction vs with
           |nil=>intro _;trivial
           |cons v vs ih=>intro F;exact⟨F v (by simp),ih λu K=>F u (by simp[K])⟩
          obtain⟨p1,p2⟩:=od (σ:=σ) (s:=s) hr l;have Z:cA σ s ((Array.range (n*ie.size)).map (λq=>z.cells[q % z.cells.size]!)).toList (List.replicate (n*ie.size) A.any):=by
           have:=I _ (N (n*ie.size));simpa using this
          obtain⟨L,u1,u2⟩:=qE (σ:=σ) (s:=s) (place':=λk=>some (k*ie.size,ie.size)) (λk p hk=>hk) g p1 p2 Z
          have u3:=iB y u2;obtain⟨c1,c2⟩:=sD (M:=s.M) (vs:=L.toList) j (by simpa using u3.length) u3.closed
          obtain⟨g1,g2⟩:=hh.newRow E L.toList;refine⟨.value (.slice (some ⟨s.w.heap.size,0,none⟩) n n),s.newRow E L.toList,?_,?_,g1,g2,?_⟩
          rotate_left 2
          ·have e:(execOp R o).events P s.w #[]=#[]:=by
            simp only[execOp,h];exact bH.bind bH.buildSlice (λ_=>bH.pure) _ _
           rw[e];exact .nil
          ·have K:=(Q t i hi).run_underlying (w:=s.w);rw[W] at K;have U:(zeroValue E).run P s.w=.ok z s.w:=by simp[zeroValue,typeInfo,z1,z4]
           have B:Instr.fill (λk=>some (k*ie.size,ie.size)) ((Array.range (n*ie.size)).map (λq=>z.cells[q % z.cells.size]!)) (parts.map λ(i,x)=>(i,R x)).toList=some L:=by simpa using u1
           by_cases h0:n*ie.size=0
           ·have V:n=0:=by rcases Nat.mul_eq_zero.1 h0 with h|h;exact h;exact absurd h Y
            subst V;have G:Array.range 0=#[]:=rfl;simp[G] at B;simp[execOp,h,Instr.buildSlice,K,(Q E ie J).run_sizeOf,G,B,Go.newRow,St.newRow]
           ·rw[show execOp R o=(do pure (.value (<-Instr.buildSlice t n (parts.map λ(i,x)=>(i,R x))))) by simp[execOp,h]]
            simp only[Instr.buildSlice,aU,K,bh,(Q E ie J).run_sizeOf,h0,aQ,U,show ¬n*ie.size>2 ^ 24 by omega,Sem.run_ite,B,b8]
            simp[Go.newRow,St.newRow]
          ·refine Rd.pX (c2.mono g2.mem) (b:=s.w.heap.size) (off:=0) (λ_=>rfl) (aq _) ?_ (λ_=>rfl) (AY s E L.toList)
           have:n<=n*ie.size:=tv n (by omega)
           omega
  |_=>simp[W] at a
theorem Ext.trans{σ σ1 σ2:List ak}{s a s2:St}(h:Ext σ s σ1 a)(k:Ext σ1 a σ2 s2):Ext σ s σ2 s2:=by
 refine⟨λb o v m=>k.mem _ _ _ (h.mem _ _ _ m),λl B L c j=>?_⟩
 obtain⟨B1,L1,h1,h2,f⟩:=h.box l B L c j;obtain⟨p,r,k1,e,n⟩:=k.box l B1 L1 h1 h2;exact⟨p,r,k1,e,f.trans n⟩
theorem dG{α:Type}{l:List α}{x y:α}{i:Nat}(h:(l++[x])[i]?=some y):l[i]?=some y∨(i=l.length/\y=x):=by
 rcases Nat.lt_trichotomy i l.length with a|rfl|b
 ·rw[bS a] at h;exact .inl h
 ·simp at h;exact .inr ⟨rfl,h.symm⟩
 ·rw[cv (by omega)] at h
  cases c:i-l.length with
  |zero=>omega
  |succ n=>simp[c] at h
theorem ag.hY{σ:List ak}{s c:St}(h1:ag σ c)(st:Step σ s σ c)(n:c.β=s.β)(hh:ag σ s){B:ak}{L:Loc}(u:dj (σ++[B]) { c with β:=c.β++[L] } B L)
  (f:∀ b∈L.bs,s.w.heap.size<=b/\b<c.w.heap.size):ag (σ++[B]) { c with β:=c.β++[L] }/\Step σ s (σ++[B]) { c with β:=c.β++[L] }:=by
 have ex:Ext σ c (σ++[B]) { c with β:=c.β++[L] }:=by
  refine⟨λ_ _ _ h=>h,λl B' L' ig eR=>?_⟩
  have hl:l<c.β.length:=(aF.1 eR).1;have o:l<σ.length:=(aF.1 ig).1;exact⟨B',L',by rw[bS o,ig],by rw[bS hl,eR],.refl _ _⟩
 have e2:=st.ext.trans ex;refine⟨⟨h1.mem,by simp[h1.len],?_,?_,?_,?_⟩,⟨st.size,st.en,st.mem,st.hZ,?_,e2.box,st.os,st.tape,st.output,st.own⟩⟩
 ·intro l B' L' ig eR;rcases dG ig with m|⟨rfl,rfl⟩
  ·have hl:l<c.β.length:=by rw[h1.len];exact(aF.1 m).1
   rw[bS hl] at eR;exact(h1.box l B' L' m eR).carry ex h1.len λ_ _=>⟨rfl,λ_=>rfl⟩
  ·rcases dG eR with k|⟨_,rfl⟩
   ·have:=(aF.1 k).1;rw[h1.len] at this;omega
   ·exact u
 ·intro l l' L1 L2 k p b a j;rcases dG k with k1|⟨rfl,rfl⟩ <;> rcases dG p with r|⟨rfl,rfl⟩
  ·exact h1.ez l l' L1 L2 k1 r b a j
  ·have x:=f b j;have v:=hh.lt L1 (by rw[<-n];exact aH k1) b a
   omega
  ·have x:=f b a;have v:=hh.lt L2 (by rw[<-n];exact aH r) b j
   omega
  ·rfl
 ·intro L' eR b a;simp only[dE,fp] at eR;rcases eR with eR|rfl
  ·exact h1.lt L' eR b a
  ·exact(f b a).2
 ·intro b a;refine⟨(h1.own b a).1,λL' eR Cl=>?_⟩
  simp only[dE,fp] at eR;rcases eR with eR|rfl
  ·exact(h1.own b a).2 L' eR Cl
  ·have e:=st.own;simp only at a;rw[e] at a;have:=(hh.own b a).1;have:=(f b Cl).1;omega
 ·intro L' eR b a;simp only[dE,fp] at eR;rcases eR with eR|rfl
  ·exact st.rF L' eR b a
  ·exact .inl (f b a).1
theorem ag.jL{σ:List ak}{s:St}{M':Mem}{w':World}(hh:ag σ s){l:Nat}{B B':ak}{L L':Loc}(G:σ[l]?=some B)(k:s.β[l]?=some L)(J:fX B L B' L')
  (O:s.w.heap.size<=w'.heap.size) (S:∀ b,b<s.w.heap.size->b∉L.bs->w'.heap[b]?=s.w.heap[b]?) (R:∀ b,b<s.w.heap.size->b∉L.bs->∀ o,M' b o=s.M b o)
  (F:∀ b o v,s.M b o=some v->M' b o=some v) (hN:∀ b o v,M' b o=some v->w'.cell? ⟨b,o,none⟩=some v)
  (n:∀ b∈L'.bs,(b∈L.bs∨s.w.heap.size<=b)/\b<w'.heap.size)
  (ho:w'.os=s.w.os) (W:w'.tape=s.w.tape) (Z:w'.output=s.w.output)
  (V:dj (σ.set l B') ⟨s.β.set l L',M',w',s.own⟩ B' L'):ag (σ.set l B') ⟨s.β.set l L',M',w',s.own⟩/\Step σ s (σ.set l B') ⟨s.β.set l L',M',w',s.own⟩:=by
 have r:l<σ.length:=(aF.1 G).1;have u:l<s.β.length:=(aF.1 k).1;have a:∀ i X,(s.β.set l L')[i]?=some X->(i=l/\X=L')∨(i≠l/\s.β[i]?=some X):=by
  intro i X c
  by_cases e:l=i
  ·subst e;rw[bo u] at c;cases c;exact .inl ⟨rfl,rfl⟩
  ·rw[b7 e] at c;exact .inr ⟨λh=>e h.symm,c⟩
 have ex:Ext σ s (σ.set l B') ⟨s.β.set l L',M',w',s.own⟩:=by
  refine⟨F,λi X Y c x=>?_⟩
  by_cases e:l=i
  ·subst e;rw[G] at c;cases c;rw[k] at x;cases x;exact⟨B',L',bo r,bo u,J⟩
  ·exact⟨X,Y,by rw[b7 e];exact c,by rw[b7 e];exact x,.refl _ _⟩
 have out:∀ i X,i≠l->s.β[i]?=some X->∀ b∈X.bs,b<s.w.heap.size/\b∉L.bs:=by
  intro i X hi c b f;exact⟨hh.lt X (aH c) b f,λN=>hi (hh.ez i l X L c k b f N)⟩
 refine⟨⟨hN,by simp[hh.len],?_,?_,?_,?_⟩,⟨O,?_,F,?_,?_,ex.box,ho,W,Z,rfl⟩⟩
 ·intro i X Y c x;rcases a i Y x with⟨rfl,rfl⟩|⟨hi,x⟩
  ·rw[bo r] at c;cases c;exact V
  ·rw[b7 (λe=>hi e.symm)] at c
   refine(hh.box i X Y c x).carry ex hh.len λb f=>?_
   obtain⟨H,C⟩:=out i Y hi x b f;exact⟨S b H C,R b H C⟩
 ·intro i I X K c j b f y;rcases a i X c with⟨rfl,rfl⟩|⟨hi,D⟩ <;> rcases a I K j with⟨rfl,rfl⟩|⟨m,p⟩
  ·rfl
  ·obtain⟨H,C⟩:=out I K m p b y;rcases(n b f).1 with h|h
   ·exact absurd h C
   ·omega
  ·obtain⟨H,C⟩:=out i X hi D b f;rcases(n b y).1 with h|h
   ·exact absurd h C
   ·omega
  ·exact hh.ez i I X K D p b f y
 ·intro X c b f;obtain⟨i,hi,rfl⟩:=dV c;rcases a i _ (aj hi) with⟨rfl,e⟩|⟨m,j⟩
  ·rw[e] at f;exact(n b f).2
  ·have:=(out i _ m j b f).1;show b<w'.heap.size;omega
 ·intro b f;obtain⟨o1,U⟩:=hh.own b f;refine⟨by show b<w'.heap.size;omega,λX c z=>?_⟩
  obtain⟨i,hi,rfl⟩:=dV c;rcases a i _ (aj hi) with⟨rfl,e⟩|⟨m,j⟩
  ·rw[e] at z;rcases(n b z).1 with h|h
   ·exact U L (aH k) h
   ·omega
  ·exact U _ (aH j) z
 ·intro b f Q;exact S b f (Q L (aH k))
 ·intro b f Q o;exact R b f (Q L (aH k)) o
 ·intro X c b f;obtain⟨i,hi,rfl⟩:=dV c;rcases a i _ (aj hi) with⟨rfl,e⟩|⟨m,j⟩
  ·rw[e] at f;rcases(n b f).1 with h|h
   ·exact .inr ⟨L,aH k,h⟩
   ·exact .inl h
  ·exact .inr ⟨_,aH j,f⟩
theorem m2{a old bytes:Nat}(h:old<a)(b:a*bytes<=140737488355328):¬Builtin.nextslicecap a old*bytes>2 ^ 48:=by
 have:=growslice_fits h b;omega
section
variable {P:Program}{T:List (Nat×TI)}(A:bV P T){σ:List ak}{s:St}{t g ty E:TypeId}{i q d:TI}
theorem ia(hi:aC P t i)(y:i.desc=.slice E)(j:aC P g q)(h:q.desc=.slice E)(u:aC P E d)(p:ag σ s)
  {a:Option Addr} {n cap:Nat} (e:n<=cap) {x:Value} {v:Bool} {es':Nat->List C} (o:Rd s.M x (.sl v d.size 0 es')) :
  (Builtin.append_ #[t,g] ty #[.slice a n cap,x]).run P s.w=.ok (.slice a n cap) s.w:=by
 obtain⟨c,r,z,m⟩:=cC (P:=P) p o;have k:=hi.run_underlying (w:=s.w);have b:=j.run_underlying (w:=s.w);rw[y] at k;rw[h] at b;obtain⟨a',l,vs,rfl,_⟩:=o.flat;have f:c=[]:=fO (by simpa using r.len)
 subst f;cases a <;> simp[Builtin.append_,k,b,u.run_sizeOf,Builtin.lenOf,e,z,storeCells]
theorem iG(hi:aC P t i)(hd:i.desc=.slice E)(L:aC P g q)(G:q.desc=.slice E)(O:aC P E d)(hh:ag σ s)
  {a:Option Addr} {n cap m:Nat} {td tx:Bool} {es es':Nat->List C} {x:Value} (Y:Rd s.M (.slice a n cap) (.sl td d.size n es)) (V:Rd s.M x (.sl tx d.size m es')) (hg:cap<n+m) (S:(n+m)*d.bytes<=140737488355328) (F:d.bytes≠0) :
  ∃ vs zs F3,Flat s.M d.size (n+m) (cx n es es') vs/\n+m<=F3/\F3<=9223372036854775807/\(vs++zs).length=F3*d.size /\
   (Builtin.append_ #[t,g] ty #[.slice a n cap,x]).run P s.w=.ok (.slice (some ⟨s.w.heap.size,0,none⟩) (n+m) F3) (s.w.drew.alloc (.cells (vs++zs).toArray E)):=by
 have l:ag σ { s with w:=s.w.drew }:=hh.same rfl;obtain⟨c,N,D,k⟩:=cC (P:=P) l (v:=x) V;obtain⟨b,p,h,Rt⟩:=cC (P:=P) l (v:=.slice a n cap) Y;have Q:=hi.run_underlying (w:=s.w);have y:=L.run_underlying (w:=s.w);rw[hd] at Q;rw[G] at y;obtain⟨o,z,R,z2,z3,z4,X,z6,z7⟩:=O.info;have U:n+m<=140737488355328:=gf (tv _ (Nat.pos_of_ne_zero F)) S;have B:z.cells.size=d.size:=by
  have:=b5 List.length X;simp at this;omega
 refine⟨b++c,(Builtin.zeroCells z.cells (grownCap s.w (n+m) cap E-(n+m))).toList,grownCap s.w (n+m) cap E,p.append N,grownCap_ge _ _ _ _,?_,?_,?_⟩
 ·have:=grownCap_le_maxLen s.w (n+m) cap E (by unfold maxLen;omega)
  unfold maxLen at this;omega
 ·have W:=grownCap_ge s.w (n+m) cap E;simp only[bd,p.len,N.len,fj,size_zeroCells,B,<-eh]
  congr 1
  omega
 ·have K:=m2 hg S;have j:¬Builtin.nextslicecap (n+m) cap*o.bytes>2 ^ 48:=by rw[z3];exact K
  have r:¬n+m<=cap:=by omega
  have I:¬((n+m:Nat):Int)>IntKind.i64.max:=by
   have e:IntKind.i64.max=9223372036854775807:=rfl;rw[e];omega
  have J:∀ u,(typeInfo E).run P u=.ok o u:=λu=>by simp[typeInfo,R]
  have H:∀ u,(zeroValue E).run P u=.ok z u:=λu=>by simp[zeroValue,typeInfo,R,z4]
  have f:(Builtin.lenOf x).run P s.w=.ok m s.w:=by rw[k];rfl
  replace D:(Builtin.firstCells d.size m x).run P s.w.drew=.ok c.toArray s.w.drew:=D
  replace h:(Builtin.firstCells d.size n (.slice a n cap)).run P s.w.drew=.ok b.toArray s.w.drew:=h
  unfold Builtin.append_;simp only[gd,mv,nO,aU,Q,y,bh,O.run_sizeOf,b8,fQ,aQ,f,r,
   I,false_and,J,j,run_choose,Question.forced,run_askRoom,Sem.run_ite,World.drew_eq,h,D,py,aZ,H]
  simp[Go.newRow,grownCap];have e:∀ Z:Array Value,(b++c).toArray++Z=(b++(c++Z.toList)).toArray:=λZ=>by apply fH;simp
  rw[e];rfl
theorem jU(hi:aC P t i)(G:i.desc=.slice E)(r:aC P g q)(p:q.desc=.slice E)(D:aC P E d)(I:ag σ s)
  {b n cap m:Nat} {u:TypeId} {c:List Value} (H:s.w.heap[b]?=some (.cells c.toArray u (0,0))) (h:c.length=cap*d.size) {F:Bool} {es':Nat->List C} {x:Value} (B:Rd s.M x (.sl F d.size m es')) (v:n+m<=cap) :
  ∃ a,Flat s.M d.size m es' a/\(Builtin.append_ #[t,g] ty #[.slice (some ⟨b,0,none⟩) n cap,x]).run P s.w=.ok (.slice (some ⟨b,0,none⟩) (n+m) cap) (s.w.setRow b (c.take (n*d.size)++a++c.drop (n*d.size+a.length)).toArray):=by
 obtain⟨a,o,z,f⟩:=cC (P:=P) I B;have y:=hi.run_underlying (w:=s.w);have l:=r.run_underlying (w:=s.w);rw[G] at y;rw[p] at l;have j:n*d.size+a.length<=c.length:=by
  rw[o.len,h,<-eh];exact eT _ v
 have k:=run_storeCells_at P b (n*d.size) u a 0 c.toArray s.w H (by simpa using j) o.cell
 simp only[eg] at k;have e:(Builtin.lenOf x).run P s.w=.ok m s.w:=by rw[f];rfl
 refine⟨a,o,?_⟩;unfold Builtin.append_;simp only[gd,mv,nO,aU,y,l,bh,D.run_sizeOf,b8,fQ,aQ,e,v,aZ,py,z,ck,ay,k]
end
theorem xx{α:Type}{P:Program}{x:Sem α}{w:World}{es:Array Event}{e:Event}(h:e∈x.events P w es):e∈es∨e∈x.events P w #[]:=by
 rw[Sem.events_acc] at h;exact Array.mem_append.1 h
def Qs(s:St)(e:Event):Prop:=∃ b o u,e=tL b o/\s.M b o=some u
theorem fA{P:Program}{σ:List ak}{s:St}(B:ag σ s){v:Value}{t:Bool}{k n:Nat}{es:Nat->List C}(h:Rd s.M v (.sl t k n es)){w:World}(F:w.heap=s.w.heap) :
  ∀ e∈(Builtin.firstCells k n v).events P w #[],Qs s e:=by
 obtain⟨a,cap,vs,rfl,r,J,I,D,G⟩:=h.flat;have K:vs.length=n*k:=D.len;intro e l;cases a with
 |none=>simp[Builtin.firstCells] at l
 |some ad =>
  simp only[Builtin.firstCells] at l;have c:∀ j,j<n*k->∃ b off u,ad=⟨b,off,none⟩/\s.M b (off+j)=some u:=by
   intro j o;obtain⟨b,off,z,f⟩:=G j (vs[j]'(by omega)) (aj (by omega))
   cases z;exact⟨b,off,_,rfl,f⟩
  by_cases x:n*k=0
  ·rw[x] at l;simp[loadCells,loadCellsFrom] at l
  ·obtain⟨b,off,_,rfl,_⟩:=c 0 (by omega)
   have y:∀ j,j<n*k->∃ v,w.cell? ⟨b,off+j,none⟩=some v:=by
    intro j o;obtain⟨H,m,u,p,f⟩:=c j o;cases p;have:=B.mem _ _ _ f;exact⟨u,by simp only[World.cell?,F] at this ⊢;exact this⟩
   rcases m3 (P:=P) y e l with h|⟨j,o,rfl⟩
   ·simp at h
   ·obtain⟨H,m,u,p,f⟩:=c j o;cases p;exact⟨_,_,u,rfl,f⟩
theorem pW{s:St}{e:Event}(h:Qs s e):lf s e:=by
 obtain⟨b,o,u,rfl,a⟩:=h;exact vf a
section
variable {P:Program}{σ:List ak}{s:St}{t g ty E:TypeId}{i q d:TI}
theorem iH(hi:aC P t i)(D:i.desc=.slice E)(l:aC P g q)(j:q.desc=.slice E)(y:aC P E d)(o:ag σ s)
  {a:Option Addr} {n cap:Nat} (f:n<=cap) {x:Value} {z:Bool} {es':Nat->List C} (m:Rd s.M x (.sl z d.size 0 es')) :
  eP s ((Builtin.append_ #[t,g] ty #[.slice a n cap,x]).events P s.w #[]):=by
 obtain⟨c,v,F,u⟩:=cC (P:=P) o m;have k:=fA (P:=P) o m (w:=s.w) rfl;have p:=hi.run_underlying (w:=s.w);have b:=l.run_underlying (w:=s.w);rw[D] at p;rw[j] at b;obtain⟨a',r,vs,rfl,_⟩:=m.flat;have h:c=[]:=fO (by simpa using v.len)
 subst h;intro e B;refine pW (k e ?_);cases a <;> simpa[Builtin.append_,p,b,y.run_sizeOf,Builtin.lenOf,f,F,storeCells] using B
theorem jM(hi:aC P t i)(hd:i.desc=.slice E)(U:aC P g q)(L:q.desc=.slice E)(Y:aC P E d)(V:ag σ s)
  {a:Option Addr} {n cap m:Nat} {td tx:Bool} {es es':Nat->List C} {x:Value} (X:Rd s.M (.slice a n cap) (.sl td d.size n es)) (W:Rd s.M x (.sl tx d.size m es')) (hg:cap<n+m) (hb:(n+m)*d.bytes<=140737488355328) (K:d.bytes≠0) :
  eP s ((Builtin.append_ #[t,g] ty #[.slice a n cap,x]).events P s.w #[]):=by
 have D:ag σ { s with w:=s.w.drew }:=V.same rfl;obtain⟨B,hF,J,c⟩:=cC (P:=P) D (v:=x) W;obtain⟨y,Us,l,Rt⟩:=cC (P:=P) D (v:=.slice a n cap) X;have I:=fA (P:=P) V W (w:=s.w.drew) rfl;have F:=fA (P:=P) V X (w:=s.w.drew) rfl;have Z:=hi.run_underlying (w:=s.w);have H:=U.run_underlying (w:=s.w);rw[hd] at Z;rw[L] at H;obtain⟨k,z,z1,z2,z3,z4,z5,z6,z7⟩:=Y.info;have hle:n+m<=140737488355328:=gf (tv _ (Nat.pos_of_ne_zero K)) hb;have S:=m2 hg hb;have p:¬Builtin.nextslicecap (n+m) cap*k.bytes>2 ^ 48:=by rw[z3];exact S
 have G:¬n+m<=cap:=by omega
 have Q:¬((n+m:Nat):Int)>IntKind.i64.max:=by
  have e:IntKind.i64.max=9223372036854775807:=rfl;rw[e];omega
 have R:∀ u,(typeInfo E).run P u=.ok k u:=λu=>by simp[typeInfo,z1]
 have O:∀ u,(zeroValue E).run P u=.ok z u:=λu=>by simp[zeroValue,typeInfo,z1,z4]
 have f:(Builtin.lenOf x).run P s.w=.ok m s.w:=by rw[c];rfl
 have j:(Builtin.lenOf x).events P s.w #[]=#[]:=by rw[c];rfl
 replace J:(Builtin.firstCells d.size m x).run P s.w.drew=.ok B.toArray s.w.drew:=J
 replace l:(Builtin.firstCells d.size n (.slice a n cap)).run P s.w.drew=.ok y.toArray s.w.drew:=l
 intro e o;unfold Builtin.append_ at o;simp only[gd,mv,nO,Sem.events_bind,aU,Z,H,bh,Result.evThen_ok,Y.run_sizeOf,b8,fQ,aQ,f,j,G,
  Q,false_and,R,p,run_choose,Question.forced,run_askRoom,Sem.run_ite,Sem.events_ite,World.drew_eq,l,J,py,aZ,O,events_underlying,events_sizeOf,events_typeInfo,events_choose,events_zeroValue,Sem.events_pure] at o
 have N:∀ (x:Nat) (w:World) (e:Event),e∈(askRoom x).events P w #[]->e=⟨.mark .noRoom,false,true⟩:=by
  intro x w e h;unfold askRoom at h;split at h
  ·simpa using h
  ·simp at h
 rw[bH.newRow (P:=P)] at o;generalize (Go.newRow E _).run P s.w.drew=r at o;have b:e∈(Builtin.firstCells d.size m x).events P s.w.drew ((Builtin.firstCells d.size n (.slice a n cap)).events P s.w.drew ((askRoom ((Question.appendCap (n+m) cap E).cut (s.w.tape s.w.drawn (Question.appendCap (n+m) cap E))*k.bytes)).events P s.w.drew #[])):=by
  cases r with
  |ok v w'=>simpa using o
  |halt v w'=>simpa using o
 rcases xx b with b|b
 ·rcases xx b with b|b
  ·rw[N _ _ _ b];exact .inl rfl
  ·exact pW (F e b)
 ·exact pW (I e b)
theorem lg(hi:aC P t i)(W:i.desc=.slice E)(H:aC P g q)(D:q.desc=.slice E)(U:aC P E d)(Q:ag σ s)
  {b n cap m:Nat} {J:TypeId} {c:List Value} (O:s.w.heap[b]?=some (.cells c.toArray J (0,0))) (u:c.length=cap*d.size) {V:Bool} {es':Nat->List C} {x:Value} (I:Rd s.M x (.sl V d.size m es')) (K:n+m<=cap)
  {L:Loc} (S:L∈s.β) (F:b∈L.bs) (r:∀ o,n*d.size<=o->s.M b o=none) :
  eP s ((Builtin.append_ #[t,g] ty #[.slice (some ⟨b,0,none⟩) n cap,x]).events P s.w #[]):=by
 obtain⟨a,z,R,f⟩:=cC (P:=P) Q I;have B:=fA (P:=P) Q I (w:=s.w) rfl;have N:=hi.run_underlying (w:=s.w);have y:=H.run_underlying (w:=s.w);rw[W] at N;rw[D] at y;have k:n*d.size+a.length<=c.length:=by
  rw[z.len,u,<-eh];exact eT _ K
 have v:=run_storeCells_at P b (n*d.size) J a 0 c.toArray s.w O (by simpa using k) z.cell
 simp only[eg] at v;have l:(Builtin.lenOf x).run P s.w=.ok m s.w:=by rw[f];rfl
 have p:(Builtin.lenOf x).events P s.w #[]=#[]:=by rw[f];rfl
 intro e G;unfold Builtin.append_ at G;simp only[gd,mv,nO,Sem.events_bind,aU,N,y,Result.evThen_ok,U.run_sizeOf,b8,fQ,aQ,l,p,K,aZ,py,R,ck,ay,v,
  Sem.run_ite,Sem.events_ite,events_underlying,events_sizeOf,Sem.events_pure] at G
 rcases dH a 0 c.toArray s.w _ O (by simpa using k) z.cell e G with h|⟨j,X,Y,rfl⟩
 ·exact pW (B e h)
 ·exact lS S F (r _ (by omega))
end
structure vg (P:Program)(o:Oper)(x y:Operand)(E:TypeId)(d:TI):Prop where
 op:∃ t g i q,o.op=.call { callee:=.builtin .append,args:=#[x,y],argTypes:=#[t,g] }/\aC P t i/\i.desc=.slice E/\aC P g q/\q.desc=.slice E
 elem:aC P E d
 bytes:d.bytes≠0
 size:d.size≠0
def St.grown(s:St)(E:TypeId)(vs zs:List Value)(β:List Loc):St :=
 { β:=β,M:=λb o=>if b=s.w.heap.size then vs[o]? else s.M b o,w:=s.w.drew.alloc (.cells (vs++zs).toArray E),own:=s.own }
theorem r9{σ:List ak}{s:St}(h:ag σ s)(E:TypeId)(vs zs:List Value):∀ b o v,(if b=s.w.heap.size then vs[o]? else s.M b o)=some v->(s.w.drew.alloc (.cells (vs++zs).toArray E)).cell? ⟨b,o,none⟩=some v:=by
 intro b o v a
 by_cases e:b=s.w.heap.size
 ·subst e;simp only[aZ] at a;unfold World.cell?;have:(s.w.drew.alloc (.cells (vs++zs).toArray E)).heap[s.w.heap.size]?=some (.cells (vs++zs).toArray E):=cB s.w.drew _;simp only[this];have c:o<vs.length:=(aF.1 a).1;simpa[bS c] using a
 ·simp only[e,aQ] at a;have f:=h.block a;rw[<-h.mem b o v a];unfold World.cell?;have:(s.w.drew.alloc (.cells (vs++zs).toArray E)).heap[b]?=s.w.heap[b]?:=bK s.w.drew _ f;simp only[this]
theorem sa{σ:List ak}{s:St}(h:ag σ s)(vs:List Value):∀ b o v,s.M b o=some v->(if b=s.w.heap.size then vs[o]? else s.M b o)=some v:=by
 intro b o v a;have:=h.block a;rw[an (by omega)]
 exact a
theorem dx{P:Program}{s:St}{m:Sem Value}(h:eP s (m.events P s.w #[])):eP s ((do pure (.value (<-m)):Sem Next).events P s.w #[]):=by
 intro e a;rw[Sem.events_bind] at a;refine h e ?_;generalize m.run P s.w=r at a;cases r with
 |ok v w'=>simpa using a
 |halt v w'=>simpa using a
theorem dJ{o:Oper}{x y:Operand}{t g:TypeId}(h:o.op=.call { callee:=.builtin .append,args:=#[x,y],argTypes:=#[t,g] })(a:Operand->Value) :
  execOp a o=(do pure (.value (<-Builtin.append_ #[t,g] o.type #[a x,a y]))):=by
 simp[execOp,h,resolve,invoke,builtin]
theorem Rd.loose{M:Mem}{v:Value}{t:Bool}{k n:Nat}{es:Nat->List C}(h:Rd M v (.sl t k n es)):Rd M v (.sl false k n es):=by
 cases h with
 |sl b off f a l o c j m e=>exact .sl b off f a l (by simp) c j m e
theorem Rd.xw{M:Mem}{v:Value}{t:Bool}{k n:Nat}{es es':Nat->List C}(e:∀ i,i<n->es i=es' i)(h:Rd M v (.sl t k n es)):Rd M v (.sl t k n es'):=by
 cases h with
 |sl b off f a r o l p u m=>exact .sl b off f a r o (λi hi=>by rw[<-e i hi];exact l i hi) p (λi hi j c hj=>u i hi j c (by rw[e i hi];exact hj)) (λi hi j c hj=>m i hi j c (by rw[e i hi];exact hj))
theorem Rd.tK{M:Mem}{v:Value}{k k' n:Nat}{es:Nat->List C}(b:k=k'∨n=0)(h:Rd M v (.sl true k n es)):Rd M v (.sl true k' n es):=by
 rcases b with rfl|rfl
 ·exact h
 ·obtain⟨a,cap,vs,c,j,f,e,_⟩:=h.flat;rw[c];have:=e rfl;subst this;exact Rd.iI
theorem lT{σ:List ak}{s:St}{l:Nat}{E:TypeId}{k n:Nat}{es:Nat->List C}{L:Loc}(a:σ[l]?=some (.vec E k n es))(b:s.β[l]?=some L)(h:dj σ s (.vec E k n es) L):fz σ s L.v (.vec l k n es):=by
 refine⟨h.1,(aF.1 a).1,λc k' n' es' he=>?_⟩
 rw[a] at he;cases he;exact⟨aq _,λ_=>⟨L,b,rfl⟩⟩
theorem aG.lh{P:Program}{o:Oper}{S:Operand->D}{σ:List ak}{x y:Operand}{E:TypeId}{d:TI}(h:vg P o x y E d){n m k:Nat}{tx:Bool}{es es':Nat->List C}
  (Y:S x=.e (.one (.c (.sl true k n es)))) (hk:k=d.size∨n=0) (hy:∀ s v,cd σ s v (S y)->Rd s.M v (.sl tx d.size m es')) (B:(n+m)*d.bytes<=140737488355328) (hz:n=0∨0<m) :
  aG P o S σ (.e (.one (.vec σ.length d.size (n+m) (cx n es es')))) (σ++[.vec E d.size (n+m) (cx n es es')]):=by
 intro s ρ hh hr;obtain⟨t,g,i,q,R,hi,N,F,z⟩:=h.op;have h1:=hr x;rw[Y] at h1;have l:=Rd.tK hk (ei h1);have h2:=hy s _ (hr y);obtain⟨a,cap,vs,hv,G,KV,ht,hF,W⟩:=l.flat;have V:cap=n:=ht rfl;subst V;rw[dJ R];rw[hv] at l ⊢
 by_cases Z:m=0
 ·subst Z;have r:=ia (P:=P) (ty:=o.type) hi N F z h.elem hh (a:=a) G h2;simp only[eg];have l:=Rd.xw (es':=cx cap es es') (λi hi=>by simp[cx,hi]) l
  have L:dj (σ++[.vec E d.size cap (cx cap es es')]) { s with β:=s.β++[⟨.slice a cap cap,[]⟩] } (.vec E d.size cap (cx cap es es')) ⟨.slice a cap cap,[]⟩:=⟨l.loose,.inl ⟨⟨rfl,by omega⟩,l⟩⟩
  obtain⟨g1,g2⟩:=hh.hY (.refl _ _) rfl hh L (by simp)
  refine⟨.value (.slice a cap cap),_,?_,?_,g1,g2,dx (iH hi N F z h.elem hh G h2)⟩
  ·simp[r]
  ·exact lT (by simp) (by simp[<-hh.len]) L
 ·have X:cap<cap+m:=by omega
  obtain⟨j,I,f,J,Q,U,K,r⟩:=iG (P:=P) (ty:=o.type) hi N F z h.elem hh l h2 X B h.bytes;have H:ag σ (s.grown E j I s.β)/\Step σ s σ (s.grown E j I s.β) :=
   hh.grow (by simp) (λb B=>bK s.w.drew _ B) (λb B o=>by simp[show b≠s.w.heap.size by omega])
    (λb B o v W=>r9 hh E j I b o v W) rfl rfl rfl
  have O:Rd (s.grown E j I s.β).M (.slice (some ⟨s.w.heap.size,0,none⟩) (cap+m) f) (.sl false d.size (cap+m) (cx cap es es')) :=
   Rd.pX (J.mono H.2.mem) (b:=s.w.heap.size) (off:=0) (λ_=>rfl) Q U (by simp) (λp u hp=>by simpa[St.grown] using hp)
  have L:dj (σ++[.vec E d.size (cap+m) (cx cap es es')]) { (s.grown E j I s.β) with β:=(s.grown E j I s.β).β++[⟨.slice (some ⟨s.w.heap.size,0,none⟩) (cap+m) f,[s.w.heap.size]⟩] } (.vec E d.size (cap+m) (cx cap es es')) ⟨.slice (some ⟨s.w.heap.size,0,none⟩) (cap+m) f,[s.w.heap.size]⟩:=by
   refine⟨O,.inr ⟨s.w.heap.size,f,j++I,rfl,cB s.w.drew _,K,λo R=>?_⟩⟩
   have hl:j.length<=o:=by rw[J.len];exact R
   simp[St.grown,jI hl]
  obtain⟨g1,g2⟩:=H.1.hY H.2 rfl hh L (λb B=>by
   simp at B;subst B;refine⟨aq _,?_⟩;simp[St.grown])
  refine⟨.value (.slice (some ⟨s.w.heap.size,0,none⟩) (cap+m) f),_,?_,?_,g1,g2,dx (jM hi N F z h.elem hh l h2 X B h.bytes)⟩
  ·simp[r];rfl
  ·exact lT (by simp) (by simp[St.grown,<-hh.len]) L
theorem aG.Au{P:Program}{o:Oper}{η:Operand->D}{σ:List ak}{x y:Operand}{E:TypeId}{d:TI}(h:vg P o x y E d){l n m:Nat}{tx:Bool}{es es':Nat->List C}
  (hx:η x=.e (.one (.vec l d.size n es))) (hl:σ[l]?=some (.vec E d.size n es)) (hy:∀ s v,cd σ s v (η y)->Rd s.M v (.sl tx d.size m es')) (W:(n+m)*d.bytes<=140737488355328) :
  aG P o η σ (.e (.one (.vec l d.size (n+m) (cx n es es')))) (σ.set l (.vec E d.size (n+m) (cx n es es'))):=by
 intro s ρ hh hr;obtain⟨t,g,i,q,ho,hi,hd,R,Q⟩:=h.op;have J:l<σ.length:=(aF.1 hl).1;have h1:=hr x;rw[hx] at h1;obtain⟨Y,_,Ru⟩:=h1;obtain⟨L,hL,hv⟩:=(Ru _ _ _ _ hl).2 rfl;have h2:=hy s _ (hr y);have K:l<s.β.length:=(aF.1 hL).1;have U:=hh.box l _ L hl hL;obtain⟨a,cap,vs,KW,ID,KV,ht,hF,hm⟩:=Y.flat;rw[dJ ho,KW];rw[KW] at Y;have Z:L.v=.slice a n cap:=by rw[<-hv,KW]
 by_cases h0:m=0
 ·subst h0;have G:=ia (P:=P) (ty:=o.type) hi hd R Q h.elem hh (a:=a) ID h2;simp only[eg];have ha:∀ i,i<n->es i=cx n es es' i:=λi hi=>by simp[cx,hi]
  have M7:dj (σ.set l (.vec E d.size n (cx n es es'))) ⟨s.β.set l L,s.M,s.w,s.own⟩ (.vec E d.size n (cx n es es')) L:=by
   refine⟨U.1.xw ha,?_⟩;rcases U.2 with⟨h3,h4⟩|h3
   ·exact .inl ⟨h3,h4.xw ha⟩
   ·exact .inr h3
  have r:=hh.jL (M':=s.M) (w':=s.w) (B':=.vec E d.size n (cx n es es')) (L':=L) hl hL ⟨λ_=>rfl,aq _⟩ (aq _) (λ_ _ _=>rfl) (λ_ _ _ _=>rfl) (λ_ _ _ h=>h) hh.mem
   (λb W=>⟨.inl W,hh.lt L (aH hL) b W⟩) rfl rfl rfl M7
  refine⟨.value (.slice a n cap),_,?_,?_,r.1,r.2,dx (iH hi hd R Q h.elem hh ID h2)⟩
  ·simp[G]
  ·rw[<-Z];exact lT (E:=E) (by rw[bo J]) (by simp only;rw[bo K]) M7
 ·have S:¬(n+m=n):=by omega
  by_cases z:n+m<=cap
  ·rcases U.2 with⟨Qt,O⟩|⟨b,KX,I,rfl,hw,V,B⟩
   ·rw[Z] at O;obtain⟨_,_,_,e,_,_,Rv,_⟩:=O.flat;cases e;have:=Rv rfl;omega
   ·simp only at Z;cases Z;obtain⟨c,IE,G⟩:=jU (P:=P) (ty:=o.type) hi hd R Q h.elem hh hw V h2 z;have Rw:c.length=m*d.size:=IE.len;have NI:b<s.w.heap.size:=(ey.1 hw).1
    let M':Mem:=λN o=>if N=b/\n*d.size<=o/\o<(n+m)*d.size then c[o-n*d.size]? else s.M N o
    have xu:I.length=cap*d.size:=V;have Ut:(n+m)*d.size=n*d.size+m*d.size:=eh _ _ _;have Qu:(n+m)*d.size<=cap*d.size:=eT _ z;have NJ:∀ N o v,s.M N o=some v->M' N o=some v:=by
     intro N o v f;simp only[M'];rw[an ?_]
     ·exact f
     ·rintro⟨rfl,h1,_⟩;rw[B o h1] at f;cases f
    have NK:∀ p u,c[p]?=some u->M' b (n*d.size+p)=some u:=by
     intro p u X;have tM:p<c.length:=(aF.1 X).1;simp only[M'];rw[ar ⟨by first|rfl|trivial,by omega,by omega⟩,kh]
     exact X
    have NL:Rd M' (.slice (some ⟨b,0,none⟩) (n+m) cap) (.sl false d.size (n+m) (cx n es es')):=by
     refine Rd.pX (vs:=vs++c) ((hF.append IE).mono NJ) (b:=b) (off:=0) (λ_=>rfl) z KV (by simp) (λp u X=>?_)
     have KY:vs.length=n*d.size:=hF.len;rcases bC p vs.length with tM|M8
     ·rw[bS tM] at X;obtain⟨b1,Rx,e,KZ⟩:=hm p u X;cases e;exact NJ _ _ _ KZ
     ·rw[cv M8] at X;have:=NK _ u X;rw[show n*d.size+(p-vs.length)=0+p by omega] at this
      exact this
    have r:=hh.jL (M':=M') (w':=s.w.setRow b (I.take (n*d.size)++c++I.drop (n*d.size+c.length)).toArray) (B':=.vec E d.size (n+m) (cx n es es')) (L':=⟨.slice (some ⟨b,0,none⟩) (n+m) cap,[b]⟩) hl hL
     ⟨λe=>absurd e S,by omega⟩ (by simp) (λN _ k=>setRow_other _ _ _ _ (by simpa using k)) (λN _ k o=>by
      simp only[M'];rw[an (by simp at k;rintro⟨e,_⟩;exact k e)]) NJ ?_ (λN k=>by
      simp at k;subst k;exact⟨.inl (by simp),by simpa using NI⟩) rfl rfl rfl ?_
    ·refine⟨.value (.slice (some ⟨b,0,none⟩) (n+m) cap),_,?_,?_,r.1,r.2,dx (lg hi hd R Q h.elem hh hw V h2 z (aH hL) (by simp) B)⟩
     ·simp[G]
     ·exact lT (L:=⟨.slice (some ⟨b,0,none⟩) (n+m) cap,[b]⟩) (E:=E) (by rw[bo J]) (by simp only;rw[bo K]) (r.1.box l _ _ (by rw[bo J]) (by simp only;rw[bo K]))
    ·intro N o v f
     by_cases k:N=b
     ·subst k;have K1:∀ j,(s.w.setRow N (I.take (n*d.size)++c++I.drop (n*d.size+c.length)).toArray).cell? ⟨N,j,none⟩=(I.take (n*d.size)++c++I.drop (n*d.size+c.length))[j]?:=by
       intro j;rw[cell_setRow_same _ _ _ _ _ _ _ hw];simp
      rw[K1];simp only[M'] at f;have Ry:(I.take (n*d.size)).length=n*d.size:=by rw[List.length_take];omega
      split at f
      ·rename_i hc
       rw[dt,cv (by omega),Ry,bS (by omega)]
       exact f
      ·rename_i hc
       have h3:=hh.mem N o v f;have ho:o<n*d.size:=by
        rcases bC o (n*d.size) with h|h
        ·exact h
        ·rw[B o h] at f;cases f
       rw[dt,bS (by omega),dD,ar ho]
       simp only[World.cell?,hw] at h3;simpa using h3
     ·simp only[M'] at f;rw[an (by rintro⟨e,_⟩;exact k e)] at f
      rw[<-hh.mem N o v f];simp only[World.cell?];rw[setRow_other _ _ _ _ k]
    ·refine⟨NL,.inr ⟨b,cap,_,rfl,setRow_heap _ _ _ _ _ _ hw,?_,λo ho=>?_⟩⟩
     ·simp only[bd,List.length_take,la];omega
     ·simp only[M'];rw[an (by rintro⟨_,_,h⟩;omega)]
      exact B o (by omega)
  ·have hg:cap<n+m:=by omega
   obtain⟨H,zs,F,Qv,M9,Na,hlen,G⟩:=iG (P:=P) (ty:=o.type) hi hd R Q h.elem hh Y h2 hg W h.bytes;have Uu:∀ b∈L.bs,b<s.w.heap.size:=hh.lt L (aH hL);have NL:Rd (λb o=>if b=s.w.heap.size then H[o]? else s.M b o) (.slice (some ⟨s.w.heap.size,0,none⟩) (n+m) F) (.sl false d.size (n+m) (cx n es es')) :=
    Rd.pX (Qv.mono (sa hh H)) (b:=s.w.heap.size) (off:=0) (λ_=>rfl) M9 Na (by simp) (λp u X=>by simpa using X)
   have r:=hh.jL (M':=λb o=>if b=s.w.heap.size then H[o]? else s.M b o) (w':=s.w.drew.alloc (.cells (H++zs).toArray E)) (B':=.vec E d.size (n+m) (cx n es es')) (L':=⟨.slice (some ⟨s.w.heap.size,0,none⟩) (n+m) F,[s.w.heap.size]⟩) hl hL
    ⟨λe=>absurd e S,by omega⟩ (by simp) (λb W _=>bK s.w.drew _ W) (λb W _ o=>by simp[show b≠s.w.heap.size by omega]) (sa hh H) (r9 hh E H zs) (λb W=>by
     simp at W;subst W;exact⟨.inr (aq _),by simp⟩) rfl rfl rfl ⟨NL,.inr ⟨s.w.heap.size,F,H++zs,rfl,cB s.w.drew _,hlen,λo ho=>by
      have hl:H.length<=o:=by rw[Qv.len];exact ho
      simp[jI hl]⟩⟩
   refine⟨.value (.slice (some ⟨s.w.heap.size,0,none⟩) (n+m) F),_,?_,?_,r.1,r.2,dx (jM hi hd R Q h.elem hh Y h2 hg W h.bytes)⟩
   ·simp[G]
   ·exact lT (L:=⟨.slice (some ⟨s.w.heap.size,0,none⟩) (n+m) F,[s.w.heap.size]⟩) (E:=E) (by rw[bo J]) (by simp only;rw[bo K]) (r.1.box l _ _ (by rw[bo J]) (by simp only;rw[bo K]))
end Go.AM
namespace Go.AM
open Go.Conc (G)
def jT{α:Type}:List Nat->List α->Option (List α)
 |[],_=>some []
 |k::ks,l=>match eb k l with
  |some x=>match jT ks l with
   |some r=>some (x::r)
   |none=>none
  |none=>none
theorem dm{α:Type}:∀ (n:Nat)(l:List α),eb n l=l[n]?
 |_,[]=>by simp[eb]
 |0,x::_=>by simp[eb]
 |n+1,_::xs=>by simpa[eb] using dm n xs
theorem gi{α:Type}:∀ {ks:List Nat}{l r:List α},jT ks l=some r->r.length=ks.length/\∀ (j k:Nat),ks[j]?=some k->∃ x,r[j]?=some x/\l[k]?=some x
 |[],l,r,h=>by cases h;simp
 |k::ks,l,r,h=>by
  simp only[jT] at h;cases a:eb k l with
  |none=>simp[a] at h
  |some x =>
   cases b:jT ks l with
   |none=>simp[a,b] at h
   |some q =>
    simp[a,b] at h;subst h;obtain⟨d,c⟩:=gi b;refine⟨by simp[d],λj k' hj=>?_⟩
    cases j with
    |zero=>simp at hj;subst hj;exact⟨x,rfl,cO a⟩
    |succ j=>simp at hj;obtain⟨y,e,f⟩:=c j k' hj;exact⟨y,by simpa using e,f⟩
theorem xB{α f:Type}:∀ {ks:List Nat}{l r:List α}{l':List f},jT ks l=some r->l'.length=l.length->∃ r',jT ks l'=some r'
 |[],l,r,l',_,_=>⟨[],rfl⟩
 |k::ks,l,r,l',h,d=>by
  simp only[jT] at h;cases b:eb k l with
  |none=>simp[b] at h
  |some x =>
   cases c:jT ks l with
   |none=>simp[b,c] at h
   |some q =>
    obtain⟨r',a⟩:=xB (l':=l') c d;have e:k<l'.length:=by rw[d];exact(aF.1 (cO b)).1
    exact⟨l'[k]::r',by simp[jT,dm,e,a]⟩
def kU(ks:List Nat):A->A
 |.ptr l o=>match eb l ks with|some k=>.ptr k o|none=>.any
 |.vec l k n es=>match eb l ks with|some m=>.vec m k n es|none=>.c (.sl false k n es)
 |.ref l=>match eb l ks with|some k=>.ref k|none=>.any
 |.bp l w=>match eb l ks with|some k=>.bp k w|none=>.any
 |.c x=>.c x
 |.any=>.any
def vj(ks:List Nat):List A->List A
 |[]=>[]
 |a::r=>kU ks a::vj ks r
def tR(ks:List Nat):E1->E1
 |.one a=>.one (kU ks a)
 |.agg cs=>.agg (vj ks cs)
def se(ks:List Nat):List E1->List E1
 |[]=>[]
 |a::r=>tR ks a::se ks r
def iN(ks:List Nat):D->D
 |.e x=>.e (tR ks x)
 |.eY xs=>.eY (se ks xs)
 |.any=>.any
def jl(ks:List Nat):List D->List D
 |[]=>[]
 |a::r=>iN ks a::jl ks r
def xC:A->Bool
 |.c _|.any=>true
 |_=>false
def tS:List A->Bool
 |[]=>true
 |a::r=>match xC a with|true=>tS r|false=>false
def p6:ak->Bool
 |.cells _ cs=>tS cs
 |.loop ..=>false
 |_=>true
def cn:List ak->Bool
 |[]=>true
 |a::r=>match p6 a with|true=>cn r|false=>false
theorem jm:∀ {l:List ak},cn l=true->∀ B∈l,p6 B=true
 |[],_,B,a=>by simp at a
 |b::r,h,B,a=>by
  simp only[cn] at h;cases c:p6 b with
  |false=>simp[c] at h
  |true =>
   simp only[c] at h;rcases dF.1 a with rfl|a
   ·exact c
   ·exact jm h B a
theorem cA.plain{σ σ':List ak}{s s':St}(e:s'.M=s.M):∀ {vs:List Value}{cs:List A},tS cs=true->cA σ s vs cs->cA σ' s' vs cs
 |[],[],_,_=>trivial
 |[],_::_,_,h=>h.elim
 |_::_,[],_,h=>h.elim
 |v::vs,a::al,b,h=>by
  simp only[tS] at b;cases d:xC a with
  |false=>simp[d] at b
  |true =>
   simp only[d] at b;refine⟨?_,cA.plain e b h.2⟩;cases a with
   |c x=>have:=h.1;simp only[fz] at this ⊢;rw[e];exact this
   |any=>exact h.1
   |_=>simp[xC] at d
theorem dj.plain{σ σ':List ak}{s s':St}(a:s'.M=s.M)(c:s'.w=s.w){B:ak}{L:Loc}(d:p6 B=true)(h:dj σ s B L):dj σ' s' B L:=by
 cases B with
 |cells E cs =>
  obtain⟨b,vs,h1,h2,f,e⟩:=h;exact⟨b,vs,h1,by rw[c];exact h2,f.plain a d,λo=>by rw[a];exact e o⟩
 |vec E k n es=>simp only[dj,a,c] at h ⊢;exact h
 |eB H=>simp only[dj,a,c] at h ⊢;exact h
 |dead=>trivial
 |loop N φ r=>simp[p6] at d
 |nN=>simp only[dj,a,c] at h ⊢;exact h
 |buf E k n es=>simp only[dj,a,c] at h ⊢;exact h
def fE:Nat->List Nat->Bool
 |_,[]=>false
 |k,x::r=>match Nat.beq k x with|true=>true|false=>fE k r
def dn:List Nat->Bool
 |[]=>true
 |k::r=>match fE k r with|true=>false|false=>dn r
theorem tT:∀ {k:Nat}{l:List Nat},k∈l->fE k l=true
 |k,[],h=>by simp at h
 |k,x::r,h=>by
  simp only[fE];cases a:Nat.beq k x with
  |true=>rfl
  |false =>
   rcases dF.1 h with rfl|h
   ·rw[ir] at a;cases a
   ·exact tT h
theorem p9:∀ {l:List Nat},dn l=true->∀ (i j k:Nat),l[i]?=some k->l[j]?=some k->i=j
 |[],_,i,j,k,hi,_=>by simp at hi
 |x::r,h,i,j,k,hi,a=>by
  simp only[dn] at h;cases b:fE x r with
  |true=>simp[b] at h
  |false =>
   simp only[b] at h;have no:∀ q,r[q]?=some x->False:=λq c=>by
    have:=tT (aH c);rw[b] at this;cases this
   cases i with
   |zero =>
    cases j with
    |zero=>rfl
    |succ j =>
     simp at hi a;subst hi;exact(no _ a).elim
   |succ i =>
    cases j with
    |zero =>
     simp at hi a;subst a;exact(no _ hi).elim
    |succ j =>
     simp at hi a;rw[p9 h i j k hi a]
def Ax(n:Nat):A->Bool
 |.ptr l _|.vec l _ _ _|.ref l|.bp l _=>Nat.ble (l+1) n
 |_=>true
def Ay(n:Nat):List A->Bool
 |[]=>true
 |a::r=>match Ax n a with|true=>Ay n r|false=>false
def CB(n:Nat):E1->Bool
 |.one a=>Ax n a
 |.agg cs=>Ay n cs
def rH(n:Nat):List E1->Bool
 |[]=>true
 |a::r=>match CB n a with|true=>rH n r|false=>false
def vd(n:Nat):D->Bool
 |.e x=>CB n x
 |.eY xs=>rH n xs
 |.any=>true
def oU(n:Nat):List D->Bool
 |[]=>true
 |a::r=>match vd n a with|true=>oU n r|false=>false
section sub
variable {ks:List Nat}{σ σ':List ak}{s:St}{g:List Loc}
theorem fz.sub(C:jT ks σ=some σ')(t:jT ks s.β=some g){v:Value}{a:A}(d:fz σ s v (kU ks a))(f:Ax ks.length a=true):fz σ' { s with β:=g } v a:=by
 obtain⟨F,g1⟩:=gi C;obtain⟨I,g2⟩:=gi t;cases a with
 |c x=>exact d
 |any=>exact d
 |ptr l o =>
  have hl:l<ks.length:=c6 f;simp only[kU,dm,aj hl] at d;obtain⟨h1,L,b,h2,j,u⟩:=d;obtain⟨x,h,i⟩:=g1 l _ (aj hl);obtain⟨y,m,q⟩:=g2 l _ (aj hl);rw[q] at h2;cases h2;exact⟨λB p=>h1 B (by rw[i,<-h,p]),L,b,m,j,u⟩
 |vec l k n es =>
  have hl:l<ks.length:=c6 f;simp only[kU,dm,aj hl] at d;obtain⟨h1,h2,j⟩:=d;obtain⟨x,h,i⟩:=g1 l _ (aj hl);obtain⟨y,m,q⟩:=g2 l _ (aj hl);refine⟨h1,by rw[F];exact hl,λE k' n' es' p=>?_⟩
  obtain⟨H,p2⟩:=j E k' n' es' (by rw[i,<-h,p])
  refine⟨H,λe=>?_⟩
  obtain⟨L,r,z⟩:=p2 e;rw[q] at r;cases r;exact⟨_,m,z⟩
 |ref l =>
  have hl:l<ks.length:=c6 f;simp only[kU,dm,aj hl] at d;obtain⟨h1,L,h2,j,u⟩:=d;obtain⟨x,h,i⟩:=g1 l _ (aj hl);obtain⟨y,m,q⟩:=g2 l _ (aj hl);rw[q] at h2;cases h2;exact⟨λB p=>h1 B (by rw[i,<-h,p]),L,m,j,u⟩
 |bp l w =>
  have hl:l<ks.length:=c6 f;simp only[kU,dm,aj hl] at d;obtain⟨lv,h1,h2,j⟩:=d;obtain⟨x,h,i⟩:=g1 l _ (aj hl);obtain⟨y,m,q⟩:=g2 l _ (aj hl);refine⟨lv,h1,(aF.1 h).1,λE k n es p=>?_⟩
  obtain⟨G,D⟩:=j E k n es (by rw[i,<-h,p])
  refine⟨G,λe=>?_⟩
  obtain⟨L,r,z⟩:=D e;rw[q] at r;cases r;exact⟨y,m,z⟩
theorem fz.jW{σ2:List ak}{s2:St}(I:s2.M=s.M)(i:∀ (j:Nat)(B:ak),σ[j]?=some B->∃ k,ks[j]?=some k/\σ2[k]?=some B)(h:∀ (j:Nat)(L:Loc),s.β[j]?=some L->∃ k,ks[j]?=some k/\s2.β[k]?=some L)(m:s.β.length=σ.length)
  {v:Value} {a:A} (r:fz σ s v a):fz σ2 s2 v (kU ks a):=by
 cases a with
 |c x=>simp only[kU,fz,I];exact r
 |any=>exact r
 |ptr l o =>
  obtain⟨h1,L,b,h2,p,z⟩:=r;obtain⟨k,k1,t⟩:=h l L h2;have hl:l<σ.length:=by rw[<-m];exact(aF.1 h2).1
  obtain⟨k',d,q⟩:=i l _ (aj hl);rw[k1] at d;cases d;simp only[kU,dm,k1];refine⟨λB f=>?_,L,b,t,p,z⟩
  rw[q] at f;exact h1 B (by rw[aj hl];exact f)
 |vec l k n es =>
  obtain⟨h1,h2,p⟩:=r;obtain⟨k1,y,p2⟩:=i l _ (aj h2);simp only[kU,dm,y];refine⟨by rw[I];exact h1,(aF.1 p2).1,λE k' n' es' f=>?_⟩
  rw[p2] at f;obtain⟨H,C⟩:=p E k' n' es' (by rw[aj h2];exact f)
  refine⟨H,λe=>?_⟩
  obtain⟨L,F,G⟩:=C e;obtain⟨t,u,D⟩:=h l L F;rw[y] at u;cases u;exact⟨L,D,G⟩
 |ref l =>
  obtain⟨h1,L,h2,p,z⟩:=r;obtain⟨k,k1,t⟩:=h l L h2;have hl:l<σ.length:=by rw[<-m];exact(aF.1 h2).1
  obtain⟨k',d,q⟩:=i l _ (aj hl);rw[k1] at d;cases d;simp only[kU,dm,k1];refine⟨λB f=>?_,L,t,p,z⟩
  rw[q] at f;exact h1 B (by rw[aj hl];exact f)
 |bp l w =>
  obtain⟨lv,h1,h2,p⟩:=r;obtain⟨k1,y,p2⟩:=i l _ (aj h2);simp only[kU,dm,y];refine⟨lv,h1,(aF.1 p2).1,λE k' n' es' f=>?_⟩
  rw[p2] at f;obtain⟨H,C⟩:=p E k' n' es' (by rw[aj h2];exact f)
  refine⟨H,λe=>?_⟩
  obtain⟨L,F,G⟩:=C e;obtain⟨t,u,D⟩:=h l L F;rw[y] at u;cases u;exact⟨L,D,G⟩
theorem cA.sub(b:jT ks σ=some σ')(c:jT ks s.β=some g):∀ {vs:List Value}{cs:List A},cA σ s vs (vj ks cs)->Ay ks.length cs=true->cA σ' { s with β:=g } vs cs
 |[],[],_,_=>trivial
 |[],_::_,h,_=>h.elim
 |_::_,[],h,_=>h.elim
 |v::vs,a::al,h,d=>by
  simp only[Ay] at d;cases e:Ax ks.length a with
  |false=>simp[e] at d
  |true=>simp only[e] at d;exact⟨h.1.sub b c e,cA.sub b c h.2 d⟩
theorem k5.sub(b:jT ks σ=some σ')(c:jT ks s.β=some g){v:Value}{x:E1}(h:k5 σ s v (tR ks x))(d:CB ks.length x=true):k5 σ' { s with β:=g } v x:=by
 cases x with
 |one a=>exact fz.sub b c h d
 |agg cs=>obtain⟨vs,h1,h2⟩:=h;exact⟨vs,h1,h2.sub b c d⟩
theorem eZ.sub(b:jT ks σ=some σ')(c:jT ks s.β=some g):∀ {vs:List Value}{xs:List E1},eZ σ s vs (se ks xs)->rH ks.length xs=true->eZ σ' { s with β:=g } vs xs
 |[],[],_,_=>trivial
 |[],_::_,h,_=>h.elim
 |_::_,[],h,_=>h.elim
 |v::vs,a::al,h,d=>by
  simp only[rH] at d;cases e:CB ks.length a with
  |false=>simp[e] at d
  |true=>simp only[e] at d;exact⟨h.1.sub b c e,eZ.sub b c h.2 d⟩
theorem cd.sub(a:jT ks σ=some σ')(b:jT ks s.β=some g){v:Value}{d:D}(h:cd σ s v (iN ks d))(c:vd ks.length d=true):cd σ' { s with β:=g } v d:=by
 cases d with
 |e x=>exact k5.sub a b h c
 |eY xs=>obtain⟨vs,h1,h2⟩:=h;exact⟨vs,h1,h2.sub a b c⟩
 |any=>trivial
theorem bX.sub(b:jT ks σ=some σ')(c:jT ks s.β=some g):∀ {vs:List Value}{ds:List D},bX σ s vs (jl ks ds)->oU ks.length ds=true->bX σ' { s with β:=g } vs ds
 |[],[],_,_=>trivial
 |[],_::_,h,_=>h.elim
 |_::_,[],h,_=>h.elim
 |v::vs,a::al,h,d=>by
  simp only[oU] at d;cases e:vd ks.length a with
  |false=>simp[e] at d
  |true=>simp only[e] at d;exact⟨h.1.sub b c e,bX.sub b c h.2 d⟩
variable {σ2:List ak}{s2:St}
theorem cA.jW(d:s2.M=s.M)(b:∀ (j:Nat)(B:ak),σ[j]?=some B->∃ k,ks[j]?=some k/\σ2[k]?=some B)(c:∀ (j:Nat)(L:Loc),s.β[j]?=some L->∃ k,ks[j]?=some k/\s2.β[k]?=some L)(a:s.β.length=σ.length) :
  ∀ {vs:List Value} {cs:List A},cA σ s vs cs->cA σ2 s2 vs (vj ks cs)
 |[],[],_=>trivial
 |[],_::_,h=>h.elim
 |_::_,[],h=>h.elim
 |_::_,_::_,h=>⟨h.1.jW d b c a,cA.jW d b c a h.2⟩
theorem k5.jW(e:s2.M=s.M)(c:∀ (j:Nat)(B:ak),σ[j]?=some B->∃ k,ks[j]?=some k/\σ2[k]?=some B)(d:∀ (j:Nat)(L:Loc),s.β[j]?=some L->∃ k,ks[j]?=some k/\s2.β[k]?=some L)(b:s.β.length=σ.length)
  {v:Value} {x:E1} (h:k5 σ s v x):k5 σ2 s2 v (tR ks x):=by
 cases x with
 |one a=>exact fz.jW e c d b h
 |agg cs=>obtain⟨vs,h1,h2⟩:=h;exact⟨vs,h1,h2.jW e c d b⟩
theorem eZ.jW(d:s2.M=s.M)(b:∀ (j:Nat)(B:ak),σ[j]?=some B->∃ k,ks[j]?=some k/\σ2[k]?=some B)(c:∀ (j:Nat)(L:Loc),s.β[j]?=some L->∃ k,ks[j]?=some k/\s2.β[k]?=some L)(a:s.β.length=σ.length) :
  ∀ {vs:List Value} {xs:List E1},eZ σ s vs xs->eZ σ2 s2 vs (se ks xs)
 |[],[],_=>trivial
 |[],_::_,h=>h.elim
 |_::_,[],h=>h.elim
 |_::_,_::_,h=>⟨h.1.jW d b c a,eZ.jW d b c a h.2⟩
theorem cd.jW(f:s2.M=s.M)(b:∀ (j:Nat)(B:ak),σ[j]?=some B->∃ k,ks[j]?=some k/\σ2[k]?=some B)(c:∀ (j:Nat)(L:Loc),s.β[j]?=some L->∃ k,ks[j]?=some k/\s2.β[k]?=some L)(a:s.β.length=σ.length)
  {v:Value} {d:D} (h:cd σ s v d):cd σ2 s2 v (iN ks d):=by
 cases d with
 |e x=>exact k5.jW f b c a h
 |eY xs=>obtain⟨vs,h1,h2⟩:=h;exact⟨vs,h1,h2.jW f b c a⟩
 |any=>trivial
end sub
def cQ.oV{α:Type}:Nat->α->List α->List α
 |_,_,[]=>[]
 |0,x,_::r=>x::r
 |k+1,x,y::r=>y::cQ.oV k x r
def cQ{α:Type}:List Nat->List α->List α->List α
 |[],new,old=>old++new
 |k::ks,x::new,old=>cQ ks new (cQ.oV k x old)
 |_::_,[],old=>old
theorem jo{α:Type}:∀ (k:Nat)(x:α)(l:List α),cQ.oV k x l=l.set k x
 |_,_,[]=>by simp[cQ.oV]
 |0,x,_::r=>by simp[cQ.oV]
 |k+1,x,y::r=>by simp[cQ.oV,jo k x r]
theorem qa{α:Type}:∀ {ks:List Nat}{new old:List α},dn ks=true->(∀ k∈ks,k<old.length)->ks.length<=new.length ->
  (cQ ks new old).length=old.length+(new.length-ks.length)/\(∀ (j k:Nat),ks[j]?=some k->(cQ ks new old)[k]?=new[j]?) /\
  (∀ j,(cQ ks new old)[old.length+j]?=new[ks.length+j]?)/\(∀ l,l<old.length->l∉ks->(cQ ks new old)[l]?=old[l]?)
 |[],new,old,_,_,_=>by
  refine⟨by simp[cQ],by simp,λj=>?_,λl m _=>?_⟩
  ·simp only[cQ,kn,ay];rw[cv (by omega),kh]
  ·simp[cQ,bS m]
 |k::ks,[],old,_,_,h=>by simp at h
 |k::ks,x::new,old,c,b,i=>by
  have p:=c;simp only[dn] at c;cases d:fE k ks with
  |true=>simp[d] at c
  |false =>
   simp only[d] at c;have n:k<old.length:=b k (by simp)
   have f:k∉ks:=λh=>by rw[tT h] at d;cases d
   obtain⟨r,q,t,o⟩:=qa (ks:=ks) (new:=new) (old:=old.set k x) c (λk' NN=>by simpa using b k' (by simp[NN])) (by simpa using i)
   simp only[cQ,jo];refine⟨by simp[r],λj k' hj=>?_,λj=>?_,λl m a=>?_⟩
   ·cases j with
    |zero =>
     simp at hj;subst hj;rw[o k (by simpa using n) f,bo n]
     rfl
    |succ j =>
     simp at hj;rw[q j k' hj];simp
   ·have:=t j;simp only[List.length_set] at this;rw[this];simp[Nat.add_right_comm]
   ·simp only[dF,not_or] at a;rw[o l (by simpa using m) a.2,b7 (λe=>a.1 e.symm)]
def Ev{P:Program}(X:Cx P)(f:FuncId)(args:List D)(σ:List ak)(res:D)(σ':List ak):Prop :=
 (∃ fn,P.funcs[f]?=some fn/\(fn.name== "runtime.NumGoroutine")=false/\fn.body.isNone=false) /\
 ∀ s (vs:List Value),bX σ s vs args->ag σ s->∀ (S:Goroutine->St->Prop) (cs:List Frame),
  (∀ a v s',tO P f a v s'->cd σ' s' v res->ag σ' s'->bD σ s σ' s'->dk X S (G a cs) s')->dk X S (G (Frame.enter P f vs.toArray .normal) cs) s
def fK{P:Program}{ι:Type}(X:Cx P)(f:FuncId)(args:List D)(σ:List ak)(res:ι->D)(σ':ι->List ak):Prop :=
 (∃ fn,P.funcs[f]?=some fn/\(fn.name== "runtime.NumGoroutine")=false/\fn.body.isNone=false) /\
 ∀ s (vs:List Value),bX σ s vs args->ag σ s->∀ (S:Goroutine->St->Prop) (cs:List Frame),
  (∀ i a v s',tO P f a v s'->cd (σ' i) s' v (res i)->ag (σ' i) s'->bD σ s (σ' i) s'->dk X S (G a cs) s')->dk X S (G (Frame.enter P f vs.toArray .normal) cs) s
theorem Ev.Lc{P:Program}{X:Cx P}{f:FuncId}{args:List D}{σ:List ak}{res:D}{σ':List ak}(h:Ev X f args σ res σ'):fK (ι:=Unit) X f args σ (λ_=>res) (λ_=>σ') :=
 ⟨h.1,λs vs hr hh S cs hS=>h.2 s vs hr hh S cs (hS ())⟩
theorem fK.CC{P:Program}{X:Cx P}{f:FuncId}{args:List D}{σ:List ak}{res:D}{σ':List ak}(h:fK (ι:=Unit) X f args σ (λ_=>res) (λ_=>σ')):Ev X f args σ res σ' :=
 ⟨h.1,λs vs hr hh S cs hS=>h.2 s vs hr hh S cs (λ_=>hS)⟩
def vk(s:St)(a:List Loc):Nat->Prop:=λb=>s.own b∨((∃ L∈s.β,b∈L.bs)/\∀ L∈a,b∉L.bs)
def lp(n:Nat):Nat->List Nat
 |0=>[]
 |m+1=>n::lp (n+1) m
theorem vl:∀ (m n j:Nat),(lp n m)[j]?=if j<m then some (n+j) else none
 |0,n,j=>by simp[lp]
 |m+1,n,0=>by simp[lp]
 |m+1,n,j+1=>by
  simp only[lp,nO,vl m (n+1) j,Nat.add_lt_add_iff_right];split
  ·congr 1;omega
  ·rfl
theorem frame{ks:List Nat}{σ σs σ1:List ak}{s d:St}{t:List Loc}(u:ag σ s)(Y:jT ks σ=some σs)(hβ:jT ks s.β=some t)(hn:dn ks=true)
  (hp:cn σ1=true) (H:ag σ1 d) (st:bD σs { s with β:=t,own:=vk s t } σ1 d) (X:ks.length<=σ1.length) {v:Value} {res:D} (hr:cd σ1 d v res) :
  ∃ s2:St,s2.w=d.w/\cd (cQ ks σ1 σ) s2 v (iN (ks++lp σ.length (σ1.length-ks.length)) res)/\ag (cQ ks σ1 σ) s2/\bD σ s (cQ ks σ1 σ) s2/\s2.M=d.M/\s2.own=s.own/\∀ L∈s2.β,L∈d.β∨(L∈s.β/\∀ b∈L.bs,∀ L'∈t,b∉L'.bs):=by
 have O:∀ k∈ks,k<σ.length:=by
  intro k C;obtain⟨j,p,rfl⟩:=dV C;obtain⟨x,_,h2⟩:=(gi Y).2 j _ (aj p);exact(aF.1 h2).1
 have J:∀ k∈ks,k<s.β.length:=by rw[u.len];exact O
 have Q:ks.length<=d.β.length:=by rw[H.len];exact X
 obtain⟨a1,a2,a3,a4⟩:=qa (new:=σ1) (old:=σ) hn O X;obtain⟨b1,b2,b3,b4⟩:=qa (new:=d.β) (old:=s.β) hn J Q;obtain⟨c1,c2⟩:=gi Y;obtain⟨d1,d2⟩:=gi hβ
 let I:=ks++lp σ.length (σ1.length-ks.length)
 have N:∀ j,j<σ1.length->∃ k,I[j]?=some k/\(cQ ks σ1 σ)[k]?=σ1[j]?/\(cQ ks d.β s.β)[k]?=d.β[j]?:=by
  intro j p;rcases bC j ks.length with a|r
  ·refine⟨ks[j],?_,a2 j _ (aj a),b2 j _ (aj a)⟩;simp only[I];rw[bS a,aj a]
  ·refine⟨σ.length+(j-ks.length),?_,?_,?_⟩
   ·simp only[I];rw[cv r,vl,ar (by omega)]
   ·rw[a3];congr 1;omega
   ·rw[<-u.len,b3];congr 1;omega
 have m:∀ l L,(cQ ks d.β s.β)[l]?=some L->(∃ j,j<σ1.length/\d.β[j]?=some L/\(∀ B,(cQ ks σ1 σ)[l]?=some B->σ1[j]?=some B)/\(∀ k,ks[j]?=some k->k=l)/\(j≥ks.length->l=σ.length+(j-ks.length))) ∨
   (l<σ.length/\l∉ks/\s.β[l]?=some L/\(cQ ks σ1 σ)[l]?=σ[l]?):=by
  intro l L c;have RZ:l<(cQ ks d.β s.β).length:=(aF.1 c).1;rcases bC l σ.length with a|r
  ·by_cases z:l∈ks
   ·obtain⟨j,p,rfl⟩:=dV z;have C:=aj p;refine .inl ⟨j,by omega,by rw[<-b2 j _ C];exact c,λB q=>by rw[<-a2 j _ C];exact q,λk V=>by rw[C] at V;cases V;rfl,λh=>by omega⟩
   ·exact .inr ⟨a,z,by rw[<-b4 l (by rw[u.len];exact a) z];exact c,a4 l a z⟩
  ·rw[b1,H.len,u.len] at RZ;refine .inl ⟨ks.length+(l-σ.length),by omega,?_,λB q=>?_,λk C=>?_,λ_=>by omega⟩
   ·rw[<-b3,u.len,tF r];exact c
   ·rw[<-a3,tF r];exact q
   ·have:=(aF.1 C).1;omega
 have A:∀ L∈t,L∈s.β:=by
  intro L c;obtain⟨j,p,rfl⟩:=dV c;have E:j<ks.length:=by rw[<-d1];exact p
  obtain⟨x,R,S⟩:=d2 j _ (aj E);rw[aj p] at R;cases R;exact aH S
 have other:∀ l L,l∉ks->s.β[l]?=some L->∀ b∈L.bs,b<s.w.heap.size/\∀ L'∈t,b∉L'.bs:=by
  intro l L F c b f;refine⟨u.lt L (aH c) b f,λL' eR Cw=>?_⟩
  obtain⟨j,p,rfl⟩:=dV eR;have E:j<ks.length:=by rw[<-d1];exact p
  obtain⟨x,R,S⟩:=d2 j _ (aj E);rw[aj p] at R;cases R;have:=u.ez l ks[j] L _ c S b f Cw;exact F (this▸hX E)
 have out:∀ b,b<s.w.heap.size->(∀ L∈s.β,b∉L.bs)->∀ L∈t,b∉L.bs:=λb _ h L c=>h L (A L c)
 have ex:Ext σ s (cQ ks σ1 σ) ⟨cQ ks d.β s.β,d.M,d.w,s.own⟩:=by
  refine⟨st.mem,λl B L q c=>?_⟩
  have a:l<σ.length:=(aF.1 q).1
  by_cases z:l∈ks
  ·obtain⟨j,p,rfl⟩:=dV z;have C:=aj p;obtain⟨x,R,S⟩:=c2 j _ C;obtain⟨y,y1,y2⟩:=d2 j _ C;rw[q] at S;cases S;rw[c] at y2;cases y2;obtain⟨B',L',p1,p2,p3⟩:=st.box j B L R y1;exact⟨B',L',by rw[a2 j _ C,p1],by simp only;rw[b2 j _ C,p2],p3⟩
  ·exact⟨B,L,by rw[a4 l a z,q],by simp only;rw[b4 l (by rw[u.len];exact a) z,c],.refl _ _⟩
 refine⟨⟨cQ ks d.β s.β,d.M,d.w,s.own⟩,rfl,?_,⟨H.mem,?_,?_,?_,?_,?_⟩,⟨st.size,?_,st.mem,?_,?_,ex.box,st.os,st.tape,st.output,rfl⟩,rfl,rfl,?_⟩
 ·refine cd.jW (s:=d) (s2:=⟨cQ ks d.β s.β,d.M,d.w,s.own⟩) (σ2:=cQ ks σ1 σ) (ks:=I) rfl (λj B q=>?_) (λj L c=>?_) H.len hr
  ·obtain⟨k,k1,k2,_⟩:=N j (aF.1 q).1;exact⟨k,k1,by rw[k2,q]⟩
  ·obtain⟨k,k1,_,k3⟩:=N j (by rw[<-H.len];exact(aF.1 c).1)
   exact⟨k,k1,by simp only;rw[k3,c]⟩
 ·simp only;rw[a1,b1,H.len,u.len]
 ·intro l B L q c;rcases m l L c with⟨j,p,i,Qw,_⟩|⟨F,z,eR,ig⟩
  ·exact dj.plain (σ:=σ1) (s:=d) (s':=⟨cQ ks d.β s.β,d.M,d.w,s.own⟩) rfl rfl (jm hp B (aH (Qw B q))) (H.box j B L (Qw B q) i)
  ·rw[ig] at q;refine(u.box l B L q eR).carry ex u.len λb f=>?_
   obtain⟨o1,T⟩:=other l L z eR b f;exact⟨st.en b (.inr ⟨⟨L,aH eR,f⟩,T⟩),st.hZ b o1 T⟩
 ·intro l l' L L' c eR b f Cw;rcases m l L c with⟨j,p,i,_,Ld,Nd⟩|⟨F,z,n,_⟩ <;> rcases m l' L' eR with⟨j',E,K,_,NO,Z⟩|⟨xE,hm',P,_⟩
  ·have e:=H.ez j j' L L' i K b f Cw;subst e;rcases bC j ks.length with a|r
   ·rw[<-Ld _ (aj a),<-NO _ (aj a)]
   ·rw[Nd r,Z r]
  ·obtain⟨o1,T⟩:=other l' L' hm' P b Cw;rcases st.rF L (aH i) b f with h|⟨U,W,G⟩
   ·simp only at h;omega
   ·exact absurd G (T U W)
  ·obtain⟨o1,T⟩:=other l L z n b f;rcases st.rF L' (aH K) b Cw with h|⟨U,W,G⟩
   ·simp only at h;omega
   ·exact absurd G (T U W)
  ·exact u.ez l l' L L' n P b f Cw
 ·intro L c b f;obtain⟨l,F,rfl⟩:=dV c;rcases m l _ (aj F) with⟨j,p,i,_⟩|⟨_,_,n,_⟩
  ·exact H.lt _ (aH i) b f
  ·have:=u.lt _ (aH n) b f;have:=st.size;simp only at this ⊢;omega
 ·intro b f;refine⟨?_,λL c Cl=>?_⟩
  ·have:=(u.own b f).1;have:=st.size;simp only at this ⊢;omega
  ·obtain⟨l,F,rfl⟩:=dV c;rcases m l _ (aj F) with⟨j,p,i,_⟩|⟨_,_,n,_⟩
   ·have ho:d.own b:=by rw[st.own];exact .inl f
    exact(H.own b ho).2 _ (aH i) Cl
   ·exact(u.own b f).2 _ (aH n) Cl
 ·intro b f;exact st.en b (.inl f)
 ·intro b f NP o;exact st.hZ b f (out b f NP) o
 ·intro L c b f;obtain⟨l,F,rfl⟩:=dV c;rcases m l _ (aj F) with⟨j,p,i,_⟩|⟨_,_,n,_⟩
  ·rcases st.rF _ (aH i) b f with h|⟨U,W,G⟩
   ·exact .inl h
   ·exact .inr ⟨U,A U W,G⟩
  ·exact .inr ⟨_,aH n,f⟩
 ·intro L c;obtain⟨l,F,rfl⟩:=dV c;rcases m l _ (aj F) with⟨j,p,i,_⟩|⟨_,z,n,_⟩
  ·exact .inl (aH i)
  ·exact .inr ⟨aH n,λb f=>(other l _ z n b f).2⟩
def gL:D->Option (FuncId×List C)
 |.e (.one (.c (.fn (.func f) [] cap)))=>some (f,cap)
 |_=>none
theorem pC{σ:List ak}{s:St}{a:Operand->Value}{c:Operand->D}(b:∀ y,cd σ s (a y) (c y)):∀ l:List Operand,bX σ s (l.map a) (l.map c)
 |[]=>trivial
 |x::r=>⟨b x,pC b r⟩
theorem bX.append{σ:List ak}{s:St}:∀ {vs ve:List Value}{ds Le:List D},bX σ s vs ds->bX σ s ve Le->bX σ s (vs++ve) (ds++Le)
 |[],_,[],_,_,h=>h
 |[],_,_::_,_,h,_=>h.elim
 |_::_,_,[],_,h,_=>h.elim
 |_::_,_,_::_,_,h,a=>⟨h.1,bX.append h.2 a⟩
def II:A->A
 |.vec _ k n es=>.c (.sl false k n es)
 |.c (.sl _ k n es)=>.c (.sl false k n es)
 |a=>a
theorem zk{σ:List ak}{s:St}{v:Value}{a:A}(h:fz σ s v a):fz σ s v (II a):=by
 cases a with
 |vec l k n es=>exact h.1
 |c x=>cases x <;> first|exact h|exact Rd.loose h
 |_=>exact h
def IJ:List A->List A
 |[]=>[]
 |a::r=>II a::IJ r
theorem zl{σ:List ak}{s:St}:∀ {vs:List Value}{cs:List A},cA σ s vs cs->cA σ s vs (IJ cs)
 |[],[],_=>trivial
 |[],_::_,h=>h.elim
 |_::_,[],h=>h.elim
 |_::_,_::_,h=>⟨zk h.1,zl h.2⟩
def Lf:D->D
 |.e (.one a)=>.e (.one (II a))
 |.e (.agg cs)=>.e (.agg (IJ cs))
 |d=>d
theorem Gb{σ:List ak}{s:St}{v:Value}{d:D}(h:cd σ s v d):cd σ s v (Lf d):=by
 cases d with
 |e x=>cases x with
  |one a=>exact zk h
  |agg cs=>obtain⟨vs,b,c⟩:=h;exact⟨vs,b,zl c⟩
 |eY xs=>exact h
 |any=>trivial
def m8:List D->List D
 |[]=>[]
 |a::r=>Lf a::m8 r
theorem qb{σ:List ak}{s:St}:∀ {vs:List Value}{ds:List D},bX σ s vs ds->bX σ s vs (m8 ds)
 |[],[],_=>trivial
 |[],_::_,h=>h.elim
 |_::_,[],h=>h.elim
 |_::_,_::_,h=>⟨Gb h.1,qb h.2⟩
def jq:List C->List D
 |[]=>[]
 |c::r=>.e (.one (.c c))::jq r
theorem m9{σ:List ak}{s:St}:∀ {vs:List Value}{cs:List C},(∀ (j:Nat)(c:C),cs[j]?=some c->∃ v,vs[j]?=some v/\Rd s.M v c)->vs.length=cs.length->bX σ s vs (jq cs)
 |[],[],_,_=>trivial
 |[],_::_,_,h=>by simp at h
 |_::_,[],_,h=>by simp at h
 |v::vs,c::cs,h,b=>by
  obtain⟨u,a,d⟩:=h 0 c rfl;simp at a;subst a;exact⟨d,m9 (λj c e=>by simpa using h (j+1) c (by simpa using e)) (by simpa using b)⟩
theorem zm{α:Type}{ks:List Nat}{l r:List α}(h:jT ks l=some r):∀ x∈r,x∈l:=by
 intro x d;obtain⟨f,b⟩:=gi h;obtain⟨j,c,rfl⟩:=dV d;obtain⟨y,a,e⟩:=b j _ (aj (by omega))
 rw[aj c] at a;cases a;exact aH e
theorem ag.sub{ks:List Nat}{σ g:List ak}{s:St}{a:List Loc}(hh:ag σ s)(r:jT ks σ=some g)(l:jT ks s.β=some a)(z:cn g=true)(A:dn ks=true) :
  ag g { s with β:=a,own:=vk s a }/\eX s { s with β:=a,own:=vk s a }:=by
 obtain⟨c1,c2⟩:=gi r;obtain⟨d1,d2⟩:=gi l;have e:∀ L∈a,L∈s.β:=zm l;refine⟨⟨hh.mem,by simp[c1,d1],?_,?_,?_,?_⟩,⟨rfl,λ_ _ _ h=>h,λ_ _ _=>rfl,hh.mem,?_⟩⟩
 ·intro j B L o c;have hj:j<ks.length:=by rw[<-c1];exact(aF.1 o).1
  obtain⟨x,v,w⟩:=c2 j _ (aj hj);obtain⟨y,m,u⟩:=d2 j _ (aj hj);rw[o] at v;cases v;simp only at c;rw[c] at m;cases m;exact dj.plain (σ:=σ) (s:=s) (s':={ s with β:=a,own:=vk s a }) rfl rfl (jm z B (aH o)) (hh.box _ B L w u)
 ·intro j t L L' c f b d p;simp only at c f;have hj:j<ks.length:=by rw[<-d1];exact(aF.1 c).1
  have k:t<ks.length:=by rw[<-d1];exact(aF.1 f).1
  obtain⟨y,m,u⟩:=d2 j _ (aj hj);obtain⟨C,i,q⟩:=d2 t _ (aj k);rw[c] at m;cases m;rw[f] at i;cases i;have:=hh.ez _ _ L L' u q b d p;exact p9 A j t ks[j] (aj hj) (by rw[aj k,this])
 ·intro L c b d;exact hh.lt _ (e L c) b d
 ·rintro b (d|⟨⟨L,c,d⟩,n⟩)
  ·exact⟨(hh.own b d).1,λL c=>(hh.own b d).2 L (e L c)⟩
  ·exact⟨hh.lt L c b d,n⟩
 ·rintro b ((d|⟨⟨L,c,d⟩,_⟩)|⟨L,c,d⟩)
  ·exact .inl d
  ·exact .inr ⟨L,c,d⟩
  ·exact .inr ⟨L,e L c,d⟩
theorem eX.back{σ f σ1:List ak}{s c s2:St}{a:List Loc}(hh:ag σ s)(h1:ag σ1 c)(st:bD f { s with β:=a,own:=vk s a } σ1 c)(l:s2.w=c.w)(g:s2.M=c.M)(k:s2.own=s.own)
  (e:∀ L∈s2.β,L∈c.β∨(L∈s.β/\∀ b∈L.bs,∀ L'∈a,b∉L'.bs)):eX c s2:=by
 refine⟨l,λb o v h=>by rw[g];exact h,λb _ o=>by rw[g],λb o v h=>by rw[g] at h;exact h1.mem b o v h,?_⟩
 rintro b (d|⟨L,j,d⟩)
 ·left;rw[st.own];exact .inl (by rw[<-k];exact d)
 ·rcases e L j with h|⟨h,i⟩
  ·exact .inr ⟨L,h,d⟩
  ·left;rw[st.own];exact .inr ⟨⟨L,h,d⟩,i b d⟩
theorem sh{P:Program}{ι:Type}{X:Cx P}{S:Goroutine->St->Prop}{b:Frame}{k:List Item}{cs:List Frame}{a:Act}{s:St}{ops:Array Oper}{i:Nat}{rest:List Nat}{o:Oper}{ks:List Nat}{σ g:List ak}{σ1:ι->List ak}{f:FuncId}{d:List D}{res:ι->D}{vs:List Value}
  (hb:b.kind≠.early) (ho:ops[i]?=some o) (hw:Region.wanted o (yielded ops a.tmps)=true) (hh:ag σ s) (A:∀ w,(execOp a.eval o).run P w=.ok (.enter f vs.toArray) w) (y:∀ w,(execOp a.eval o).events P w #[]=#[])
  (K:fK X f d g res σ1) (x:bX σ s vs (jl ks d)) (I:oU ks.length d=true) (q:jT ks σ=some g) (hp:cn g=true) (N:∀ j,cn (σ1 j)=true) (hn:dn ks=true) (O:∀ j,ks.length<=(σ1 j).length)
  (h:∀ j v s',cd (cQ ks (σ1 j) σ) s' v (iN (ks++lp σ.length ((σ1 j).length-ks.length)) (res j))->ag (cQ ks (σ1 j) σ) s'->bD σ s (cQ ks (σ1 j) σ) s'->dk X S (G (b.aT (a.put o.dst v) (.inRegion ops rest::k)) cs) s') :
  dk X S (G (b.aT a (.inRegion ops (i::rest)::k)) cs) s:=by
 obtain⟨_,r⟩:=K;refine .next rfl λn J=>?_
 have W:=X.fC J;have e:=hh.rely W;obtain⟨m,u⟩:=xB (l':=n.β) q e.len;obtain⟨C,Q⟩:=e.sub q u hp hn;have p:bX σ n vs (jl ks d):=x.mono W.stepW.ext hh.len;have F:bX g { n with β:=m,own:=vk n m } vs d:=(p.sub (s:=n) q u I).mono (σ:=g) (s:={ n with β:=m }) (σ':=g) (s':={ n with β:=m,own:=vk n m }) ⟨λ_ _ _ h=>h,λl B L hB hL=>⟨B,L,hB,hL,.refl _ _⟩⟩ C.len
 refine⟨_,n,_,pY ho hw hb (A n.w),?_,.ghost Q (r _ vs F C S _ λj fr v s2 hl rJ KL na=>?_)⟩
 ·refine⟨⟨σ,σ,e,e,.refl _ _⟩,eP.seen ?_⟩;rw[y];exact .nil
 refine si (cs:=cs) (c:=b.aT a (.inRegion ops (i::rest)::k)) KL hl λs3 t=>?_
 have H:=KL.rely t;have E:=na.trans t.stepW;obtain⟨s4,V,T,R,Y,U,Z,z⟩:=frame e q u hn (N j) H E (O j) (rJ.mono t.stepW.ext KL.len);refine .ghost (eX.back e H E V U Z z) ?_;have M:=jV (b:=b) (a:=a) (k:=k) ops i rest v;rw[ho] at M;simp only[kr] at M;rw[M];exact h j v s4 T R (W.stepW.trans Y)
theorem CE{P:Program}{X:Cx P}{S:Goroutine->St->Prop}{b:Frame}{k:List Item}{cs:List Frame}{a:Act}{s:St}{ops:Array Oper}{i:Nat}{rest:List Nat}{o:Oper}{ks:List Nat}{σ e:List ak}{σ1:List ak}{f:FuncId}{c:List D}{res:D}{vs:List Value}
  (u:b.kind≠.early) (x:ops[i]?=some o) (y:Region.wanted o (yielded ops a.tmps)=true) (r:ag σ s) (j:∀ w,(execOp a.eval o).run P w=.ok (.enter f vs.toArray) w) (g:∀ w,(execOp a.eval o).events P w #[]=#[])
  (p:Ev X f c e res σ1) (d:bX σ s vs (jl ks c)) (l:oU ks.length c=true) (q:jT ks σ=some e) (t:cn e=true) (m:cn σ1=true) (z:dn ks=true) (n:ks.length<=σ1.length)
  (h:∀ v s',cd (cQ ks σ1 σ) s' v (iN (ks++lp σ.length (σ1.length-ks.length)) res)->ag (cQ ks σ1 σ) s'->bD σ s (cQ ks σ1 σ) s'->dk X S (G (b.aT (a.put o.dst v) (.inRegion ops rest::k)) cs) s') :
  dk X S (G (b.aT a (.inRegion ops (i::rest)::k)) cs) s :=
 sh u x y r j g p.Lc d l q t (λ_=>m) z (λ_=>n) (λ_=>h)
theorem lX{P:Program}{o:Oper}{m:Operand}{xs:Array Operand}{i:Array TypeId}(l:o.op=.call { callee:=.value m,args:=xs,argTypes:=i }){f:FuncId}{fn:Func}(g:P.funcs[f]?=some fn)(h:(fn.name== "runtime.NumGoroutine")=false)(d:fn.body.isNone=false)
  {a:Act} {cs:List Value} (k:a.eval m=.func (.func f) #[] cs.toArray) (w:World) :
  (execOp a.eval o).run P w=.ok (.enter f (xs.toList.map a.eval++cs).toArray) w/\(execOp a.eval o).events P w #[]=#[]:=by
 have j:(xs.map a.eval++cs.toArray)=(xs.toList.map a.eval++cs).toArray:=by apply fH;simp
 have c:fn.name≠ "runtime.NumGoroutine":=by simpa using h
 have b:fn.body≠none:=by intro e;rw[e] at d;cases d
 constructor
 ·simp[execOp,l,resolve,k,Deferred.ofValue,invoke,callFunc,g,c,b,j]
 ·simp[execOp,l,resolve,k,Deferred.ofValue,invoke,callFunc,g,c,b]
theorem gB.Lg{P:Program}{ι:Type}{X:Cx P}{N:Nat}{all rest:List Oper}{Q:Fr->List ak->Prop}{φ:Fr}{σ:List ak}{o:Oper}{B:Operand}{xs:Array Operand}{O:Array TypeId}
  (V:∀ σ s a,br N σ s φ a->Region.wanted o (yielded all.toArray a.tmps)=true) (T:o.op=.call { callee:=.value B,args:=xs,argTypes:=O })
  {f:FuncId} {cap:List C} (A:gL (bw φ B)=some (f,cap)) (ks:List Nat) {e:List D} {r:List ak} {σ1:ι->List ak} {res:ι->D} (u:fK X f e r res σ1)
  (n:∀ s vs,bX σ s vs (xs.toList.map (bw φ)++jq cap)->bX σ s vs (jl ks e)) (E:oU ks.length e=true) (K:jT ks σ=some r) (W:cn r=true) (G:∀ j,cn (σ1 j)=true) (hn:dn ks=true) (H:∀ j,ks.length<=(σ1 j).length)
  (d:Option Nat) (Y:o.dst=d) (hN:∀ t,d=some t->t<N)
  (k:∀ j,gB X N all rest Q (mF d (iN (ks++lp σ.length ((σ1 j).length-ks.length)) (res j)) φ) (cQ ks (σ1 j) σ)):gB X N all (o::rest) Q φ σ:=by
 subst Y;intro s a g hh b kk cs S idx hb lq hQ;cases idx with
 |nil=>exact lq.elim
 |cons i idx =>
 obtain⟨hi,lq⟩:=lq;have z:=fJ g B;unfold gL at A;split at A
 case h_2=>cases A
 case h_1 f' KX he =>
  cases A;rw[he] at z;have m:=ei z;generalize R:a.eval B=fv at m;cases m with
  |fn fs lr hl xE f1 f2 h1 h2 r1 r2 =>
   have I:fs=[]:=fO hl;subst I;have p:bX σ s lr (jq cap):=m9 (λj c hj=>⟨f2 j,h2 j (by rw[xE];exact(aF.1 hj).1),r2 j c hj⟩) xE
   have x:bX σ s (xs.toList.map a.eval++lr) (jl ks e):=by
    exact n _ _ ((pC (fJ g) xs.toList).append p)
   obtain⟨fn,y,l,h⟩:=u.1;refine sh hb hi (V _ _ _ g) hh (λw=>(lX T y l h R w).1) (λw=>(lX T y l h R w).2) u x E K W G hn H λj v s' hr md st=>?_
   refine k j s' _ ?_ md b kk cs S idx hb lq λL F Z U q f3 h3 M=>hQ L F Z U q f3 h3 (st.trans M)
   cases J:o.dst with
   |none=>exact g.mono st hh.len
   |some t=>exact(g.mono st hh.len).put (hN t J) hr
theorem gB.HR{P:Program}{ι:Type}{X:Cx P}{N:Nat}{all rest:List Oper}{Q:Fr->List ak->Prop}{φ:Fr}{σ:List ak}{o:Oper}{q:Operand}{xs:Array Operand}{g:Array TypeId}
  (u:∀ σ s a,br N σ s φ a->Region.wanted o (yielded all.toArray a.tmps)=true) (w:o.op=.call { callee:=.value q,args:=xs,argTypes:=g })
  {f:FuncId} {cap:List C} (y:gL (bw φ q)=some (f,cap)) (ks:List Nat) {b:List D} {e:List ak} {σ1:ι->List ak} {res:ι->D} (n:fK X f b e res σ1)
  (c:m8 (xs.toList.map (bw φ)++jq cap)=jl ks b) (i:oU ks.length b=true) (p:jT ks σ=some e) (v:cn e=true) (l:∀ j,cn (σ1 j)=true) (z:dn ks=true) (m:∀ j,ks.length<=(σ1 j).length)
  (d:Option Nat) (x:o.dst=d) (r:∀ t,d=some t->t<N)
  (k:∀ j,gB X N all rest Q (mF d (iN (ks++lp σ.length ((σ1 j).length-ks.length)) (res j)) φ) (cQ ks (σ1 j) σ)):gB X N all (o::rest) Q φ σ :=
 gB.Lg u w y ks n (λs vs h=>by rw[<-c];exact qb h) i p v l z m d x r k
theorem gB.call{P:Program}{X:Cx P}{N:Nat}{all rest:List Oper}{Q:Fr->List ak->Prop}{φ:Fr}{σ:List ak}{o:Oper}{n:Operand}{xs:Array Operand}{g:Array TypeId}
  (q:∀ σ s a,br N σ s φ a->Region.wanted o (yielded all.toArray a.tmps)=true) (u:o.op=.call { callee:=.value n,args:=xs,argTypes:=g })
  {f:FuncId} {cap:List C} (w:gL (bw φ n)=some (f,cap)) (ks:List Nat) {b:List D} {e σ1:List ak} {res:D} (l:Ev X f b e res σ1)
  (c:m8 (xs.toList.map (bw φ)++jq cap)=jl ks b) (h:oU ks.length b=true) (m:jT ks σ=some e) (r:cn e=true) (i:cn σ1=true) (x:dn ks=true) (j:ks.length<=σ1.length)
  (d:Option Nat) (v:o.dst=d) (p:∀ t,d=some t->t<N)
  (k:gB X N all rest Q (mF d (iN (ks++lp σ.length (σ1.length-ks.length)) res) φ) (cQ ks σ1 σ)):gB X N all (o::rest) Q φ σ :=
 gB.HR q u w ks l.Lc c h m r (λ_=>i) x (λ_=>j) d v p (λ_=>k)
theorem Names.range(all:List Oper):Names all (List.range all.toArray.size) all:=by
 have key:∀ (l:List Oper) (n:Nat),(∀ j o,l[j]?=some o->all[n+j]?=some o)->Names all (List.range' n l.length) l:=by
  intro l
  induction l with
  |nil=>intro n _;trivial
  |cons o r b =>
   intro n h;rw[ft,List.range'_succ];refine⟨by simpa using h 0 o rfl,b (n+1) λj a hj=>?_⟩
   have:=h (j+1) a (by simpa using hj)
   rwa [show n+(j+1)=n+1+j by omega] at this
 have:=key all 0 (λj o h=>by simpa using h)
 rw[List.range_eq_range'];simpa using this
theorem AW.region{P:Program}{X:Cx P}{N:Nat}{Q:Post}{φ:Fr}{σ:List ak}{id:Nat}{ops:Array Oper}(h:gB X N ops.toList ops.toList (λφ σ=>Q .normal φ σ) φ σ):AW X N (.region id ops false) Q φ σ:=by
 intro s a f hh b k cs S e d;refine .ctl hh rfl (λ_=>lU) λi h1=>?_
 have:=h i a (f.rely h1 hh) (hh.rely h1) b k cs S (List.range ops.size) e (by simpa using Names.range ops.toList) λφ' σ' s' a' q g c st=>d .normal φ' σ' s' a' q g c (h1.stepW.trans st)
 simpa using this
theorem gB.nil{P:Program}{X:Cx P}{N:Nat}{all:List Oper}{Q:Fr->List ak->Prop}{φ:Fr}{σ:List ak}(h:Q φ σ):gB X N all [] Q φ σ:=by
 intro s a f hh b k cs S idx _ c e;cases idx with
 |cons i idx=>exact c.elim
 |nil=>exact .ctl hh rfl (λ_=>et) λd h1=>e φ σ d a h (f.rely h1 hh) (hh.rely h1) h1.stepW
theorem gB.mono{P:Program}{X:Cx P}{N:Nat}{all rest:List Oper}{Q c:Fr->List ak->Prop}{φ:Fr}{σ:List ak}(h:gB X N all rest Q φ σ)(g:∀ φ σ,Q φ σ->c φ σ):gB X N all rest c φ σ :=
 λs a f hh b k cs S idx hb hi hQ=>h s a f hh b k cs S idx hb hi λφ' σ' s' a' q d e st=>hQ φ' σ' s' a' (g _ _ q) d e st
def iO:Nat->List D->Fr
 |_,[]=>[]
 |i,d::r=>(i,d)::iO (i+1) r
theorem mG:∀ (ds:List D)(i t:Nat),look (iO i ds) t=if i<=t then (ds[t-i]?).getD .any else .any
 |[],i,t=>by simp[iO,look]
 |d::r,i,t=>by
  simp only[iO,look]
  by_cases e:i=t
  ·subst e;rw[show Nat.beq i i=true from ir i]
   simp
  ·have:Nat.beq i t=false:=by
    cases h:Nat.beq i t
    ·rfl
    ·exact absurd (bn h) e
   rw[this];simp only[cond,mG r (i+1) t]
   by_cases a:i<=t
   ·rw[ar (by omega),ar a,show t-i=(t-(i+1))+1 by omega]
    simp
   ·rw[an (by omega),an a]
theorem bX.get{σ:List ak}{s:St}:∀ {vs:List Value}{ds:List D},bX σ s vs ds->vs.length=ds.length/\∀ (j:Nat),cd σ s ((vs[j]?).getD undef) ((ds[j]?).getD .any)
 |[],[],_=>⟨rfl,λj=>by simp[cd]⟩
 |[],_::_,h=>h.elim
 |_::_,[],h=>h.elim
 |v::vs,d::ds,h=>by
  obtain⟨h1,h2⟩:=bX.get h.2;refine⟨by simp[h1],λj=>?_⟩
  cases j with
  |zero=>simpa using h.1
  |succ j=>simpa using h2 j
def rK(φ:Fr):List ResultVar->Option (List D)
 |[]=>some []
 |.tmp t::r=>match rK φ r with
  |some q=>some (look φ t::q)
  |none=>none
 |.cell _ _::_=>none
def oB:List D->Option (List E1)
 |[]=>some []
 |.e x::r=>match oB r with
  |some q=>some (x::q)
  |none=>none
 |_::_=>none
def nb:List D->Option D
 |[d]=>some d
 |ds=>match oB ds with
  |some es=>some (.eY es)
  |none=>none
def fu(a:Act):ResultVar->Sem Value
 |ResultVar.tmp t=>pure (a.tmps.getD t undef)
 |ResultVar.cell ad t=>do loadVar t (<-asAddr (a.tmps.getD ad undef))
theorem zn(P:Program){N:Nat}{σ:List ak}{s:St}{φ:Fr}{a:Act}(f:br N σ s φ a):∀ {b:List ResultVar}{ds:List D},rK φ b=some ds ->
  ∃ vs,(∀ w,(b.mapM (fu a)).run P w=Result.ok vs w)/\bX σ s vs ds/\bH P (b.mapM (fu a))
 |[],ds,h=>by cases h;exact⟨[],by simp,ab,by rw[List.mapM_nil];exact .pure⟩
 |.tmp t::r,ds,h=>by
  simp only[rK] at h;cases c:rK φ r with
  |none=>simp[c] at h
  |some q =>
   simp[c] at h;subst h;obtain⟨vs,e,d,g⟩:=zn P f c;refine⟨a.tmps.getD t undef::vs,?_,⟨f.slot t,d⟩,?_⟩
   ·intro w;simp only[jh,aU,fu,b8,bh,e]
   ·rw[jh];exact .bind .pure λ_=>.bind g λ_=>.pure
 |.cell ad t::r,ds,h=>by simp[rK] at h
theorem vm{σ:List ak}{s:St}:∀ {vs:List Value}{ds:List D}{es:List E1},oB ds=some es->bX σ s vs ds->eZ σ s vs es
 |[],[],es,h,_=>by cases h;trivial
 |[],_::_,_,_,h=>h.elim
 |_::_,[],_,_,h=>h.elim
 |v::vs,.e x::r,es,h,b=>by
  simp only[oB] at h;cases a:oB r with
  |none=>simp[a] at h
  |some q=>simp[a] at h;subst h;exact⟨b.1,vm a b.2⟩
 |_::_,.eY _::_,es,h,_=>by simp[oB] at h
 |_::_,.any::_,es,h,_=>by simp[oB] at h
theorem vn{σ:List ak}{s:St}{vs:List Value}{ds:List D}{d:D}(h:nb ds=some d)(a:bX σ s vs ds):cd σ s (if h:vs.length=1 then vs[0] else .tuple vs.toArray) d:=by
 unfold nb at h;split at h
 ·rename_i g
  cases h
  match vs,a with
  |[v],a=>simpa using a.1
 ·rename_i b
  cases c:oB ds with
  |none=>simp[c] at h
  |some es =>
   simp[c] at h;subst h;have f:vs.length≠1:=by
    intro e;rw[(bX.get a).1] at e
    match ds,e with
    |[x],_=>exact b x rfl
   rw[dif_neg f];exact⟨vs,rfl,vm c a⟩
def vo(P:Program)(fn:Func)(φ:Fr)(d:D):Prop:=∀ {N:Nat}{σ:List ak}{s:St}{a:Act},br N σ s φ a->∃ v,cd σ s v d/\∀ w,(∀ b o u,s.M b o=some u->w.cell? ⟨b,o,none⟩=some u)->(results fn a.tmps).run P w=.ok v w/\∀ e∈(results fn a.tmps).events P w #[],∃ b o u,e=⟨.cell ⟨b,o,none⟩,false,false⟩/\s.M b o=some u
theorem oC{P:Program}{N:Nat}{σ:List ak}{s:St}{φ:Fr}{a:Act}(f:br N σ s φ a){fn:Func}{ds:List D}{d:D}(h:rK φ fn.results.toList=some ds)(b:nb ds=some d) :
  ∃ v,(∀ w,(results fn a.tmps).run P w=.ok v w)/\cd σ s v d/\bH P (results fn a.tmps):=by
 obtain⟨vs,i,g,c⟩:=zn P f h;refine⟨_,λw=>?_,vn b g,?_⟩
 ·have e:(fn.results.mapM (fu a)).run P w=Result.ok vs.toArray w:=by
   rw[pV];simp only[Sem.run_map,i,bh]
  unfold results;rw[aU];refine(b5 (λr=>Result.andThen r _) (Eq.trans ?_ e)).trans ?_
  ·congr 2
  ·simp
 ·unfold results;have e:bH P (fn.results.mapM (fu a)):=by
   rw[pV];exact .map c
  exact .bind e λ_=>.pure
theorem vo.of{P:Program}{fn:Func}{φ:Fr}{ds:List D}{d:D}(h:rK φ fn.results.toList=some ds)(hj:nb ds=some d):vo P fn φ d:=by
 intro N σ s a f;obtain⟨v,h1,h2,c⟩:=oC (P:=P) f h hj;exact⟨v,h2,λw _=>⟨h1 w,λe b=>by rw[c w #[]] at b;simp at b⟩⟩
theorem ag.kD{σ:List ak}{s:St}(h:ag σ s):ag (σ.map λ_=>.dead) s:=by
 refine⟨h.mem,by simp[h.len],λl B L a c=>?_,h.ez,h.lt,h.own⟩
 simp only[mz] at a;cases b:σ[l]? with
 |none=>rw[b] at a;cases a
 |some x=>rw[b] at a;cases a;trivial
structure HS (ls:List Nat)(s s':St):Prop where
 β:s'.β=s.β
 M:s'.M=s.M
 own:s'.own=s.own
 size:s.w.heap.size<=s'.w.heap.size
 en:∀ b,(s.own b∨∃ (l:Nat) (L:Loc),s.β[l]?=some L/\l∉ls/\b∈L.bs)->s'.w.heap[b]?=s.w.heap[b]?
 mem:∀ b o v,s.M b o=some v->s'.w.cell? ⟨b,o,none⟩=some v
 os:s'.w.os=s.w.os
 tape:s'.w.tape=s.w.tape
 output:s'.w.output=s.w.output
theorem aX.R3{s s':St}(h:aX s s')(a:List Nat):HS a s s' :=
 ⟨h.β,h.M,h.own,h.size,λb d=>h.en b (d.imp id λ⟨l,L,h1,_,c⟩=>⟨L,aH h1,c⟩),h.mem,h.os,h.tape,h.output⟩
theorem HS.cat{l:Nat}{d:List Nat}{s f s2:St}(h:HS [l] s f)(k:HS d f s2):HS (l::d) s s2:=by
 refine⟨k.β.trans h.β,k.M.trans h.M,k.own.trans h.own,gf h.size k.size,λb e=>?_,λb o v g=>k.mem b o v (by rw[h.M];exact g),k.os.trans h.os,k.tape.trans h.tape,k.output.trans h.output⟩
 rw[k.en b,h.en b (e.imp id λ⟨l',L,h1,h2,c⟩=>⟨l',L,h1,λa=>h2 (by simp at a;simp[a]),c⟩)]
 rw[h.own,h.β];exact e.imp id λ⟨l',L,h1,h2,c⟩=>⟨l',L,h1,λa=>h2 (nS _ a),c⟩
theorem CH{P:Program}{w:World}{r:Nat}(a:w.heap[r]?=some (.deferred (some []))) :
  (Instr.takeDeferred r).run P w=.ok [] { w with heap:=w.heap.setIfInBounds r (.deferred none) }/\(Instr.takeDeferred r).events P w #[]=#[⟨.obj r,false,false⟩,⟨.obj r,true,false⟩]:=by
 have b:(getObj r).run P w=.ok (.deferred (some [])) w:=by simp only[getObj,Sem.run,a]
 have c:(setObj r (.deferred none)).run P w=.ok () { w with heap:=w.heap.setIfInBounds r (.deferred none) }:=by simp only[setObj,Sem.run,a]
 have e:∀ es,(getObj r).events P w es=es.push ⟨.obj r,false,false⟩:=λes=>by simp only[getObj,Sem.events,Sem.runT,a];rfl
 have d:∀ es,(setObj r (.deferred none)).events P w es=es.push ⟨.obj r,true,false⟩:=λes=>by simp only[setObj,Sem.events,Sem.runT,a];rfl
 constructor
 ·simp[Instr.takeDeferred,b,c]
 ·simp[Instr.takeDeferred,b,e,d]
variable {P:Program}{X:Cx P}{S:Goroutine->St->Prop}{cs:List Frame}{main:Bool}
theorem Ge{a:Frame}{r:Nat}{ds:List Deferred}{w:World}(f:a.mode=.returning)(e:a.defers={ target:=.collected r,args:=#[] }::ds)(b:w.heap[r]?=some (.deferred (some []))) :
  stepG P main (G a cs) w=.go (G { a with defers:=ds } cs) { w with heap:=w.heap.setIfInBounds r (.deferred none) } (seen P a.fn #[⟨.obj r,false,false⟩,⟨.obj r,true,false⟩]):=by
 obtain⟨d,c⟩:=CH (P:=P) b;simp[G,stepG,unwind,f,e,d,c,GStep.after]
def qc(s:St):List Deferred->List Nat->Prop
 |[],[]=>True
 |d::ds,l::ls=>(∃ r:Nat,s.β[l]?=some ⟨.int .i64 r,[r]⟩/\s.w.heap[r]?=some (.deferred (some []))/\(∀ o,s.M r o=none)/\d={ target:=.collected r,args:=#[] })/\l∉ls/\qc s ds ls
 |_,_=>False
theorem kW.taken{σ:List ak}{s:St}(hh:ag σ s):∀ {ds:List Deferred}{a:List Nat},kW σ s ds a->qc s ds a
 |[],[],_=>trivial
 |[],_::_,r=>r.elim
 |_::_,[],r=>r.elim
 |d::ds,l::a,⟨⟨h1,L,r,h2,f,b⟩,i,h⟩=>by
  obtain⟨r',k1,c,g⟩:=hh.box l _ L h1 h2;subst k1;simp at f;have e:r'=r:=by omega
  subst e;exact⟨⟨r',h2,c,g,b⟩,i,kW.taken hh h⟩
theorem qc.mono{s s':St}{c:Nat}(h:HS [c] s s'):∀ {ds:List Deferred}{b:List Nat},c∉b->qc s ds b->qc s' ds b
 |[],[],_,_=>trivial
 |[],_::_,_,r=>r.elim
 |_::_,[],_,r=>r.elim
 |d::ds,l::b,a,⟨⟨r,h1,h2,g,f⟩,i,j⟩=>by
  simp only[dF,not_or] at a;refine⟨⟨r,by rw[h.β];exact h1,by rw[h.en r (.inr ⟨l,_,h1,by simp;exactλe=>a.1 e.symm,by simp⟩)];exact h2,λo=>by rw[h.M];exact g o,f⟩,i,qc.mono h a.2 j⟩
theorem qd:∀ (A:List Nat)(f:Frame)(s:St)(σ:List ak),ag σ s->(∀ B∈σ,B=.dead)->f.mode=.returning->qc s f.defers A ->
  (∀ s',HS A s s'->dk X S (G { f with defers:=[] } cs) s')->dk X S (G f cs) s
 |[],f,s,σ,z,q,F,p,k=>by
  have u:f.defers=[]:=by
   cases u:f.defers with
   |nil=>rfl
   |cons d ds=>rw[u] at p;exact p.elim
  have:=k s ((aX.refl z).R3 _);have e:{ f with defers:=[] }=f:=by cases f;simp_all
  rwa [e] at this
 |l::A,f,s,σ,z,q,F,p,k=>by
  cases u:f.defers with
  |nil=>rw[u] at p;exact p.elim
  |cons d ds =>
   rw[u] at p;obtain⟨⟨r,C,V,W,R⟩,O,T⟩:=p;subst R;refine .next rfl λi E=>?_
   have g:=X.fC E;have a:=z.rely g;have K:i.β[l]?=some ⟨.int .i64 r,[r]⟩:=by rw[g.β];exact C
   have D:i.w.heap[r]?=some (.deferred (some [])):=by rw[g.en r (.inr ⟨_,aH C,by simp⟩)];exact V
   have N:∀ o,i.M r o=none:=λo=>by rw[g.M];exact W o
   let s2:St:={ i with w:={ i.w with heap:=i.w.heap.setIfInBounds r (.deferred none) } }
   have H:∀ b,b≠r->s2.w.heap[b]?=i.w.heap[b]?:=λb c=>by
    show (i.w.heap.setIfInBounds r _)[b]?=_;rw[hO (λe=>c e.symm)]
   have j:∀ b o v,i.M b o=some v->s2.w.cell? ⟨b,o,none⟩=some v:=by
    intro b o v y;have n:b≠r:=by rintro rfl;rw[N] at y;cases y
    rw[<-a.mem b o v y];simp only[World.cell?];rw[H b n]
   have x:ag σ s2:=by
    refine⟨j,a.len,λl' B L Q t=>?_,a.ez,λL t b c=>?_,λb c=>⟨?_,(a.own b c).2⟩⟩
    ·rw[q B (aH Q)];trivial
    ·have:=a.lt L t b c;simpa[s2] using this
    ·have:=(a.own b c).1;simpa[s2] using this
   have m:∃ L∈i.β,r∈L.bs:=⟨_,aH K,by simp⟩
   have st:Step σ i σ s2:=by
    refine⟨by simp[s2],λb _ c=>H b ?_,λ_ _ _ h=>h,λ_ _ _ _=>rfl,λL t b c=>.inr ⟨L,t,c⟩,λ_ B L h U=>⟨B,L,h,U,.refl _ _⟩,rfl,rfl,rfl,rfl⟩
    rintro rfl;obtain⟨L,t,I⟩:=m;exact c L t I
   have un:HS [l] s s2:=by
    refine⟨g.β,g.M,g.own,gf g.size (by simp[s2]),λb c=>?_,λb o v y=>j b o v (by rw[g.M];exact y),g.os,g.tape,g.output⟩
    have n:b≠r:=by
     rintro rfl;rcases c with c|⟨l',L',J,p2,p3⟩
     ·exact(z.own b c).2 _ (aH C) (by simp)
     ·exact p2 (by simp;exact z.ez l' l L' _ J C b p3 (by simp))
    rw[H b n];exact g.en b (c.imp id λ⟨l',L',J,_,p3⟩=>⟨L',aH J,p3⟩)
   refine⟨_,s2,_,Ge F u D,⟨⟨σ,σ,a,x,st⟩,eP.seen (.two ?_ ?_)⟩,?_⟩
   ·exact⟨rfl,.inr m⟩
   ·exact⟨rfl,.inr m⟩
   refine qd A { f with defers:=ds } s2 σ x q F (T.mono un O) λs' hu=>?_
   exact k s' (un.cat hu)
end Go.AM
