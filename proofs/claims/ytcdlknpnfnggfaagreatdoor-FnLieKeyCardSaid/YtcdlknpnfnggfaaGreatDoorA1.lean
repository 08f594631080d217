/-
  Part 1 of a machine of values without memory, proved sound over the model, and of contracts of the functions that the laws reach. Nothing is taken for granted: no condition.
-/
import Derived.Tactics2
import Derived.Conc.Own
import Derived.Conc.Events
import Derived.Conc.Listed
import Derived.Laws.CopyRow
import Derived.Laws.AppendOwn
import Derived.Laws.Rows
import Derived.Laws.Strings
import Derived.Laws.Cells
set_option linter.unusedVariables false
set_option linter.unusedSimpArgs false
set_option linter.defProp false
set_option linter.deprecated false
namespace Go
set_option linter.defProp false
set_option linter.deprecated false
def ai:=@_root_.List.getElem?_eq_getElem
def ab:=@_root_.trivial
def aD:=@_root_.List.getElem?_eq_some_iff
def av:=@_root_.decide_eq_true_eq
def aE:=@_root_.List.mem_of_getElem?
def ae:=@_root_.and_true
def af:=@_root_.true_and
def aZ:=@_root_.decide_eq_false_iff_not
def aF:=@_root_.Int.toNat_natCast
def bM:=@_root_.Array.getD_eq_getD_getElem?
def bc:=@_root_.List.getElem?_append_left
def aO:=@_root_.Nat.eq_of_beq_eq_true
def bw:=@_root_.Array.getElem?_eq_getElem
def ar:=@_root_.Nat.le_refl
def aw:=@_root_.Nat.zero_add
def bk:=@_root_.List.getElem?_set_self
def ba:=@_root_.List.length_append
def ck:=@_root_.List.getElem?_append_right
def bF:=@_root_.Nat.lt_of_lt_of_le
def b6:=@_root_.List.getElem?_set_ne
def bq:=@_root_.Bool.and_eq_true
def dq:=@_root_.List.eq_nil_of_length_eq_zero
def bO:=@_root_.Option.some.injEq
def bP:=@_root_.Go.Result.andThen_ok
def bJ:=@_root_.List.getElem_mem
def cA:=@_root_.Nat.le_of_ble_eq_true
def ak:=@_root_.if_neg
def bx:=@_root_.decide_eq_true
def an:=@_root_.if_pos
def dE:=@_root_.Array.getElem?_eq_some_iff
def cD:=@_root_.beq_eq_false_iff_ne
def cJ:=@_root_.List.getElem_of_mem
def bm:=@_root_.Go.Sem.run_bind
def bz:=@_root_.Nat.lt_or_ge
def cm:=@_root_.List.take_length
def de:=@_root_.List.getElem?_take
def cK:=@_root_.Option.getD_some
def cM:=@_root_.List.length_cons
def eP:=@_root_.Array.getElem?_replicate
def di:=@_root_.List.append_assoc
def aW:=@_root_.if_false
def ee:=@_root_.Nat.mul_le_mul_right
def fE:=@_root_.Nat.lt_succ_iff_lt_or_eq
def eQ:=@_root_.List.getElem?_eq_none
def aX:=@_root_.if_true
def en:=@_root_.not_true_eq_false
def dF:=@_root_.List.mem_append
def ef:=@_root_.List.length_nil
def cY:=@_root_.Go.Sem.run_pure
def dr:=@_root_.List.mem_cons
def l6:=@_root_.Array.getElem?_setIfInBounds_self_of_lt
def kr:=@_root_.Array.getElem?_setIfInBounds_ne
def fU:=@_root_.Array.length_toList
def gi:=@_root_.Array.toArray_toList
def eR:=@_root_.List.all_eq_true
def fV:=@_root_.List.mem_singleton
def gH:=@_root_.List.mem_of_mem_take
def fG:=@_root_.beq_self_eq_true
def fh:=@_root_.decide_eq_false
def ik:=@_root_.List.length_filter_le
def il:=@_root_.List.getElem?_toArray
def gI:=@_root_.Bool.false_eq_true
def im:=@_root_.List.mem_cons_of_mem
def gj:=@_root_.List.length_drop
def cn:=@_root_.congrArg
def er:=@_root_.Nat.le_trans
def ly:=@_root_.Array.toList_setIfInBounds
def g7:=@_root_.List.take_add_one
def gk:=@_root_.Option.map_some
def iq:=@_root_.Nat.eq_zero_or_pos
def kt:=@_root_.Array.getElem?_toList
def oP:=@_root_.List.findIdx?_eq_some_iff_getElem
def hI:=@_root_.Nat.not_lt_zero
def eT:=@_root_.Nat.add_mul
def ir:=@_root_.List.foldl_cons
def l7:=@_root_.Nat.add_sub_cancel_left
def l8:=@_root_.List.getElem?_cons_zero
def jK:=@_root_.List.ext_getElem?
def jL:=@_root_.Bool.not_eq_true'
def fH:=@_root_.Nat.zero_le
def nq:=@_root_.List.pairwise_iff_getElem
def nt:=@_root_.List.findIdx?_eq_none_iff
def eU:=@_root_.beq_iff_eq
def gm:=@_root_.Nat.add_zero
def iV:=@_root_.List.append_nil
def hJ:=@_root_.Prod.mk.injEq
def lz:=@_root_.List.mem_cons_self
def oQ:=@_root_.List.mem_or_eq_of_mem_set
def oR:=@_root_.Array.mapM_eq_mapM_toList
def nu:=@_root_.List.take_append_drop
def ku:=@_root_.List.length_map
def kv:=@_root_.Bool.or_eq_true
def l9:=@_root_.List.getElem?_drop
def oS:=@_root_.List.getElem?_cons_succ
def ma:=@_root_.bne_self_eq_false
def oT:=@_root_.Option.map_eq_some_iff
def iW:=@_root_.Nat.succ_mul
def iX:=@_root_.Nat.mul_comm
def mb:=@_root_.List.getElem?_map
def lA:=@_root_.Option.some.inj
def nZ:=@_root_.List.mem_of_find?_eq_some
def md:=@_root_.List.length_singleton
def jZ:=@_root_.Option.bind_some
def kV:=@_root_.Nat.add_sub_cancel
def kW:=@_root_.List.find?_eq_none
def kX:=@_root_.List.filter_append
def gT:=@_root_.Nat.beq_refl
def iu:=@_root_.Bool.not_true
def jo:=@_root_.List.mapM_cons
def bY:=@_root_.ne_eq
def kY:=@_root_.Int.emod_eq_of_lt
def me:=@_root_.Option.toList_some
def gy:=@_root_.Array.ext'
def mf:=@_root_.of_decide_eq_true
def mg:=@_root_.not_false_eq_true
def mh:=@_root_.List.size_toArray
def mi:=@_root_.List.foldl_append
def gU:=@_root_.Nat.mod_lt
def j0:=@_root_.List.map_cons
def j1:=@_root_.Bool.true_and
def mj:=@_root_.Bool.not_eq_true
def j3:=@_root_.Nat.add_comm
def n3:=@_root_.Bool.not_eq_false'
def mm:=@_root_.List.mem_filter
def kZ:=@_root_.Nat.add_assoc
def pq:=@_root_.Nat.ble_eq_true_of_le
def pr:=@_root_.Classical.choose_spec
def pt:=@_root_.Bool.and_eq_false_iff
def pv:=@_root_.Nat.div_lt_of_lt_mul
def fI:=@_root_.true_or
def k5:=@_root_.decide_false
def fJ:=@_root_.Ne.symm
def k6:=@_root_.Nat.sub_zero
def k7:=@_root_.List.mem_map
def r9:=@_root_.List.getElem?_eq_none_iff
def pw:=@_root_.List.filter_eq_self
def px:=@_root_.Int.emod_lt_of_pos
def sa:=@_root_.Nat.le_mul_of_pos_right
def n5:=@_root_.List.mem_range
def sc:=@_root_.List.length_pos_of_mem
def sd:=@_root_.Array.getElem?_push_lt
def se:=@_root_.Array.getElem?_eq_none
def sh:=@_root_.Array.mem_of_getElem?
def py:=@_root_.Nat.div_add_mod'
def pz:=@_root_.List.not_mem_nil
def wC:=@_root_.List.find?_eq_some_iff_getElem
def mn:=@_root_.decide_true
def si:=@_root_.List.mem_of_mem_drop
def pA:=@_root_.UInt8.toNat_inj
def pC:=@_root_.List.map_append
def pD:=@_root_.List.find?_some
def pE:=@_root_.Int.emod_nonneg
def sj:=@_root_.Nat.mul_le_mul_left
def sk:=@_root_.List.flatMap_append
def n6:=@_root_.Nat.sub_self
def n7:=@_root_.Bool.true_or
def pF:=@_root_.Array.mem_push
def wD:=@_root_.Array.getElem?_append_left
def n8:=@_root_.Nat.one_mul
def n9:=@_root_.Nat.mul_one
def sq:=@_root_.Nat.lt_trichotomy
def sr:=@_root_.List.getElem?_set
def ss:=@_root_.List.flatMap_cons
def wE:=@_root_.List.set_eq_of_length_le
def su:=@_root_.List.filter_cons
def sv:=@_root_.List.ext_getElem
def sx:=@_root_.List.drop_append
def pG:=@_root_.getElem!_pos
def oa:=@_root_.bne_iff_ne
def wF:=@_root_.List.take_of_length_le
def wG:=@_root_.List.range_succ_eq_map
def wH:=@_root_.List.drop_eq_nil_of_le
def sz:=@_root_.List.nil_append
def sA:=@_root_.List.length_set
def sC:=@_root_.List.all_append
def wI:=@_root_.List.singleton_append
def wJ:=@_root_.List.mem_iff_getElem?
def wK:=@_root_.UInt8.lt_or_lt_of_ne
def pH:=@_root_.Nat.mul_add
def sD:=@_root_.List.take_take
def wL:=@_root_.List.mem_iff_getElem
def sE:=@_root_.List.foldl_nil
def pI:=@_root_.Int.le_refl
def sF:=@_root_.Bool.not_false
def wM:=@_root_.Nat.add_sub_cancel'
def wN:=@_root_.List.toList_toArray
def wO:=@_root_.Int.toNat_of_nonneg
def sG:=@_root_.Nat.mul_assoc
def sH:=@_root_.List.all_cons
end Go
namespace Go.AM
inductive C where
  | int (k:IntKind) (n:Int)
  | bool (b:Bool)
  | str (s:List UInt8)
  | sl (tight:Bool) (k n:Nat) (es:Nat->List C)
  | rp (cs:List C)
  | j4
  | ifs (t:TypeId) (c:C)
  | ES (t:TypeId) (cs:List C)
  | mz
  | fn (f:Fn) (first cap:List C)
  | uZ
  | val (x:Value)
inductive BP where
  | sl (g k o n:Nat)
  | el (g k i f:Nat)
def BP.g:BP->Nat
  | .sl g _ _ _=>g
  | .el g _ _ _=>g
def BP.K:BP->Value->Value->Prop
  | .sl _ k o n,lv,v=>∃ a a0 cap c0,v=.slice a n cap/\n<=cap/\o+cap=c0/\c0<=9223372036854775807/\lv=.slice a0 0 c0/\(0<cap->∃ b,a0=some ⟨b,0,none⟩/\a=some ⟨b,o*k,none⟩)
  | .el _ k i f,lv,v=>∃ b c0,lv=.slice (some ⟨b,0,none⟩) 0 c0/\v=.pointer (some ⟨b,i*k+f,none⟩)
inductive A where
  | c (x:C)
  | ptr (l off:Nat)
  | vec (l k n:Nat) (es:Nat->List C)
  | ref (l:Nat)
  | bp (l:Nat) (w:BP)
  | any
abbrev A.v (x:Value):A:=.c (.val x)
inductive E1 where
  | one (a:A)
  | agg (cs:List A)
inductive D where
  | e (x:E1)
  | dH (xs:List E1)
  | any
abbrev Fr:=List (Nat×D)
def look:Fr->Nat->D
  | [],_=>.any
  | (i,d)::r,t=>cond (Nat.beq i t) d (look r t)
inductive aj where
  | cells (E:TypeId) (cs:List A)
  | vec (E:TypeId) (k n:Nat) (es:Nat->List C)
  | cx (H:Value->(Nat->Option Obj)->Prop)
  | dead
  | loop (N:Nat) (φ:Fr) (r:Loop)
  | qv
  | buf (E:TypeId) (k n:Nat) (es:Nat->List C)
@[simp] def aj.gr:aj->Bool
  | .vec _ _ _ _=>true
  | .buf _ _ _ _=>true
  | _=>false
structure Loc where
  v:Value
  bs:List Nat
abbrev Mem:=Nat->Nat->Option Value
structure St where
  β:List Loc
  M:Mem
  w:World
  own:Nat->Prop
def aJ:IntKind->Int->Prop
  | .i8,n=>-128<=n/\n<=127
  | .i16,n=>-32768<=n/\n<=32767
  | .i32,n=>-2147483648<=n/\n<=2147483647
  | .i64,n=>-9223372036854775808<=n/\n<=9223372036854775807
  | .u8,n=>0<=n/\n<=255
  | .u16,n=>0<=n/\n<=65535
  | .u32,n=>0<=n/\n<=4294967295
  | .u64,n=>0<=n/\n<=18446744073709551615
def cg:Value->Bool
  | .agg _|.tuple _=>false
  | _=>true
theorem BP.K.cell {w:BP} {lv v:Value} (h:w.K lv v):cg v=true:=by
  cases w with
  | sl=>obtain⟨_,_,_,_,rfl,_⟩:=h;rfl
  | el=>obtain⟨_,_,_,rfl⟩:=h;rfl
inductive Rd (M:Mem):Value->C->Prop
  | int {k:IntKind} {n:Int} (h:aJ k n):Rd M (.int k n) (.int k n)
  | bool {b:Bool}:Rd M (.bool b) (.bool b)
  | str {s:ByteArray} {l:List UInt8} (h:s.data.toList=l) (hl:l.length<=9223372036854775807):Rd M (.string s) (.str l)
  | sl {a:Option Addr} {n cap:Nat} {tight:Bool} {k:Nat} {es:Nat->List C} (b off:Nat) (f:Nat->Nat->Value)
      (uY:n<=cap) (hb:cap<=9223372036854775807) (ht:tight=true->cap=n) (hk:∀ i,i<n->(es i).length=k)
      (ha:0<n->a=some ⟨b,off,none⟩)
      (hm:∀ i,i<n->∀ j c,(es i)[j]?=some c->M b (off+i*k+j)=some (f i j))
      (hr:∀ i,i<n->∀ j c,(es i)[j]?=some c->Rd M (f i j) c):Rd M (.slice a n cap) (.sl tight k n es)
  | rp {cs:List C} (b off:Nat) (f:Nat->Value)
      (hm:∀ j c,cs[j]?=some c->M b (off+j)=some (f j))
      (hr:∀ j c,cs[j]?=some c->Rd M (f j) c):Rd M (.pointer (some ⟨b,off,none⟩)) (.rp cs)
  | j4:Rd M (.pointer none) .j4
  | ifs {t:TypeId} {v:Value} {c:C} (h:Rd M v c) (hc:cg v=true):Rd M (.iface t v) (.ifs t c)
  | ES {t:TypeId} {vs:List Value} {cs:List C} (hl:vs.length=cs.length)
      (f:Nat->Value) (hf:∀ j,j<vs.length->vs[j]?=some (f j)) (hr:∀ j c,cs[j]?=some c->Rd M (f j) c):Rd M (.iface t (.agg vs.toArray)) (.ES t cs)
  | mz:Rd M .nilIface .mz
  | fn {g:Fn} {first cap:List C} (fs cs:List Value) (hl:fs.length=first.length) (uX:cs.length=cap.length) (f1 f2:Nat->Value)
      (h1:∀ j,j<fs.length->fs[j]?=some (f1 j)) (h2:∀ j,j<cs.length->cs[j]?=some (f2 j))
      (r1:∀ j c,first[j]?=some c->Rd M (f1 j) c) (r2:∀ j c,cap[j]?=some c->Rd M (f2 j) c):Rd M (.func g fs.toArray cs.toArray) (.fn g first cap)
  | uZ:Rd M .nilFunc .uZ
  | val {x:Value} (h:cg x=true):Rd M x (.val x)
theorem Rd.fD {M:Mem} {v x:Value} (h:Rd M v (.val x)):v=x:=by cases h;rfl
theorem Rd.cell {M:Mem} {v:Value} {c:C} (h:Rd M v c):cg v=true:=by cases h <;> first|rfl|assumption
theorem Rd.mono {M M':Mem} (k:∀ b o v,M b o=some v->M' b o=some v) {v:Value} {c:C} (h:Rd M v c):Rd M' v c:=by
  induction h with
  | int h=>exact .int h
  | bool=>exact .bool
  | str h hl=>exact .str h hl
  | sl b off f d r n m p e g a =>
    exact .sl b off f d r n m p (λi hi j c hj=>k _ _ _ (e i hi j c hj)) (λi hi j c hj=>a i hi j c hj)
  | rp b off f e g a=>exact .rp b off f (λj c hj=>k _ _ _ (e j c hj)) (λj c hj=>a j c hj)
  | j4=>exact .j4
  | ifs h q a=>exact .ifs a q
  | ES hl f l g a=>exact .ES hl f l (λj c hj=>a j c hj)
  | mz=>exact .mz
  | fn fs cs hl uX f1 f2 h1 h2 r1 r2 Wb Wc=>exact .fn fs cs hl uX f1 f2 h1 h2 (λj c hj=>Wb j c hj) (λj c hj=>Wc j c hj)
  | uZ=>exact .uZ
  | val h=>exact .val h
def gd (σ:List aj) (s:St) (v:Value):A->Prop
  | .c x=>Rd s.M v x
  | .ptr l off=>(∀ B,σ[l]?=some B->B.gr=false)/\∃ L b,s.β[l]?=some L/\L.v=.pointer (some ⟨b,0,none⟩)/\v=.pointer (some ⟨b,off,none⟩)
  | .vec l k n es=>Rd s.M v (.sl false k n es)/\l<σ.length/\∀ E k' n' es',σ[l]?=some (aj.vec E k' n' es')->n<=n'/\(n'=n->∃ L,s.β[l]?=some L/\v=L.v)
  | .ref l=>(∀ B,σ[l]?=some B->B.gr=false)/\∃ L,s.β[l]?=some L/\v=L.v/\cg v=true
  | .bp l w=>∃ a,w.K a v/\l<σ.length/\∀ E k n es,σ[l]?=some (aj.buf E k n es)->w.g<=n/\(w.g=n->∃ L,s.β[l]?=some L/\L.v=a)
  | .any=>cg v=true
def cW (σ:List aj) (s:St):List Value->List A->Prop
  | [],[]=>True
  | v::vs,a::al=>gd σ s v a/\cW σ s vs al
  | _,_=>False
def kE (σ:List aj) (s:St) (v:Value):E1->Prop
  | .one a=>gd σ s v a
  | .agg cs=>∃ vs:List Value,v=.agg vs.toArray/\cW σ s vs cs
def ey (σ:List aj) (s:St):List Value->List E1->Prop
  | [],[]=>True
  | v::vs,a::al=>kE σ s v a/\ey σ s vs al
  | _,_=>False
def cd (σ:List aj) (s:St) (v:Value):D->Prop
  | .e x=>kE σ s v x
  | .dH xs=>∃ vs:List Value,v=.tuple vs.toArray/\ey σ s vs xs
  | .any=>True
def bC (σ:List aj) (s:St):List Value->List D->Prop
  | [],[]=>True
  | v::vs,a::al=>cd σ s v a/\bC σ s vs al
  | _,_=>False
structure Flat (M:Mem) (k n:Nat) (es:Nat->List C) (vs:List Value):Prop where
  len:vs.length=n*k
  width:∀ i,i<n->(es i).length=k
  rd:∀ i,i<n->∀ (j:Nat) (c:C),(es i)[j]?=some c->∃ v,vs[i*k+j]?=some v/\Rd M v c
theorem Flat.mono {M M':Mem} (a:∀ b o v,M b o=some v->M' b o=some v) {k n:Nat} {es:Nat->List C} {vs:List Value} (h:Flat M k n es vs):Flat M' k n es vs :=
  ⟨h.len,h.width,λi hi j c hj=>let ⟨v,h1,h2⟩:=h.rd i hi j c hj;⟨v,h1,h2.mono a⟩⟩
def dT (σ:List aj) (s:St):aj->Loc->Prop
  | .cells E cs,L=>∃ b vs,L=⟨.pointer (some ⟨b,0,none⟩),[b]⟩/\s.w.heap[b]?=some (.cells (List.toArray vs) E (0,0))/\cW σ s vs cs/\∀ o,s.M b o=none
  | .vec E k n es,L=>Rd s.M L.v (.sl false k n es) /\
      (((L.bs=[]/\n=0)/\Rd s.M L.v (.sl true k n es)) ∨
       ∃ b cap vs,L=⟨.slice (some ⟨b,0,none⟩) n cap,[b]⟩/\s.w.heap[b]?=some (.cells (List.toArray vs) E (0,0))/\vs.length=cap*k/\∀ o,n*k<=o->s.M b o=none)
  | .cx H,L=>∃ c,H L.v c/\(∀ (b:Nat) (o:Obj),c b=some o->s.w.heap[b]?=some o)/\(∀ b,b∈L.bs↔(c b).isSome=true)/\∀ b∈L.bs,∀ o,s.M b o=none
  | .dead,_=>True
  | .loop N φ r,L=>∃ l tmps fn df,L=⟨.func (.yield l) #[] #[],[l]⟩/\s.w.heap[l]?=some (.loop { r with tmps:=tmps,fn:=fn,defers:=df })/\tmps.size=N/\(∀ t,cd σ s (tmps.getD t undef) (look φ t))/\∀ o,s.M l o=none
  | .qv,L=>∃ r:Nat,L=⟨.int .i64 r,[r]⟩/\s.w.heap[r]?=some (.deferred (some []))/\∀ o,s.M r o=none
  | .buf E k n es,L=>(n=0/\L=⟨.slice none 0 0,[]⟩)∨∃ b a vs zs,L=⟨.slice (some ⟨b,0,none⟩) 0 a,[b]⟩/\s.w.heap[b]?=some (.cells (List.toArray (vs++zs)) E (0,0))/\(vs++zs).length=a*k/\n<=a/\a<=9223372036854775807/\Flat s.M k n es vs/\∀ o,s.M b o=none
structure ag (σ:List aj) (s:St):Prop where
  mem:∀ b o v,s.M b o=some v->s.w.cell? ⟨b,o,none⟩=some v
  len:s.β.length=σ.length
  box:∀ (l:Nat) (B:aj) (L:Loc),σ[l]?=some B->s.β[l]?=some L->dT σ s B L
  fe:∀ (l l':Nat) (L L':Loc),s.β[l]?=some L->s.β[l']?=some L'->∀ b∈L.bs,b∈L'.bs->l=l'
  lt:∀ L∈s.β,∀ b∈L.bs,b<s.w.heap.size
  own:∀ b,s.own b->b<s.w.heap.size/\∀ L∈s.β,b∉L.bs
def gD:aj->Loc->aj->Loc->Prop
  | .vec _ _ n _,L,.vec _ _ a _,L'=>(a=n->L'.v=L.v)/\n<=a
  | .vec _ _ _ _,_,.dead,_=>True
  | .vec _ _ _ _,_,_,_=>False
  | .buf _ _ n _,L,.buf _ _ a _,L'=>(a=n->L'.v=L.v)/\n<=a
  | .buf _ _ _ _,_,.dead,_=>True
  | .buf _ _ _ _,_,_,_=>False
  | _,_,.vec _ _ _ _,_=>False
  | _,_,.buf _ _ _ _,_=>False
  | .dead,L,.dead,L'=>L'.v=L.v
  | .dead,_,_,_=>False
  | .qv,L,.qv,L'=>L'.v=L.v
  | .qv,_,_,_=>False
  | _,_,.qv,_=>False
  | _,L,_,L'=>L'.v=L.v
structure Ext (σ:List aj) (s:St) (σ':List aj) (s':St):Prop where
  mem:∀ b o v,s.M b o=some v->s'.M b o=some v
  box:∀ (l:Nat) (B:aj) (L:Loc),σ[l]?=some B->s.β[l]?=some L->∃ B' L',σ'[l]?=some B'/\s'.β[l]?=some L'/\gD B L B' L'
structure Step (σ:List aj) (s:St) (σ':List aj) (s':St):Prop where
  size:s.w.heap.size<=s'.w.heap.size
  eC:∀ b,b<s.w.heap.size->(∀ L∈s.β,b∉L.bs)->s'.w.heap[b]?=s.w.heap[b]?
  mem:∀ b o v,s.M b o=some v->s'.M b o=some v
  ij:∀ b,b<s.w.heap.size->(∀ L∈s.β,b∉L.bs)->∀ o,s'.M b o=s.M b o
  rM:∀ L'∈s'.β,∀ b∈L'.bs,s.w.heap.size<=b∨∃ L∈s.β,b∈L.bs
  box:∀ (l:Nat) (B:aj) (L:Loc),σ[l]?=some B->s.β[l]?=some L->∃ B' L',σ'[l]?=some B'/\s'.β[l]?=some L'/\gD B L B' L'
  os:s'.w.os=s.w.os
  tape:s'.w.tape=s.w.tape
  output:s'.w.output=s.w.output
  own:s'.own=s.own
structure bo (σ:List aj) (s:St) (σ':List aj) (s':St):Prop where
  size:s.w.heap.size<=s'.w.heap.size
  eC:∀ b,s.own b->s'.w.heap[b]?=s.w.heap[b]?
  mem:∀ b o v,s.M b o=some v->s'.M b o=some v
  ij:∀ b,b<s.w.heap.size->(∀ L∈s.β,b∉L.bs)->∀ o,s'.M b o=s.M b o
  rM:∀ L'∈s'.β,∀ b∈L'.bs,s.w.heap.size<=b∨∃ L∈s.β,b∈L.bs
  box:∀ (l:Nat) (B:aj) (L:Loc),σ[l]?=some B->s.β[l]?=some L->∃ B' L',σ'[l]?=some B'/\s'.β[l]?=some L'/\gD B L B' L'
  os:s'.w.os=s.w.os
  tape:s'.w.tape=s.w.tape
  output:s'.w.output=s.w.output
  own:s'.own=s.own
structure br (s s':St):Prop where
  β:s'.β=s.β
  M:s'.M=s.M
  own:s'.own=s.own
  size:s.w.heap.size<=s'.w.heap.size
  eC:∀ b,(s.own b∨∃ L∈s.β,b∈L.bs)->s'.w.heap[b]?=s.w.heap[b]?
  mem:∀ b o v,s.M b o=some v->s'.w.cell? ⟨b,o,none⟩=some v
  os:s'.w.os=s.w.os
  tape:s'.w.tape=s.w.tape
  output:s'.w.output=s.w.output
def oU (s:St) (e:Event):Prop :=
  match e.loc with
  | .cell a=>e.sync=false/\a.spot=none/\(False∨((∃ L∈s.β,a.block∈L.bs)/\(e.write=true->s.M a.block a.off=none))∨(e.write=false/\∃ v,s.M a.block a.off=some v))
  | .obj r=>e.sync=false/\(False∨∃ L∈s.β,r∈L.bs)
  | .mark m=>m=.noRoom∨∃ f,m=.extern f
  | _=>False
def eK (s:St) (es:Array Event):Prop:=∀ e∈es,oU s e
theorem eK.nil {s:St}:eK s #[]:=by intro e h;simp at h
theorem gD.refl (B:aj) (L:Loc):gD B L B L:=by cases B <;> simp[gD]
theorem gD.trans {B B' Q6:aj} {L L' Ul:Loc} (h:gD B L B' L') (a:gD B' L' Q6 Ul):gD B L Q6 Ul:=by
  cases B <;> cases B' <;> cases Q6 <;> simp_all [gD]
  all_goals
    obtain⟨h1,h2⟩:=h;obtain⟨b,c⟩:=a;refine⟨λe=>?_,by omega⟩
    rw[b (by omega),h1 (by omega)]
theorem Step.refl (σ:List aj) (s:St):Step σ s σ s :=
  ⟨ar _,λ_ _ _=>rfl,λ_ _ _ h=>h,λ_ _ _ _=>rfl,λL h b a=>.inr ⟨L,h,a⟩,λ_ B L h c=>⟨B,L,h,c,.refl _ _⟩,rfl,rfl,rfl,rfl⟩
theorem Step.trans {σ σ1 σ2:List aj} {s j s2:St} (h:Step σ s σ1 j) (k:Step σ1 j σ2 s2):Step σ s σ2 s2:=by
  have out:∀ b,b<s.w.heap.size->(∀ L∈s.β,b∉L.bs)->∀ L∈j.β,b∉L.bs:=by
    intro b a c L d m;rcases h.rM L d b m with h1|⟨t,g,e⟩
    · omega
    · exact c t g e
  refine⟨er h.size k.size,?_,λb o v x=>k.mem _ _ _ (h.mem _ _ _ x),?_,?_,?_,k.os.trans h.os,k.tape.trans h.tape,k.output.trans h.output,k.own.trans h.own⟩
  · intro b a c
    rw[k.eC b (bF a h.size) (out b a c),h.eC b a c]
  · intro b a c o
    rw[k.ij b (bF a h.size) (out b a c),h.ij b a c]
  · intro L d b a
    rcases k.rM L d b a with h1|⟨L1,f,i⟩
    · exact .inl (er h.size h1)
    · exact h.rM L1 f b i
  · intro l B L u d
    obtain⟨B1,L1,h1,h2,r⟩:=h.box l B L u d;obtain⟨n,q,k1,p,y⟩:=k.box l B1 L1 h1 h2;exact⟨n,q,k1,p,r.trans y⟩
theorem bo.refl (σ:List aj) (s:St):bo σ s σ s :=
  ⟨ar _,λ_ _=>rfl,λ_ _ _ h=>h,λ_ _ _ _=>rfl,λL h b a=>.inr ⟨L,h,a⟩,λ_ B L h c=>⟨B,L,h,c,.refl _ _⟩,rfl,rfl,rfl,rfl⟩
theorem bo.trans {σ σ1 σ2:List aj} {s j s2:St} (h:bo σ s σ1 j) (k:bo σ1 j σ2 s2):bo σ s σ2 s2:=by
  have out:∀ b,b<s.w.heap.size->(∀ L∈s.β,b∉L.bs)->∀ L∈j.β,b∉L.bs:=by
    intro b a d L c m;rcases h.rM L c b m with h1|⟨t,g,e⟩
    · omega
    · exact d t g e
  refine⟨er h.size k.size,?_,λb o v x=>k.mem _ _ _ (h.mem _ _ _ x),?_,?_,?_,k.os.trans h.os,k.tape.trans h.tape,k.output.trans h.output,k.own.trans h.own⟩
  · intro b a
    rw[k.eC b (by rw[h.own];exact a),h.eC b a]
  · intro b a d o
    rw[k.ij b (bF a h.size) (out b a d),h.ij b a d]
  · intro L c b a
    rcases k.rM L c b a with h1|⟨L1,f,i⟩
    · exact .inl (er h.size h1)
    · exact h.rM L1 f b i
  · intro l B L u c
    obtain⟨B1,L1,h1,h2,r⟩:=h.box l B L u c;obtain⟨n,q,k1,p,y⟩:=k.box l B1 L1 h1 h2;exact⟨n,q,k1,p,r.trans y⟩
theorem Step.lD {σ σ':List aj} {s s':St} (hh:ag σ s) (h:Step σ s σ' s'):bo σ s σ' s' :=
  ⟨h.size,λb a=>h.eC b (hh.own b a).1 (hh.own b a).2,h.mem,h.ij,h.rM,h.box,h.os,h.tape,h.output,h.own⟩
theorem bo.ext {σ σ':List aj} {s s':St} (h:bo σ s σ' s'):Ext σ s σ' s':=⟨h.mem,h.box⟩
theorem br.refl {σ:List aj} {s:St} (hh:ag σ s):br s s:=⟨rfl,rfl,rfl,ar _,λ_ _=>rfl,hh.mem,rfl,rfl,rfl⟩
theorem br.stepW {σ:List aj} {s s':St} (h:br s s'):bo σ s σ s' :=
  ⟨h.size,λb a=>h.eC b (.inl a),λb o v d=>by rw[h.M];exact d,λ_ _ _ _=>by rw[h.M],λL c b a=>.inr ⟨L,by rw[<-h.β];exact c,a⟩,
    λl B L e c=>⟨B,L,e,by rw[h.β];exact c,.refl _ _⟩,h.os,h.tape,h.output,h.own⟩
theorem Step.ext {σ σ':List aj} {s s':St} (h:Step σ s σ' s'):Ext σ s σ' s':=⟨h.mem,h.box⟩
section mono
variable {σ σ':List aj} {s s':St}
theorem Ext.Ie (h:Ext σ s σ' s') {l:Nat} {L:Loc} (b:s.β[l]?=some L) (hl:s.β.length=σ.length) (d:∀ B,σ[l]?=some B->B.gr=false) :
    (∀ B,σ'[l]?=some B->B.gr=false)/\∃ L',s'.β[l]?=some L'/\L'.v=L.v:=by
  have a:l<σ.length:=by rw[<-hl];exact(aD.1 b).1
  obtain⟨B',L',k1,e,f⟩:=h.box l (σ[l]) L (ai a) b;have c:=d _ (ai a);generalize σ[l]=B at *;rw[k1];cases B <;> cases B' <;> simp_all [gD,aj.gr]
theorem gd.mono (h:Ext σ s σ' s') (hl:s.β.length=σ.length) {v:Value} {a:A} (r:gd σ s v a):gd σ' s' v a:=by
  cases a with
  | c x=>exact Rd.mono h.mem r
  | any=>exact r
  | ptr l off =>
    obtain⟨q,L,b,h1,h2,u⟩:=r;obtain⟨m,L',k1,g⟩:=h.Ie h1 hl q;exact⟨m,L',b,k1,by rw[g,h2],u⟩
  | vec l k n es =>
    obtain⟨t,f,o⟩:=r;obtain⟨B',L',k1,g,j⟩:=h.box l (σ[l]) (s.β[l]'(by omega)) (ai f) (ai (by omega))
    have d:l<σ'.length:=(aD.1 k1).1;refine⟨Rd.mono h.mem t,d,λE k' m es' he=>?_⟩
    rw[he] at k1;cases k1;have y:=ai f;generalize σ[l]=B at *;cases B with
    | vec E0 k0 n0 Um =>
      obtain⟨p,C⟩:=j;obtain⟨D,p2⟩:=o _ _ _ _ y;refine⟨by omega,λe=>?_⟩
      obtain⟨L,i,z⟩:=p2 (by omega)
      rw[ai (by omega)] at i
      cases i;exact⟨L',g,by rw[p (by omega),z]⟩
    | _=>simp[gD] at j
  | ref l =>
    obtain⟨q,L,h1,h2,u⟩:=r;obtain⟨m,L',k1,g⟩:=h.Ie h1 hl q;exact⟨m,L',k1,by rw[g,h2],u⟩
  | bp l w =>
    obtain⟨lv,t,f,o⟩:=r;obtain⟨B',L',k1,g,j⟩:=h.box l (σ[l]) (s.β[l]'(by omega)) (ai f) (ai (by omega))
    have d:l<σ'.length:=(aD.1 k1).1;refine⟨lv,t,d,λE k' m es' he=>?_⟩
    rw[he] at k1;cases k1;have y:=ai f;generalize σ[l]=B at *;cases B with
    | buf E0 k0 n0 Um =>
      obtain⟨p,C⟩:=j;obtain⟨D,p2⟩:=o _ _ _ _ y;refine⟨by omega,λe=>?_⟩
      obtain⟨L,i,z⟩:=p2 (by omega)
      rw[ai (by omega)] at i
      cases i;exact⟨L',g,by rw[p (by omega),z]⟩
    | _=>simp[gD] at j
theorem cW.mono (h:Ext σ s σ' s') (hl:s.β.length=σ.length) {vs:List Value} {cs:List A} (r:cW σ s vs cs):cW σ' s' vs cs:=by
  induction vs generalizing cs with
  | nil=>cases cs <;> simp_all [cW]
  | cons v vs ih =>
    cases cs with
    | nil=>simp[cW] at r
    | cons a cs=>exact⟨r.1.mono h hl,ih r.2⟩
theorem kE.mono (h:Ext σ s σ' s') (hl:s.β.length=σ.length) {v:Value} {x:E1} (r:kE σ s v x):kE σ' s' v x:=by
  cases x with
  | one a=>exact gd.mono h hl r
  | agg cs=>obtain⟨vs,h1,h2⟩:=r;exact⟨vs,h1,h2.mono h hl⟩
theorem ey.mono (h:Ext σ s σ' s') (hl:s.β.length=σ.length) {vs:List Value} {xs:List E1} (r:ey σ s vs xs):ey σ' s' vs xs:=by
  induction vs generalizing xs with
  | nil=>cases xs <;> simp_all [ey]
  | cons v vs ih =>
    cases xs with
    | nil=>simp[ey] at r
    | cons a cs=>exact⟨r.1.mono h hl,ih r.2⟩
theorem cd.mono (h:Ext σ s σ' s') (hl:s.β.length=σ.length) {v:Value} {d:D} (r:cd σ s v d):cd σ' s' v d:=by
  cases d with
  | e x=>exact kE.mono h hl r
  | dH xs=>obtain⟨vs,h1,h2⟩:=r;exact⟨vs,h1,h2.mono h hl⟩
  | any=>trivial
theorem bC.mono (h:Ext σ s σ' s') (hl:s.β.length=σ.length) {vs:List Value} {xs:List D} (r:bC σ s vs xs):bC σ' s' vs xs:=by
  induction vs generalizing xs with
  | nil=>cases xs <;> simp_all [bC]
  | cons v vs ih =>
    cases xs with
    | nil=>simp[bC] at r
    | cons a cs=>exact⟨r.1.mono h hl,ih r.2⟩
end mono
def lG (σ:List aj) (s:St):List Deferred->List Nat->Prop
  | [],[]=>True
  | d::ds,l::ls=>(σ[l]?=some .qv/\∃ (L:Loc) (r:Nat),s.β[l]?=some L/\L.v=.int .i64 r/\d={ target:=.collected r,args:=#[] })/\l∉ls/\lG σ s ds ls
  | _,_=>False
theorem lG.mono {σ σ':List aj} {s s':St} (h:Ext σ s σ' s'):∀ {ds:List Deferred} {a:List Nat},lG σ s ds a->lG σ' s' ds a
  | [],[],_=>trivial
  | [],_::_,r=>r.elim
  | _::_,[],r=>r.elim
  | d::ds,l::a,⟨⟨h1,L,r,h2,f,i⟩,g,e⟩=>by
    obtain⟨B',L',k1,c,b⟩:=h.box l _ L h1 h2;cases B' <;> simp[gD] at b
    exact⟨⟨k1,L',r,c,by rw[b,f],i⟩,g,lG.mono h e⟩
def ld:List aj->Bool
  | []=>true
  | .qv::_=>false
  | _::r=>ld r
theorem lO:∀ {l:List aj},ld l=true->∀ B∈l,B≠.qv
  | [],_,B,a=>by simp at a
  | b::r,h,B,a=>by
    have c:b≠.qv/\ld r=true:=by cases b <;> simp_all [ld]
    rcases dr.1 a with rfl|a
    · exact c.1
    · exact lO c.2 B a
theorem nD {s:St} {r:Nat} {wr:Bool} {L:Loc} (b:L∈s.β) (a:r∈L.bs):oU s ⟨.obj r,wr,false⟩:=⟨rfl,.inr ⟨L,b,a⟩⟩
theorem eK.one {s:St} {e:Event} (h:oU s e):eK s #[e]:=by intro x a;simp at a;subst a;exact h
theorem eK.two {s:St} {e b:Event} (h:oU s e) (c:oU s b):eK s #[e,b]:=by
  intro x a;simp at a;rcases a with rfl|rfl <;> assumption
end Go.AM
namespace Go.AM
open Go.Conc (G listed)
def oB(s s':St)(es:Array Event):Prop:=(∃ σ σ',ag σ s/\ag σ' s'/\Step σ s σ' s')/\eK s es
structure Cx (P:Program) where
 main:Bool
 rely:St->St->Prop
 rN:Goroutine->St->(Goroutine->St->Prop)->Prop
 fz:∀ {s s'},rely s s'->br s s'
 yd:Prop
class Cx.kB {P:Program} (X:Cx P):Prop where
 ok:X.yd
structure dX (s s':St):Prop where
 w:s'.w=s.w
 mem:∀ b o v,s.M b o=some v->s'.M b o=some v
 ij:∀ b,(∀ L∈s.β,b∉L.bs)->∀ o,s'.M b o=s.M b o
 cell:∀ b o v,s'.M b o=some v->s.w.cell? ⟨b,o,none⟩=some v
 blk:∀ b,(s'.own b∨∃ L∈s'.β,b∈L.bs)->s.own b∨∃ L∈s.β,b∈L.bs
structure lC (s s':St):Prop where
 w:s'.w=s.w
 β:s'.β=s.β
 own:s'.own=s.own
 less:∀ b o v,s'.M b o=some v->s.M b o=some v
 mem:∀ b o v,s.M b o=some v->s'.M b o=some v∨s.own b
inductive dn {P:Program} (X:Cx P) (S:Goroutine->St->Prop):Goroutine->St->Prop
 |stop {g:Goroutine} {s:St}:S g s->dn X S g s
 |step {g:Goroutine} {s:St} (ng:St->Goroutine) (ns:St->St) (ne:St->Array Event):g.status=.running ->
   (∀ s1,X.rely s s1->stepG P X.main g s1.w=.go (ng s1) (ns s1).w (ne s1))->(∀ s1,X.rely s s1->oB s1 (ns s1) (ne s1))->(∀ s1,X.rely s s1->dn X S (ng s1) (ns s1))->dn X S g s
 |ghost {g:Goroutine} {s s':St}:dX s s'->dn X S g s'->dn X S g s
 |forget {g:Goroutine} {s s':St}:X.yd->lC s s'->dn X S g s'->dn X S g s
 |rN {g:Goroutine} {s:St} {T:Goroutine->St->Prop}:X.rN g s T->(∀ g' s',T g' s'->dn X S g' s')->dn X S g s
section
variable {P:Program}{X:Cx P}{S:Goroutine->St->Prop}
theorem dn.next{g:Goroutine}{s:St}(f:g.status=.running)(h:∀ c,X.rely s c->∃ g' s' es,stepG P X.main g c.w=.go g' s'.w es/\oB c s' es/\dn X S g' s'):dn X S g s:=by
 classical
 have hh:∀ c,∃ r:Goroutine×St×Array Event,X.rely s c->stepG P X.main g c.w=.go r.1 r.2.1.w r.2.2/\oB c r.2.1 r.2.2/\dn X S r.1 r.2.1:=by
  intro c
  by_cases d:X.rely s c
  ·obtain⟨g',s',es,h1⟩:=h c d;exact⟨(g',s',es),λ_=>h1⟩
  ·exact⟨(g,c,#[]),λe=>absurd e d⟩
 refine .step (λc=>(Classical.choose (hh c)).1) (λc=>(Classical.choose (hh c)).2.1) (λc=>(Classical.choose (hh c)).2.2) f ?_ ?_ ?_
 ·exactλc d=>(pr (hh c) d).1
 ·exactλc d=>(pr (hh c) d).2.1
 ·exactλc d=>(pr (hh c) d).2.2
theorem dn.bind{T:Goroutine->St->Prop}{g:Goroutine}{s:St}(h:dn X T g s)(k:∀ g' s',T g' s'->dn X S g' s'):dn X S g s:=by
 induction h with
 |stop h=>exact k _ _ h
 |step ng ns ne hr h1 h2 _ c=>exact .step ng ns ne hr h1 h2 c
 |ghost hg _ c=>exact .ghost hg c
 |forget hl hg _ c=>exact .forget hl hg c
 |rN hj _ c=>exact .rN hj c
theorem dX.of{σ σ':List aj}{s s':St}(hh:ag σ s)(d:ag σ' s')(f:s'.w=s.w)(st:bo σ s σ' s'):dX s s':=by
 have i:∀ b o v,s'.M b o=some v->s.w.cell? ⟨b,o,none⟩=some v:=λb o v h=>by rw[<-f];exact d.mem b o v h
 have e:∀ b o v,s.w.cell? ⟨b,o,none⟩=some v->b<s.w.heap.size:=by
  intro b o v h;rcases bz b s.w.heap.size with h1|h1
  ·exact h1
  ·simp[World.cell?,se h1] at h
 refine⟨f,st.mem,λb c o=>?_,i,λb c=>?_⟩
 ·rcases bz b s.w.heap.size with h1|h1
  ·exact st.ij b h1 c o
  ·cases h2:s'.M b o with
   |some v=>have:=e _ _ _ (i _ _ _ h2);omega
   |none=>cases j:s.M b o with
    |none=>rfl
    |some v=>have:=e _ _ _ (hh.mem _ _ _ j);omega
 ·rcases c with c|⟨L,g,c⟩
  ·exact .inl (by rw[<-st.own];exact c)
  ·rcases st.rM L g b c with h1|h1
   ·have:=d.lt L g b c;rw[f] at this;omega
   ·exact .inr h1
theorem ag.rely{σ:List aj}{s s':St}(hh:ag σ s)(h:br s s'):ag σ s':=by
 have ex:Ext σ s σ s':=h.stepW.ext;have D:∀ v a,gd σ s v a->gd σ s' v a:=λv a r=>r.mono ex hh.len
 refine⟨λb o v q=>h.mem b o v (by rw[<-h.M];exact q),by rw[h.β];exact hh.len,?_,by rw[h.β];exact hh.fe,?_,?_⟩
 ·intro l B L C g;rw[h.β] at g;have c:=hh.box l B L C g;have f:∀ b∈L.bs,s'.w.heap[b]?=s.w.heap[b]?:=λb c=>h.eC b (.inr ⟨L,aE g,c⟩)
  cases B with
  |cells E cs =>
   obtain⟨b,vs,h1,h2,d,e⟩:=c;subst h1;exact⟨b,vs,rfl,by rw[f b (by simp),h2],d.mono ex hh.len,λo=>by rw[h.M,e]⟩
  |vec E k n es =>
   obtain⟨h1,h2⟩:=c;refine⟨by rw[h.M];exact h1,?_⟩
   rcases h2 with⟨h2,d⟩|⟨b,cap,vs,h2,d,e,j⟩
   ·exact .inl ⟨h2,by rw[h.M];exact d⟩
   ·subst h2;exact .inr ⟨b,cap,vs,rfl,by rw[f b (by simp),d],e,λo x=>by rw[h.M,j o x]⟩
  |cx H =>
   obtain⟨ch,h1,h2,d,e⟩:=c;refine⟨ch,h1,λb o i=>?_,d,λb m o=>by rw[h.M,e b m]⟩
   rw[f b ((d b).2 (by simp[i])),h2 b o i]
  |dead=>trivial
  |loop N φ r =>
   obtain⟨l,tmps,fn,A,h1,h2,d,e,j⟩:=c;subst h1;exact⟨l,tmps,fn,A,rfl,by rw[f l (by simp),h2],d,λt=>(e t).mono ex hh.len,λo=>by rw[h.M,j]⟩
  |qv =>
   obtain⟨r,h1,h2,d⟩:=c;subst h1;exact⟨r,rfl,by rw[f r (by simp),h2],λo=>by rw[h.M,d]⟩
  |buf E k n es =>
   rcases c with c|⟨b,u,vs,y,h1,h2,d,e,j,z,p⟩
   ·exact .inl c
   ·subst h1;exact .inr ⟨b,u,vs,y,rfl,by rw[f b (by simp),h2],d,e,j,by rw[h.M];exact z,λo=>by rw[h.M,p]⟩
 ·intro L g b c;rw[h.β] at g;exact bF (hh.lt L g b c) h.size
 ·intro b c;rw[h.own] at c;rw[h.β];exact⟨bF (hh.own b c).1 h.size,(hh.own b c).2⟩
theorem oB.quiet{σ:List aj}{s:St}(hh:ag σ s):oB s s #[]:=⟨⟨σ,σ,hh,hh,.refl _ _⟩,.nil⟩
def _root_.Go.Frame.aT(b:Frame)(a:Act)(todo:List Item):Frame:={ b with tmps:=a.tmps,todo:=todo,defers:=a.defers++b.defers,mode:=.run }
variable {b:Frame}{a:Act}{k:List Item}{cs:List Frame}{w:World}{main:Bool}
theorem Bl(b:Frame)(a:Act)(c:List Item):(b.aT a c).eval=a.eval:=by funext x;cases x <;> rfl
theorem Bm:stepG P main (G (b.aT a (.code .skip::k)) cs) w=.go (G (b.aT a k) cs) w:=by simp[G,stepG,stepG.exec,Frame.aT]
theorem oX{id:Nat}:stepG P main (G (b.aT a (.inBlock id::k)) cs) w=.go (G (b.aT a k) cs) w:=by simp[G,stepG,stepG.exec,Frame.aT]
theorem mx{x y:Code}:stepG P main (G (b.aT a (.code (.seq x y)::k)) cs) w=.go (G (b.aT a (.code x::.code y::k)) cs) w:=by simp[G,stepG,stepG.exec,Frame.aT]
theorem sK{c:Operand}{x y:Code}{t:Bool}(h:a.eval c=.bool t) :
  stepG P main (G (b.aT a (.code (.cond c x y)::k)) cs) w=.go (G (b.aT a (.code (if t then x else y)::k)) cs) w:=by
 have d:(b.aT a (.code (.cond c x y)::k)).eval c=.bool t:=by rw[Bl];exact h
 simp only[Frame.aT] at d;simp[G,stepG,stepG.exec,Frame.aT,d]
theorem pL{id:Nat}{c:Code}:stepG P main (G (b.aT a (.code (.block id c)::k)) cs) w=.go (G (b.aT a (.code c::.inBlock id::k)) cs) w:=by simp[G,stepG,stepG.exec,Frame.aT]
theorem Bn{c:Code}:stepG P main (G (b.aT a (.code (.loop c)::k)) cs) w=.go (G (b.aT a (.code c::.inLoop c::k)) cs) w:=by simp[G,stepG,stepG.exec,Frame.aT]
theorem vq{c:Code}:stepG P main (G (b.aT a (.inLoop c::k)) cs) w=.go (G (b.aT a (.code c::.inLoop c::k)) cs) w:=by simp[G,stepG,stepG.exec,Frame.aT]
theorem wQ{id:Nat}{k':List Item}(h:exitTo id k=some k'):stepG P main (G (b.aT a (.code (.exit id)::k)) cs) w=.go (G (b.aT a k') cs) w:=by simp[G,stepG,stepG.exec,Frame.aT,h]
theorem og{id:Nat}{ops:Array Oper}:stepG P main (G (b.aT a (.code (.region id ops false)::k)) cs) w=.go (G (b.aT a (.inRegion ops (List.range ops.size)::k)) cs) w:=by simp[G,stepG,stepG.exec,Frame.aT]
theorem fi{id:Nat}{ops:Array Oper}:stepG P main (G (b.aT a (.code (.region id ops true)::k)) cs) w =
  .go (G (b.aT a (.inRegion ops (Region.schedule (P.follows .mixedOrders) ops (w.tape w.drawn (.order b.fn id)))::k)) cs) { w with drawn:=w.drawn+1 }:=by
 simp[G,stepG,stepG.exec,Frame.aT,choose,Sem.run,Question.forced,Question.cut]
theorem ei{ops:Array Oper}:stepG P main (G (b.aT a (.inRegion ops []::k)) cs) w=.go (G (b.aT a k) cs) w:=by simp[G,stepG,stepG.exec,Frame.aT]
theorem zL(h:b.roundOf=none):stepG P main (G (b.aT a (.code .ret::k)) cs) w=.go (G { b.aT a (.code .ret::k) with mode:=.returning } cs) w:=by simp[G,stepG,stepG.exec,Frame.aT,h]
theorem zM(h:b.roundOf=none):stepG P main (G (b.aT a []) cs) w=.go (G { b.aT a [] with mode:=.returning } cs) w:=by simp[G,stepG,stepG.exec,Frame.aT,h]
theorem iY(ops:Array Oper)(i:Nat)(rest:List Nat)(v:Value) :
  (b.aT a (.inRegion ops (i::rest)::k)).finish v=b.aT (a.put ((ops[i]?).bind (·.dst)) v) (.inRegion ops rest::k):=by
 cases h:(ops[i]?).bind (·.dst) <;> simp[Frame.finish,Frame.aT,Act.put,h]
theorem Bo{ops:Array Oper}{i:Nat}{rest:List Nat}{o:Oper}(d:ops[i]?=some o)(e:Region.wanted o (yielded ops a.tmps)=false) :
  stepG P main (G (b.aT a (.inRegion ops (i::rest)::k)) cs) w=.go (G (b.aT (a.put o.dst undef) (.inRegion ops rest::k)) cs) w:=by
 have c:=iY (b:=b) (a:=a) (k:=k) ops i rest undef;rw[d] at c;simp only[jZ] at c;rw[<-c];simp[G,stepG,stepG.exec,Frame.aT,d,e]
theorem pM{f:Operand->Value}{o:Oper}{c:Call}(h:o.op=.defer c){i:Next}{w':World}(e:(execOp f o).run P w=.ok i w'):∃ d,i=.defer d:=by
 simp only[execOp,h,bm] at e;cases g:(resolve f c o.type).run P w with
 |ok d w2=>rw[g] at e;simp at e;exact⟨_,e.1.symm⟩
 |halt x w2=>rw[g] at e;simp at e
theorem sL{ops:Array Oper}{i:Nat}{rest:List Nat}{o:Oper}(f:ops[i]?=some o)(h:Region.wanted o (yielded ops a.tmps)=true)(g:∀ c,o.op≠.defer c) :
  stepG P main (G (b.aT a (.inRegion ops (i::rest)::k)) cs) w=stepG.apply P true (b.aT a (.inRegion ops (i::rest)::k)) cs none (execOp a.eval o) w:=by
 have e:=Bl b a (.inRegion ops (i::rest)::k);simp only[Frame.aT] at e;simp[G,stepG,stepG.exec,stepG.oper,Frame.oper?,Frame.aT,f,h,e];cases j:b.roundOf with
 |none=>rfl
 |some l=>cases d:o.op <;> first|rfl|exact absurd d (g _)
theorem Ep{ops:Array Oper}{i:Nat}{rest:List Nat}{o:Oper}{v:Value}{w':World}(h:ops[i]?=some o)(n:Region.wanted o (yielded ops a.tmps)=true)
  (j:b.kind≠.early) (g:(execOp a.eval o).run P w=.ok (.value v) w') :
  stepG P main (G (b.aT a (.inRegion ops (i::rest)::k)) cs) w=.go (G (b.aT (a.put o.dst v) (.inRegion ops rest::k)) cs) w' (listed P b.fn a o w):=by
 have e:=iY (b:=b) (a:=a) (k:=k) ops i rest v;rw[h] at e;simp only[jZ] at e;have f:(b.kind==CallKind.early)=false:=by simpa using j
 rw[sL h n (λc l=>by obtain⟨d,m⟩:=pM l g;cases m),<-e]
 simp[stepG.apply,g,G,Frame.aT,f,GStep.after,listed]
theorem Bp{ops:Array Oper}{i:Nat}{rest:List Nat}{o:Oper}{w':World}(h:ops[i]?=some o)(n:Region.wanted o (yielded ops a.tmps)=true)
  (j:b.kind≠.early) (g:(execOp a.eval o).run P w=.ok .skip w') :
  stepG P main (G (b.aT a (.inRegion ops (i::rest)::k)) cs) w=.go (G (b.aT (a.put o.dst undef) (.inRegion ops rest::k)) cs) w' (listed P b.fn a o w):=by
 have e:=iY (b:=b) (a:=a) (k:=k) ops i rest undef;rw[h] at e;simp only[jZ] at e;have f:(b.kind==CallKind.early)=false:=by simpa using j
 rw[sL h n (λc l=>by obtain⟨d,m⟩:=pM l g;cases m),<-e]
 simp[stepG.apply,g,G,Frame.aT,f,GStep.after,listed]
theorem nv{ops:Array Oper}{i:Nat}{rest:List Nat}{o:Oper}{f:FuncId}{args:Array Value}{w':World}(j:ops[i]?=some o)(n:Region.wanted o (yielded ops a.tmps)=true)
  (h:b.kind≠.early) (g:(execOp a.eval o).run P w=.ok (.enter f args) w') :
  stepG P main (G (b.aT a (.inRegion ops (i::rest)::k)) cs) w=.go (G (Frame.enter P f args .normal) (b.aT a (.inRegion ops (i::rest)::k)::cs)) w' (listed P b.fn a o w):=by
 have e:(b.kind==CallKind.early)=false:=by simpa using h
 rw[sL j n (λc l=>by obtain⟨d,m⟩:=pM l g;cases m)]
 simp[stepG.apply,g,G,Frame.aT,e,GStep.after,listed]
structure rO (P:Program)(f:FuncId)(fr:Frame)(v:Value)(s:St):Prop where
 Vu:fr.fn=f
 mode:fr.mode=.returning
 defers:fr.defers=[]
 kind:fr.kind=.normal
 fn:∃ fn,P.funcs[fr.fn]?=some fn/\∀ w,(∀ b o u,s.M b o=some u->w.cell? ⟨b,o,none⟩=some u)->(results fn fr.tmps).run P w=.ok v w/\∀ e∈(results fn fr.tmps).events P w #[],∃ b o u,e=⟨.cell ⟨b,o,none⟩,false,false⟩/\s.M b o=some u
theorem rO.mono{f:FuncId}{fr:Frame}{v:Value}{s s':St}(h:rO P f fr v s)(c:∀ b o u,s.M b o=some u->s'.M b o=some u):rO P f fr v s':=by
 obtain⟨h1,h2,n,r,fn,p,m⟩:=h;refine⟨h1,h2,n,r,fn,p,λw q=>?_⟩
 obtain⟨k1,g⟩:=m w λb o u j=>q b o u (c b o u j)
 refine⟨k1,λe i=>?_⟩
 obtain⟨b,o,u,l,d⟩:=g e i;exact⟨b,o,u,l,c b o u d⟩
theorem eK.seen{s:St}{es:Array Event}{fn:FuncId}(h:eK s es):eK s (seen P fn es):=λe c=>h e (Go.Conc.mem_seen c)
theorem Er{f:FuncId}{g c:Frame}{v:Value}{s:St}(h:rO P f g v s)(w:World)(n:∀ b o u,s.M b o=some u->w.cell? ⟨b,o,none⟩=some u):∃ es,stepG P main (G g (c::cs)) w=.go (G (c.finish v) cs) w es/\∀ e∈es,∃ b o u,e=⟨.cell ⟨b,o,none⟩,false,false⟩/\s.M b o=some u:=by
 obtain⟨fn,i,d⟩:=h.fn;obtain⟨l,m⟩:=d w n;refine⟨seen P g.fn ((results fn g.tmps).events P w #[]),?_,λe j=>m e (Go.Conc.mem_seen j)⟩
 simp[G,stepG,unwind,doReturn,h.mode,h.defers,h.kind,i,l,GStep.after]
end
end Go.AM
namespace Go.AM
open Go.Conc (G)
structure bg (N:Nat)(σ:List aj)(s:St)(φ:Fr)(a:Act):Prop where
 size:a.tmps.size=N
 defers:∃ ls,lG σ s a.defers ls
 slot:∀ t,cd σ s (a.tmps.getD t undef) (look φ t)
theorem bg.mono{N:Nat}{σ σ':List aj}{s s':St}{φ:Fr}{a:Act}(h:bo σ s σ' s')(hl:s.β.length=σ.length)(f:bg N σ s φ a):bg N σ' s' φ a :=
 ⟨f.size,f.defers.imp λ_ h1=>h1.mono h.ext,λt=>(f.slot t).mono h.ext hl⟩
theorem bg.rely{N:Nat}{σ:List aj}{s s':St}{φ:Fr}{a:Act}(h:br s s')(hh:ag σ s)(f:bg N σ s φ a):bg N σ s' φ a:=f.mono h.stepW hh.len
theorem bg.put{N:Nat}{σ:List aj}{s:St}{φ:Fr}{a:Act}(f:bg N σ s φ a){d:Nat}(g:d<N){v:Value}{x:D}(r:cd σ s v x):bg N σ s ((d,x)::φ) (a.put (some d) v):=by
 refine⟨by simp[Act.put,f.size],f.defers,λt=>?_⟩
 simp only[Act.put,look]
 by_cases e:d=t
 ·subst e;rw[show Nat.beq d d=true from gT d]
  have c:d<a.tmps.size:=by rw[f.size];exact g
  simp only[bM,l6 c,cK,cond];exact r
 ·have:Nat.beq d t=false:=by
   cases h:Nat.beq d t
   ·rfl
   ·exact absurd (aO h) e
  rw[this];have h:=f.slot t;simp only[bM] at h ⊢;rw[kr e];exact h
def oE(φ c:Fr):Prop:=∀ σ s v t,cd σ s v (look φ t)->cd σ s v (look c t)
theorem bg.le{N:Nat}{σ:List aj}{s:St}{φ c:Fr}{a:Act}(h:oE φ c)(f:bg N σ s φ a):bg N σ s c a :=
 ⟨f.size,f.defers,λt=>h _ _ _ _ (f.slot t)⟩
abbrev Post:=Exit->Fr->List aj->Prop
def ends{P:Program}(X:Cx P)(S:Goroutine->St->Prop)(b:Frame)(k:List Item)(cs:List Frame):Exit->Act->St->Prop
 |.normal,a,s=>dn X S (G (b.aT a k) cs) s
 |.exit id,a,s=>∀ pre,(∀ k',exitTo id (pre++k')=exitTo id k')->dn X S (G (b.aT a (.code (.exit id)::(pre++k))) cs) s
 |.ret,a,s=>∀ pre,dn X S (G (b.aT a (.code .ret::pre)) cs) s
 |.panic ch,a,s=>∀ c,dn X S (G { b.aT a c with mode:=.panicking ch } cs) s
 |_,_,_=>False
section
variable {P:Program}{X:Cx P}{S:Goroutine->St->Prop}{b:Frame}{k:List Item}{cs:List Frame}{a:Act}{s:St}
theorem ends.cons{x:Item}(d:∀ id k',exitTo id (x::k')=exitTo id k'){e:Exit}(c:e≠.normal)(h:ends X S b k cs e a s):ends X S b (x::k) cs e a s:=by
 cases e with
 |normal=>exact absurd rfl c
 |exit id =>
  intro pre hp;have:=h (pre++[x]) (λk'=>by rw[di,hp];exact d id k')
  simpa using this
 |ret=>exact h
 |panic ch=>exact h
 |goto l=>exact h
 |outgrown=>exact h
theorem dn.ctl{σ:List aj}{g g':Goroutine}(hh:ag σ s)(d:g.status=.running)(e:∀ w,stepG P X.main g w=.go g' w #[])(h:∀ c,br s c->dn X S g' c):dn X S g s :=
 .next d λc h1=>⟨g',c,#[],e c.w,.quiet (hh.rely (X.fz h1)),h c (X.fz h1)⟩
theorem oc{σ:List aj}{f:FuncId}{j c:Frame}{cs:List Frame}{v:Value}{s:St}(n:ag σ s)(h:rO P f j v s)(k:∀ d,br s d->dn X S (G (c.finish v) cs) d):dn X S (G j (c::cs)) s:=by
 refine .next rfl λd r=>?_
 have i:=X.fz r;have g:=n.rely i;obtain⟨es,l,m⟩:=Er (main:=X.main) (c:=c) (cs:=cs) h d.w i.mem;refine⟨_,d,es,l,⟨⟨σ,σ,g,g,.refl _ _⟩,λe p=>?_⟩,k d i⟩
 obtain⟨b,o,u,rfl,q⟩:=m e p;exact⟨rfl,rfl,.inr (.inr ⟨rfl,u,by rw[i.M];exact q⟩)⟩
theorem tO{c:Code}(I:Nat->Act->St->Prop)(i:∀ n a s,I n a s->∃ σ,ag σ s/\∀ d,br s d->I n a d)
  (round:∀ n a s,I n a s->(∀ a' s' m,m<n->I m a' s'->dn X S (G (b.aT a' (.inLoop c::k)) cs) s')->dn X S (G (b.aT a (.code c::.inLoop c::k)) cs) s) {n:Nat} (l:I n a s) :
  dn X S (G (b.aT a (.code (.loop c)::k)) cs) s:=by
 have key:∀ n a s,I n a s->dn X S (G (b.aT a (.inLoop c::k)) cs) s:=by
  intro n
  induction n using Nat.strongRecOn with
  |_ n j =>
   intro a s hi;obtain⟨σ,g,f⟩:=i n a s hi;exact .ctl g rfl (λw=>vq) λd h=>round n a d (f d h) λa' s' m o e=>j m o a' s' e
 obtain⟨σ,g,f⟩:=i n a s l;exact .ctl g rfl (λw=>Bn) λd h=>round n a d (f d h) λa' s' m _ e=>key m a' s' e
end
def AW{P:Program}(X:Cx P)(N:Nat)(c:Code)(Q:Post)(φ:Fr)(σ:List aj):Prop :=
 ∀ s a,bg N σ s φ a->ag σ s->∀ (b:Frame) (k:List Item) (cs:List Frame) (S:Goroutine->St->Prop),b.kind≠.early ->
  (∀ e d σ' s' a',Q e d σ'->bg N σ' s' d a'->ag σ' s'->bo σ s σ' s'->ends X S b k cs e a' s')->dn X S (G (b.aT a (.code c::k)) cs) s
def Names(all:List Oper):List Nat->List Oper->Prop
 |[],[]=>True
 |i::idx,o::rest=>all.toArray[i]?=some o/\Names all idx rest
 |_,_=>False
def dM{P:Program}(X:Cx P)(N:Nat)(all rest:List Oper)(Q:Fr->List aj->Prop)(φ:Fr)(σ:List aj):Prop :=
 ∀ s a,bg N σ s φ a->ag σ s->∀ (b:Frame) (k:List Item) (cs:List Frame) (S:Goroutine->St->Prop) (idx:List Nat),b.kind≠.early->Names all idx rest ->
  (∀ c σ' s' a',Q c σ'->bg N σ' s' c a'->ag σ' s'->bo σ s σ' s'->dn X S (G (b.aT a' k) cs) s')->dn X S (G (b.aT a (.inRegion all.toArray idx::k)) cs) s
section rules
variable {P:Program}{X:Cx P}{N:Nat}{Q:Post}{φ:Fr}{σ:List aj}
theorem AW.mono{c:Code}{f:Post}(h:AW X N c Q φ σ)(m:∀ e φ σ,Q e φ σ->f e φ σ):AW X N c f φ σ :=
 λs a g hh b k cs S j i=>h s a g hh b k cs S j λe d σ' s' a' q n l st=>i e d σ' s' a' (m _ _ _ q) n l st
theorem AW.le{c:Code}{d:Fr}(h:AW X N c Q d σ)(hl:oE φ d):AW X N c Q φ σ :=
 λs a e hh b k cs S g f=>h s a (e.le hl) hh b k cs S g f
theorem AW.skip(h:Q .normal φ σ):AW X N .skip Q φ σ:=λs a c hh b k cs S _ e =>
 .ctl hh rfl (λ_=>Bm) λd h1=>e .normal φ σ d a h (c.rely h1 hh) (hh.rely h1) h1.stepW
theorem AW.ret(h:Q .ret φ σ):AW X N .ret Q φ σ:=λs a c hh b k cs S _ d=>d .ret φ σ s a h c hh (.refl _ _) k
theorem AW.exit{id:Nat}(h:Q (.exit id) φ σ):AW X N (.exit id) Q φ σ:=λs a c hh b k cs S _ d=>by
 have:=d (.exit id) φ σ s a h c hh (.refl _ _) [] (λ_=>rfl)
 simpa using this
def BU(next:Fr->List aj->Prop)(Q:Post):Post
 |.normal,φ,σ=>next φ σ
 |e,φ,σ=>Q e φ σ
theorem AW.seq{x y:Code}(h:AW X N x (BU (AW X N y Q) Q) φ σ):AW X N (.seq x y) Q φ σ:=by
 intro s a l hh b k cs S i f;refine .ctl hh rfl (λ_=>mx) λn h1=>?_
 refine h n a (l.rely h1 hh) (hh.rely h1) b (.code y::k) cs S i ?_;intro e m σ' s' a' q j g st;have c:=h1.stepW.trans st;cases e with
 |normal=>exact q s' a' j g b k cs S i λe d σ2 s2 a2 q2 f2 h2 lB=>f e d σ2 s2 a2 q2 f2 h2 (c.trans lB)
 |_=>exact ends.cons (λ_ _=>rfl) (by simp) (f _ _ _ _ _ q j g c)
theorem AW.cond{c:Operand}{x y:Code}{t:Bool}{u:Nat}(r:c=.tmp u)(hl:look φ u=.e (.one (.c (.bool t))))
  (o:t=true->AW X N x Q φ σ) (m:t=false->AW X N y Q φ σ):AW X N (.cond c x y) Q φ σ:=by
 intro s a f hh b k cs S l n;have h:=f.slot u;rw[hl] at h;have j:a.eval c=.bool t:=by
  subst r;generalize j:a.tmps.getD u undef=v at h;simp only[cd,kE,gd] at h;cases h;exact j
 refine .ctl hh rfl (λ_=>sK j) λi h1=>?_
 have g:∀ e d σ' s' a',Q e d σ'->bg N σ' s' d a'->ag σ' s'->bo σ i σ' s'->ends X S b k cs e a' s':=λe d σ' s' a' q w p st=>n e d σ' s' a' q w p (h1.stepW.trans st)
 cases t
 ·exact m rfl i a (f.rely h1 hh) (hh.rely h1) b k cs S l g
 ·exact o rfl i a (f.rely h1 hh) (hh.rely h1) b k cs S l g
def xm(id:Nat)(Q:Post):Post
 |.exit Ek,φ,σ=>if Ek=id then Q .normal φ σ else Q (.exit Ek) φ σ
 |e,φ,σ=>Q e φ σ
theorem AW.block{id:Nat}{c:Code}(h:AW X N c (xm id Q) φ σ):AW X N (.block id c) Q φ σ:=by
 intro s a n hh b k cs S p g;refine .ctl hh rfl (λ_=>pL) λo h1=>?_
 refine h o a (n.rely h1 hh) (hh.rely h1) b (.inBlock id::k) cs S p ?_;intro e i σ' s' a' q j f st;have d:=h1.stepW.trans st;cases e with
 |normal =>
  exact .ctl f rfl (λ_=>oX) λs2 h2=>g .normal i σ' s2 a' q (j.rely h2 f) (f.rely h2) (d.trans h2.stepW)
 |exit Ek =>
  simp only[xm] at q;split at q
  ·rename_i e
   subst e;intro pre hp;refine .ctl f rfl (λ_=>wQ (k':=k) (by rw[hp];simp[exitTo])) λs2 h2=>?_
   exact g .normal i σ' s2 a' q (j.rely h2 f) (f.rely h2) (d.trans h2.stepW)
  ·rename_i m
   intro pre hp;have:=g (.exit Ek) i σ' s' a' q j f d (pre++[.inBlock id]) (λk'=>by
    rw[di,hp];have:(id==Ek)=false:=by simp;exactλh=>m h.symm
    simp[exitTo,this])
   simpa using this
 |ret=>exact g _ _ _ _ _ q j f d
 |panic ch=>exact g _ _ _ _ _ q j f d
 |goto l=>exact g _ _ _ _ _ q j f d
 |outgrown=>exact g _ _ _ _ _ q j f d
theorem AW.loop{S:Type}{c:Code}(I:S->Prop)(fr:S->Fr)(st:S->List aj)(h:S->Nat)(x:S)(t:I x)(m:oE φ (fr x))(i:st x=σ)
  (round:∀ x,I x->AW X N c (BU (λo σ'=>∃ y,I y/\h y<h x/\oE o (fr y)/\σ'=st y) Q) (fr x) (st x)):AW X N (.loop c) Q φ σ:=by
 intro s a w hh b k cs S C v;subst i;refine tO (λn a' s'=>∃ y,I y/\bg N (st y) s' (fr y) a'/\ag (st y) s'/\bo (st x) s (st y) s'/\h y=n) ?_ ?_ ⟨x,t,w.le m,hh,.refl _ _,rfl⟩
 ·rintro n a' s' ⟨y,l,j,f,d,e⟩;exact⟨st y,f,λD h1=>⟨y,l,j.rely h1 f,f.rely h1,d.trans h1.stepW,e⟩⟩
 rintro n a' s' ⟨y,l,j,f,d,rfl⟩ A;refine round y l s' a' j f b (.inLoop c::k) cs S C ?_;intro e u σ2 s2 a2 q r h2 lB;cases e with
 |normal =>
  obtain⟨z,B,p,g,rfl⟩:=q;exact A a2 s2 (h z) p ⟨z,B,r.le g,h2,d.trans lB,rfl⟩
 |_=>exact ends.cons (λ_ _=>rfl) (by simp) (v _ _ _ _ _ q r h2 (d.trans lB))
end rules
end Go.AM
namespace Go.AM
theorem cW.length{σ:List aj}{s:St}{vs:List Value}{cs:List A}(r:cW σ s vs cs):vs.length=cs.length:=by
 induction vs generalizing cs with
 |nil=>cases cs <;> simp_all [cW]
 |cons v vs ih =>
  cases cs with
  |nil=>simp[cW] at r
  |cons a cs=>simp[ih r.2]
theorem gd.cell{σ:List aj}{s:St}{v:Value}{a:A}(r:gd σ s v a):cg v=true:=by
 cases a with
 |c x=>exact Rd.cell r
 |ptr l off=>obtain⟨_,_,_,_,_,rfl⟩:=r;rfl
 |vec l k n es=>exact Rd.cell r.1
 |ref l=>obtain⟨_,_,_,_,h⟩:=r;exact h
 |bp l w=>obtain⟨_,h,_⟩:=r;exact h.cell
 |any=>exact r
theorem cW.get{σ:List aj}{s:St}{vs:List Value}{cs:List A}(r:cW σ s vs cs){j:Nat}{a:A}(h:cs[j]?=some a):∃ v,vs[j]?=some v/\gd σ s v a:=by
 induction vs generalizing cs j with
 |nil=>cases cs <;> simp_all [cW]
 |cons v vs ih =>
  cases cs with
  |nil=>simp[cW] at r
  |cons b cs =>
   cases j with
   |zero=>simp at h;subst h;exact⟨v,rfl,r.1⟩
   |succ j=>simp at h;obtain⟨u,d,c⟩:=ih r.2 h;exact⟨u,by simpa using d,c⟩
theorem cW.cell{σ:List aj}{s:St}{vs:List Value}{cs:List A}(r:cW σ s vs cs):∀ v∈vs,v.oneCell'=true:=by
 induction vs generalizing cs with
 |nil=>simp
 |cons v vs ih =>
  cases cs with
  |nil=>simp[cW] at r
  |cons a cs =>
   intro u b;rcases dr.1 b with rfl|b
   ·have:=gd.cell r.1;cases u <;> simp_all [cg,Value.oneCell']
   ·exact ih r.2 u b
theorem cW.append{σ:List aj}{s:St}{vs uV:List Value}{cs kU:List A}(r:cW σ s vs cs)(r':cW σ s uV kU):cW σ s (vs++uV) (cs++kU):=by
 induction vs generalizing cs with
 |nil=>cases cs <;> simp_all [cW]
 |cons v vs ih =>
  cases cs with
  |nil=>simp[cW] at r
  |cons a cs=>exact⟨r.1,ih r.2⟩
theorem cW.take{σ:List aj}{s:St}{vs:List Value}{cs:List A}(r:cW σ s vs cs)(k:Nat):cW σ s (vs.take k) (cs.take k):=by
 induction vs generalizing cs k with
 |nil=>cases cs <;> simp_all [cW]
 |cons v vs ih =>
  cases cs with
  |nil=>simp[cW] at r
  |cons a cs=>cases k with
   |zero=>simp[cW]
   |succ k=>exact⟨r.1,ih r.2 k⟩
theorem cW.drop{σ:List aj}{s:St}{vs:List Value}{cs:List A}(r:cW σ s vs cs)(k:Nat):cW σ s (vs.drop k) (cs.drop k):=by
 induction vs generalizing cs k with
 |nil=>cases cs <;> simp_all [cW]
 |cons v vs ih =>
  cases cs with
  |nil=>simp[cW] at r
  |cons a cs=>cases k with
   |zero=>exact r
   |succ k=>simpa using ih r.2 k
theorem ag.block{σ:List aj}{s:St}(h:ag σ s){b o:Nat}{v:Value}(a:s.M b o=some v):b<s.w.heap.size:=by
 have:=h.mem b o v a;rcases bz b s.w.heap.size with h|h
 ·exact h
 ·simp[World.cell?,se h] at this
theorem ag.same{σ:List aj}{s:St}(h:ag σ s){w':World}(d:w'.heap=s.w.heap):ag σ { s with w:=w' }:=by
 have z:∀ a,w'.cell? a=s.w.cell? a:=λa=>by simp[World.cell?,d]
 have q:∀ v a,gd σ s v a->gd σ { s with w:=w' } v a:=λv a r=>by cases a <;> exact r
 have i:∀ vs al,cW σ s vs al->cW σ { s with w:=w' } vs al:=by
  intro vs
  induction vs with
  |nil=>intro al r;cases al <;> simp_all [cW]
  |cons v vs ih=>intro al r;cases al with
   |nil=>simp[cW] at r
   |cons a al=>exact⟨q _ _ r.1,ih _ r.2⟩
 refine⟨λb o v m=>by rw[z];exact h.mem b o v m,h.len,?_,h.fe,λL i b f=>by show b<w'.heap.size;rw[d];exact h.lt L i b f,λb f=>⟨by show b<w'.heap.size;rw[d];exact(h.own b f).1,(h.own b f).2⟩⟩
 intro l B L A g;have:=h.box l B L A g;cases B with
 |cells E cs =>
  obtain⟨b,vs,h1,h2,c,e⟩:=this;exact⟨b,vs,h1,by show w'.heap[b]?=_;rw[d];exact h2,i _ _ c,e⟩
 |vec E k n es =>
  obtain⟨h1,h2⟩:=this;refine⟨h1,?_⟩;rcases h2 with h2|⟨b,cap,vs,h2,c,e,j⟩
  ·exact .inl h2
  ·exact .inr ⟨b,cap,vs,h2,by show w'.heap[b]?=_;rw[d];exact c,e,j⟩
 |cx H =>
  obtain⟨ch,h1,h2,c,e⟩:=this;exact⟨ch,h1,λb o f=>by show w'.heap[b]?=_;rw[d];exact h2 b o f,c,e⟩
 |dead=>trivial
 |loop N φ r =>
  obtain⟨l,tmps,fn,y,h1,h2,c,e,j⟩:=this;exact⟨l,tmps,fn,y,h1,by show w'.heap[l]?=_;rw[d];exact h2,c,λt=>cd.mono (s:=s) (σ':=σ) (s':={ s with w:=w' }) ⟨λ_ _ _ h=>h,λ_ B L h x=>⟨B,L,h,x,.refl _ _⟩⟩ h.len (e t),j⟩
 |qv =>
  obtain⟨r,h1,h2,c⟩:=this;exact⟨r,h1,by show w'.heap[r]?=_;rw[d];exact h2,c⟩
 |buf E k n es =>
  rcases this with h1|⟨b,p,vs,u,h1,h2,c⟩
  ·exact .inl h1
  ·exact .inr ⟨b,p,vs,u,h1,by show w'.heap[b]?=_;rw[d];exact h2,c⟩
theorem Step.same{σ:List aj}{s:St}{w':World}(a:w'.heap=s.w.heap)(e:w'.os=s.w.os)(d:w'.tape=s.w.tape)(c:w'.output=s.w.output):Step σ s σ { s with w:=w' } :=
 ⟨by show s.w.heap.size<=w'.heap.size;rw[a];exact ar _,λb _ _=>by show w'.heap[b]?=_;rw[a],λ_ _ _ h=>h,λ_ _ _ _=>rfl,λL h b g=>.inr ⟨L,h,g⟩,λ_ B L h f=>⟨B,L,h,f,.refl _ _⟩,e,d,c,rfl⟩
theorem dT.carry{σ σ':List aj}{s s':St}{B:aj}{L:Loc}(i:Ext σ s σ' s')(hl:s.β.length=σ.length)(f:∀ b∈L.bs,s'.w.heap[b]?=s.w.heap[b]?/\∀ o,s'.M b o=s.M b o)(h:dT σ s B L):dT σ' s' B L:=by
 cases B with
 |cells E cs =>
  obtain⟨b,vs,h1,h2,a,d⟩:=h;subst h1;obtain⟨k1,c⟩:=f b (by simp)
  exact⟨b,vs,rfl,by rw[k1,h2],a.mono i hl,λo=>by rw[c,d]⟩
 |vec E k n es =>
  obtain⟨h1,h2⟩:=h;refine⟨h1.mono i.mem,?_⟩;rcases h2 with⟨h2,a⟩|⟨b,cap,vs,h2,a,d,j⟩
  ·exact .inl ⟨h2,a.mono i.mem⟩
  ·subst h2;obtain⟨k1,c⟩:=f b (by simp)
   exact .inr ⟨b,cap,vs,rfl,by rw[k1,a],d,λo q=>by rw[c,j o q]⟩
 |cx H =>
  obtain⟨ch,h1,h2,a,d⟩:=h;refine⟨ch,h1,λb o g=>?_,a,λb e o=>by rw[(f b e).2,d b e]⟩
  have e:b∈L.bs:=(a b).2 (by simp[g])
  rw[(f b e).1,h2 b o g]
 |dead=>trivial
 |loop N φ r =>
  obtain⟨l,tmps,fn,x,h1,h2,a,d,j⟩:=h;subst h1;obtain⟨k1,c⟩:=f l (by simp)
  exact⟨l,tmps,fn,x,rfl,by rw[k1,h2],a,λt=>(d t).mono i hl,λo=>by rw[c,j]⟩
 |qv =>
  obtain⟨r,h1,h2,a⟩:=h;subst h1;obtain⟨k1,c⟩:=f r (by simp)
  exact⟨r,rfl,by rw[k1,h2],λo=>by rw[c,a]⟩
 |buf E k n es =>
  rcases h with h1|⟨b,p,vs,u,h1,h2,a,d,j,v,m⟩
  ·exact .inl h1
  ·subst h1;obtain⟨k1,c⟩:=f b (by simp)
   exact .inr ⟨b,p,vs,u,rfl,by rw[k1,h2],a,d,j,v.mono i.mem,λo=>by rw[c,m]⟩
def St.eD(s:St)(E:TypeId)(vs:List Value):St :=
 { β:=s.β++[⟨.pointer (some ⟨s.w.heap.size,0,none⟩),[s.w.heap.size]⟩],M:=s.M,w:=s.w.alloc (.cells vs.toArray E),own:=s.own }
theorem b7(w:World)(o:Obj){b:Nat}(h:b<w.heap.size):(w.alloc o).heap[b]?=w.heap[b]?:=by
 show (w.heap.push o)[b]?=w.heap[b]?;rw[Array.getElem?_push,ak (by omega)]
theorem cU(w:World)(o:Obj):(w.alloc o).heap[w.heap.size]?=some o:=by
 show (w.heap.push o)[w.heap.size]?=some o;simp
theorem Step.eD{σ:List aj}(s:St)(E:TypeId)(vs:List Value)(B:aj):Step σ s (σ++[B]) (s.eD E vs):=by
 refine⟨by simp[St.eD],?_,λ_ _ _ h=>h,λ_ _ _ _=>rfl,?_,?_,rfl,rfl,rfl,rfl⟩
 ·intro b d _;exact b7 _ _ d
 ·intro L a b d;simp only[St.eD,dF,fV] at a;rcases a with a|rfl
  ·exact .inr ⟨L,a,d⟩
  ·simp at d;omega
 ·intro l B' L c a;have hl:l<s.β.length:=(aD.1 a).1;have e:l<σ.length:=(aD.1 c).1;exact⟨B',L,by rw[bc e,c],by simp only[St.eD];rw[bc hl,a],.refl _ _⟩
theorem ag.eD{σ:List aj}{s:St}(h:ag σ s){E:TypeId}{vs:List Value}{cs:List A}(r:cW σ s vs cs):ag (σ++[.cells E cs]) (s.eD E vs):=by
 have st:=Step.eD (σ:=σ) s E vs (.cells E cs);have i:(s.eD E vs).w.heap.size=s.w.heap.size+1:=by simp[St.eD]
 refine⟨?_,by simp[St.eD,h.len],?_,?_,?_,?_⟩
 ·intro b o v j;have c:=h.block j;have:=h.mem b o v j;rw[<-this];simp only[World.cell?,St.eD];rw[b7 _ _ c]
 ·intro l B L f a;rcases sq l σ.length with e|rfl|p
  ·rw[bc e] at f;simp only[St.eD] at a;rw[bc (by rw[h.len];exact e)] at a
   refine(h.box l B L f a).carry st.ext h.len λb c=>⟨?_,λ_=>rfl⟩
   have:=h.lt L (aE a) b c;exact b7 _ _ this
  ·simp at f;subst f;simp only[St.eD] at a;rw[ck (by rw[h.len];exact ar _)] at a
   simp[h.len] at a;subst a;refine⟨s.w.heap.size,vs,rfl,cU _ _,r.mono st.ext h.len,λo=>?_⟩
   cases j:s.M s.w.heap.size o with
   |none=>exact j
   |some v=>have:=h.block j;omega
  ·rw[ck (by omega)] at f
   have:l-σ.length≠0:=by omega
   cases m:l-σ.length with
   |zero=>omega
   |succ n=>simp[m] at f
 ·intro l l' L L' a k b c d;simp only[St.eD] at a k;have g:∀ l L,(s.β++[⟨.pointer (some ⟨s.w.heap.size,0,none⟩),[s.w.heap.size]⟩])[l]?=some L->(s.β[l]?=some L)∨(l=s.β.length/\L.bs=[s.w.heap.size]):=by
   intro l L a;rcases sq l s.β.length with e|rfl|p
   ·rw[bc e] at a;exact .inl a
   ·simp at a;subst a;exact .inr ⟨rfl,rfl⟩
   ·rw[ck (by omega)] at a
    cases m:l-s.β.length with
    |zero=>omega
    |succ n=>simp[m] at a
  rcases g l L a with h1|⟨rfl,h1⟩ <;> rcases g l' L' k with h2|⟨rfl,h2⟩
  ·exact h.fe l l' L L' h1 h2 b c d
  ·have:=h.lt L (aE h1) b c;rw[h2] at d;simp at d;omega
  ·have:=h.lt L' (aE h2) b d;rw[h1] at c;simp at c;omega
  ·rfl
 ·intro L a b c;rw[i];simp only[St.eD,dF,fV] at a;rcases a with a|rfl
  ·have:=h.lt L a b c;omega
  ·simp at c;omega
 ·intro b c;obtain⟨t,q⟩:=h.own b c;refine⟨by rw[i];omega,λL a=>?_⟩
  simp only[St.eD,dF,fV] at a;rcases a with a|rfl
  ·exact q L a
  ·simp;omega
theorem ag.grow{σ:List aj}{s:St}(h:ag σ s){M':Mem}{w':World}(c:s.w.heap.size<=w'.heap.size)(g:∀ b,b<s.w.heap.size->w'.heap[b]?=s.w.heap[b]?)
  (f:∀ b,b<s.w.heap.size->∀ o,M' b o=s.M b o) (j:∀ b,s.w.heap.size<=b->∀ o v,M' b o=some v->w'.cell? ⟨b,o,none⟩=some v)
  (m:w'.os=s.w.os) (k:w'.tape=s.w.tape) (i:w'.output=s.w.output):ag σ ⟨s.β,M',w',s.own⟩/\Step σ s σ ⟨s.β,M',w',s.own⟩:=by
 have st:Step σ s σ ⟨s.β,M',w',s.own⟩ :=
  ⟨c,λb a _=>g b a,λb o v d=>by rw[<-d];exact f b (h.block d) o,λb a _ o=>f b a o,λL h b a=>.inr ⟨L,h,a⟩,λ_ B L h n=>⟨B,L,h,n,.refl _ _⟩,m,k,i,rfl⟩
 refine⟨⟨?_,h.len,?_,h.fe,λL e b a=>bF (h.lt L e b a) c,λb a=>⟨bF (h.own b a).1 c,(h.own b a).2⟩⟩,st⟩
 ·intro b o v d;rcases bz b s.w.heap.size with a|a
  ·have hm':s.M b o=some v:=by rw[<-f b a o];exact d
   rw[<-h.mem b o v hm'];simp only[World.cell?];rw[g b a]
  ·exact j b a o v d
 ·intro l B L p e;exact(h.box l B L p e).carry st.ext h.len λb a=>⟨g b (h.lt L (aE e) b a),λo=>f b (h.lt L (aE e) b a) o⟩
theorem ag.write{σ:List aj}{s:St}(h:ag σ s){l b:Nat}{L:Loc}{E:TypeId}{cs kU:List A}{a:List Value}(k:σ[l]?=some (.cells E cs))(d:s.β[l]?=some L)(f:L.bs=[b])
  (r:cW σ s a kU):ag (σ.set l (.cells E kU)) { s with w:=s.w.setRow b a.toArray }/\Step σ s (σ.set l (.cells E kU)) { s with w:=s.w.setRow b a.toArray }:=by
 have g:l<σ.length:=(aD.1 k).1;obtain⟨m,vs,h1,h2,t,p⟩:=h.box l _ L k d;subst h1;simp at f;subst f;have st:Step σ s (σ.set l (.cells E kU)) { s with w:=s.w.setRow m a.toArray }:=by
  refine⟨by simp,?_,λ_ _ _ h=>h,λ_ _ _ _=>rfl,λL h b c=>.inr ⟨L,h,c⟩,?_,rfl,rfl,rfl,rfl⟩
  ·intro b c q;exact setRow_other _ _ _ _ (λe=>q _ (aE d) (by simp[e]))
  ·intro l' B L' jR gf
   by_cases e:l=l'
   ·subst e;rw[k] at jR;cases jR;exact⟨_,L',by rw[bk g],gf,by simp[gD]⟩
   ·exact⟨B,L',by rw[b6 e];exact jR,gf,.refl _ _⟩
 refine⟨⟨?_,by simp[h.len],?_,h.fe,λL d b c=>by simpa using h.lt L d b c,λb c=>by simpa using h.own b c⟩,st⟩
 ·intro b o v i;have n:b≠m:=λe=>by subst e;rw[p] at i;cases i
  rw[<-h.mem b o v i];simp only[World.cell?];rw[setRow_other _ _ _ _ n]
 ·intro l' B L' jR gf
  by_cases e:l=l'
  ·subst e;rw[bk g] at jR;cases jR;rw[d] at gf;cases gf;exact⟨m,a,rfl,setRow_heap _ _ _ _ _ _ h2,r.mono st.ext h.len,p⟩
  ·rw[b6 e] at jR;refine(h.box l' B L' jR gf).carry st.ext h.len λb c=>⟨setRow_other _ _ _ _ λj=>?_,λ_=>rfl⟩
   subst j;exact e (h.fe l l' _ L' d gf b (by simp) c)
end Go.AM
namespace Go.AM
open Go.Conc (G)
def LZ(σ:List aj)(s:St):Next->D->Prop
 |.value v,x=>cd σ s v x
 |.skip,x=>x=.any
 |_,_=>False
def aM(P:Program)(o:Oper)(c:Operand->D)(σ:List aj)(x:D)(σ':List aj):Prop :=
 ∀ s a,ag σ s->(∀ y,cd σ s (a y) (c y))->∃ b s',(execOp a o).run P s.w=.ok b s'.w/\LZ σ' s' b x/\ag σ' s'/\Step σ s σ' s'/\eK s ((execOp a o).events P s.w #[])
theorem aM.nA{P:Program}{o:Oper}{b:Operand->D}{σ:List aj}{x:D}
  (h:∀ s a,ag σ s->(∀ y,cd σ s (a y) (b y))->∃ v,(execOp a o).run P s.w=.ok (.value v) s.w/\cd σ s v x/\eK s ((execOp a o).events P s.w #[])):aM P o b σ x σ :=
 λs a hh hr=>let ⟨v,h1,h2,c⟩:=h s a hh hr;⟨.value v,s,h1,h2,hh,.refl _ _,c⟩
theorem aM.quiet{P:Program}{o:Oper}{b:Operand->D}{σ:List aj}{x:D}
  (h:∀ s a,ag σ s->(∀ y,cd σ s (a y) (b y))->∃ v,(execOp a o).run P s.w=.ok (.value v) s.w/\cd σ s v x/\(execOp a o).events P s.w #[]=#[]):aM P o b σ x σ :=
 λs a hh hr=>let ⟨v,h1,h2,c⟩:=h s a hh hr;⟨.value v,s,h1,h2,hh,.refl _ _,by rw[c];exact .nil⟩
def I4:IntKind->Int->Bool
 |.i64,.ofNat m=>Nat.ble m 9223372036854775807
 |.i64,.negSucc m=>Nat.ble m 9223372036854775807
 |.u8,.ofNat m=>Nat.ble m 255
 |.i32,.ofNat m=>Nat.ble m 2147483647
 |.i32,.negSucc m=>Nat.ble m 2147483647
 |.u64,.ofNat m=>Nat.ble m 18446744073709551615
 |.u32,.ofNat m=>Nat.ble m 4294967295
 |_,_=>false
theorem Ma{k:IntKind}{n:Int}(h:I4 k n=true):aJ k n:=by
 cases k <;> cases n <;> simp only[I4,aJ] at h ⊢ <;> first|(cases h;done)|(have:=cA h;simp only[Int.ofNat_eq_natCast,Int.negSucc_eq];omega)
def qz:Value->Option C
 |.int k n=>cond (I4 k n) (some (.int k n)) none
 |.bool b=>some (.bool b)
 |.string s=>cond (Nat.ble s.size 9223372036854775807) (some (.str s.data.toList)) none
 |.slice none 0 0=>some (.sl true 0 0 (λ_=>[]))
 |.pointer none=>some .j4
 |.nilIface=>some .mz
 |.nilFunc=>some .uZ
 |.map m=>some (.val (.map m))
 |_=>none
theorem Rd.jv{M:Mem}{t:Bool}{k:Nat}{a:Option Addr}{es:Nat->List C}:Rd M (.slice a 0 0) (.sl t k 0 es) :=
 Rd.sl 0 0 (λ_ _=>undef) (ar _) (by omega) (λ_=>rfl) (by omega) (by omega) (by omega) (by omega)
theorem Rd.qz{M:Mem}{v:Value}{c:C}(h:qz v=some c):Rd M v c:=by
 unfold AM.qz at h;split at h <;> first
  |(rename_i k n;cases a:I4 k n <;> rw[a] at h <;> cases h;exact .int (Ma a))
  |(rename_i s;cases a:Nat.ble s.size 9223372036854775807 <;> rw[a] at h <;> cases h;exact .str rfl (by rw[fU];exact cA a))
  |(cases h;done)
  |(cases h;exact .bool)
  |(cases h;exact Rd.jv)
  |(cases h;exact .j4)
  |(cases h;exact .mz)
  |(cases h;exact .uZ)
  |(cases h;exact .val rfl)
def W5:Option C->D
 |some c=>.e (.one (.c c))
 |none=>.any
def bn(φ:Fr):Operand->D
 |.tmp t=>look φ t
 |.const v=>W5 (qz v)
 |.func f=>.e (.one (.c (.fn (.func f) [] [])))
 |.global _=>.any
theorem cV{N:Nat}{σ:List aj}{s:St}{φ:Fr}{a:Act}(f:bg N σ s φ a)(y:Operand):cd σ s (a.eval y) (bn φ y):=by
 cases y with
 |tmp t=>exact f.slot t
 |const v =>
  simp only[bn,Act.eval];cases h:qz v with
  |none=>trivial
  |some c=>exact Rd.qz h
 |func g =>
  exact Rd.fn [] [] rfl rfl (λ_=>undef) (λ_=>undef) (by simp) (by simp) (by simp) (by simp)
 |global g=>trivial
def iP:Option Nat->D->Fr->Fr
 |some t,x,φ=>(t,x)::φ
 |none,_,φ=>φ
theorem tJ{P:Program}{X:Cx P}{S:Goroutine->St->Prop}{b:Frame}{k:List Item}{cs:List Frame}{a:Act}{s:St}{ops:Array Oper}{i:Nat}{rest:List Nat}{o:Oper}(j:b.kind≠.early)(l:ops[i]?=some o)(m:Region.wanted o (yielded ops a.tmps)=true)
  (h:∀ c,br s c->∃ d s' v,(execOp a.eval o).run P c.w=.ok d s'.w/\(d=.value v∨(d=.skip/\v=undef))/\oB c s' ((execOp a.eval o).events P c.w #[])/\dn X S (G (b.aT (a.put o.dst v) (.inRegion ops rest::k)) cs) s') :
  dn X S (G (b.aT a (.inRegion ops (i::rest)::k)) cs) s:=by
 refine .next rfl λc n=>?_
 obtain⟨d,s',v,f,e,g,p⟩:=h c (X.fz n);refine⟨_,s',Go.Conc.listed P b.fn a o c.w,?_,⟨g.1,g.2.seen⟩,p⟩;rcases e with rfl|⟨rfl,rfl⟩
 ·exact Ep l m j f
 ·exact Bp l m j f
theorem dM.op{P:Program}{X:Cx P}{N:Nat}{all rest:List Oper}{Q:Fr->List aj->Prop}{φ:Fr}{σ:List aj}{o:Oper}{x:D}{σ':List aj}
  (y:∀ σ s a,bg N σ s φ a->Region.wanted o (yielded all.toArray a.tmps)=true) (h:aM P o (bn φ) σ x σ') (d:Option Nat) (n:o.dst=d) (A:∀ t,d=some t->t<N)
  (k:dM X N all rest Q (iP d x φ) σ'):dM X N all (o::rest) Q φ σ:=by
 subst n;intro s a f hh b kk cs S idx hb fK hQ;cases idx with
 |nil=>exact fK.elim
 |cons i idx =>
 obtain⟨hi,fK⟩:=fK;refine tJ hb hi (y _ _ _ f) λj e=>?_
 have c:=hh.rely e;have g:=f.rely e hh;obtain⟨B,s',h1,h2,p,u,E⟩:=h j a.eval c (cV g);have l:=u.lD c;have fin:∀ v,cd σ' s' v x->dn X S (G (b.aT (a.put o.dst v) (.inRegion all.toArray idx::kk)) cs) s':=by
  intro v C;refine k s' _ ?_ p b kk cs S idx hb fK λm σ2 s2 a2 q z h2 st=>hQ m σ2 s2 a2 q z h2 ((e.stepW.trans l).trans st)
  cases n:o.dst with
  |none=>exact g.mono l c.len
  |some t=>exact(g.mono l c.len).put (A t n) C
 have r:oB j s' ((execOp a.eval o).events P j.w #[]):=⟨⟨σ,σ',c,p,u⟩,E⟩;cases B with
 |value v=>exact⟨_,s',v,h1,.inl rfl,r,fin v h2⟩
 |skip=>simp only[LZ] at h2;subst h2;exact⟨_,s',undef,h1,.inr ⟨rfl,rfl⟩,r,fin undef ab⟩
 |_=>exact h2.elim
theorem dM.KF{P:Program}{X:Cx P}{N:Nat}{all rest:List Oper}{Q:Fr->List aj->Prop}{φ:Fr}{σ:List aj}{o:Oper}{x:D}(m:∀ σ s,cd σ s undef x)
  (l:∀ σ s a,bg N σ s φ a->Region.wanted o (yielded all.toArray a.tmps)=false) (d:Option Nat) (h:o.dst=d) (n:∀ t,d=some t->t<N)
  (k:dM X N all rest Q (iP d x φ) σ):dM X N all (o::rest) Q φ σ:=by
 subst h;intro s a f hh b kk cs S idx hb fK hQ;cases idx with
 |nil=>exact fK.elim
 |cons i idx =>
 obtain⟨hi,fK⟩:=fK;refine .ctl hh rfl (λ_=>Bo hi (l _ _ _ f)) λp c=>?_
 have e:=hh.rely c;have j:=f.rely c hh;refine k p _ ?_ e b kk cs S idx hb fK λg σ2 s2 a2 q r h2 st=>hQ g σ2 s2 a2 q r h2 (c.stepW.trans st)
 cases h:o.dst with
 |none=>exact j
 |some t=>exact j.put (n t h) (m _ _)
theorem dM.pass{P:Program}{X:Cx P}{N:Nat}{all rest:List Oper}{Q:Fr->List aj->Prop}{φ:Fr}{σ:List aj}{o:Oper}
  (e:∀ σ s a,bg N σ s φ a->Region.wanted o (yielded all.toArray a.tmps)=false) (d:Option Nat) (c:o.dst=d) (b:∀ t,d=some t->t<N)
  (k:dM X N all rest Q (iP d .any φ) σ):dM X N all (o::rest) Q φ σ:=.KF (x:=.any) (λ_ _=>trivial) e d c b k
theorem aM.move{P:Program}{o:Oper}{a:Operand->D}{σ:List aj}{x:Operand}(h:o.op=.move x):aM P o a σ (a x) σ :=
 .quiet λs c _ b=>⟨c x,by simp[execOp,h,pure],b x,by simp[execOp,h]⟩
theorem aM.assign{P:Program}{o:Oper}{a:Operand->D}{σ:List aj}{x:Operand}(h:o.op=.assign x):aM P o a σ (a x) σ :=
 .quiet λs c _ b=>⟨c x,by simp[execOp,h,pure],b x,by simp[execOp,h]⟩
theorem eX{σ:List aj}{s:St}{v:Value}{c:C}(h:cd σ s v (.e (.one (.c c)))):Rd s.M v c:=h
theorem aM.pick{P:Program}{o:Oper}{d:Operand->D}{σ:List aj}{c a b:Operand}(h:o.op=.pick c a b){t:Bool}(j:d c=.e (.one (.c (.bool t)))) :
  aM P o d σ (match t with|true=>d a|false=>d b) σ:=by
 refine .quiet λs i _ g=>?_
 have h1:=g c;rw[j] at h1;have h2:=eX h1;generalize f:i c=v at h2;cases h2;cases t
 ·exact⟨i b,by simp[execOp,h,f,asBool],g b,by simp[execOp,h,f,asBool]⟩
 ·exact⟨i a,by simp[execOp,h,f,asBool],g a,by simp[execOp,h,f,asBool]⟩
def FK(op:BinOp)(k:IntKind) (x y:Int):Option (C×List Prop) :=
 match op with
 |.add=>some (.int k (x+y),[aJ k (x+y)])
 |.sub=>some (.int k (x-y),[aJ k (x-y)])
 |.mul=>some (.int k (x*y),[aJ k (x*y)])
 |.quo=>some (.int k (x / y),[0<=x,0<y])
 |.rem=>some (.int k (x % y),[0<=x,0<y])
 |.eql=>some (.bool (x==y),[])
 |.neq=>some (.bool (x != y),[])
 |.lss=>some (.bool (decide (x<y)),[])
 |.leq=>some (.bool (decide (x<=y)),[])
 |.gtr=>some (.bool (decide (y<x)),[])
 |.geq=>some (.bool (decide (y<=x)),[])
 |_=>none
def FL(op:BinOp)(x y:List UInt8):Option (C×List Prop) :=
 match op with
 |.add=>some (.str (x++y),[x.length+y.length<=9223372036854775807])
 |.eql=>some (.bool (x==y),[])
 |.neq=>some (.bool (!(x==y)),[])
 |.lss=>some (.bool (Op.bytesLess x y),[])
 |.leq=>some (.bool (Op.bytesLess x y||x==y),[])
 |.gtr=>some (.bool (!(Op.bytesLess x y||x==y)),[])
 |.geq=>some (.bool (!(Op.bytesLess x y)),[])
 |_=>none
def aa:List Prop->Prop
 |[]=>True
 |[p]=>p
 |p::q::r=>p/\aa (q::r)
theorem aa.cons{p:Prop}{r:List Prop}:aa (p::r)↔p/\aa r:=by cases r <;> simp[aa]
theorem k8{k:IntKind}{n:Int}(h:aJ k n):k.wrap n=n:=by
 cases k <;> simp only[aJ,IntKind.wrap,IntKind.bits,IntKind.signed] at h ⊢ <;> simp <;> (try split) <;> omega
theorem FM{P:Program}{w:World}{op:BinOp}{k:IntKind}{x y:Int}{c:C}{obs:List Prop}(h:FK op k x y=some (c,obs))(a:aa obs)(g:aJ k x)(i:aJ k y)(t:TypeId)(M:Mem) :
  ∃ v,(binOp op t (.int k x) (.int k y)).run P w=.ok v w/\Rd M v c:=by
 cases op <;> simp only[FK,bO,hJ,reduceCtorEq] at h
 case add=>obtain⟨rfl,rfl⟩:=h;exact⟨_,by simp only[binOp,bY,en,aW,Op.intArith,k8 a];rfl,.int a⟩
 case sub=>obtain⟨rfl,rfl⟩:=h;exact⟨_,by simp only[binOp,bY,en,aW,Op.intArith,k8 a];rfl,.int a⟩
 case mul=>obtain⟨rfl,rfl⟩:=h;exact⟨_,by simp only[binOp,bY,en,aW,Op.intArith,k8 a];rfl,.int a⟩
 case quo =>
  obtain⟨rfl,rfl⟩:=h;obtain⟨d,b⟩:=a
  replace b:0<y:=b
  have e:x.tdiv y=x / y:=Int.tdiv_eq_ediv_of_nonneg d;have f:aJ k (x / y):=by
   have l:0<=x / y:=Int.ediv_nonneg d (by omega)
   have j:x / y<=x:=Int.ediv_le_self _ d;cases k <;> simp only[aJ] at g ⊢ <;> omega
  exact⟨_,by simp only[binOp,bY,en,aW,Op.intDiv,show y≠0 by omega,e,k8 f];rfl,.int f⟩
 case rem =>
  obtain⟨rfl,rfl⟩:=h;obtain⟨d,b⟩:=a
  replace b:0<y:=b
  have e:x.tmod y=x % y:=Int.tmod_eq_emod_of_nonneg d;have f:aJ k (x % y):=by
   have l:0<=x % y:=pE _ (by omega)
   have j:x % y<y:=px _ b;cases k <;> simp only[aJ] at i ⊢ <;> omega
  exact⟨_,by simp only[binOp,bY,en,aW,Op.intDiv,show y≠0 by omega,e];rfl,.int f⟩
 all_goals (obtain⟨rfl,rfl⟩:=h;exact⟨_,by simp only[binOp,bY,en,aW,Op.intCmp,gt_iff_lt,ge_iff_le];rfl,.bool⟩)
theorem FN{P:Program}{w:World}{op:BinOp}{x y:ByteArray}{a b:List UInt8}{c:C}{obs:List Prop}(h:FL op a b=some (c,obs))(d:aa obs)(f:x.data.toList=a)(g:y.data.toList=b)(t:TypeId)(M:Mem) :
  ∃ v,(binOp op t (.string x) (.string y)).run P w=.ok v w/\Rd M v c:=by
 subst f g;cases op <;> simp only[FL,bO,hJ,reduceCtorEq] at h
 case add =>
  obtain⟨rfl,rfl⟩:=h;have j:¬((x.size+y.size:Nat):Int)>IntKind.i64.max:=by
   have k:x.data.toList.length=x.size:=fU;have l:y.data.toList.length=y.size:=fU;have e:IntKind.i64.max=9223372036854775807:=rfl;have i:x.data.toList.length+y.data.toList.length<=9223372036854775807:=d;rw[e];omega
  refine⟨_,by simp only[binOp,Op.stringOp,j,aW];rfl,.str (by simp) (by simpa[aa] using d)⟩
 all_goals (obtain⟨rfl,rfl⟩:=h;exact⟨_,by simp only[binOp,Op.stringOp,ByteArray.toList_eq];rfl,.bool⟩)
theorem I5{P:Program}{w:World}{op:BinOp}{k:IntKind}{x y:Int}{c:C}{obs:List Prop}(h:FK op k x y=some (c,obs))(b:aa obs)(t:TypeId) :
  (binOp op t (.int k x) (.int k y)).events P w #[]=#[]:=by
 cases op <;> simp only[FK,bO,hJ,reduceCtorEq] at h
 case quo =>
  obtain⟨rfl,rfl⟩:=h;obtain⟨d,a⟩:=b
  replace a:0<y:=a
  simp only[binOp,bY,en,aW,Op.intDiv,show y≠0 by omega];rfl
 case rem =>
  obtain⟨rfl,rfl⟩:=h;obtain⟨d,a⟩:=b
  replace a:0<y:=a
  simp only[binOp,bY,en,aW,Op.intDiv,show y≠0 by omega];rfl
 all_goals (simp only[binOp,bY,en,aW,Op.intCmp,Op.intArith];rfl)
theorem I6{P:Program}{w:World}{op:BinOp}{x y:ByteArray}{a b:List UInt8}{c:C}{obs:List Prop}(h:FL op a b=some (c,obs))(i:aa obs)(d:x.data.toList=a)(f:y.data.toList=b)(t:TypeId) :
  (binOp op t (.string x) (.string y)).events P w #[]=#[]:=by
 subst d f;cases op <;> simp only[FL,bO,hJ,reduceCtorEq] at h
 case add =>
  obtain⟨rfl,rfl⟩:=h;have j:¬((x.size+y.size:Nat):Int)>IntKind.i64.max:=by
   have k:x.data.toList.length=x.size:=fU;have l:y.data.toList.length=y.size:=fU;have e:IntKind.i64.max=9223372036854775807:=rfl;have g:x.data.toList.length+y.data.toList.length<=9223372036854775807:=i;rw[e];omega
  simp only[binOp,Op.stringOp,j,aW];rfl
 all_goals (simp only[binOp,Op.stringOp];rfl)
def CZ:IntKind->IntKind->Bool
 |.i8,.i8|.i16,.i16|.i32,.i32|.i64,.i64|.u8,.u8|.u16,.u16|.u32,.u32|.u64,.u64=>true
 |_,_=>false
theorem xn{k k':IntKind}(h:CZ k k'=true):k=k':=by cases k <;> cases k' <;> first|rfl|(cases h;done)
def IA(op:BinOp):C->C->Option (C×List Prop)
 |.int k x,.int k' y=>cond (CZ k k') (FK op k x y) none
 |.str a,.str b=>FL op a b
 |_,_=>none
theorem fC{P:Program}(op:BinOp)(t:TypeId)(x y:Operand)(k k':IntKind) (n a:Int)(u:World):(eqGuard op t x y (.int k n) (.int k' a)).run P u=.ok () u:=by cases op <;> rfl
theorem rq{P:Program}(op:BinOp)(t:TypeId)(x y:Operand)(a b:ByteArray)(u:World):(eqGuard op t x y (.string a) (.string b)).run P u=.ok () u:=by cases op <;> rfl
theorem iw{P:Program}(op:BinOp)(t:TypeId)(x y:Operand)(k k':IntKind) (n a:Int)(u:World)(es:Array Event):(eqGuard op t x y (.int k n) (.int k' a)).events P u es=es:=by cases op <;> rfl
theorem tT{P:Program}(op:BinOp)(t:TypeId)(x y:Operand)(a b:ByteArray)(u:World)(es:Array Event):(eqGuard op t x y (.string a) (.string b)).events P u es=es:=by cases op <;> rfl
theorem aM.binOp{P:Program}{o:Oper}{m:Operand->D}{σ:List aj}{op:BinOp}{t ty:TypeId}{x y:Operand}(h:o.op=.binOp op t x y ty){a b c:C}{obs:List Prop}
  (B:m x=.e (.one (.c a))) (E:m y=.e (.one (.c b))) (g:IA op a b=some (c,obs)) (i:aa obs):aM P o m σ (.e (.one (.c c))) σ:=by
 refine .quiet λs z _ q=>?_
 have h1:=q x;have h2:=q y;rw[B] at h1;rw[E] at h2
 replace h1:=eX h1
 replace h2:=eX h2
 generalize d:z x=vx at h1;generalize f:z y=vy at h2;cases h1 <;> cases h2 <;> simp only[IA,reduceCtorEq] at g
 case int.int k n A k' n' Q4 =>
  cases u:CZ k k' <;> simp only[u,cond,reduceCtorEq] at g
  cases xn u;obtain⟨v,p,j⟩:=FM (P:=P) (w:=s.w) g i A Q4 t s.M;exact⟨v,by simp only[execOp,h,bm,d,f,fC,bP,p,cY],j,by simp[execOp,h,d,f,fC,iw,I5 g i]⟩
 case str.str =>
  rename_i F l r hl y' l' hy uX
  obtain⟨v,p,j⟩:=FN (P:=P) (w:=s.w) g i r hy t s.M;exact⟨v,by simp only[execOp,h,bm,d,f,rq,bP,p,cY],j,by simp[execOp,h,d,f,rq,tT,I6 g i r hy]⟩
def Ql(op:UnOp):C->Option C
 |.bool b=>match op with|.not=>some (.bool (!b))|_=>none
 |_=>none
theorem aM.unOp{P:Program}{o:Oper}{f:Operand->D}{σ:List aj}{op:UnOp}{t:TypeId}{x:Operand}(h:o.op=.unOp op t x){a c:C}
  (j:f x=.e (.one (.c a))) (d:Ql op a=some c):aM P o f σ (.e (.one (.c c))) σ:=by
 refine .quiet λs i _ g=>?_
 have h1:=g x;rw[j] at h1
 replace h1:=eX h1
 generalize b:i x=vx at h1;cases h1 <;> simp only[Ql,reduceCtorEq] at d
 cases op <;> simp only[reduceCtorEq,bO] at d
 subst d;exact⟨_,by simp only[execOp,h,b,Op.unary,bm,cY,bP],Rd.bool,by simp[execOp,h,b,Op.unary]⟩
theorem ey.get{σ:List aj}{s:St}{vs:List Value}{xs:List E1}(r:ey σ s vs xs){j:Nat}{x:E1}(h:xs[j]?=some x):∃ v,vs[j]?=some v/\kE σ s v x:=by
 induction vs generalizing xs j with
 |nil=>cases xs <;> simp_all [ey]
 |cons v vs ih =>
  cases xs with
  |nil=>simp[ey] at r
  |cons b cs =>
   cases j with
   |zero=>simp at h;subst h;exact⟨v,rfl,r.1⟩
   |succ j=>simp at h;obtain⟨u,c,a⟩:=ih r.2 h;exact⟨u,by simpa using c,a⟩
theorem aM.extract{P:Program}{o:Oper}{c:Operand->D}{σ:List aj}{x:Operand}{j:Nat}(h:o.op=.extract x j){xs:List E1}{e:E1}
  (i:c x=.dH xs) (f:xs[j]?=some e):aM P o c σ (.e e) σ:=by
 refine .quiet λs l _ d=>?_
 have h1:=d x;rw[i] at h1;obtain⟨vs,k,g⟩:=h1;obtain⟨v,b,a⟩:=g.get f;refine⟨v,?_,a,?_⟩ <;> simp[execOp,h,k,Instr.extract,b]
end Go.AM
namespace Go.AM
def wP (b o:Nat):Event:=⟨.cell ⟨b,o,none⟩,false,false⟩
def CE (b o:Nat):Event:=⟨.cell ⟨b,o,none⟩,true,false⟩
theorem cO (b o n:Nat):(⟨b,o,none⟩:Addr).add n=⟨b,o+n,none⟩:=by
  unfold Addr.add;split <;> simp_all
section
variable {P:Program}
theorem wS {w:World} {b o:Nat} {v:Value} (h:w.cell? ⟨b,o,none⟩=some v) (es:Array Event):(load ⟨b,o,none⟩).events P w es=es.push (wP b o):=by
  rw[events_load,h];rfl
theorem lR {w:World} {b o:Nat}:∀ (n i:Nat) (acc:Array Value) (es:Array Event),(∀ j,j<n->∃ v,w.cell? ⟨b,o+(i+j),none⟩=some v) ->
    ∀ e∈(loadCellsFrom ⟨b,o,none⟩ i n acc).events P w es,e∈es∨∃ j,j<i+n/\e=wP b (o+j)
  | 0,i,acc,es,_=>λe h=>.inl (by simpa[loadCellsFrom] using h)
  | n+1,i,acc,es,d=>λe h=>by
    obtain⟨v,a⟩:=d 0 (by omega)
    simp only[gm] at a;simp only[loadCellsFrom,Sem.events_bind,cO,run_load,a,Result.evThen_ok,wS a] at h;rcases lR n (i+1) (acc.push v) _ (λj f=>by have:=d (j+1) (by omega);rwa [show i+1+j=i+(j+1) by omega]) e h with c|⟨j,f,rfl⟩
    · rcases pF.1 c with c|rfl
      · exact .inl c
      · exact .inr ⟨i,by omega,rfl⟩
    · exact .inr ⟨j,by omega,rfl⟩
theorem pK {w:World} {b o n:Nat} {es:Array Event} (h:∀ j,j<n->∃ v,w.cell? ⟨b,o+j,none⟩=some v):∀ e∈(loadCells ⟨b,o,none⟩ n).events P w es,e∈es∨∃ j,j<n/\e=wP b (o+j):=by
  intro e a;have:=lR (P:=P) n 0 #[] es (by simpa using h) e a
  simpa using this
theorem eh {b o:Nat} {t:TypeId}:∀ (vs:List Value) (i:Nat) (a:Array Value) (w:World) (es:Array Event),w.heap[b]?=some (.cells a t (0,0))->o+i+vs.length<=a.size->(∀ v∈vs,v.oneCell'=true) ->
    ∀ e∈(storeCells ⟨b,o,none⟩ vs i).events P w es,e∈es∨∃ j,i<=j/\j<i+vs.length/\e=CE b (o+j)
  | [],_,_,_,_,_,_,_=>λe h=>.inl (by simpa[storeCells] using h)
  | v::rest,i,a,w,es,f,n,k=>λe h=>by
    have hi:o+i<a.size:=by simp at n;omega
    have c:w.cell? ⟨b,o+i,none⟩=some a[o+i]:=by simp[World.cell?,f,hi]
    have d:w.frozen? ⟨b,o+i,none⟩=false:=by simp[World.frozen?,f]
    have m:(store (⟨b,o+i,none⟩:Addr) v).run P w=.ok () (w.setRow b (a.setIfInBounds (o+i) v)):=by
      rw[run_store P w _ v _ (k v (by simp)),c]
      simp[d,setCell_eq_setRow w b (o+i) a t (0,0) v f]
    have g:(store (⟨b,o+i,none⟩:Addr) v).events P w es=es.push (CE b (o+i)):=by
      rw[events_store P w es _ v _ (k v (by simp)),c]
      simp only[d,gI,aW];rfl
    simp only[storeCells,Sem.events_bind,cO,m,g,Result.evThen_ok] at h;rcases eh rest (i+1) (a.setIfInBounds (o+i) v) _ _ (setRow_heap _ _ _ _ _ _ f) (by simp at n ⊢;omega) (λu p=>k u (by simp[p])) e h with l|⟨j,r,q,rfl⟩
    · rcases pF.1 l with l|rfl
      · exact .inl l
      · exact .inr ⟨i,ar _,by simp,rfl⟩
    · exact .inr ⟨j,by omega,by simp at q ⊢;omega,rfl⟩
def bR {α:Type} (P:Program) (m:Sem α):Prop:=∀ w es,m.events P w es=es
theorem bR.bind {α β:Type} {m:Sem α} {f:α->Sem β} (h:bR P m) (k:∀ a,bR P (f a)):bR P (m >>= f):=by
  intro w es;rw[Sem.events_bind,h w es];cases m.run P w with
  | ok a w'=>exact k a w' es
  | halt x w'=>rfl
theorem bR.pure {α:Type} {a:α}:bR P (Pure.pure a:Sem α):=λ_ _=>rfl
theorem bR.stuck {α:Type} {a:String}:bR P (Go.stuck a:Sem α):=λ_ _=>rfl
theorem bR.unsupported {α:Type} {u:Unsupported}:bR P (Go.unsupported u:Sem α):=λ_ _=>rfl
theorem bR.sizeOf {t:TypeId}:bR P (sizeOf t):=λ_ _=>events_sizeOf ..
theorem bR.underlying {t:TypeId}:bR P (underlying t):=λ_ _=>events_underlying ..
theorem bR.zeroValue {t:TypeId}:bR P (zeroValue t):=λ_ _=>events_zeroValue ..
theorem bR.typeInfo {t:TypeId}:bR P (typeInfo t):=λ_ _=>events_typeInfo ..
theorem bR.isAgg {t:TypeId}:bR P (isAgg t):=λ_ _=>events_isAgg ..
theorem bR.newObj {o:Obj}:bR P (newObj o):=λ_ _=>rfl
theorem bR.choose {q:Question}:bR P (choose q):=λ_ _=>events_choose ..
theorem bR.newRow {t:TypeId} {c:Array Value}:bR P (newRow t c):=.bind .newObj λ_=>.pure
theorem bR.Kr {α β:Type} {f:α->Sem β} (h:∀ a,bR P (f a)):∀ l:List α,bR P (l.mapM f)
  | []=>by rw[List.mapM_nil];exact .pure
  | a::l=>by rw[jo];exact .bind (h a) λ_=>.bind (bR.Kr h l) λ_=>.pure
theorem bR.map {α β:Type} {f:α->β} {m:Sem α} (h:bR P m):bR P (Functor.map f m):=λw es=>by rw[Sem.events_map];exact h w es
theorem bR.Ov {α β:Type} {f:α->Sem β} (h:∀ a,bR P (f a)) (l:Array α):bR P (l.mapM f):=by
  rw[oR];exact .map (.Kr h _)
theorem bR.E3 {α β:Type} {F:α->β->Sem (ForInStep β)} (h:∀ a b,bR P (F a b)):∀ (l:List α) (b:β),bR P (forIn l b F)
  | [],b=>by rw[List.forIn_nil];exact .pure
  | a::l,b=>by
    rw[List.forIn_cons];refine .bind (h a b) λr=>?_
    cases r with
    | done b=>exact .pure
    | yield b=>exact bR.E3 h l b
theorem bR.build {t:TypeId} {parts:Array (Nat×Value)}:bR P (Instr.build t parts):=by
  unfold Instr.build;refine .bind .zeroValue λz=>.bind .underlying λd=>?_
  cases d <;> first
    | exact .stuck
    | (refine .bind (.Ov (λ_=>.bind .sizeOf λ_=>.pure) _) λpl=>?_
       split
       · exact .pure
       · exact .stuck)
    | (refine .bind .sizeOf λn=>?_
       split
       · exact .pure
       · exact .stuck)
theorem bR.buildSlice {t:TypeId} {n:Nat} {parts:Array (Nat×Value)}:bR P (Instr.buildSlice t n parts):=by
  unfold Instr.buildSlice;refine .bind .underlying λd=>?_
  cases d <;> first
    | exact .stuck
    | (refine .bind .sizeOf λm=>?_
       dsimp only
       have hj:∀ (elem:TypeId) (zero:Array Value),bR P (match Instr.fill (λi=>some (i*m,m)) (Array.map (λx=>zero[x % zero.size]!) (Array.range (n*m))) parts.toList with
          | some cells=>do
            let a<-Go.newRow elem cells
            Pure.pure (Value.slice (some a) n n)
          | _=>Go.stuck "buildSlice: a part of the wrong size"):=by
         intro elem zero;split
         · exact .bind .newRow λ_=>.pure
         · exact .stuck
       by_cases b:n*m=0
       · simp only[b,aX]
         rw[b] at hj;split
         · exact .bind .unsupported λ_=>.bind .pure λz=>hj _ z
         · exact .bind .pure λz=>hj _ z
       · simp only[b,aW]
         split
         · exact .bind .unsupported λ_=>.bind .zeroValue λz=>.bind .pure λz=>hj _ z
         · exact .bind .zeroValue λz=>.bind .pure λz=>hj _ z)
theorem pO {s:St} {b o:Nat} {L:Loc} (c:L∈s.β) (a:b∈L.bs):oU s (wP b o):=⟨rfl,rfl,.inr (.inl ⟨⟨L,c,a⟩,λh=>by cases h⟩)⟩
theorem yc {s:St} {b o:Nat} {v:Value} (h:s.M b o=some v):oU s (wP b o):=⟨rfl,rfl,.inr (.inr ⟨rfl,v,h⟩)⟩
theorem mv {s:St} {b o:Nat} {L:Loc} (c:L∈s.β) (a:b∈L.bs) (d:s.M b o=none):oU s (CE b o):=⟨rfl,rfl,.inr (.inl ⟨⟨L,c,a⟩,λ_=>d⟩)⟩
end
structure TI where
 size:Nat
 bytes:Nat
 agg:Bool
 desc:TypeDesc
 zero:List C
 eq:List TypeDesc:=[]
def pe:TypeDesc->Value->Value->Option Bool
 |.int _,.int k a,.int k' b=>if k=k' then some (a==b) else none
 |.string,.string a,.string b=>some (a.toList==b.toList)
 |.bool,.bool a,.bool b=>some (a==b)
 |_,_,_=>none
def iE:List TypeDesc->List Value->List Value->Option Bool
 |[],[],[]=>some true
 |d::ds,v::vs,w::ws=>match pe d v w with
  |some a=>match iE ds vs ws with
   |some b=>some (a&&b)
   |none=>none
  |none=>none
 |_,_,_=>none
def FO:TypeDesc->Bool
 |.struct _|.array _ _=>true
 |_=>false
structure aN (P:Program)(t:TypeId)(i:TI):Prop where
 Nv:P.underlying t=some i.desc
 agg:FO i.desc=i.agg
 info:∃ inf z,P.info? t=some inf/\inf.size=i.size/\inf.bytes=i.bytes/\inf.zero=some z/\z.cells.toList.map qz=i.zero.map some/\(∃ cs,z=if i.agg then .agg cs else z)/\i.zero.length=i.size
 eqs:i.eq≠[]->P.eqGuardType P.depth t=false/\∀ (w:World) (vs ws:List Value) (b:Bool),iE i.eq vs ws=some b->(Op.equal t (.agg vs.toArray) (.agg ws.toArray)).run P w=.ok b w/\∀ es,(Op.equal t (.agg vs.toArray) (.agg ws.toArray)).events P w es=es
def aQ:List (Nat×TI)->Nat->Option TI
 |[],_=>none
 |(i,d)::r,t=>cond (Nat.beq i t) (some d) (aQ r t)
def cz(P:Program)(T:List (Nat×TI)):Prop:=∀ t i,aQ T t=some i->aN P t i
section
variable {P:Program}{w:World}{t:TypeId}{i:TI}
theorem aN.run_underlying(h:aN P t i):(underlying t).run P w=.ok i.desc w:=by
 simp[underlying,h.Nv]
theorem aN.ja(h:aN P t i):(isAgg t).run P w=.ok i.agg w:=by
 have:=h.agg;unfold Go.isAgg;rw[bm,h.run_underlying];cases a:i.desc <;> rw[a] at this <;> simp[FO] at this <;> simp[this]
theorem aN.run_sizeOf(h:aN P t i):(sizeOf t).run P w=.ok i.size w:=by
 obtain⟨a,z,h1,h2,_⟩:=h.info;simp[sizeOf,typeInfo,h1,h2]
theorem jw{σ:List aj}{s:St}:∀ {vs:List Value}{cs:List C},vs.map qz=cs.map some->cW σ s vs (cs.map A.c)
 |[],[],_=>trivial
 |[],_::_,h=>by simp at h
 |_::_,[],h=>by simp at h
 |v::vs,c::cs,h=>by
  simp only[j0,List.cons.injEq] at h;exact⟨Rd.qz h.1,jw h.2⟩
theorem aN.yN(h:aN P t i)(σ:List aj)(s:St):∃ z,(zeroValue t).run P w=.ok z w/\cW σ s z.cells.toList (i.zero.map A.c):=by
 obtain⟨b,z,h1,h2,e,d,a,_⟩:=h.info;exact⟨z,by simp[zeroValue,typeInfo,h1,d],jw a⟩
end
def lF:D->Option (List A)
 |.e (.one a)=>some [a]
 |.e (.agg cs)=>some cs
 |_=>none
theorem lK{σ:List aj}{s:St}{v:Value}{d:D}{cs:List A}(h:lF d=some cs)(r:cd σ s v d):cW σ s v.cells.toList cs:=by
 cases d with
 |e x =>
  cases x with
  |one a =>
   cases h;have:=gd.cell r;cases v <;> first|exact⟨r,ab⟩|cases this
  |agg c =>
   cases h;obtain⟨vs,rfl,b⟩:=r;simpa[Value.cells] using b
 |dH xs=>cases h
 |any=>cases h
theorem aM.newVar{P:Program}{o:Oper}{b:Operand->D}{σ:List aj}{E:TypeId}{cs:List A}
  (h:∀ s a,ag σ s->(∀ y,cd σ s (a y) (b y))->∃ v:Value,(execOp a o).run P s.w=((do pure (.value (.pointer (some (<-newVar E v))))):Sem Next).run P s.w/\cW σ s v.cells.toList cs/\(execOp a o).events P s.w #[]=#[]) :
  aM P o b σ (.e (.one (.ptr σ.length 0))) (σ++[.cells E cs]):=by
 intro s a hh hr;obtain⟨v,h1,h2,c⟩:=h s a hh hr;refine⟨.value (.pointer (some ⟨s.w.heap.size,0,none⟩)),s.eD E v.cells.toList,?_,?_,hh.eD h2,.eD s E _ _,by rw[c];exact .nil⟩
 ·rw[h1];simp[Go.newVar,newRow,St.eD]
 ·refine⟨by simp,⟨.pointer (some ⟨s.w.heap.size,0,none⟩),[s.w.heap.size]⟩,s.w.heap.size,?_,rfl,rfl⟩
  simp[St.eD,<-hh.len]
theorem aM.alloc{P:Program}{T:List (Nat×TI)}(f:cz P T){o:Oper}{d:Operand->D}{σ:List aj}{E:TypeId}(h:o.op=.alloc E){i:TI}(hi:aQ T E=some i) :
  aM P o d σ (.e (.one (.ptr σ.length 0))) (σ++[.cells E (i.zero.map A.c)]):=by
 refine .newVar λs g _ _=>?_
 obtain⟨z,a,b⟩:=(f E i hi).yN (w:=s.w) σ s;exact⟨z,by simp[execOp,h,Instr.alloc,a],b,by simp[execOp,h,Instr.alloc,a,Go.newVar,newRow]⟩
theorem aM.box{P:Program}{o:Oper}{a:Operand->D}{σ:List aj}{E:TypeId}{x:Operand}(h:o.op=.box E x){cs:List A}(d:lF (a x)=some cs) :
  aM P o a σ (.e (.one (.ptr σ.length 0))) (σ++[.cells E cs]) :=
 .newVar λs c _ b=>⟨c x,by simp[execOp,h,Instr.box],lK d (b x),by simp[execOp,h,Instr.box,Go.newVar,newRow]⟩
def mX{α:Type}:Nat->List α->Option (List α)
 |0,_=>some []
 |n+1,x::xs=>match mX n xs with|some r=>some (x::r)|none=>none
 |_+1,[]=>none
theorem lN{α:Type}:∀ {n:Nat}{l r:List α},mX n l=some r->r=l.take n/\r.length=n
 |0,l,r,h=>by cases h;simp
 |n+1,[],r,h=>by simp[mX] at h
 |n+1,x::xs,r,h=>by
  simp only[mX] at h;cases a:mX n xs with
  |none=>simp[a] at h
  |some q =>
   simp[a] at h;subst h;obtain⟨c,b⟩:=lN a;simp[<-c,b]
def eW{α:Type}:Nat->List α->Option α
 |_,[]=>none
 |0,x::_=>some x
 |n+1,_::xs=>eW n xs
theorem c9{α:Type}:∀ {n:Nat}{l:List α}{x:α},eW n l=some x->l[n]?=some x
 |_,[],_,h=>by simp[eW] at h
 |0,x::_,_,h=>by simpa[eW] using h
 |n+1,_::xs,_,h=>by simpa using c9 (n:=n) (l:=xs) h
def gh{α:Type}:Nat->List α->List α
 |0,l=>l
 |_+1,[]=>[]
 |n+1,_::xs=>gh n xs
theorem lW{α:Type}:∀ (n:Nat)(l:List α),gh n l=l.drop n
 |0,_=>by simp[gh]
 |_+1,[]=>by simp[gh]
 |n+1,_::xs=>by simp[gh,lW n xs]
def lM(i:TI)(cs:List A):Option E1 :=
 match i.agg with
 |true=>match mX i.size cs with|some r=>some (.agg r)|none=>none
 |false=>match eW 0 cs with|some a=>some (.one a)|none=>none
theorem nN{P:Program}{σ:List aj}{s:St}{t:TypeId}{i:TI}(m:aN P t i){b off:Nat}{vs:List Value}{cs:List A}{e:E1}
  (n:∀ (j:Nat) (v:Value),vs[j]?=some v->s.w.cell? ⟨b,off+j,none⟩=some v) (l:cW σ s vs cs) (c:lM i cs=some e) :
  ∃ v,(loadVar t ⟨b,off,none⟩).run P s.w=.ok v s.w/\kE σ s v e:=by
 simp only[loadVar,bm,m.ja,bP];cases q:i.agg <;> simp only[lM,q] at c
 ·cases f:eW 0 cs with
  |none=>simp[f] at c
  |some a =>
   simp[f] at c;subst c;obtain⟨v,u,k⟩:=l.get (c9 f);refine⟨v,?_,k⟩;have:=n 0 v u;simp at this;simp[run_load,this]
 ·cases f:mX i.size cs with
  |none=>simp[f] at c
  |some r =>
   simp[f] at c;subst c;obtain⟨o,x⟩:=lN f;have d:=l.take i.size;rw[<-o] at d;have p:(vs.take i.size).length=i.size:=by rw[d.length,x]
   have g:=run_loadCells_list (P:=P) s.w ⟨b,off,none⟩ (vs.take i.size) (λj v h=>by
    rw[cO];refine n j v ?_;rw[de] at h;split at h
    ·exact h
    ·cases h)
   rw[p] at g;refine⟨.agg (vs.take i.size).toArray,?_,vs.take i.size,rfl,d⟩;simp[m.run_sizeOf,g]
theorem jb{P:Program}{w:World}{t:TypeId}{i:TI}(d:aN P t i){b off n:Nat}(g:∀ j,j<n->∃ v,w.cell? ⟨b,off+j,none⟩=some v)(c:(if i.agg then i.size else 1)<=n) :
  ∀ e∈(loadVar t ⟨b,off,none⟩).events P w #[],∃ j,j<n/\e=wP b (off+j):=by
 intro e a;simp only[loadVar,Sem.events_bind,d.ja,Result.evThen_ok,events_isAgg] at a;cases f:i.agg
 ·rw[f] at c a;obtain⟨v,k⟩:=g 0 (by simp at c;omega)
  simp only[gm] at k;simp only[gI,aW,wS k] at a;rcases pF.1 a with h|rfl
  ·simp at h
  ·exact⟨0,by simp at c;omega,rfl⟩
 ·rw[f] at c a;simp only[aX] at c;simp only[aX,Sem.events_bind,d.run_sizeOf,Result.evThen_ok,events_sizeOf] at a;have key:∀ e∈(loadCells ⟨b,off,none⟩ i.size).events P w #[],∃ j,j<n/\e=wP b (off+j):=by
   intro e a;rcases pK (P:=P) (λj l=>g j (by omega)) e a with h|⟨j,l,rfl⟩
   ·simp at h
   ·exact⟨j,by omega,rfl⟩
  apply key
  generalize (loadCells ⟨b,off,none⟩ i.size).run P w=r at a;cases r with
  |ok v w'=>simpa using a
  |halt x w'=>simpa using a
theorem pW{i:TI}{cs:List A}{e:E1}(h:lM i cs=some e):(if i.agg then i.size else 1)<=cs.length:=by
 unfold lM at h;cases d:i.agg <;> rw[d] at h
 ·cases cs with
  |nil=>simp[eW] at h
  |cons c cs=>simp
 ·simp only at h;cases a:mX i.size cs with
  |none=>simp[a] at h
  |some r =>
   obtain⟨f,b⟩:=lN a;rw[f,List.length_take] at b;simp only[aX];omega
theorem aM.BM{P:Program}{T:List (Nat×TI)}(z:cz P T){o:Oper}{u:Operand->D}{σ:List aj}{t:TypeId}{x:Operand}(h:o.op=.load t x){l off:Nat}{E:TypeId}{cs:List A}{i:TI}{e:E1}
  (F:u x=.e (.one (.ptr l off))) (H:σ[l]?=some (.cells E cs)) (hi:aQ T t=some i) (p:lM i (gh off cs)=some e):aM P o u σ (.e e) σ:=by
 refine .nA λs G hh hr=>?_
 have h1:=hr x;rw[F] at h1;obtain⟨_,L,b,y,k,C⟩:=h1;obtain⟨q,vs,rfl,B,c,_⟩:=hh.box l _ L H y;simp at k;subst k;rw[lW] at p;obtain⟨v,a,m⟩:=nN (s:=s) (σ:=σ) (P:=P) (z t i hi) (b:=q) (off:=off) (vs:=vs.drop off) (cs:=cs.drop off) (e:=e) (λj v hj=>by
  simp only[World.cell?,B];simpa using hj) (c.drop off) p
 refine⟨v,by simp[execOp,h,C,Instr.loadAt,Instr.sureAddr,a],m,λr d=>?_⟩
 have f:r∈(loadVar t ⟨q,off,none⟩).events P s.w #[]:=by
  have e:execOp G o=(do pure (.value (<-loadVar t ⟨q,off,none⟩))):=by simp[execOp,h,C,Instr.loadAt,Instr.sureAddr]
  rw[e] at d;simpa[a] using d
 have g:(vs.drop off).length=(cs.drop off).length:=(c.drop off).length;obtain⟨j,hj,rfl⟩:=jb (z t i hi) (n:=(vs.drop off).length) (λj hj=>by
  refine⟨(vs.drop off)[j],?_⟩;simp only[World.cell?,B];simp at hj ⊢ <;> omega) (by rw[g];exact pW p) r f
 exact pO (aE y) (by simp)
theorem aM.Fb{P:Program}{T:List (Nat×TI)}(G:cz P T){o:Oper}{B:Operand->D}{σ:List aj}{t:TypeId}{x:Operand}(h:o.op=.load t x){cs:List C}{i:TI}{e:E1}
  (H:B x=.e (.one (.c (.rp cs)))) (hi:aQ T t=some i) (z:lM i (cs.map A.c)=some e):aM P o B σ (.e e) σ:=by
 refine .nA λs E hh hr=>?_
 have h1:=hr x;rw[H] at h1;have h2:=eX h1;generalize g:E x=vx at h2;cases h2
 rename_i b off f q r
 have u:∀ (n:Nat) (ds:List C),(∀ j c,ds[j]?=some c->Rd s.M (f (n+j)) c)->cW σ s ((List.range ds.length).map λj=>f (n+j)) (ds.map A.c):=by
  intro n ds
  induction ds generalizing n with
  |nil=>intro _;trivial
  |cons d ds ih =>
   intro F;rw[cM,wG];refine⟨F 0 d rfl,?_⟩;have:=ih (n+1) (λj c hj=>by have:=F (j+1) c (by simpa using hj);rwa [show n+1+j=n+(j+1) by omega])
   simpa[Function.comp_def,kZ,j3 1] using this
 obtain⟨v,k,p⟩:=nN (s:=s) (σ:=σ) (P:=P) (G t i hi) (b:=b) (off:=off) (vs:=(List.range cs.length).map λj=>f (0+j)) (cs:=cs.map A.c) (e:=e) (λj v hj=>by
  simp only[mb,aw] at hj
  by_cases a:j<cs.length
  ·simp[a] at hj;subst hj;exact hh.mem _ _ _ (q j cs[j] (ai a))
  ·simp[a] at hj) (u 0 cs (by simpa using r)) z
 refine⟨v,by simp[execOp,h,g,Instr.loadAt,Instr.sureAddr,k],p,λy l=>?_⟩
 have m:y∈(loadVar t ⟨b,off,none⟩).events P s.w #[]:=by
  have e:execOp E o=(do pure (.value (<-loadVar t ⟨b,off,none⟩))):=by simp[execOp,h,g,Instr.loadAt,Instr.sureAddr]
  rw[e] at l;simpa[k] using l
 obtain⟨j,hj,rfl⟩:=jb (G t i hi) (n:=cs.length) (λj hj=>⟨f j,hh.mem _ _ _ (q j cs[j] (ai hj))⟩) (by have:=pW z;simpa using this) y m
 exact yc (q j cs[j] (ai hj))
def dL{α:Type}:Nat->List α->List α->Option (List α)
 |0,[],l=>some l
 |0,n::ns,_::cs=>match dL 0 ns cs with|some r=>some (n::r)|none=>none
 |k+1,ns,c::cs=>match dL k ns cs with|some r=>some (c::r)|none=>none
 |_,_,[]=>none
theorem ov{α:Type}:∀ {off:Nat}{new l r:List α},dL off new l=some r->off+new.length<=l.length/\r=l.take off++new++l.drop (off+new.length)
 |0,[],l,r,h=>by cases l <;> cases h <;> simp
 |0,n::ns,c::cs,r,h=>by
  simp only[dL] at h;cases a:dL 0 ns cs with
  |none=>simp[a] at h
  |some q =>
   simp[a] at h;subst h;obtain⟨d,b⟩:=ov a;refine⟨by simp at d ⊢;omega,?_⟩
   simp at b;simp[b]
 |0,n::ns,[],r,h=>by simp[dL] at h
 |k+1,ns,c::cs,r,h=>by
  simp only[dL] at h;cases a:dL k ns cs with
  |none=>simp[a] at h
  |some q =>
   simp[a] at h;subst h;obtain⟨d,b⟩:=ov a;refine⟨by simp;omega,?_⟩
   rw[show k+1+ns.length=(k+ns.length)+1 by omega]
   simp[b]
 |k+1,ns,[],r,h=>by simp[dL] at h
theorem cW.dL{σ:List aj}{s:St}{off:Nat}{vs new:List Value}{cs Mb r:List A}(h:AM.dL off Mb cs=some r)(h1:cW σ s vs cs)(h2:cW σ s new Mb) :
  off+new.length<=vs.length/\cW σ s (vs.take off++new++vs.drop (off+new.length)) r:=by
 obtain⟨k1,rfl⟩:=ov h;rw[h2.length,h1.length];refine⟨k1,((h1.take off).append h2).append (by have:=h1.drop (off+Mb.length);exact this)⟩
theorem aM.store{P:Program}{T:List (Nat×TI)}(G:cz P T){o:Oper}{z:Operand->D}{σ:List aj}{t:TypeId}{x y:Operand}(h:o.op=.store t x y){l off:Nat}{E:TypeId}{cs new kU:List A}{i:TI}
  (O:z x=.e (.one (.ptr l off))) (I:σ[l]?=some (.cells E cs)) (hi:aQ T t=some i) (K:lF (z y)=some new) (C:new.length=i.size) (M:dL off new cs=some kU) :
  aM P o z σ .any (σ.set l (.cells E kU)):=by
 intro s d hh hr;have h1:=hr x;rw[O] at h1;obtain⟨_,L,b,u,g,H⟩:=h1;obtain⟨p,vs,rfl,J,B,m⟩:=hh.box l _ L I u;simp at g;subst g;have c:=lK K (hr y);obtain⟨k1,N⟩:=cW.dL M B c;obtain⟨w1,w2⟩:=hh.write I u rfl N;refine⟨.skip,_,?_,rfl,w1,w2,?_⟩
 rotate_left
 ·intro F a;have f:(d y).cells.size=i.size:=by rw[<-C,<-c.length,fU]
  have e:execOp d o=(do storeVar t ⟨p,off,none⟩ (d y);pure .skip):=by simp[execOp,h,H,Instr.storeAt,Instr.sureAddr]
  rw[e] at a;have n:F∈(storeCells ⟨p,off,none⟩ (d y).cells.toList).events P s.w #[]:=by
   simp only[storeVar,Sem.events_bind,(G t i hi).run_sizeOf,f,Result.evThen_ok,events_sizeOf,bY,en,aW,bm,bP,Sem.events_pure] at a;generalize (storeCells ⟨p,off,none⟩ (d y).cells.toList).run P s.w=r at a;cases r with
   |ok v w'=>simpa using a
   |halt x w'=>simpa using a
  rcases eh (d y).cells.toList 0 vs.toArray s.w #[] J (by simpa using k1) c.cell F n with q|⟨j,_,_,rfl⟩
  ·simp at q
  ·exact mv (aE u) (by simp) (m _)
 have k:=run_storeCells_at P p off E (d y).cells.toList 0 vs.toArray s.w J (by simpa using k1) (c.cell)
 have f:(d y).cells.size=i.size:=by rw[<-C,<-c.length,fU]
 simp only[gm] at k;simp[execOp,h,H,Instr.storeAt,Instr.sureAddr,storeVar,(G t i hi).run_sizeOf,f,k]
def iz(T:List (Nat×TI))(t:TypeId)(f:Nat):Option (Nat×TI) :=
 match aQ T t with
 |some i=>match i.desc with
  |.struct fs=>match eW f fs.toList with
   |some fl=>match aQ T fl.type with
    |some j=>cond (Nat.beq j.size 0) none (some (fl.offset,j))
    |none=>none
   |none=>none
  |_=>none
 |none=>none
theorem qK{P:Program}{T:List (Nat×TI)}(b:cz P T){t:TypeId}{f off:Nat}{j:TI}(h:iz T t f=some (off,j)) :
  ∃ i fs fl,aQ T t=some i/\i.desc=.struct fs/\fs[f]?=some fl/\fl.offset=off/\aQ T fl.type=some j/\j.size≠0/\aN P t i/\aN P fl.type j:=by
 unfold iz at h;split at h
 ·rename_i i hi
  split at h
  ·rename_i fs QO
   split at h
   ·rename_i fl W6
    split at h
    ·rename_i d c
     cases a:Nat.beq d.size 0 <;> simp[a] at h
     obtain⟨rfl,rfl⟩:=h;refine⟨i,fs,fl,hi,QO,by simpa using c9 W6,rfl,c,?_,b _ _ hi,b _ _ c⟩
     intro e;rw[e] at a;cases a
    ·cases h
   ·cases h
  ·cases h
 ·cases h
theorem lk{P:Program}{T:List (Nat×TI)}(e:cz P T){t:TypeId}{f off:Nat}{j:TI}(h:iz T t f=some (off,j))(b o:Nat)(w:World) :
  (Instr.fieldAt t (.pointer (some ⟨b,o,none⟩)) f).run P w=.ok (.pointer (some ⟨b,o+off,none⟩)) w:=by
 obtain⟨i,fs,m,l,g,d,k,n,a,c,g2⟩:=qK e h;simp[Instr.fieldAt,c.run_underlying,g,d,Instr.sureAddr,fieldPlace,g2.run_sizeOf,a,cO,k]
theorem mN{P:Program}{T:List (Nat×TI)}(e:cz P T){t:TypeId}{f off:Nat}{j:TI}(h:iz T t f=some (off,j))(b o:Nat)(w:World)(es:Array Event) :
  (Instr.fieldAt t (.pointer (some ⟨b,o,none⟩)) f).events P w es=es:=by
 obtain⟨i,fs,l,k,g,d,n,m,a,c,g2⟩:=qK e h;simp[Instr.fieldAt,c.run_underlying,g,d,Instr.sureAddr,fieldPlace,g2.run_sizeOf,a]
theorem aM.qa{P:Program}{T:List (Nat×TI)}(g:cz P T){o:Oper}{d:Operand->D}{σ:List aj}{t:TypeId}{x:Operand}{f:Nat}(h:o.op=.fieldAddr t x f){l off k:Nat}{j:TI}
  (m:d x=.e (.one (.ptr l off))) (c:iz T t f=some (k,j)):aM P o d σ (.e (.one (.ptr l (off+k)))) σ:=by
 refine .quiet λs q hh hr=>?_
 have h1:=hr x;rw[m] at h1;obtain⟨n,L,b,p,a,i⟩:=h1;exact⟨.pointer (some ⟨b,off+k,none⟩),by simp[execOp,h,i,lk g c],⟨n,L,b,p,a,rfl⟩,by simp[execOp,h,i,mN g c]⟩
theorem aM.rl{P:Program}{T:List (Nat×TI)}(l:cz P T){o:Oper}{i:Operand->D}{σ:List aj}{t:TypeId}{x:Operand}{f:Nat}(h:o.op=.fieldAddr t x f){cs:List C}{k:Nat}{j:TI}
  (m:i x=.e (.one (.c (.rp cs)))) (g:iz T t f=some (k,j)):aM P o i σ (.e (.one (.c (.rp (gh k cs))))) σ:=by
 refine .quiet λs p hh hr=>?_
 have h1:=hr x;rw[m] at h1;have h2:=eX h1;generalize a:p x=vx at h2;cases h2
 rename_i b o q n d
 refine⟨.pointer (some ⟨b,o+k,none⟩),by simp[execOp,h,a,lk l g],?_,by simp[execOp,h,a,mN l g]⟩
 rw[lW];refine Rd.rp b (o+k) (λj=>q (k+j)) (λj c hj=>?_) (λj c hj=>?_)
 ·rw[show o+k+j=o+(k+j) by omega];exact n (k+j) c (by simpa using hj)
 ·exact d (k+j) c (by simpa using hj)
theorem FP{σ:List aj}{s:St}{P:Program}{t:TypeId}{i:TI}(g:aN P t i){vs:List Value}{cs:List A}(r:cW σ s vs cs){off:Nat}{e:E1}(b:lM i (gh off cs)=some e)(w:World) :
  ∃ v,(part t vs.toArray off).run P w=.ok v w/\kE σ s v e/\∀ es,(part t vs.toArray off).events P w es=es:=by
 simp only[part,bm,g.ja,bP,Sem.events_bind,Result.evThen_ok,events_isAgg];rw[lW] at b;cases k:i.agg <;> simp only[lM,k] at b
 ·cases c:eW 0 (cs.drop off) with
  |none=>simp[c] at b
  |some a =>
   simp[c] at b;subst b;obtain⟨v,h,f⟩:=(r.drop off).get (c9 c);simp at h;refine⟨v,?_,f,λes=>?_⟩ <;> simp[h]
 ·cases c:mX i.size (cs.drop off) with
  |none=>simp[c] at b
  |some q =>
   simp[c] at b;subst b;obtain⟨j,l⟩:=lN c;have d:=(r.drop off).take i.size;rw[<-j] at d;refine⟨.agg (vs.toArray.extract off (off+i.size)),by simp[g.run_sizeOf],⟨(vs.drop off).take i.size,?_,d⟩,λes=>by simp⟩
   simp
theorem aM.field{P:Program}{T:List (Nat×TI)}(y:cz P T){o:Oper}{g:Operand->D}{σ:List aj}{t:TypeId}{x:Operand}{f:Nat}(h:o.op=.field t x f){cs:List A}{k:Nat}{j:TI}{e:E1}
  (r:g x=.e (.agg cs)) (q:iz T t f=some (k,j)) (u:lM j (gh k cs)=some e):aM P o g σ (.e e) σ:=by
 refine .quiet λs B hh hr=>?_
 have h1:=hr x;rw[r] at h1;obtain⟨vs,p,c⟩:=h1;obtain⟨i,fs,fl,h1,h2,m,n,C,z,l,g2⟩:=qK y q;obtain⟨v,b,a,d⟩:=FP g2 c u s.w;exact⟨v,by simp[execOp,h,p,Instr.field,l.run_underlying,h2,m,asAgg,n,b],a,by simp[execOp,h,p,Instr.field,l.run_underlying,h2,m,asAgg,n,d]⟩
theorem aM.rm{P:Program}{o:Oper}{c:Operand->D}{σ:List aj}{x:Operand}(h:o.op=.nilCheck x){l off:Nat}(f:c x=.e (.one (.ptr l off))):aM P o c σ (.e (.one (.ptr l off))) σ:=by
 refine .quiet λs g hh hr=>?_
 have h1:=hr x;rw[f] at h1;have a:=h1;obtain⟨j,L,b,k,i,d⟩:=h1;exact⟨g x,by simp[execOp,h,d],a,by simp[execOp,h,d]⟩
theorem aM.tC{P:Program}{o:Oper}{b:Operand->D}{σ:List aj}{x:Operand}(h:o.op=.nilCheck x){cs:List C}(f:b x=.e (.one (.c (.rp cs)))):aM P o b σ (.e (.one (.c (.rp cs)))) σ:=by
 refine .quiet λs d hh hr=>?_
 have h1:=hr x;rw[f] at h1;have h2:=eX h1;generalize a:d x=vx at h2;cases h2;exact⟨_,by simp[execOp,h,a];rfl,by rw[<-a];exact h1,by simp[execOp,h,a]⟩
theorem C6(new:List Value):∀ (j off:Nat)(cs:Array Value),off+j+new.length<=cs.size ->
  ((new.zipIdx j).foldl (λcs (x:Value×Nat)=>cs.setIfInBounds (off+x.2) x.1) cs).toList=cs.toList.take (off+j)++new++cs.toList.drop (off+j+new.length):=by
 induction new with
 |nil=>intro j off cs _;simp
 |cons v vs ih =>
  intro j off cs h;simp only[List.zipIdx_cons,ir];rw[ih (j+1) off _ (by simp at h ⊢;omega)]
  have:=list_seg_step cs.toList (off+j) v vs (by simp at h ⊢;omega)
  simpa[ly,kZ] using this
def vJ(place:Nat->Option (Nat×Nat)):List (Nat×List A)->List A->Option (List A)
 |[],cs=>some cs
 |(i,new)::rest,cs=>match place i with
  |some (off,size)=>match Nat.beq new.length size with
   |true=>match dL off new cs with
    |some r=>vJ place rest r
    |none=>none
   |false=>none
  |none=>none
theorem tU{σ:List aj}{s:St}{place place':Nat->Option (Nat×Nat)}(u:∀ i p,place i=some p->place' i=some p):∀ {parts:List (Nat×List A)}{vparts:List (Nat×Value)}{cs r:List A}{vs:Array Value},
  vJ place parts cs=some r->vparts.map (·.1)=parts.map (·.1)->(∀ (k:Nat) (p:Nat×List A) (q:Nat×Value),parts[k]?=some p->vparts[k]?=some q->cW σ s q.2.cells.toList p.2)->cW σ s vs.toList cs ->
  ∃ g,Instr.fill place' vs vparts=some g/\cW σ s g.toList r
 |[],[],cs,r,vs,h,_,_,c=>by cases h;exact⟨vs,rfl,c⟩
 |[],_::_,cs,r,vs,h,a,_,c=>by simp at a
 |_::_,[],cs,r,vs,h,a,_,c=>by simp at a
 |(i,new)::rest,(j,v)::OS,cs,r,vs,h,a,w,c=>by
  simp only[j0,List.cons.injEq] at a;obtain⟨rfl,a⟩:=a;simp only[vJ] at h;cases b:place j with
  |none=>simp[b] at h
  |some p =>
   obtain⟨off,size⟩:=p;simp only[b] at h;cases o:Nat.beq new.length size with
   |false=>simp[o] at h
   |true =>
    simp only[o] at h;cases n:dL off new cs with
    |none=>simp[n] at h
    |some q =>
     simp only[n] at h;have t:=w 0 (j,new) (j,v) rfl rfl;simp only at t;have C:=t.length;have f:new.length=size:=aO o;obtain⟨k1,z⟩:=cW.dL n c t;have y:=C6 v.cells.toList 0 off vs (by simpa using k1)
     have d:v.cells.size=size:=by rw[<-f,<-C,fU]
     have B:off+size<=vs.size:=by simpa[d] using k1
     obtain⟨g,l,m⟩:=tU (σ:=σ) (s:=s) u (parts:=rest) (vparts:=OS) (cs:=q) (r:=r)
      (vs:=v.cells.zipIdx.foldl (λcs (x:Value×Nat)=>cs.setIfInBounds (off+x.2) x.1) vs) h a (λk p q l m=>w (k+1) p q (by simpa using l) (by simpa using m)) (by
       have e:(v.cells.zipIdx.foldl (λcs (x:Value×Nat)=>cs.setIfInBounds (off+x.2) x.1) vs).toList=((v.cells.toList.zipIdx 0).foldl (λcs (x:Value×Nat)=>cs.setIfInBounds (off+x.2) x.1) vs).toList:=by
        rw[<-Array.foldl_toList,Array.toList_zipIdx]
       rw[e,y];simpa using z)
     refine⟨g,?_,m⟩;simp only[Instr.fill,u _ _ b,d,bY,en,k5,Bool.false_or,av];rw[ak (by simp;omega)]
     exact l
def ow(T:List (Nat×TI)):List Field->Option (List (Nat×Nat))
 |[]=>some []
 |f::fs=>match aQ T f.type with
  |some j=>match ow T fs with
   |some r=>some ((f.offset,j.size)::r)
   |none=>none
  |none=>none
theorem tV{P:Program}{T:List (Nat×TI)}(c:cz P T):∀ {fs:List Field}{r:List (Nat×Nat)},ow T fs=some r->fs.mapM (λf=>(P.info? f.type).map λi=>(f.offset,i.size))=some r
 |[],r,h=>by cases h;simp
 |f::fs,r,h=>by
  simp only[ow] at h;cases a:aQ T f.type with
  |none=>simp[a] at h
  |some j =>
   cases b:ow T fs with
   |none=>simp[a,b] at h
   |some q =>
    simp[a,b] at h;subst h;obtain⟨d,z,e,g,_⟩:=(c _ _ a).info;simp[jo,e,g,tV c b]
def nO(a:Operand->D):List (Nat×Operand)->Option (List (Nat×List A))
 |[]=>some []
 |(i,x)::r=>match lF (a x) with
  |some cs=>match nO a r with
   |some q=>some ((i,cs)::q)
   |none=>none
  |none=>none
theorem qL{σ:List aj}{s:St}{e:Operand->Value}{a:Operand->D}(g:∀ y,cd σ s (e y) (a y)):∀ {l:List (Nat×Operand)}{q:List (Nat×List A)},nO a l=some q ->
  (l.map λ(i,x)=>(i,e x)).map (·.1)=q.map (·.1)/\∀ (k:Nat) (p:Nat×List A) (u:Nat×Value),q[k]?=some p->(l.map λ(i,x)=>(i,e x))[k]?=some u->cW σ s u.2.cells.toList p.2
 |[],q,h=>by cases h;simp
 |(i,x)::r,q,h=>by
  simp only[nO] at h;cases b:lF (a x) with
  |none=>simp[b] at h
  |some cs =>
   cases f:nO a r with
   |none=>simp[b,f] at h
   |some q' =>
    simp[b,f] at h;subst h;obtain⟨j,m⟩:=qL g f;refine⟨by simpa using j,λk p u c d=>?_⟩
    cases k with
    |zero=>simp at c d;subst c d;exact lK b (g x)
    |succ k=>exact m k p u (by simpa using c) (by simpa using d)
def xd(T:List (Nat×TI))(a:Operand->D)(t:TypeId)(parts:List (Nat×Operand)):Option (List A) :=
 match aQ T t with
 |some i=>match i.desc with
  |.struct fs=>match ow T fs.toList with
   |some pl=>match nO a parts with
    |some ps=>vJ (λk=>eW k pl) ps (i.zero.map A.c)
    |none=>none
   |none=>none
  |_=>none
 |none=>none
theorem aM.build{P:Program}{T:List (Nat×TI)}(g:cz P T){o:Oper}{j:Operand->D}{σ:List aj}{t:TypeId}{parts:Array (Nat×Operand)}(h:o.op=.build t parts){cs:List A}
  (a:xd T j t parts.toList=some cs):aM P o j σ (.e (.agg cs)) σ:=by
 refine .quiet λs C hh hr=>?_
 unfold xd at a;cases hi:aQ T t with
 |none=>simp[hi] at a
 |some i =>
  simp only[hi] at a;cases l:i.desc with
  |struct fs =>
   simp only[l] at a;cases d:ow T fs.toList with
   |none=>simp[d] at a
   |some pl =>
    simp only[d] at a;cases c:nO j parts.toList with
    |none=>simp[c] at a
    |some ps =>
     simp only[c] at a;obtain⟨y,z,n,I,H,r,u,G,F⟩:=(g t i hi).info;obtain⟨q,p2⟩:=qL (σ:=σ) (s:=s) hr c;obtain⟨f,E,v⟩:=tU (σ:=σ) (s:=s) (place':=λk=>pl.toArray[k]?) (λk p B=>by simpa using c9 B) a q p2 (jw u)
     have m:P.built t (parts.map λ(i,x)=>(i,C x)).toList=some f:=by
      unfold Program.built;have b:=(g t i hi).Nv;rw[l] at b;simp only[n,b,r,tV g d];simpa using E
     refine⟨.agg f,?_,⟨f.toList,by simp,v⟩,?_⟩
     ·simp only[execOp,h,bm,run_build s.w t _ f m,bP,cY]
     ·simp only[execOp,h,Sem.events_bind,run_build s.w t _ f m,Result.evThen_ok,Sem.events_pure];exact bR.build s.w #[]
  |_=>simp[l] at a
theorem Md{k n i j:Nat}(hi:i<n)(b:j<k):i*k+j<n*k:=by
 have a:(i+1)*k<=n*k:=ee k (by omega)
 rw[eT] at a;omega
theorem I8{k i j:Nat}(a:j<k):(i*k+j) / k=i:=by
 rw[iX,Nat.mul_add_div (by omega),Nat.div_eq_of_lt a];omega
theorem I9{k i j:Nat}(a:j<k):(i*k+j) % k=j:=by
 rw[iX,Nat.mul_add_mod,Nat.mod_eq_of_lt a]
theorem Flat.nil{M:Mem}{k:Nat}{es:Nat->List C}:Flat M k 0 es []:=⟨by simp,by omega,by omega⟩
def cj(n:Nat)(f g:Nat->List C):Nat->List C:=λi=>if i<n then f i else g (i-n)
theorem Flat.append{M:Mem}{k n m:Nat}{es es':Nat->List C}{vs uV:List Value}(h:Flat M k n es vs)(b:Flat M k m es' uV):Flat M k (n+m) (cj n es es') (vs++uV):=by
 refine⟨by simp[h.len,b.len,eT],λi hi=>?_,λi hi j c hj=>?_⟩
 ·simp only[cj];split
  ·rename_i a;exact h.width i a
  ·exact b.width _ (by omega)
 ·simp only[cj] at hj;split at hj
  ·rename_i a
   obtain⟨v,h1,h2⟩:=h.rd i a j c hj;refine⟨v,?_,h2⟩;rw[bc]
   ·exact h1
   ·exact(aD.1 h1).1
  ·rename_i d
   obtain⟨v,h1,h2⟩:=b.rd _ (by omega) j c hj
   refine⟨v,?_,h2⟩;have e1:i*k+j=vs.length+((i-n)*k+j):=by
    rw[h.len,<-kZ,<-eT,wM (by omega)]
   rw[e1,ck (by omega)]
   rw[show vs.length+((i-n)*k+j)-vs.length=(i-n)*k+j by omega]
   exact h1
theorem Flat.cell{M:Mem}{k n:Nat}{es:Nat->List C}{vs:List Value}(h:Flat M k n es vs):∀ v∈vs,v.oneCell'=true:=by
 intro v c;obtain⟨p,a,rfl⟩:=cJ c;rw[h.len] at a;have b:0<k:=by
  rcases iq k with rfl|b
  ·simp at a
  ·exact b
 have hi:p / k<n:=pv (by rw[iX];exact a)
 have hj:p % k<k:=gU _ b;have d:=h.width _ hi;obtain⟨v,h1,h2⟩:=h.rd (p / k) hi (p % k) ((es (p / k))[p % k]'(by omega)) (ai (by omega))
 have e:p / k*k+p % k=p:=py p k;rw[e] at h1;rw[ai (by rw[h.len];exact a)] at h1
 simp at h1;rw[h1];have:=Rd.cell h2;cases v <;> simp_all [cg,Value.oneCell']
theorem Rd.flat{M:Mem}{v:Value}{t:Bool}{k n:Nat}{es:Nat->List C}(h:Rd M v (.sl t k n es)) :
  ∃ a cap vs,v=.slice a n cap/\n<=cap/\cap<=9223372036854775807/\(t=true->cap=n)/\Flat M k n es vs/\∀ p u,vs[p]?=some u->∃ b off,a=some ⟨b,off,none⟩/\M b (off+p)=some u:=by
 cases h with
 |@sl a _ cap _ _ _ b off f l x s g w r q =>
  refine⟨a,cap,(List.range (n*k)).map λp=>f (p / k) (p % k),rfl,l,x,s,⟨by simp,g,?_⟩,?_⟩
  ·intro i hi j c hj;have e:j<k:=by
    rw[<-g i hi];exact(aD.1 hj).1
   refine⟨f i j,?_,q i hi j c hj⟩;simp[Md hi e,I8 e,I9 e]
  ·intro p u m;simp only[mb] at m
   by_cases d:p<n*k
   ·simp[d] at m;subst m;have o:0<k:=by
     rcases iq k with rfl|g
     ·simp at d
     ·exact g
    have hi:p / k<n:=pv (by rw[iX];exact d)
    have hj:p % k<k:=gU _ o;have y:=g _ hi;have:=r (p / k) hi (p % k) ((es (p / k))[p % k]'(by omega)) (ai (by omega))
    refine⟨b,off,w (Nat.lt_of_le_of_lt (fH _) hi),?_⟩;rw[show off+p=off+p / k*k+p % k by rw[kZ,py p k]]
    exact this
   ·simp[d] at m
theorem Rd.ny{M:Mem}{k n:Nat}{es:Nat->List C}{vs:List Value}(h:Flat M k n es vs){a:Option Addr}{b off cap:Nat}{t:Bool}(g:0<n->a=some ⟨b,off,none⟩)(d:n<=cap)(l:cap<=9223372036854775807)(f:t=true->cap=n)
  (e:∀ p u,vs[p]?=some u->M b (off+p)=some u):Rd M (.slice a n cap) (.sl t k n es):=by
 refine .sl b off (λi j=>(vs[i*k+j]?).getD undef) d l f h.width g (λi hi j c hj=>?_) (λi hi j c hj=>?_)
 ·obtain⟨v,h1,h2⟩:=h.rd i hi j c hj;rw[h1,show off+i*k+j=off+(i*k+j) by omega]
  exact e _ _ h1
 ·obtain⟨v,h1,h2⟩:=h.rd i hi j c hj;rw[h1];exact h2
theorem dj{P:Program}{σ:List aj}{s:St}(g:ag σ s){v:Value}{t:Bool}{k n:Nat}{es:Nat->List C}(h:Rd s.M v (.sl t k n es)) :
  ∃ vs,Flat s.M k n es vs/\(Builtin.firstCells k n v).run P s.w=.ok vs.toArray s.w/\Builtin.lenOf v=pure n:=by
 obtain⟨a,cap,vs,rfl,e,p,o,f,d⟩:=h.flat;refine⟨vs,f,?_,rfl⟩;have l:vs.length=n*k:=f.len;cases a with
 |none =>
  have:vs=[]:=by
   cases vs with
   |nil=>rfl
   |cons u q=>obtain⟨b,off,c,_⟩:=d 0 u rfl;cases c
  subst this;rfl
 |some ad =>
  simp only[Builtin.firstCells];rw[<-l];refine run_loadCells_list s.w ad vs λj u i=>?_
  obtain⟨b,off,c,m⟩:=d j u i;cases c;rw[cO];exact g.mem _ _ _ m
theorem aM.E9{P:Program}{T:List (Nat×TI)}(p:cz P T){o:Oper}{f:Operand->D}{σ:List aj}{t:TypeId}{x y:Operand}(h:o.op=.index t x y){l:List UInt8}{j:Int}{k:IntKind}{i:TI}{m:Nat}(hi:aQ T t=some i)(q:i.desc=.string)
  (r:f x=.e (.one (.c (.str l)))) (u:f y=.e (.one (.c (.int k j)))) (hj:j=m) (z:m<l.length):aM P o f σ (.e (.one (.c (.int .u8 (l[m]).toNat)))) σ:=by
 refine .quiet λs n hh hr=>?_
 have h1:=hr x;have h2:=hr y;rw[r] at h1;rw[u] at h2
 replace h1:=eX h1
 replace h2:=eX h2
 generalize a:n x=vx at h1;generalize d:n y=vy at h2;cases h1 with
 |@str sb _ v hl =>
 cases h2;subst v;have g:sb[m]?=some (sb.data.toList[m]):=by
  have hm':m<sb.size:=by have e:sb.data.toList.length=sb.size:=fU;omega
  rw[getElem?_pos sb m hm']
  congr 1
 refine⟨.int .u8 (sb.data.toList[m]).toNat,?_,Rd.int ?_,?_⟩
 rotate_left 2
 ·have b:=(p t i hi).run_underlying (w:=s.w);rw[q] at b;simp[execOp,h,a,d,Instr.index,asIntOf,b,hj,g]
 ·have b:=(p t i hi).run_underlying (w:=s.w);rw[q] at b;simp[execOp,h,a,d,Instr.index,asIntOf,b,hj,g]
 ·have:=(sb.data.toList[m]).toNat_lt;simp only[aJ];omega
theorem aM.indexAddr{P:Program}{T:List (Nat×TI)}(F:cz P T){o:Oper}{u:Operand->D}{σ:List aj}{t:TypeId}{x y:Operand}(h:o.op=.indexAddr t x y){i g:TI}{E:TypeId}(hi:aQ T t=some i)(J:i.desc=.slice E)(I:aQ T E=some g)
  {tt:Bool} {n:Nat} {es:Nat->List C} {j:Int} {k:IntKind} {m:Nat} (L:∀ s v,cd σ s v (u x)->Rd s.M v (.sl tt g.size n es)) (H:u y=.e (.one (.c (.int k j)))) (hj:j=m) (d:m<n) :
  aM P o u σ (.e (.one (.c (.rp (es m))))) σ:=by
 refine .quiet λs G hh hr=>?_
 have h1:=L s _ (hr x);have h2:=hr y;rw[H] at h2
 replace h2:=eX h2
 generalize r:G x=vx at h1;generalize z:G y=vy at h2;cases h2;cases h1 with
 |@sl a _ cap _ _ _ b off f B Q N O K hm' LK =>
 have l:0<n:=by omega
 have A:=(F t i hi).run_underlying (w:=s.w);rw[J] at A;refine⟨.pointer (some ⟨b,off+m*g.size,none⟩),?_,Rd.rp b (off+m*g.size) (f m) (λq c p=>hm' m d q c p) (λq c p=>LK m d q c p),?_⟩ <;>
 simp[execOp,h,r,z,Instr.indexAt,asIntOf,A,hj,K l,(F E g I).run_sizeOf,cO,d]
theorem aM.Ow{P:Program}{T:List (Nat×TI)}(p:cz P T){o:Oper}{f:Operand->D}{σ:List aj}{x:Operand}{b:Array TypeId}{t:TypeId}(h:o.op=.call { callee:=.builtin .len,args:=#[x],argTypes:=b })(m:b[0]?=some t){i:TI}{E:TypeId}(hi:aQ T t=some i)(q:i.desc=.slice E)
  {tt:Bool} {k n:Nat} {es:Nat->List C} (l:∀ s v,cd σ s v (f x)->Rd s.M v (.sl tt k n es)):aM P o f σ (.e (.one (.c (.int .i64 n)))) σ:=by
 refine .quiet λs y hh hr=>?_
 obtain⟨a,cap,vs,r,j,u,_⟩:=(l s _ (hr x)).flat;have g:=(p t i hi).run_underlying (w:=s.w);rw[q] at g;have d:b[0]?=some t:=m;refine⟨.int .i64 n,?_,Rd.int (by simp only[aJ];omega),?_⟩ <;>
 simp[execOp,h,resolve,invoke,builtin,Builtin.len_,r,g,goInt,d]
theorem aM.Lv{P:Program}{T:List (Nat×TI)}(q:cz P T){o:Oper}{g:Operand->D}{σ:List aj}{x:Operand}{a:Array TypeId}{t:TypeId}(h:o.op=.call { callee:=.builtin .len,args:=#[x],argTypes:=a })(n:a[0]?=some t){i:TI}(hi:aQ T t=some i)(r:i.desc=.string)
  {l:List UInt8} (k:g x=.e (.one (.c (.str l)))):aM P o g σ (.e (.one (.c (.int .i64 l.length)))) σ:=by
 refine .quiet λs p hh hr=>?_
 have h1:=hr x;rw[k] at h1
 replace h1:=eX h1
 generalize f:p x=vx at h1;cases h1 with
 |@str sb _ m hl =>
 have j:=(q t i hi).run_underlying (w:=s.w);rw[r] at j;have b:a[0]?=some t:=n;have d:sb.size=l.length:=by rw[<-m];exact fU.symm
 refine⟨.int .i64 l.length,?_,Rd.int (by simp only[aJ];omega),?_⟩ <;>
 simp[execOp,h,resolve,invoke,builtin,Builtin.len_,f,j,goInt,b,d]
def St.newRow(s:St)(E:TypeId)(vs:List Value):St :=
 { β:=s.β,M:=λb o=>if b=s.w.heap.size then vs[o]? else s.M b o,w:=s.w.alloc (.cells vs.toArray E),own:=s.own }
theorem ag.newRow{σ:List aj}{s:St}(h:ag σ s)(E:TypeId)(vs:List Value):ag σ (s.newRow E vs)/\Step σ s σ (s.newRow E vs):=by
 refine h.grow (by simp) (λb c=>b7 _ _ c) (λb c o=>by simp[show b≠s.w.heap.size by omega]) (λb c o v a=>?_) rfl rfl rfl
 by_cases e:b=s.w.heap.size
 ·subst e;simp at a;show World.cell? (s.w.alloc (.cells vs.toArray E)) ⟨s.w.heap.size,o,none⟩=some v;unfold World.cell?;simp only[cU];simpa using a
 ·simp only[e,aW] at a;have:=h.block a;omega
theorem C7(s:St)(E:TypeId)(vs:List Value):∀ p u,vs[p]?=some u->(s.newRow E vs).M s.w.heap.size (0+p)=some u:=by
 intro p u h;simpa[St.newRow] using h
def fW:List A->Option (List C)
 |[]=>some []
 |.c c::r=>match fW r with|some q=>some (c::q)|none=>none
 |.vec _ k n es::r=>match fW r with|some q=>some (.sl false k n es::q)|none=>none
 |_::_=>none
theorem kq{σ:List aj}{s:St}:∀ {cs:List A}{r:List C}{vs:List Value},fW cs=some r->cW σ s vs cs->cW σ s vs (r.map A.c)
 |[],r,vs,h,a=>by cases h;exact a
 |_::_,_,[],_,a=>a.elim
 |.c c::al,r,v::vs,h,a=>by
  simp only[fW] at h;cases b:fW al with
  |none=>simp[b] at h
  |some q=>simp[b] at h;subst h;exact⟨a.1,kq b a.2⟩
 |.vec l k n es::al,r,v::vs,h,a=>by
  simp only[fW] at h;cases b:fW al with
  |none=>simp[b] at h
  |some q=>simp[b] at h;subst h;exact⟨a.1.1,kq b a.2⟩
 |.ptr l o::al,r,v::vs,h,a=>by simp[fW] at h
 |.ref l::al,r,v::vs,h,a=>by simp[fW] at h
 |.bp l w::al,r,v::vs,h,a=>by simp[fW] at h
 |.any::al,r,v::vs,h,a=>by simp[fW] at h
def qM{α:Type}(k:Nat):Nat->List α->Option (List (List α))
 |0,[]=>some []
 |0,_::_=>none
 |n+1,l=>match mX k l with
  |some c=>match qM k n (gh k l) with
   |some r=>some (c::r)
   |none=>none
  |none=>none
theorem cW.closed{σ:List aj}{s:St}:∀ {vs:List Value}{cs:List C},cW σ s vs (cs.map A.c)->∀ (j:Nat)(c:C),cs[j]?=some c->∃ v,vs[j]?=some v/\Rd s.M v c:=by
 intro vs cs h j c hj;obtain⟨v,h1,h2⟩:=h.get (j:=j) (a:=.c c) (by simp[hj])
 exact⟨v,h1,h2⟩
theorem vK{M:Mem}{k:Nat}:∀ {n:Nat}{cs:List C}{es:List (List C)}{vs:List Value},qM k n cs=some es->vs.length=cs.length->(∀ (j:Nat)(c:C),cs[j]?=some c->∃ v,vs[j]?=some v/\Rd M v c)->es.length=n/\Flat M k n (λi=>es.getD i []) vs
 |0,[],es,vs,h,a,g=>by cases h;simp at a;subst a;exact⟨rfl,.nil⟩
 |0,_::_,es,vs,h,a,g=>by cases h
 |n+1,cs,es,vs,h,a,g=>by
  simp only[qM] at h;cases o:mX k cs with
  |none=>simp[o] at h
  |some c =>
   simp only[o] at h;cases m:qM k n (gh k cs) with
   |none=>simp[m] at h
   |some q =>
    simp[m] at h;subst h;obtain⟨l,f⟩:=lN o;rw[lW] at m;obtain⟨t,s⟩:=vK (vs:=vs.drop k) m (by simp[a]) (λj c b=>by
     obtain⟨v,l,f⟩:=g (k+j) c (by simpa using b)
     exact⟨v,by simpa using l,f⟩)
    refine⟨by simp[t],?_⟩
    have u:k<=cs.length:=by rw[l,List.length_take] at f;omega
    have r:Flat M k 1 (λ_=>c) (vs.take k):=by
     refine⟨by simp[a];omega,by simp[f],λi hi j x b=>?_⟩
     cases i with
     |zero =>
      have d:j<k:=by rw[<-f];exact(aD.1 b).1
      obtain⟨v,p,p2⟩:=g j x (by rw[l,de] at b;simpa[d] using b)
      exact⟨v,by rw[de];simpa[d] using p,p2⟩
     |succ i=>omega
    have:=r.append s;rw[j3 1 n] at this;have e:cj 1 (λ_=>c) (λi=>q.getD i [])=λi=>(c::q).getD i []:=by
     funext i
     cases i <;> simp[cj]
    rw[e] at this;simpa using this
def IB(T:List (Nat×TI))(a:Operand->D)(t:TypeId)(n:Nat)(parts:List (Nat×Operand)):Option (Nat×List (List C)) :=
 match aQ T t with
 |some i=>match i.desc with
  |.slice E=>match aQ T E with
   |some ie=>match Nat.beq ie.size 0 with
    |true=>none
    |false=>match Nat.ble (n*ie.size) 16777216 with
     |true=>match nO a parts with
      |some ps=>match vJ (λk=>some (k*ie.size,ie.size)) ps (List.replicate (n*ie.size) A.any) with
       |some cs=>match fW cs with
        |some r=>match qM ie.size n r with
         |some es=>some (ie.size,es)
         |none=>none
        |none=>none
       |none=>none
      |none=>none
     |false=>none
   |none=>none
  |_=>none
 |none=>none
theorem aM.buildSlice{P:Program}{T:List (Nat×TI)}(O:cz P T){o:Oper}{Z:Operand->D}{σ:List aj}{t:TypeId}{n:Nat}{parts:Array (Nat×Operand)}(h:o.op=.buildSlice t n parts){k:Nat}{es:List (List C)}
  (a:IB T Z t n parts.toList=some (k,es)):aM P o Z σ (.e (.one (.c (.sl true k n λi=>es.getD i [])))) σ:=by
 intro s R hh hr;unfold IB at a;cases hi:aQ T t with
 |none=>simp[hi] at a
 |some i =>
  simp only[hi] at a;cases V:i.desc with
  |slice E =>
   simp only[V] at a;cases I:aQ T E with
   |none=>simp[I] at a
   |some ie =>
    simp only[I] at a;cases Q:Nat.beq ie.size 0 with
    |true=>simp[Q] at a
    |false =>
     simp only[Q] at a;cases B:Nat.ble (n*ie.size) 16777216 with
     |false=>simp[B] at a
     |true =>
      simp only[B] at a;cases l:nO Z parts.toList with
      |none=>simp[l] at a
      |some ps =>
       simp only[l] at a;cases g:vJ (λk=>some (k*ie.size,ie.size)) ps (List.replicate (n*ie.size) A.any) with
       |none=>simp[g] at a
       |some cs =>
        simp only[g] at a;cases f:fW cs with
        |none=>simp[f] at a
        |some r =>
         simp only[f] at a;cases y:qM ie.size n r with
         |none=>simp[y] at a
         |some es' =>
          simp only[y,bO,hJ] at a;obtain⟨rfl,rfl⟩:=a;have U:ie.size≠0:=λe=>by rw[e] at Q;cases Q
          have W7:=cA B;obtain⟨inf,z,z1,z2,z3,z4,z5,z6,z7⟩:=(O E ie I).info;have YW:z.cells.size=ie.size:=by
           have:=cn List.length z5;simp at this;omega
          have W:∀ v∈z.cells.toList,cg v=true:=by
           intro v F;have d:qz v∈z.cells.toList.map qz:=k7.2 ⟨v,F,rfl⟩;rw[z5] at d;obtain⟨c,_,hc⟩:=k7.1 d;exact(Rd.qz (M:=s.M) hc.symm).cell
          have J:∀ m,(∀ v∈(List.range m).map (λq=>z.cells[q % z.cells.size]!),cg v=true):=by
           intro m v F;obtain⟨q,_,rfl⟩:=k7.1 F;have L:q % z.cells.size<z.cells.size:=gU _ (by omega)
           apply W
           rw[pG z.cells _ L];exact Array.getElem_mem_toList L
          have N:∀ vs:List Value,(∀ v∈vs,cg v=true)->cW σ s vs (List.replicate vs.length A.any):=by
           intro vs
           induction vs with
           |nil=>intro _;trivial
           |cons v vs ih=>intro F;exact⟨F v (by simp),ih λu G=>F u (by simp[G])⟩
          obtain⟨p1,p2⟩:=qL (σ:=σ) (s:=s) hr l;have S:cW σ s ((Array.range (n*ie.size)).map (λq=>z.cells[q % z.cells.size]!)).toList (List.replicate (n*ie.size) A.any):=by
           have:=N _ (J (n*ie.size));simpa using this
          obtain⟨H,u1,u2⟩:=tU (σ:=σ) (s:=s) (place':=λk=>some (k*ie.size,ie.size)) (λk p hk=>hk) g p1 p2 S
          have u3:=kq f u2;obtain⟨c1,c2⟩:=vK (M:=s.M) (vs:=H.toList) y (by simpa using u3.length) u3.closed
          obtain⟨g1,g2⟩:=hh.newRow E H.toList;refine⟨.value (.slice (some ⟨s.w.heap.size,0,none⟩) n n),s.newRow E H.toList,?_,?_,g1,g2,?_⟩
          rotate_left 2
          ·have e:(execOp R o).events P s.w #[]=#[]:=by
            simp only[execOp,h];exact bR.bind bR.buildSlice (λ_=>bR.pure) _ _
           rw[e];exact .nil
          ·have G:=(O t i hi).run_underlying (w:=s.w);rw[V] at G;have X:(zeroValue E).run P s.w=.ok z s.w:=by simp[zeroValue,typeInfo,z1,z4]
           have j:Instr.fill (λk=>some (k*ie.size,ie.size)) ((Array.range (n*ie.size)).map (λq=>z.cells[q % z.cells.size]!)) (parts.map λ(i,x)=>(i,R x)).toList=some H:=by simpa using u1
           by_cases h0:n*ie.size=0
           ·have Y:n=0:=by rcases Nat.mul_eq_zero.1 h0 with h|h;exact h;exact absurd h U
            subst Y;have K:Array.range 0=#[]:=rfl;simp[K] at j;simp[execOp,h,Instr.buildSlice,G,(O E ie I).run_sizeOf,K,j,Go.newRow,St.newRow]
           ·rw[show execOp R o=(do pure (.value (<-Instr.buildSlice t n (parts.map λ(i,x)=>(i,R x))))) by simp[execOp,h]]
            simp only[Instr.buildSlice,bm,G,bP,(O E ie I).run_sizeOf,h0,aW,X,show ¬n*ie.size>2 ^ 24 by omega,Sem.run_ite,j,cY]
            simp[Go.newRow,St.newRow]
          ·refine Rd.ny (c2.mono g2.mem) (b:=s.w.heap.size) (off:=0) (λ_=>rfl) (ar _) ?_ (λ_=>rfl) (C7 s E H.toList)
           have:n<=n*ie.size:=sa n (by omega)
           omega
  |_=>simp[V] at a
theorem Ext.trans{σ σ1 σ2:List aj}{s a s2:St}(h:Ext σ s σ1 a)(k:Ext σ1 a σ2 s2):Ext σ s σ2 s2:=by
 refine⟨λb o v p=>k.mem _ _ _ (h.mem _ _ _ p),λl B L n j=>?_⟩
 obtain⟨B1,L1,h1,h2,m⟩:=h.box l B L n j;obtain⟨c,f,k1,e,r⟩:=k.box l B1 L1 h1 h2;exact⟨c,f,k1,e,m.trans r⟩
theorem eY{α:Type}{l:List α}{x y:α}{i:Nat}(h:(l++[x])[i]?=some y):l[i]?=some y∨(i=l.length/\y=x):=by
 rcases sq i l.length with a|rfl|c
 ·rw[bc a] at h;exact .inl h
 ·simp at h;exact .inr ⟨rfl,h.symm⟩
 ·rw[ck (by omega)] at h
  cases b:i-l.length with
  |zero=>omega
  |succ n=>simp[b] at h
theorem ag.hO{σ:List aj}{s c:St}(h1:ag σ c)(st:Step σ s σ c)(m:c.β=s.β)(hh:ag σ s){B:aj}{L:Loc}(u:dT (σ++[B]) { c with β:=c.β++[L] } B L)
  (f:∀ b∈L.bs,s.w.heap.size<=b/\b<c.w.heap.size):ag (σ++[B]) { c with β:=c.β++[L] }/\Step σ s (σ++[B]) { c with β:=c.β++[L] }:=by
 have ex:Ext σ c (σ++[B]) { c with β:=c.β++[L] }:=by
  refine⟨λ_ _ _ h=>h,λl B' L' jR gf=>?_⟩
  have hl:l<c.β.length:=(aD.1 gf).1;have p:l<σ.length:=(aD.1 jR).1;exact⟨B',L',by rw[bc p,jR],by rw[bc hl,gf],.refl _ _⟩
 have e2:=st.ext.trans ex;refine⟨⟨h1.mem,by simp[h1.len],?_,?_,?_,?_⟩,⟨st.size,st.eC,st.mem,st.ij,?_,e2.box,st.os,st.tape,st.output,st.own⟩⟩
 ·intro l B' L' jR gf;rcases eY jR with n|⟨rfl,rfl⟩
  ·have hl:l<c.β.length:=by rw[h1.len];exact(aD.1 n).1
   rw[bc hl] at gf;exact(h1.box l B' L' n gf).carry ex h1.len λ_ _=>⟨rfl,λ_=>rfl⟩
  ·rcases eY gf with j|⟨_,rfl⟩
   ·have:=(aD.1 j).1;rw[h1.len] at this;omega
   ·exact u
 ·intro l l' L1 L2 j o b a k;rcases eY j with k1|⟨rfl,rfl⟩ <;> rcases eY o with r|⟨rfl,rfl⟩
  ·exact h1.fe l l' L1 L2 k1 r b a k
  ·have x:=f b k;have v:=hh.lt L1 (by rw[<-m];exact aE k1) b a
   omega
  ·have x:=f b a;have v:=hh.lt L2 (by rw[<-m];exact aE r) b k
   omega
  ·rfl
 ·intro L' gf b a;simp only[dF,fV] at gf;rcases gf with gf|rfl
  ·exact h1.lt L' gf b a
  ·exact(f b a).2
 ·intro b a;refine⟨(h1.own b a).1,λL' gf Cz=>?_⟩
  simp only[dF,fV] at gf;rcases gf with gf|rfl
  ·exact(h1.own b a).2 L' gf Cz
  ·have e:=st.own;simp only at a;rw[e] at a;have:=(hh.own b a).1;have:=(f b Cz).1;omega
 ·intro L' gf b a;simp only[dF,fV] at gf;rcases gf with gf|rfl
  ·exact st.rM L' gf b a
  ·exact .inl (f b a).1
theorem ag.iv{σ:List aj}{s:St}{M':Mem}{w':World}(hh:ag σ s){l:Nat}{B B':aj}{L L':Loc}(D:σ[l]?=some B)(k:s.β[l]?=some L)(K:gD B L B' L')
  (I:s.w.heap.size<=w'.heap.size) (S:∀ b,b<s.w.heap.size->b∉L.bs->w'.heap[b]?=s.w.heap[b]?) (Q:∀ b,b<s.w.heap.size->b∉L.bs->∀ o,M' b o=s.M b o)
  (C:∀ b o v,s.M b o=some v->M' b o=some v) (V:∀ b o v,M' b o=some v->w'.cell? ⟨b,o,none⟩=some v)
  (m:∀ b∈L'.bs,(b∈L.bs∨s.w.heap.size<=b)/\b<w'.heap.size)
  (Z:w'.os=s.w.os) (U:w'.tape=s.w.tape) (W:w'.output=s.w.output)
  (hB:dT (σ.set l B') ⟨s.β.set l L',M',w',s.own⟩ B' L'):ag (σ.set l B') ⟨s.β.set l L',M',w',s.own⟩/\Step σ s (σ.set l B') ⟨s.β.set l L',M',w',s.own⟩:=by
 have x:l<σ.length:=(aD.1 D).1;have u:l<s.β.length:=(aD.1 k).1;have a:∀ i X,(s.β.set l L')[i]?=some X->(i=l/\X=L')∨(i≠l/\s.β[i]?=some X):=by
  intro i X c
  by_cases e:l=i
  ·subst e;rw[bk u] at c;cases c;exact .inl ⟨rfl,rfl⟩
  ·rw[b6 e] at c;exact .inr ⟨λh=>e h.symm,c⟩
 have ex:Ext σ s (σ.set l B') ⟨s.β.set l L',M',w',s.own⟩:=by
  refine⟨C,λi X Y c p=>?_⟩
  by_cases e:l=i
  ·subst e;rw[D] at c;cases c;rw[k] at p;cases p;exact⟨B',L',bk x,bk u,K⟩
  ·exact⟨X,Y,by rw[b6 e];exact c,by rw[b6 e];exact p,.refl _ _⟩
 have out:∀ i X,i≠l->s.β[i]?=some X->∀ b∈X.bs,b<s.w.heap.size/\b∉L.bs:=by
  intro i X hi c b f;exact⟨hh.lt X (aE c) b f,λN=>hi (hh.fe i l X L c k b f N)⟩
 refine⟨⟨V,by simp[hh.len],?_,?_,?_,?_⟩,⟨I,?_,C,?_,?_,ex.box,Z,U,W,rfl⟩⟩
 ·intro i X Y c p;rcases a i Y p with⟨rfl,rfl⟩|⟨hi,p⟩
  ·rw[bk x] at c;cases c;exact hB
  ·rw[b6 (λe=>hi e.symm)] at c
   refine(hh.box i X Y c p).carry ex hh.len λb f=>?_
   obtain⟨G,A⟩:=out i Y hi p b f;exact⟨S b G A,Q b G A⟩
 ·intro i O X J c j b f z;rcases a i X c with⟨rfl,rfl⟩|⟨hi,F⟩ <;> rcases a O J j with⟨rfl,rfl⟩|⟨n,r⟩
  ·rfl
  ·obtain⟨G,A⟩:=out O J n r b z;rcases(m b f).1 with h|h
   ·exact absurd h A
   ·omega
  ·obtain⟨G,A⟩:=out i X hi F b f;rcases(m b z).1 with h|h
   ·exact absurd h A
   ·omega
  ·exact hh.fe i O X J F r b f z
 ·intro X c b f;obtain⟨i,hi,rfl⟩:=cJ c;rcases a i _ (ai hi) with⟨rfl,e⟩|⟨n,j⟩
  ·rw[e] at f;exact(m b f).2
  ·have:=(out i _ n j b f).1;show b<w'.heap.size;omega
 ·intro b f;obtain⟨o1,R⟩:=hh.own b f;refine⟨by show b<w'.heap.size;omega,λX c y=>?_⟩
  obtain⟨i,hi,rfl⟩:=cJ c;rcases a i _ (ai hi) with⟨rfl,e⟩|⟨n,j⟩
  ·rw[e] at y;rcases(m b y).1 with h|h
   ·exact R L (aE k) h
   ·omega
  ·exact R _ (aE j) y
 ·intro b f H;exact S b f (H L (aE k))
 ·intro b f H o;exact Q b f (H L (aE k)) o
 ·intro X c b f;obtain⟨i,hi,rfl⟩:=cJ c;rcases a i _ (ai hi) with⟨rfl,e⟩|⟨n,j⟩
  ·rw[e] at f;rcases(m b f).1 with h|h
   ·exact .inr ⟨L,aE k,h⟩
   ·exact .inl h
  ·exact .inr ⟨_,aE j,f⟩
theorem pJ{a old bytes:Nat}(h:old<a)(b:a*bytes<=140737488355328):¬Builtin.nextslicecap a old*bytes>2 ^ 48:=by
 have:=growslice_fits h b;omega
section
variable {P:Program}{T:List (Nat×TI)}(q:cz P T){σ:List aj}{s:St}{t g ty E:TypeId}{i i2 d:TI}
theorem jM(hi:aN P t i)(v:i.desc=.slice E)(j:aN P g i2)(f:i2.desc=.slice E)(r:aN P E d)(u:ag σ s)
  {a:Option Addr} {n cap:Nat} (c:n<=cap) {x:Value} {tx:Bool} {es':Nat->List C} (k:Rd s.M x (.sl tx d.size 0 es')) :
  (Builtin.append_ #[t,g] ty #[.slice a n cap,x]).run P s.w=.ok (.slice a n cap) s.w:=by
 obtain⟨b,y,p,o⟩:=dj (P:=P) u k;have l:=hi.run_underlying (w:=s.w);have e:=j.run_underlying (w:=s.w);rw[v] at l;rw[f] at e;obtain⟨a',m,vs,rfl,_⟩:=k.flat;have h:b=[]:=dq (by simpa using y.len)
 subst h;cases a <;> simp[Builtin.append_,l,e,r.run_sizeOf,Builtin.lenOf,c,p,storeCells]
theorem gn(hi:aN P t i)(X:i.desc=.slice E)(I:aN P g i2)(A:i2.desc=.slice E)(O:aN P E d)(U:ag σ s)
  {a:Option Addr} {n cap m:Nat} {td tx:Bool} {es es':Nat->List C} {x:Value} (hv:Rd s.M (.slice a n cap) (.sl td d.size n es)) (Y:Rd s.M x (.sl tx d.size m es')) (S:cap<n+m) (R:(n+m)*d.bytes<=140737488355328) (D:d.bytes≠0) :
  ∃ vs zs Ia,Flat s.M d.size (n+m) (cj n es es') vs/\n+m<=Ia/\Ia<=9223372036854775807/\(vs++zs).length=Ia*d.size /\
   (Builtin.append_ #[t,g] ty #[.slice a n cap,x]).run P s.w=.ok (.slice (some ⟨s.w.heap.size,0,none⟩) (n+m) Ia) (s.w.drew.alloc (.cells (vs++zs).toArray E)):=by
 have k:ag σ { s with w:=s.w.drew }:=U.same rfl;obtain⟨b,Q,J,r⟩:=dj (P:=P) k (v:=x) Y;obtain⟨c,j,h,Vq⟩:=dj (P:=P) k (v:=.slice a n cap) hv;have L:=hi.run_underlying (w:=s.w);have o:=I.run_underlying (w:=s.w);rw[X] at L;rw[A] at o;obtain⟨p,z,N,z2,z3,V,W,z6,z7⟩:=O.info;have hle:n+m<=140737488355328:=er (sa _ (Nat.pos_of_ne_zero D)) R;have K:z.cells.size=d.size:=by
  have:=cn List.length W;simp at this;omega
 refine⟨c++b,(Builtin.zeroCells z.cells (grownCap s.w (n+m) cap E-(n+m))).toList,grownCap s.w (n+m) cap E,j.append Q,grownCap_ge _ _ _ _,?_,?_,?_⟩
 ·have:=grownCap_le_maxLen s.w (n+m) cap E (by unfold maxLen;omega)
  unfold maxLen at this;omega
 ·have No:=grownCap_ge s.w (n+m) cap E;simp only[ba,j.len,Q.len,fU,size_zeroCells,K,<-eT]
  congr 1
  omega
 ·have F:=pJ S R;have y:¬Builtin.nextslicecap (n+m) cap*p.bytes>2 ^ 48:=by rw[z3];exact F
  have l:¬n+m<=cap:=by omega
  have G:¬((n+m:Nat):Int)>IntKind.i64.max:=by
   have e:IntKind.i64.max=9223372036854775807:=rfl;rw[e];omega
  have H:∀ u,(typeInfo E).run P u=.ok p u:=λu=>by simp[typeInfo,N]
  have B:∀ u,(zeroValue E).run P u=.ok z u:=λu=>by simp[zeroValue,typeInfo,N,V]
  have f:(Builtin.lenOf x).run P s.w=.ok m s.w:=by rw[r];rfl
  replace J:(Builtin.firstCells d.size m x).run P s.w.drew=.ok b.toArray s.w.drew:=J
  replace h:(Builtin.firstCells d.size n (.slice a n cap)).run P s.w.drew=.ok c.toArray s.w.drew:=h
  unfold Builtin.append_;simp only[il,l8,oS,bm,L,o,bP,O.run_sizeOf,cY,gI,aW,f,l,
   G,false_and,H,y,run_choose,Question.forced,run_askRoom,Sem.run_ite,World.drew_eq,h,J,sF,aX,B]
  simp[Go.newRow,grownCap];have e:∀ Z:Array Value,(c++b).toArray++Z=(c++(b++Z.toList)).toArray:=λZ=>by apply gy;simp
  rw[e];rfl
theorem iZ(hi:aN P t i)(F:i.desc=.slice E)(p:aN P g i2)(o:i2.desc=.slice E)(z:aN P E d)(A:ag σ s)
  {b n cap m:Nat} {y:TypeId} {c:List Value} (G:s.w.heap[b]?=some (.cells c.toArray y (0,0))) (h:c.length=cap*d.size) {tx:Bool} {es':Nat->List C} {x:Value} (D:Rd s.M x (.sl tx d.size m es')) (v:n+m<=cap) :
  ∃ a,Flat s.M d.size m es' a/\(Builtin.append_ #[t,g] ty #[.slice (some ⟨b,0,none⟩) n cap,x]).run P s.w=.ok (.slice (some ⟨b,0,none⟩) (n+m) cap) (s.w.setRow b (c.take (n*d.size)++a++c.drop (n*d.size+a.length)).toArray):=by
 obtain⟨a,r,B,k⟩:=dj (P:=P) A D;have u:=hi.run_underlying (w:=s.w);have j:=p.run_underlying (w:=s.w);rw[F] at u;rw[o] at j;have l:n*d.size+a.length<=c.length:=by
  rw[r.len,h,<-eT];exact ee _ v
 have f:=run_storeCells_at P b (n*d.size) y a 0 c.toArray s.w G (by simpa using l) r.cell
 simp only[gm] at f;have e:(Builtin.lenOf x).run P s.w=.ok m s.w:=by rw[k];rfl
 refine⟨a,r,?_⟩;unfold Builtin.append_;simp only[il,l8,oS,bm,u,j,bP,z.run_sizeOf,cY,gI,aW,e,v,aX,sF,B,cO,aw,f]
end
theorem zK{α:Type}{P:Program}{x:Sem α}{w:World}{es:Array Event}{e:Event}(h:e∈x.events P w es):e∈es∨e∈x.events P w #[]:=by
 rw[Sem.events_acc] at h;exact Array.mem_append.1 h
def T5(s:St)(e:Event):Prop:=∃ b o u,e=wP b o/\s.M b o=some u
theorem gL{P:Program}{σ:List aj}{s:St}(x:ag σ s){v:Value}{t:Bool}{k n:Nat}{es:Nat->List C}(h:Rd s.M v (.sl t k n es)){w:World}(F:w.heap=s.w.heap) :
  ∀ e∈(Builtin.firstCells k n v).events P w #[],T5 s e:=by
 obtain⟨a,cap,vs,rfl,r,J,H,G,y⟩:=h.flat;have I:vs.length=n*k:=G.len;intro e f;cases a with
 |none=>simp[Builtin.firstCells] at f
 |some ad =>
  simp only[Builtin.firstCells] at f;have c:∀ j,j<n*k->∃ b off u,ad=⟨b,off,none⟩/\s.M b (off+j)=some u:=by
   intro j o;obtain⟨b,off,A,m⟩:=y j (vs[j]'(by omega)) (ai (by omega))
   cases A;exact⟨b,off,_,rfl,m⟩
  by_cases z:n*k=0
  ·rw[z] at f;simp[loadCells,loadCellsFrom] at f
  ·obtain⟨b,off,_,rfl,_⟩:=c 0 (by omega)
   have D:∀ j,j<n*k->∃ v,w.cell? ⟨b,off+j,none⟩=some v:=by
    intro j o;obtain⟨B,l,u,p,m⟩:=c j o;cases p;have:=x.mem _ _ _ m;exact⟨u,by simp only[World.cell?,F] at this ⊢;exact this⟩
   rcases pK (P:=P) D e f with h|⟨j,o,rfl⟩
   ·simp at h
   ·obtain⟨B,l,u,p,m⟩:=c j o;cases p;exact⟨_,_,u,rfl,m⟩
theorem s9{s:St}{e:Event}(h:T5 s e):oU s e:=by
 obtain⟨b,o,u,rfl,a⟩:=h;exact yc a
section
variable {P:Program}{σ:List aj}{s:St}{t g ty E:TypeId}{i i2 d:TI}
theorem kz(hi:aN P t i)(A:i.desc=.slice E)(m:aN P g i2)(h:i2.desc=.slice E)(y:aN P E d)(o:ag σ s)
  {a:Option Addr} {n cap:Nat} (c:n<=cap) {x:Value} {tx:Bool} {es':Nat->List C} (j:Rd s.M x (.sl tx d.size 0 es')) :
  eK s ((Builtin.append_ #[t,g] ty #[.slice a n cap,x]).events P s.w #[]):=by
 obtain⟨b,B,v,u⟩:=dj (P:=P) o j;have l:=gL (P:=P) o j (w:=s.w) rfl;have p:=hi.run_underlying (w:=s.w);have f:=m.run_underlying (w:=s.w);rw[A] at p;rw[h] at f;obtain⟨a',r,vs,rfl,_⟩:=j.flat;have k:b=[]:=dq (by simpa using B.len)
 subst k;intro e z;refine s9 (l e ?_);cases a <;> simpa[Builtin.append_,p,f,y.run_sizeOf,Builtin.lenOf,c,v,storeCells] using z
theorem gM(hi:aN P t i)(hd:i.desc=.slice E)(R:aN P g i2)(H:i2.desc=.slice E)(X:aN P E d)(O:ag σ s)
  {a:Option Addr} {n cap m:Nat} {td tx:Bool} {es es':Nat->List C} {x:Value} (Z:Rd s.M (.slice a n cap) (.sl td d.size n es)) (Y:Rd s.M x (.sl tx d.size m es')) (hg:cap<n+m) (hb:(n+m)*d.bytes<=140737488355328) (K:d.bytes≠0) :
  eK s ((Builtin.append_ #[t,g] ty #[.slice a n cap,x]).events P s.w #[]):=by
 have p:ag σ { s with w:=s.w.drew }:=O.same rfl;obtain⟨y,hF,S,c⟩:=dj (P:=P) p (v:=x) Y;obtain⟨A,YD,l,Vq⟩:=dj (P:=P) p (v:=.slice a n cap) Z;have J:=gL (P:=P) O Y (w:=s.w.drew) rfl;have D:=gL (P:=P) O Z (w:=s.w.drew) rfl;have V:=hi.run_underlying (w:=s.w);have F:=R.run_underlying (w:=s.w);rw[hd] at V;rw[H] at F;obtain⟨j,z,W,z2,z3,z4,z5,z6,z7⟩:=X.info;have hle:n+m<=140737488355328:=er (sa _ (Nat.pos_of_ne_zero K)) hb;have L:=pJ hg hb;have G:¬Builtin.nextslicecap (n+m) cap*j.bytes>2 ^ 48:=by rw[z3];exact L
 have B:¬n+m<=cap:=by omega
 have N:¬((n+m:Nat):Int)>IntKind.i64.max:=by
  have e:IntKind.i64.max=9223372036854775807:=rfl;rw[e];omega
 have Q:∀ u,(typeInfo E).run P u=.ok j u:=λu=>by simp[typeInfo,W]
 have I:∀ u,(zeroValue E).run P u=.ok z u:=λu=>by simp[zeroValue,typeInfo,W,z4]
 have f:(Builtin.lenOf x).run P s.w=.ok m s.w:=by rw[c];rfl
 have k:(Builtin.lenOf x).events P s.w #[]=#[]:=by rw[c];rfl
 replace S:(Builtin.firstCells d.size m x).run P s.w.drew=.ok y.toArray s.w.drew:=S
 replace l:(Builtin.firstCells d.size n (.slice a n cap)).run P s.w.drew=.ok A.toArray s.w.drew:=l
 intro e o;unfold Builtin.append_ at o;simp only[il,l8,oS,Sem.events_bind,bm,V,F,bP,Result.evThen_ok,X.run_sizeOf,cY,gI,aW,f,k,B,
  N,false_and,Q,G,run_choose,Question.forced,run_askRoom,Sem.run_ite,Sem.events_ite,World.drew_eq,l,S,sF,aX,I,events_underlying,events_sizeOf,events_typeInfo,events_choose,events_zeroValue,Sem.events_pure] at o
 have U:∀ (x:Nat) (w:World) (e:Event),e∈(askRoom x).events P w #[]->e=⟨.mark .noRoom,false,true⟩:=by
  intro x w e h;unfold askRoom at h;split at h
  ·simpa using h
  ·simp at h
 rw[bR.newRow (P:=P)] at o;generalize (Go.newRow E _).run P s.w.drew=r at o;have b:e∈(Builtin.firstCells d.size m x).events P s.w.drew ((Builtin.firstCells d.size n (.slice a n cap)).events P s.w.drew ((askRoom ((Question.appendCap (n+m) cap E).cut (s.w.tape s.w.drawn (Question.appendCap (n+m) cap E))*j.bytes)).events P s.w.drew #[])):=by
  cases r with
  |ok v w'=>simpa using o
  |halt v w'=>simpa using o
 rcases zK b with b|b
 ·rcases zK b with b|b
  ·rw[U _ _ _ b];exact .inl rfl
  ·exact s9 (D e b)
 ·exact s9 (J e b)
theorem kA(hi:aN P t i)(U:i.desc=.slice E)(D:aN P g i2)(z:i2.desc=.slice E)(Q:aN P E d)(J:ag σ s)
  {b n cap m:Nat} {K:TypeId} {c:List Value} (O:s.w.heap[b]?=some (.cells c.toArray K (0,0))) (v:c.length=cap*d.size) {tx:Bool} {es':Nat->List C} {x:Value} (N:Rd s.M x (.sl tx d.size m es')) (I:n+m<=cap)
  {L:Loc} (R:L∈s.β) (G:b∈L.bs) (l:∀ o,n*d.size<=o->s.M b o=none) :
  eK s ((Builtin.append_ #[t,g] ty #[.slice (some ⟨b,0,none⟩) n cap,x]).events P s.w #[]):=by
 obtain⟨a,F,S,f⟩:=dj (P:=P) J N;have A:=gL (P:=P) J N (w:=s.w) rfl;have H:=hi.run_underlying (w:=s.w);have y:=D.run_underlying (w:=s.w);rw[U] at H;rw[z] at y;have k:n*d.size+a.length<=c.length:=by
  rw[F.len,v,<-eT];exact ee _ I
 have u:=run_storeCells_at P b (n*d.size) K a 0 c.toArray s.w O (by simpa using k) F.cell
 simp only[gm] at u;have p:(Builtin.lenOf x).run P s.w=.ok m s.w:=by rw[f];rfl
 have r:(Builtin.lenOf x).events P s.w #[]=#[]:=by rw[f];rfl
 intro e B;unfold Builtin.append_ at B;simp only[il,l8,oS,Sem.events_bind,bm,H,y,Result.evThen_ok,Q.run_sizeOf,cY,gI,aW,p,r,I,aX,sF,S,cO,aw,u,
  Sem.run_ite,Sem.events_ite,events_underlying,events_sizeOf,Sem.events_pure] at B
 rcases eh a 0 c.toArray s.w _ O (by simpa using k) F.cell e B with h|⟨j,V,W,rfl⟩
 ·exact s9 (A e h)
 ·exact mv R G (l _ (by omega))
end
structure oH (P:Program)(o:Oper)(x y:Operand)(E:TypeId)(d:TI):Prop where
 op:∃ t g i i2,o.op=.call { callee:=.builtin .append,args:=#[x,y],argTypes:=#[t,g] }/\aN P t i/\i.desc=.slice E/\aN P g i2/\i2.desc=.slice E
 elem:aN P E d
 bytes:d.bytes≠0
 size:d.size≠0
def St.grown(s:St)(E:TypeId)(vs zs:List Value)(β:List Loc):St :=
 { β:=β,M:=λb o=>if b=s.w.heap.size then vs[o]? else s.M b o,w:=s.w.drew.alloc (.cells (vs++zs).toArray E),own:=s.own }
theorem vo{σ:List aj}{s:St}(h:ag σ s)(E:TypeId)(vs zs:List Value):∀ b o v,(if b=s.w.heap.size then vs[o]? else s.M b o)=some v->(s.w.drew.alloc (.cells (vs++zs).toArray E)).cell? ⟨b,o,none⟩=some v:=by
 intro b o v a
 by_cases e:b=s.w.heap.size
 ·subst e;simp only[aX] at a;unfold World.cell?;have:(s.w.drew.alloc (.cells (vs++zs).toArray E)).heap[s.w.heap.size]?=some (.cells (vs++zs).toArray E):=cU s.w.drew _;simp only[this];have c:o<vs.length:=(aD.1 a).1;simpa[bc c] using a
 ·simp only[e,aW] at a;have f:=h.block a;rw[<-h.mem b o v a];unfold World.cell?;have:(s.w.drew.alloc (.cells (vs++zs).toArray E)).heap[b]?=s.w.heap[b]?:=b7 s.w.drew _ f;simp only[this]
theorem vp{σ:List aj}{s:St}(h:ag σ s)(vs:List Value):∀ b o v,s.M b o=some v->(if b=s.w.heap.size then vs[o]? else s.M b o)=some v:=by
 intro b o v a;have:=h.block a;rw[ak (by omega)]
 exact a
theorem dW{P:Program}{s:St}{m:Sem Value}(h:eK s (m.events P s.w #[])):eK s ((do pure (.value (<-m)):Sem Next).events P s.w #[]):=by
 intro e a;rw[Sem.events_bind] at a;refine h e ?_;generalize m.run P s.w=r at a;cases r with
 |ok v w'=>simpa using a
 |halt v w'=>simpa using a
theorem cu{o:Oper}{x y:Operand}{t g:TypeId}(h:o.op=.call { callee:=.builtin .append,args:=#[x,y],argTypes:=#[t,g] })(a:Operand->Value) :
  execOp a o=(do pure (.value (<-Builtin.append_ #[t,g] o.type #[a x,a y]))):=by
 simp[execOp,h,resolve,invoke,builtin]
theorem Rd.loose{M:Mem}{v:Value}{t:Bool}{k n:Nat}{es:Nat->List C}(h:Rd M v (.sl t k n es)):Rd M v (.sl false k n es):=by
 cases h with
 |sl b off f a m o j l e c=>exact .sl b off f a m (by simp) j l e c
theorem Rd.zJ{M:Mem}{v:Value}{t:Bool}{k n:Nat}{es es':Nat->List C}(e:∀ i,i<n->es i=es' i)(h:Rd M v (.sl t k n es)):Rd M v (.sl t k n es'):=by
 cases h with
 |sl b off f a u p o r m l=>exact .sl b off f a u p (λi hi=>by rw[<-e i hi];exact o i hi) r (λi hi j c hj=>m i hi j c (by rw[e i hi];exact hj)) (λi hi j c hj=>l i hi j c (by rw[e i hi];exact hj))
theorem Rd.sI{M:Mem}{v:Value}{k k' n:Nat}{es:Nat->List C}(b:k=k'∨n=0)(h:Rd M v (.sl true k n es)):Rd M v (.sl true k' n es):=by
 rcases b with rfl|rfl
 ·exact h
 ·obtain⟨a,cap,vs,f,j,e,c,_⟩:=h.flat;rw[f];have:=c rfl;subst this;exact Rd.jv
theorem od{σ:List aj}{s:St}{l:Nat}{E:TypeId}{k n:Nat}{es:Nat->List C}{L:Loc}(a:σ[l]?=some (.vec E k n es))(b:s.β[l]?=some L)(h:dT σ s (.vec E k n es) L):gd σ s L.v (.vec l k n es):=by
 refine⟨h.1,(aD.1 a).1,λc k' n' es' he=>?_⟩
 rw[a] at he;cases he;exact⟨ar _,λ_=>⟨L,b,rfl⟩⟩
theorem aM.nw{P:Program}{o:Oper}{V:Operand->D}{σ:List aj}{x y:Operand}{E:TypeId}{d:TI}(h:oH P o x y E d){n m k:Nat}{tx:Bool}{es es':Nat->List C}
  (hx:V x=.e (.one (.c (.sl true k n es)))) (hk:k=d.size∨n=0) (Y:∀ s v,cd σ s v (V y)->Rd s.M v (.sl tx d.size m es')) (A:(n+m)*d.bytes<=140737488355328) (hz:n=0∨0<m) :
  aM P o V σ (.e (.one (.vec σ.length d.size (n+m) (cj n es es')))) (σ++[.vec E d.size (n+m) (cj n es es')]):=by
 intro s ρ hh hr;obtain⟨t,g,i,i2,O,hi,L,B,z⟩:=h.op;have h1:=hr x;rw[hx] at h1;have l:=Rd.sI hk (eX h1);have h2:=Y s _ (hr y);obtain⟨a,cap,vs,hv,F,Ef,ht,hF,W⟩:=l.flat;have Q:cap=n:=ht rfl;subst Q;rw[cu O];rw[hv] at l ⊢
 by_cases Z:m=0
 ·subst Z;have r:=jM (P:=P) (ty:=o.type) hi L B z h.elem hh (a:=a) F h2;simp only[gm];have l:=Rd.zJ (es':=cj cap es es') (λi hi=>by simp[cj,hi]) l
  have K:dT (σ++[.vec E d.size cap (cj cap es es')]) { s with β:=s.β++[⟨.slice a cap cap,[]⟩] } (.vec E d.size cap (cj cap es es')) ⟨.slice a cap cap,[]⟩:=⟨l.loose,.inl ⟨⟨rfl,by omega⟩,l⟩⟩
  obtain⟨R,g2⟩:=hh.hO (.refl _ _) rfl hh K (by simp)
  refine⟨.value (.slice a cap cap),_,?_,?_,R,g2,dW (kz hi L B z h.elem hh F h2)⟩
  ·simp[r]
  ·exact od (by simp) (by simp[<-hh.len]) K
 ·have X:cap<cap+m:=by omega
  obtain⟨f,H,j,I,S,U,J,r⟩:=gn (P:=P) (ty:=o.type) hi L B z h.elem hh l h2 X A h.bytes;have G:ag σ (s.grown E f H s.β)/\Step σ s σ (s.grown E f H s.β) :=
   hh.grow (by simp) (λb A=>b7 s.w.drew _ A) (λb A o=>by simp[show b≠s.w.heap.size by omega])
    (λb A o v W=>vo hh E f H b o v W) rfl rfl rfl
  have N:Rd (s.grown E f H s.β).M (.slice (some ⟨s.w.heap.size,0,none⟩) (cap+m) j) (.sl false d.size (cap+m) (cj cap es es')) :=
   Rd.ny (I.mono G.2.mem) (b:=s.w.heap.size) (off:=0) (λ_=>rfl) S U (by simp) (λp u hp=>by simpa[St.grown] using hp)
  have K:dT (σ++[.vec E d.size (cap+m) (cj cap es es')]) { (s.grown E f H s.β) with β:=(s.grown E f H s.β).β++[⟨.slice (some ⟨s.w.heap.size,0,none⟩) (cap+m) j,[s.w.heap.size]⟩] } (.vec E d.size (cap+m) (cj cap es es')) ⟨.slice (some ⟨s.w.heap.size,0,none⟩) (cap+m) j,[s.w.heap.size]⟩:=by
   refine⟨N,.inr ⟨s.w.heap.size,j,f++H,rfl,cU s.w.drew _,J,λo O=>?_⟩⟩
   have hl:f.length<=o:=by rw[I.len];exact O
   simp[St.grown,eQ hl]
  obtain⟨R,g2⟩:=G.1.hO G.2 rfl hh K (λb A=>by
   simp at A;subst A;refine⟨ar _,?_⟩;simp[St.grown])
  refine⟨.value (.slice (some ⟨s.w.heap.size,0,none⟩) (cap+m) j),_,?_,?_,R,g2,dW (gM hi L B z h.elem hh l h2 X A h.bytes)⟩
  ·simp[r];rfl
  ·exact od (by simp) (by simp[St.grown,<-hh.len]) K
theorem aM.CB{P:Program}{o:Oper}{η:Operand->D}{σ:List aj}{x y:Operand}{E:TypeId}{d:TI}(h:oH P o x y E d){l n m:Nat}{tx:Bool}{es es':Nat->List C}
  (hx:η x=.e (.one (.vec l d.size n es))) (hl:σ[l]?=some (.vec E d.size n es)) (hy:∀ s v,cd σ s v (η y)->Rd s.M v (.sl tx d.size m es')) (R:(n+m)*d.bytes<=140737488355328) :
  aM P o η σ (.e (.one (.vec l d.size (n+m) (cj n es es')))) (σ.set l (.vec E d.size (n+m) (cj n es es'))):=by
 intro s ρ hh hr;obtain⟨t,g,i,i2,ho,hi,hd,Q,O⟩:=h.op;have J:l<σ.length:=(aD.1 hl).1;have h1:=hr x;rw[hx] at h1;obtain⟨Y,_,Vr⟩:=h1;obtain⟨L,Z,hv⟩:=(Vr _ _ _ _ hl).2 rfl;have h2:=hy s _ (hr y);have H:l<s.β.length:=(aD.1 Z).1;have U:=hh.box l _ L hl Z;obtain⟨a,cap,vs,Ib,uY,Ef,ht,hF,hm⟩:=Y.flat;rw[cu ho,Ib];rw[Ib] at Y;have W:L.v=.slice a n cap:=by rw[<-hv,Ib]
 by_cases h0:m=0
 ·subst h0;have I:=jM (P:=P) (ty:=o.type) hi hd Q O h.elem hh (a:=a) uY h2;simp only[gm];have ha:∀ i,i<n->es i=cj n es es' i:=λi hi=>by simp[cj,hi]
  have P9:dT (σ.set l (.vec E d.size n (cj n es es'))) ⟨s.β.set l L,s.M,s.w,s.own⟩ (.vec E d.size n (cj n es es')) L:=by
   refine⟨U.1.zJ ha,?_⟩;rcases U.2 with⟨h3,h4⟩|h3
   ·exact .inl ⟨h3,h4.zJ ha⟩
   ·exact .inr h3
  have r:=hh.iv (M':=s.M) (w':=s.w) (B':=.vec E d.size n (cj n es es')) (L':=L) hl Z ⟨λ_=>rfl,ar _⟩ (ar _) (λ_ _ _=>rfl) (λ_ _ _ _=>rfl) (λ_ _ _ h=>h) hh.mem
   (λb R=>⟨.inl R,hh.lt L (aE Z) b R⟩) rfl rfl rfl P9
  refine⟨.value (.slice a n cap),_,?_,?_,r.1,r.2,dW (kz hi hd Q O h.elem hh uY h2)⟩
  ·simp[I]
  ·rw[<-W];exact od (E:=E) (by rw[bk J]) (by simp only;rw[bk H]) P9
 ·have V:¬(n+m=n):=by omega
  by_cases A:n+m<=cap
  ·rcases U.2 with⟨Np,N⟩|⟨b,Eo,G,rfl,hw,S,z⟩
   ·rw[W] at N;obtain⟨_,_,_,e,_,_,Vs,_⟩:=N.flat;cases e;have:=Vs rfl;omega
   ·simp only at W;cases W;obtain⟨c,Ld,I⟩:=iZ (P:=P) (ty:=o.type) hi hd Q O h.elem hh hw S h2 A;have Qa:c.length=m*d.size:=Ld.len;have QJ:b<s.w.heap.size:=(dE.1 hw).1
    let M':Mem:=λK o=>if K=b/\n*d.size<=o/\o<(n+m)*d.size then c[o-n*d.size]? else s.M K o
    have zE:G.length=cap*d.size:=S;have YE:(n+m)*d.size=n*d.size+m*d.size:=eT _ _ _;have T6:(n+m)*d.size<=cap*d.size:=ee _ A;have Nq:∀ K o v,s.M K o=some v->M' K o=some v:=by
     intro K o v f;simp only[M'];rw[ak ?_]
     ·exact f
     ·rintro⟨rfl,h1,_⟩;rw[z o h1] at f;cases f
    have QK:∀ p u,c[p]?=some u->M' b (n*d.size+p)=some u:=by
     intro p u X;have oV:p<c.length:=(aD.1 X).1;simp only[M'];rw[an ⟨by first|rfl|trivial,by omega,by omega⟩,l7]
     exact X
    have QL:Rd M' (.slice (some ⟨b,0,none⟩) (n+m) cap) (.sl false d.size (n+m) (cj n es es')):=by
     refine Rd.ny (vs:=vs++c) ((hF.append Ld).mono Nq) (b:=b) (off:=0) (λ_=>rfl) A Ef (by simp) (λp u X=>?_)
     have Kg:vs.length=n*d.size:=hF.len;rcases bz p vs.length with oV|No
     ·rw[bc oV] at X;obtain⟨b1,QM,e,Le⟩:=hm p u X;cases e;exact Nq _ _ _ Le
     ·rw[ck No] at X;have:=QK _ u X;rw[show n*d.size+(p-vs.length)=0+p by omega] at this
      exact this
    have r:=hh.iv (M':=M') (w':=s.w.setRow b (G.take (n*d.size)++c++G.drop (n*d.size+c.length)).toArray) (B':=.vec E d.size (n+m) (cj n es es')) (L':=⟨.slice (some ⟨b,0,none⟩) (n+m) cap,[b]⟩) hl Z
     ⟨λe=>absurd e V,by omega⟩ (by simp) (λK _ k=>setRow_other _ _ _ _ (by simpa using k)) (λK _ k o=>by
      simp only[M'];rw[ak (by simp at k;rintro⟨e,_⟩;exact k e)]) Nq ?_ (λK k=>by
      simp at k;subst k;exact⟨.inl (by simp),by simpa using QJ⟩) rfl rfl rfl ?_
    ·refine⟨.value (.slice (some ⟨b,0,none⟩) (n+m) cap),_,?_,?_,r.1,r.2,dW (kA hi hd Q O h.elem hh hw S h2 A (aE Z) (by simp) z)⟩
     ·simp[I]
     ·exact od (L:=⟨.slice (some ⟨b,0,none⟩) (n+m) cap,[b]⟩) (E:=E) (by rw[bk J]) (by simp only;rw[bk H]) (r.1.box l _ _ (by rw[bk J]) (by simp only;rw[bk H]))
    ·intro K o v f
     by_cases k:K=b
     ·subst k;have NO:∀ j,(s.w.setRow K (G.take (n*d.size)++c++G.drop (n*d.size+c.length)).toArray).cell? ⟨K,j,none⟩=(G.take (n*d.size)++c++G.drop (n*d.size+c.length))[j]?:=by
       intro j;rw[cell_setRow_same _ _ _ _ _ _ _ hw];simp
      rw[NO];simp only[M'] at f;have Vt:(G.take (n*d.size)).length=n*d.size:=by rw[List.length_take];omega
      split at f
      ·rename_i hc
       rw[di,ck (by omega),Vt,bc (by omega)]
       exact f
      ·rename_i hc
       have h3:=hh.mem K o v f;have ho:o<n*d.size:=by
        rcases bz o (n*d.size) with h|h
        ·exact h
        ·rw[z o h] at f;cases f
       rw[di,bc (by omega),de,an ho]
       simp only[World.cell?,hw] at h3;simpa using h3
     ·simp only[M'] at f;rw[ak (by rintro⟨e,_⟩;exact k e)] at f
      rw[<-hh.mem K o v f];simp only[World.cell?];rw[setRow_other _ _ _ _ k]
    ·refine⟨QL,.inr ⟨b,cap,_,rfl,setRow_heap _ _ _ _ _ _ hw,?_,λo ho=>?_⟩⟩
     ·simp only[ba,List.length_take,gj];omega
     ·simp only[M'];rw[ak (by rintro⟨_,_,h⟩;omega)]
      exact z o (by omega)
  ·have hg:cap<n+m:=by omega
   obtain⟨B,zs,F,T7,Nr,Ns,hlen,I⟩:=gn (P:=P) (ty:=o.type) hi hd Q O h.elem hh Y h2 hg R h.bytes;have YF:∀ b∈L.bs,b<s.w.heap.size:=hh.lt L (aE Z);have QL:Rd (λb o=>if b=s.w.heap.size then B[o]? else s.M b o) (.slice (some ⟨s.w.heap.size,0,none⟩) (n+m) F) (.sl false d.size (n+m) (cj n es es')) :=
    Rd.ny (T7.mono (vp hh B)) (b:=s.w.heap.size) (off:=0) (λ_=>rfl) Nr Ns (by simp) (λp u X=>by simpa using X)
   have r:=hh.iv (M':=λb o=>if b=s.w.heap.size then B[o]? else s.M b o) (w':=s.w.drew.alloc (.cells (B++zs).toArray E)) (B':=.vec E d.size (n+m) (cj n es es')) (L':=⟨.slice (some ⟨s.w.heap.size,0,none⟩) (n+m) F,[s.w.heap.size]⟩) hl Z
    ⟨λe=>absurd e V,by omega⟩ (by simp) (λb R _=>b7 s.w.drew _ R) (λb R _ o=>by simp[show b≠s.w.heap.size by omega]) (vp hh B) (vo hh E B zs) (λb R=>by
     simp at R;subst R;exact⟨.inr (ar _),by simp⟩) rfl rfl rfl ⟨QL,.inr ⟨s.w.heap.size,F,B++zs,rfl,cU s.w.drew _,hlen,λo ho=>by
      have hl:B.length<=o:=by rw[T7.len];exact ho
      simp[eQ hl]⟩⟩
   refine⟨.value (.slice (some ⟨s.w.heap.size,0,none⟩) (n+m) F),_,?_,?_,r.1,r.2,dW (gM hi hd Q O h.elem hh Y h2 hg R h.bytes)⟩
   ·simp[I]
   ·exact od (L:=⟨.slice (some ⟨s.w.heap.size,0,none⟩) (n+m) F,[s.w.heap.size]⟩) (E:=E) (by rw[bk J]) (by simp only;rw[bk H]) (r.1.box l _ _ (by rw[bk J]) (by simp only;rw[bk H]))
end Go.AM
namespace Go.AM
open Go.Conc (G)
def jS{α:Type}:List Nat->List α->Option (List α)
 |[],_=>some []
 |k::ks,l=>match eW k l with
  |some x=>match jS ks l with
   |some r=>some (x::r)
   |none=>none
  |none=>none
theorem dY{α:Type}:∀ (n:Nat)(l:List α),eW n l=l[n]?
 |_,[]=>by simp[eW]
 |0,x::_=>by simp[eW]
 |n+1,_::xs=>by simpa[eW] using dY n xs
theorem gA{α:Type}:∀ {ks:List Nat}{l r:List α},jS ks l=some r->r.length=ks.length/\∀ (j k:Nat),ks[j]?=some k->∃ x,r[j]?=some x/\l[k]?=some x
 |[],l,r,h=>by cases h;simp
 |k::ks,l,r,h=>by
  simp only[jS] at h;cases a:eW k l with
  |none=>simp[a] at h
  |some x =>
   cases b:jS ks l with
   |none=>simp[a,b] at h
   |some q =>
    simp[a,b] at h;subst h;obtain⟨c,e⟩:=gA b;refine⟨by simp[c],λj k' hj=>?_⟩
    cases j with
    |zero=>simp at hj;subst hj;exact⟨x,rfl,c9 a⟩
    |succ j=>simp at hj;obtain⟨y,f,d⟩:=e j k' hj;exact⟨y,by simpa using f,d⟩
theorem wU{α e:Type}:∀ {ks:List Nat}{l r:List α}{l':List e},jS ks l=some r->l'.length=l.length->∃ r',jS ks l'=some r'
 |[],l,r,l',_,_=>⟨[],rfl⟩
 |k::ks,l,r,l',h,d=>by
  simp only[jS] at h;cases a:eW k l with
  |none=>simp[a] at h
  |some x =>
   cases c:jS ks l with
   |none=>simp[a,c] at h
   |some q =>
    obtain⟨r',b⟩:=wU (l':=l') c d;have f:k<l'.length:=by rw[d];exact(aD.1 (c9 a)).1
    exact⟨l'[k]::r',by simp[jS,dY,f,b]⟩
def nb(ks:List Nat):A->A
 |.ptr l o=>match eW l ks with|some k=>.ptr k o|none=>.any
 |.vec l k n es=>match eW l ks with|some m=>.vec m k n es|none=>.c (.sl false k n es)
 |.ref l=>match eW l ks with|some k=>.ref k|none=>.any
 |.bp l w=>match eW l ks with|some k=>.bp k w|none=>.any
 |.c x=>.c x
 |.any=>.any
def ym(ks:List Nat):List A->List A
 |[]=>[]
 |a::r=>nb ks a::ym ks r
def wV(ks:List Nat):E1->E1
 |.one a=>.one (nb ks a)
 |.agg cs=>.agg (ym ks cs)
def vt(ks:List Nat):List E1->List E1
 |[]=>[]
 |a::r=>wV ks a::vt ks r
def jd(ks:List Nat):D->D
 |.e x=>.e (wV ks x)
 |.dH xs=>.dH (vt ks xs)
 |.any=>.any
def ix(ks:List Nat):List D->List D
 |[]=>[]
 |a::r=>jd ks a::ix ks r
def zT:A->Bool
 |.c _|.any=>true
 |_=>false
def wW:List A->Bool
 |[]=>true
 |a::r=>match zT a with|true=>wW r|false=>false
def th:aj->Bool
 |.cells _ cs=>wW cs
 |.loop ..=>false
 |_=>true
def cy:List aj->Bool
 |[]=>true
 |a::r=>match th a with|true=>cy r|false=>false
theorem jy:∀ {l:List aj},cy l=true->∀ B∈l,th B=true
 |[],_,B,a=>by simp at a
 |b::r,h,B,a=>by
  simp only[cy] at h;cases c:th b with
  |false=>simp[c] at h
  |true =>
   simp only[c] at h;rcases dr.1 a with rfl|a
   ·exact c
   ·exact jy h B a
theorem cW.plain{σ σ':List aj}{s s':St}(e:s'.M=s.M):∀ {vs:List Value}{cs:List A},wW cs=true->cW σ s vs cs->cW σ' s' vs cs
 |[],[],_,_=>trivial
 |[],_::_,_,h=>h.elim
 |_::_,[],_,h=>h.elim
 |v::vs,a::al,b,h=>by
  simp only[wW] at b;cases d:zT a with
  |false=>simp[d] at b
  |true =>
   simp only[d] at b;refine⟨?_,cW.plain e b h.2⟩;cases a with
   |c x=>have:=h.1;simp only[gd] at this ⊢;rw[e];exact this
   |any=>exact h.1
   |_=>simp[zT] at d
theorem dT.plain{σ σ':List aj}{s s':St}(a:s'.M=s.M)(c:s'.w=s.w){B:aj}{L:Loc}(d:th B=true)(h:dT σ s B L):dT σ' s' B L:=by
 cases B with
 |cells E cs =>
  obtain⟨b,vs,h1,h2,e,f⟩:=h;exact⟨b,vs,h1,by rw[c];exact h2,e.plain a d,λo=>by rw[a];exact f o⟩
 |vec E k n es=>simp only[dT,a,c] at h ⊢;exact h
 |cx H=>simp only[dT,a,c] at h ⊢;exact h
 |dead=>trivial
 |loop N φ r=>simp[th] at d
 |qv=>simp only[dT,a,c] at h ⊢;exact h
 |buf E k n es=>simp only[dT,a,c] at h ⊢;exact h
def dZ:Nat->List Nat->Bool
 |_,[]=>false
 |k,x::r=>match Nat.beq k x with|true=>true|false=>dZ k r
def dv:List Nat->Bool
 |[]=>true
 |k::r=>match dZ k r with|true=>false|false=>dv r
theorem pS:∀ {k:Nat}{l:List Nat},k∈l->dZ k l=true
 |k,[],h=>by simp at h
 |k,x::r,h=>by
  simp only[dZ];cases a:Nat.beq k x with
  |true=>rfl
  |false =>
   rcases dr.1 h with rfl|h
   ·rw[gT] at a;cases a
   ·exact pS h
theorem ti:∀ {l:List Nat},dv l=true->∀ (i j k:Nat),l[i]?=some k->l[j]?=some k->i=j
 |[],_,i,j,k,hi,_=>by simp at hi
 |x::r,h,i,j,k,hi,a=>by
  simp only[dv] at h;cases b:dZ x r with
  |true=>simp[b] at h
  |false =>
   simp only[b] at h;have no:∀ q,r[q]?=some x->False:=λq c=>by
    have:=pS (aE c);rw[b] at this;cases this
   cases i with
   |zero =>
    cases j with
    |zero=>rfl
    |succ j =>
     simp at hi a;subst hi;exact(no _ a).elim
   |succ i =>
    cases j with
    |zero =>
     simp at hi a;subst a;exact(no _ hi).elim
    |succ j =>
     simp at hi a;rw[ti h i j k hi a]
def CG(n:Nat):A->Bool
 |.ptr l _|.vec l _ _ _|.ref l|.bp l _=>Nat.ble (l+1) n
 |_=>true
def CH(n:Nat):List A->Bool
 |[]=>true
 |a::r=>match CG n a with|true=>CH n r|false=>false
def EL(n:Nat):E1->Bool
 |.one a=>CG n a
 |.agg cs=>CH n cs
def u4(n:Nat):List E1->Bool
 |[]=>true
 |a::r=>match EL n a with|true=>u4 n r|false=>false
def tj(n:Nat):D->Bool
 |.e x=>EL n x
 |.dH xs=>u4 n xs
 |.any=>true
def oD(n:Nat):List D->Bool
 |[]=>true
 |a::r=>match tj n a with|true=>oD n r|false=>false
section sub
variable {ks:List Nat}{σ σ':List aj}{s:St}{β':List Loc}
theorem gd.sub(t:jS ks σ=some σ')(u:jS ks s.β=some β'){v:Value}{a:A}(d:gd σ s v (nb ks a))(f:CG ks.length a=true):gd σ' { s with β:=β' } v a:=by
 obtain⟨H,r⟩:=gA t;obtain⟨I,g2⟩:=gA u;cases a with
 |c x=>exact d
 |any=>exact d
 |ptr l o =>
  have hl:l<ks.length:=cA f;simp only[nb,dY,ai hl] at d;obtain⟨h1,L,b,h2,j,z⟩:=d;obtain⟨x,g,i⟩:=r l _ (ai hl);obtain⟨y,p,m⟩:=g2 l _ (ai hl);rw[m] at h2;cases h2;exact⟨λB h=>h1 B (by rw[i,<-g,h]),L,b,p,j,z⟩
 |vec l k n es =>
  have hl:l<ks.length:=cA f;simp only[nb,dY,ai hl] at d;obtain⟨h1,h2,j⟩:=d;obtain⟨x,g,i⟩:=r l _ (ai hl);obtain⟨y,p,m⟩:=g2 l _ (ai hl);refine⟨h1,by rw[H];exact hl,λE k' n' es' h=>?_⟩
  obtain⟨G,p2⟩:=j E k' n' es' (by rw[i,<-g,h])
  refine⟨G,λe=>?_⟩
  obtain⟨L,q,C⟩:=p2 e;rw[m] at q;cases q;exact⟨_,p,C⟩
 |ref l =>
  have hl:l<ks.length:=cA f;simp only[nb,dY,ai hl] at d;obtain⟨h1,L,h2,j,z⟩:=d;obtain⟨x,g,i⟩:=r l _ (ai hl);obtain⟨y,p,m⟩:=g2 l _ (ai hl);rw[m] at h2;cases h2;exact⟨λB h=>h1 B (by rw[i,<-g,h]),L,p,j,z⟩
 |bp l w =>
  have hl:l<ks.length:=cA f;simp only[nb,dY,ai hl] at d;obtain⟨lv,h1,h2,j⟩:=d;obtain⟨x,g,i⟩:=r l _ (ai hl);obtain⟨y,p,m⟩:=g2 l _ (ai hl);refine⟨lv,h1,(aD.1 g).1,λE k n es h=>?_⟩
  obtain⟨F,D⟩:=j E k n es (by rw[i,<-g,h])
  refine⟨F,λe=>?_⟩
  obtain⟨L,q,C⟩:=D e;rw[m] at q;cases q;exact⟨y,p,C⟩
theorem gd.lL{σ2:List aj}{s2:St}(H:s2.M=s.M)(h:∀ (j:Nat)(B:aj),σ[j]?=some B->∃ k,ks[j]?=some k/\σ2[k]?=some B)(g:∀ (j:Nat)(L:Loc),s.β[j]?=some L->∃ k,ks[j]?=some k/\s2.β[k]?=some L)(i:s.β.length=σ.length)
  {v:Value} {a:A} (q:gd σ s v a):gd σ2 s2 v (nb ks a):=by
 cases a with
 |c x=>simp only[nb,gd,H];exact q
 |any=>exact q
 |ptr l o =>
  obtain⟨h1,L,b,h2,p,G⟩:=q;obtain⟨k,k1,t⟩:=g l L h2;have hl:l<σ.length:=by rw[<-i];exact(aD.1 h2).1
  obtain⟨k',f,m⟩:=h l _ (ai hl);rw[k1] at f;cases f;simp only[nb,dY,k1];refine⟨λB d=>?_,L,b,t,p,G⟩
  rw[m] at d;exact h1 B (by rw[ai hl];exact d)
 |vec l k n es =>
  obtain⟨h1,h2,p⟩:=q;obtain⟨k1,r,p2⟩:=h l _ (ai h2);simp only[nb,dY,r];refine⟨by rw[H];exact h1,(aD.1 p2).1,λE k' n' es' d=>?_⟩
  rw[p2] at d;obtain⟨C,y⟩:=p E k' n' es' (by rw[ai h2];exact d)
  refine⟨C,λe=>?_⟩
  obtain⟨L,D,F⟩:=y e;obtain⟨t,u,z⟩:=g l L D;rw[r] at u;cases u;exact⟨L,z,F⟩
 |ref l =>
  obtain⟨h1,L,h2,p,G⟩:=q;obtain⟨k,k1,t⟩:=g l L h2;have hl:l<σ.length:=by rw[<-i];exact(aD.1 h2).1
  obtain⟨k',f,m⟩:=h l _ (ai hl);rw[k1] at f;cases f;simp only[nb,dY,k1];refine⟨λB d=>?_,L,t,p,G⟩
  rw[m] at d;exact h1 B (by rw[ai hl];exact d)
 |bp l w =>
  obtain⟨lv,h1,h2,p⟩:=q;obtain⟨k1,r,p2⟩:=h l _ (ai h2);simp only[nb,dY,r];refine⟨lv,h1,(aD.1 p2).1,λE k' n' es' d=>?_⟩
  rw[p2] at d;obtain⟨C,y⟩:=p E k' n' es' (by rw[ai h2];exact d)
  refine⟨C,λe=>?_⟩
  obtain⟨L,D,F⟩:=y e;obtain⟨t,u,z⟩:=g l L D;rw[r] at u;cases u;exact⟨L,z,F⟩
theorem cW.sub(c:jS ks σ=some σ')(b:jS ks s.β=some β'):∀ {vs:List Value}{cs:List A},cW σ s vs (ym ks cs)->CH ks.length cs=true->cW σ' { s with β:=β' } vs cs
 |[],[],_,_=>trivial
 |[],_::_,h,_=>h.elim
 |_::_,[],h,_=>h.elim
 |v::vs,a::al,h,d=>by
  simp only[CH] at d;cases e:CG ks.length a with
  |false=>simp[e] at d
  |true=>simp only[e] at d;exact⟨h.1.sub c b e,cW.sub c b h.2 d⟩
theorem kE.sub(c:jS ks σ=some σ')(b:jS ks s.β=some β'){v:Value}{x:E1}(h:kE σ s v (wV ks x))(d:EL ks.length x=true):kE σ' { s with β:=β' } v x:=by
 cases x with
 |one a=>exact gd.sub c b h d
 |agg cs=>obtain⟨vs,h1,h2⟩:=h;exact⟨vs,h1,h2.sub c b d⟩
theorem ey.sub(c:jS ks σ=some σ')(b:jS ks s.β=some β'):∀ {vs:List Value}{xs:List E1},ey σ s vs (vt ks xs)->u4 ks.length xs=true->ey σ' { s with β:=β' } vs xs
 |[],[],_,_=>trivial
 |[],_::_,h,_=>h.elim
 |_::_,[],h,_=>h.elim
 |v::vs,a::al,h,d=>by
  simp only[u4] at d;cases e:EL ks.length a with
  |false=>simp[e] at d
  |true=>simp only[e] at d;exact⟨h.1.sub c b e,ey.sub c b h.2 d⟩
theorem cd.sub(b:jS ks σ=some σ')(a:jS ks s.β=some β'){v:Value}{d:D}(h:cd σ s v (jd ks d))(c:tj ks.length d=true):cd σ' { s with β:=β' } v d:=by
 cases d with
 |e x=>exact kE.sub b a h c
 |dH xs=>obtain⟨vs,h1,h2⟩:=h;exact⟨vs,h1,h2.sub b a c⟩
 |any=>trivial
theorem bC.sub(c:jS ks σ=some σ')(b:jS ks s.β=some β'):∀ {vs:List Value}{ds:List D},bC σ s vs (ix ks ds)->oD ks.length ds=true->bC σ' { s with β:=β' } vs ds
 |[],[],_,_=>trivial
 |[],_::_,h,_=>h.elim
 |_::_,[],h,_=>h.elim
 |v::vs,a::al,h,d=>by
  simp only[oD] at d;cases e:tj ks.length a with
  |false=>simp[e] at d
  |true=>simp only[e] at d;exact⟨h.1.sub c b e,bC.sub c b h.2 d⟩
variable {σ2:List aj}{s2:St}
theorem cW.lL(d:s2.M=s.M)(c:∀ (j:Nat)(B:aj),σ[j]?=some B->∃ k,ks[j]?=some k/\σ2[k]?=some B)(b:∀ (j:Nat)(L:Loc),s.β[j]?=some L->∃ k,ks[j]?=some k/\s2.β[k]?=some L)(a:s.β.length=σ.length) :
  ∀ {vs:List Value} {cs:List A},cW σ s vs cs->cW σ2 s2 vs (ym ks cs)
 |[],[],_=>trivial
 |[],_::_,h=>h.elim
 |_::_,[],h=>h.elim
 |_::_,_::_,h=>⟨h.1.lL d c b a,cW.lL d c b a h.2⟩
theorem kE.lL(e:s2.M=s.M)(d:∀ (j:Nat)(B:aj),σ[j]?=some B->∃ k,ks[j]?=some k/\σ2[k]?=some B)(c:∀ (j:Nat)(L:Loc),s.β[j]?=some L->∃ k,ks[j]?=some k/\s2.β[k]?=some L)(b:s.β.length=σ.length)
  {v:Value} {x:E1} (h:kE σ s v x):kE σ2 s2 v (wV ks x):=by
 cases x with
 |one a=>exact gd.lL e d c b h
 |agg cs=>obtain⟨vs,h1,h2⟩:=h;exact⟨vs,h1,h2.lL e d c b⟩
theorem ey.lL(d:s2.M=s.M)(c:∀ (j:Nat)(B:aj),σ[j]?=some B->∃ k,ks[j]?=some k/\σ2[k]?=some B)(b:∀ (j:Nat)(L:Loc),s.β[j]?=some L->∃ k,ks[j]?=some k/\s2.β[k]?=some L)(a:s.β.length=σ.length) :
  ∀ {vs:List Value} {xs:List E1},ey σ s vs xs->ey σ2 s2 vs (vt ks xs)
 |[],[],_=>trivial
 |[],_::_,h=>h.elim
 |_::_,[],h=>h.elim
 |_::_,_::_,h=>⟨h.1.lL d c b a,ey.lL d c b a h.2⟩
theorem cd.lL(f:s2.M=s.M)(c:∀ (j:Nat)(B:aj),σ[j]?=some B->∃ k,ks[j]?=some k/\σ2[k]?=some B)(b:∀ (j:Nat)(L:Loc),s.β[j]?=some L->∃ k,ks[j]?=some k/\s2.β[k]?=some L)(a:s.β.length=σ.length)
  {v:Value} {d:D} (h:cd σ s v d):cd σ2 s2 v (jd ks d):=by
 cases d with
 |e x=>exact kE.lL f c b a h
 |dH xs=>obtain⟨vs,h1,h2⟩:=h;exact⟨vs,h1,h2.lL f c b a⟩
 |any=>trivial
end sub
def dt.rR{α:Type}:Nat->α->List α->List α
 |_,_,[]=>[]
 |0,x,_::r=>x::r
 |k+1,x,y::r=>y::dt.rR k x r
def dt{α:Type}:List Nat->List α->List α->List α
 |[],new,old=>old++new
 |k::ks,x::new,old=>dt ks new (dt.rR k x old)
 |_::_,[],old=>old
theorem la{α:Type}:∀ (k:Nat)(x:α)(l:List α),dt.rR k x l=l.set k x
 |_,_,[]=>by simp[dt.rR]
 |0,x,_::r=>by simp[dt.rR]
 |k+1,x,y::r=>by simp[dt.rR,la k x r]
theorem tk{α:Type}:∀ {ks:List Nat}{new old:List α},dv ks=true->(∀ k∈ks,k<old.length)->ks.length<=new.length ->
  (dt ks new old).length=old.length+(new.length-ks.length)/\(∀ (j k:Nat),ks[j]?=some k->(dt ks new old)[k]?=new[j]?) /\
  (∀ j,(dt ks new old)[old.length+j]?=new[ks.length+j]?)/\(∀ l,l<old.length->l∉ks->(dt ks new old)[l]?=old[l]?)
 |[],new,old,_,_,_=>by
  refine⟨by simp[dt],by simp,λj=>?_,λl f _=>?_⟩
  ·simp only[dt,ef,aw];rw[ck (by omega),l7]
  ·simp[dt,bc f]
 |k::ks,[],old,_,_,h=>by simp at h
 |k::ks,x::new,old,b,c,g=>by
  have r:=b;simp only[dv] at b;cases d:dZ k ks with
  |true=>simp[d] at b
  |false =>
   simp only[d] at b;have m:k<old.length:=c k (by simp)
   have i:k∉ks:=λh=>by rw[pS h] at d;cases d
   obtain⟨o,q,p,n⟩:=tk (ks:=ks) (new:=new) (old:=old.set k x) b (λk' Nw=>by simpa using c k' (by simp[Nw])) (by simpa using g)
   simp only[dt,la];refine⟨by simp[o],λj k' hj=>?_,λj=>?_,λl f a=>?_⟩
   ·cases j with
    |zero =>
     simp at hj;subst hj;rw[n k (by simpa using m) i,bk m]
     rfl
    |succ j =>
     simp at hj;rw[q j k' hj];simp
   ·have:=p j;simp only[sA] at this;rw[this];simp[Nat.add_right_comm]
   ·simp only[dr,not_or] at a;rw[n l (by simpa using f) a.2,b6 (λe=>a.1 e.symm)]
def Ev{P:Program}(X:Cx P)(f:FuncId)(args:List D)(σ:List aj)(res:D)(σ':List aj):Prop :=
 (∃ fn,P.funcs[f]?=some fn/\(fn.name== "runtime.NumGoroutine")=false/\fn.body.isNone=false) /\
 ∀ s (vs:List Value),bC σ s vs args->ag σ s->∀ (S:Goroutine->St->Prop) (cs:List Frame),
  (∀ a v s',rO P f a v s'->cd σ' s' v res->ag σ' s'->bo σ s σ' s'->dn X S (G a cs) s')->dn X S (G (Frame.enter P f vs.toArray .normal) cs) s
def cf{P:Program}{ι:Type}(X:Cx P)(f:FuncId)(args:List D)(σ:List aj)(res:ι->D)(σ':ι->List aj):Prop :=
 (∃ fn,P.funcs[f]?=some fn/\(fn.name== "runtime.NumGoroutine")=false/\fn.body.isNone=false) /\
 ∀ s (vs:List Value),bC σ s vs args->ag σ s->∀ (S:Goroutine->St->Prop) (cs:List Frame),
  (∀ i a v s',rO P f a v s'->cd (σ' i) s' v (res i)->ag (σ' i) s'->bo σ s (σ' i) s'->dn X S (G a cs) s')->dn X S (G (Frame.enter P f vs.toArray .normal) cs) s
theorem Ev.EM{P:Program}{X:Cx P}{f:FuncId}{args:List D}{σ:List aj}{res:D}{σ':List aj}(h:Ev X f args σ res σ'):cf (ι:=Unit) X f args σ (λ_=>res) (λ_=>σ') :=
 ⟨h.1,λs vs hr hh S cs hS=>h.2 s vs hr hh S cs (hS ())⟩
theorem cf.tm{P:Program}{X:Cx P}{f:FuncId}{args:List D}{σ:List aj}{res:D}{σ':List aj}(h:cf (ι:=Unit) X f args σ (λ_=>res) (λ_=>σ')):Ev X f args σ res σ' :=
 ⟨h.1,λs vs hr hh S cs hS=>h.2 s vs hr hh S cs (λ_=>hS)⟩
def wX(s:St)(a:List Loc):Nat->Prop:=λb=>s.own b∨((∃ L∈s.β,b∈L.bs)/\∀ L∈a,b∉L.bs)
def mG(n:Nat):Nat->List Nat
 |0=>[]
 |m+1=>n::mG (n+1) m
theorem yn:∀ (m n j:Nat),(mG n m)[j]?=if j<m then some (n+j) else none
 |0,n,j=>by simp[mG]
 |m+1,n,0=>by simp[mG]
 |m+1,n,j+1=>by
  simp only[mG,oS,yn m (n+1) j,Nat.add_lt_add_iff_right];split
  ·congr 1;omega
  ·rfl
theorem frame{ks:List Nat}{σ σs σ1:List aj}{s d:St}{r:List Loc}(p:ag σ s)(U:jS ks σ=some σs)(hβ:jS ks s.β=some r)(hn:dv ks=true)
  (hp:cy σ1=true) (G:ag σ1 d) (st:bo σs { s with β:=r,own:=wX s r } σ1 d) (Z:ks.length<=σ1.length) {v:Value} {res:D} (hr:cd σ1 d v res) :
  ∃ s2:St,s2.w=d.w/\cd (dt ks σ1 σ) s2 v (jd (ks++mG σ.length (σ1.length-ks.length)) res)/\ag (dt ks σ1 σ) s2/\bo σ s (dt ks σ1 σ) s2/\s2.M=d.M/\s2.own=s.own/\∀ L∈s2.β,L∈d.β∨(L∈s.β/\∀ b∈L.bs,∀ L'∈r,b∉L'.bs):=by
 have K:∀ k∈ks,k<σ.length:=by
  intro k A;obtain⟨j,n,rfl⟩:=cJ A;obtain⟨x,_,h2⟩:=(gA U).2 j _ (ai n);exact(aD.1 h2).1
 have H:∀ k∈ks,k<s.β.length:=by rw[p.len];exact K
 have P:ks.length<=d.β.length:=by rw[G.len];exact Z
 obtain⟨a1,a2,a3,a4⟩:=tk (new:=σ1) (old:=σ) hn K Z;obtain⟨b1,b2,b3,b4⟩:=tk (new:=d.β) (old:=s.β) hn H P;obtain⟨c1,c2⟩:=gA U;obtain⟨d1,d2⟩:=gA hβ
 let I:=ks++mG σ.length (σ1.length-ks.length)
 have J:∀ j,j<σ1.length->∃ k,I[j]?=some k/\(dt ks σ1 σ)[k]?=σ1[j]?/\(dt ks d.β s.β)[k]?=d.β[j]?:=by
  intro j n;rcases bz j ks.length with c|q
  ·refine⟨ks[j],?_,a2 j _ (ai c),b2 j _ (ai c)⟩;simp only[I];rw[bc c,ai c]
  ·refine⟨σ.length+(j-ks.length),?_,?_,?_⟩
   ·simp only[I];rw[ck q,yn,an (by omega)]
   ·rw[a3];congr 1;omega
   ·rw[<-p.len,b3];congr 1;omega
 have i:∀ l L,(dt ks d.β s.β)[l]?=some L->(∃ j,j<σ1.length/\d.β[j]?=some L/\(∀ B,(dt ks σ1 σ)[l]?=some B->σ1[j]?=some B)/\(∀ k,ks[j]?=some k->k=l)/\(j≥ks.length->l=σ.length+(j-ks.length))) ∨
   (l<σ.length/\l∉ks/\s.β[l]?=some L/\(dt ks σ1 σ)[l]?=σ[l]?):=by
  intro l L a;have V9:l<(dt ks d.β s.β).length:=(aD.1 a).1;rcases bz l σ.length with c|q
  ·by_cases u:l∈ks
   ·obtain⟨j,n,rfl⟩:=cJ u;have A:=ai n;refine .inl ⟨j,by omega,by rw[<-b2 j _ A];exact a,λB t=>by rw[<-a2 j _ A];exact t,λk Nw=>by rw[A] at Nw;cases Nw;rfl,λh=>by omega⟩
   ·exact .inr ⟨c,u,by rw[<-b4 l (by rw[p.len];exact c) u];exact a,a4 l c u⟩
  ·rw[b1,G.len,p.len] at V9;refine .inl ⟨ks.length+(l-σ.length),by omega,?_,λB t=>?_,λk A=>?_,λ_=>by omega⟩
   ·rw[<-b3,p.len,wM q];exact a
   ·rw[<-a3,wM q];exact t
   ·have:=(aD.1 A).1;omega
 have z:∀ L∈r,L∈s.β:=by
  intro L a;obtain⟨j,n,rfl⟩:=cJ a;have E:j<ks.length:=by rw[<-d1];exact n
  obtain⟨x,Q,R⟩:=d2 j _ (ai E);rw[ai n] at Q;cases Q;exact aE R
 have other:∀ l L,l∉ks->s.β[l]?=some L->∀ b∈L.bs,b<s.w.heap.size/\∀ L'∈r,b∉L'.bs:=by
  intro l L C a b f;refine⟨p.lt L (aE a) b f,λL' gf Ez=>?_⟩
  obtain⟨j,n,rfl⟩:=cJ gf;have E:j<ks.length:=by rw[<-d1];exact n
  obtain⟨x,Q,R⟩:=d2 j _ (ai E);rw[ai n] at Q;cases Q;have:=p.fe l ks[j] L _ a R b f Ez;exact C (this▸bJ E)
 have out:∀ b,b<s.w.heap.size->(∀ L∈s.β,b∉L.bs)->∀ L∈r,b∉L.bs:=λb _ h L a=>h L (z L a)
 have ex:Ext σ s (dt ks σ1 σ) ⟨dt ks d.β s.β,d.M,d.w,s.own⟩:=by
  refine⟨st.mem,λl B L t a=>?_⟩
  have c:l<σ.length:=(aD.1 t).1
  by_cases u:l∈ks
  ·obtain⟨j,n,rfl⟩:=cJ u;have A:=ai n;obtain⟨x,Q,R⟩:=c2 j _ A;obtain⟨y,y1,y2⟩:=d2 j _ A;rw[t] at R;cases R;rw[a] at y2;cases y2;obtain⟨B',L',p1,p2,p3⟩:=st.box j B L Q y1;exact⟨B',L',by rw[a2 j _ A,p1],by simp only;rw[b2 j _ A,p2],p3⟩
  ·exact⟨B,L,by rw[a4 l c u,t],by simp only;rw[b4 l (by rw[p.len];exact c) u,a],.refl _ _⟩
 refine⟨⟨dt ks d.β s.β,d.M,d.w,s.own⟩,rfl,?_,⟨G.mem,?_,?_,?_,?_,?_⟩,⟨st.size,?_,st.mem,?_,?_,ex.box,st.os,st.tape,st.output,rfl⟩,rfl,rfl,?_⟩
 ·refine cd.lL (s:=d) (s2:=⟨dt ks d.β s.β,d.M,d.w,s.own⟩) (σ2:=dt ks σ1 σ) (ks:=I) rfl (λj B t=>?_) (λj L a=>?_) G.len hr
  ·obtain⟨k,k1,k2,_⟩:=J j (aD.1 t).1;exact⟨k,k1,by rw[k2,t]⟩
  ·obtain⟨k,k1,_,k3⟩:=J j (by rw[<-G.len];exact(aD.1 a).1)
   exact⟨k,k1,by simp only;rw[k3,a]⟩
 ·simp only;rw[a1,b1,G.len,p.len]
 ·intro l B L t a;rcases i l L a with⟨j,n,g,X,_⟩|⟨C,u,gf,jR⟩
  ·exact dT.plain (σ:=σ1) (s:=d) (s':=⟨dt ks d.β s.β,d.M,d.w,s.own⟩) rfl rfl (jy hp B (aE (X B t))) (G.box j B L (X B t) g)
  ·rw[jR] at t;refine(p.box l B L t gf).carry ex p.len λb f=>?_
   obtain⟨o1,S⟩:=other l L u gf b f;exact⟨st.eC b (.inr ⟨⟨L,aE gf,f⟩,S⟩),st.ij b o1 S⟩
 ·intro l l' L L' a gf b f Ez;rcases i l L a with⟨j,n,g,_,Od,Qd⟩|⟨C,u,m,_⟩ <;> rcases i l' L' gf with⟨j',E,N,_,Y,W⟩|⟨uX,hm',O,_⟩
  ·have e:=G.fe j j' L L' g N b f Ez;subst e;rcases bz j ks.length with c|q
   ·rw[<-Od _ (ai c),<-Y _ (ai c)]
   ·rw[Qd q,W q]
  ·obtain⟨o1,S⟩:=other l' L' hm' O b Ez;rcases st.rM L (aE g) b f with h|⟨T,V,F⟩
   ·simp only at h;omega
   ·exact absurd F (S T V)
  ·obtain⟨o1,S⟩:=other l L u m b f;rcases st.rM L' (aE N) b Ez with h|⟨T,V,F⟩
   ·simp only at h;omega
   ·exact absurd F (S T V)
  ·exact p.fe l l' L L' m O b f Ez
 ·intro L a b f;obtain⟨l,C,rfl⟩:=cJ a;rcases i l _ (ai C) with⟨j,n,g,_⟩|⟨_,_,m,_⟩
  ·exact G.lt _ (aE g) b f
  ·have:=p.lt _ (aE m) b f;have:=st.size;simp only at this ⊢;omega
 ·intro b f;refine⟨?_,λL a Cz=>?_⟩
  ·have:=(p.own b f).1;have:=st.size;simp only at this ⊢;omega
  ·obtain⟨l,C,rfl⟩:=cJ a;rcases i l _ (ai C) with⟨j,n,g,_⟩|⟨_,_,m,_⟩
   ·have ho:d.own b:=by rw[st.own];exact .inl f
    exact(G.own b ho).2 _ (aE g) Cz
   ·exact(p.own b f).2 _ (aE m) Cz
 ·intro b f;exact st.eC b (.inl f)
 ·intro b f Q4 o;exact st.ij b f (out b f Q4) o
 ·intro L a b f;obtain⟨l,C,rfl⟩:=cJ a;rcases i l _ (ai C) with⟨j,n,g,_⟩|⟨_,_,m,_⟩
  ·rcases st.rM _ (aE g) b f with h|⟨T,V,F⟩
   ·exact .inl h
   ·exact .inr ⟨T,z T V,F⟩
  ·exact .inr ⟨_,aE m,f⟩
 ·intro L a;obtain⟨l,C,rfl⟩:=cJ a;rcases i l _ (ai C) with⟨j,n,g,_⟩|⟨_,u,m,_⟩
  ·exact .inl (aE g)
  ·exact .inr ⟨aE m,λb f=>(other l _ u m b f).2⟩
def eu:D->Option (FuncId×List C)
 |.e (.one (.c (.fn (.func f) [] cap)))=>some (f,cap)
 |_=>none
theorem mr{σ:List aj}{s:St}{b:Operand->Value}{c:Operand->D}(a:∀ y,cd σ s (b y) (c y)):∀ l:List Operand,bC σ s (l.map b) (l.map c)
 |[]=>trivial
 |x::r=>⟨a x,mr a r⟩
theorem bC.append{σ:List aj}{s:St}:∀ {vs uV:List Value}{ds Bu:List D},bC σ s vs ds->bC σ s uV Bu->bC σ s (vs++uV) (ds++Bu)
 |[],_,[],_,_,h=>h
 |[],_,_::_,_,h,_=>h.elim
 |_::_,_,[],_,h,_=>h.elim
 |_::_,_,_::_,_,h,a=>⟨h.1,bC.append h.2 a⟩
def Ln:A->A
 |.vec _ k n es=>.c (.sl false k n es)
 |.c (.sl _ k n es)=>.c (.sl false k n es)
 |a=>a
theorem BA{σ:List aj}{s:St}{v:Value}{a:A}(h:gd σ s v a):gd σ s v (Ln a):=by
 cases a with
 |vec l k n es=>exact h.1
 |c x=>cases x <;> first|exact h|exact Rd.loose h
 |_=>exact h
def Lo:List A->List A
 |[]=>[]
 |a::r=>Ln a::Lo r
theorem BC{σ:List aj}{s:St}:∀ {vs:List Value}{cs:List A},cW σ s vs cs->cW σ s vs (Lo cs)
 |[],[],_=>trivial
 |[],_::_,h=>h.elim
 |_::_,[],h=>h.elim
 |_::_,_::_,h=>⟨BA h.1,BC h.2⟩
def Oe:D->D
 |.e (.one a)=>.e (.one (Ln a))
 |.e (.agg cs)=>.e (.agg (Lo cs))
 |d=>d
theorem Ip{σ:List aj}{s:St}{v:Value}{d:D}(h:cd σ s v d):cd σ s v (Oe d):=by
 cases d with
 |e x=>cases x with
  |one a=>exact BA h
  |agg cs=>obtain⟨vs,c,b⟩:=h;exact⟨vs,c,BC b⟩
 |dH xs=>exact h
 |any=>trivial
def oI:List D->List D
 |[]=>[]
 |a::r=>Oe a::oI r
theorem pT{σ:List aj}{s:St}:∀ {vs:List Value}{ds:List D},bC σ s vs ds->bC σ s vs (oI ds)
 |[],[],_=>trivial
 |[],_::_,h=>h.elim
 |_::_,[],h=>h.elim
 |_::_,_::_,h=>⟨Ip h.1,pT h.2⟩
def fO:List C->List D
 |[]=>[]
 |c::r=>.e (.one (.c c))::fO r
theorem ky{σ:List aj}{s:St}:∀ {vs:List Value}{cs:List C},(∀ (j:Nat)(c:C),cs[j]?=some c->∃ v,vs[j]?=some v/\Rd s.M v c)->vs.length=cs.length->bC σ s vs (fO cs)
 |[],[],_,_=>trivial
 |[],_::_,_,h=>by simp at h
 |_::_,[],_,h=>by simp at h
 |v::vs,c::cs,h,d=>by
  obtain⟨u,a,b⟩:=h 0 c rfl;simp at a;subst a;exact⟨b,ky (λj c e=>by simpa using h (j+1) c (by simpa using e)) (by simpa using d)⟩
theorem wY{α:Type}{ks:List Nat}{l r:List α}(h:jS ks l=some r):∀ x∈r,x∈l:=by
 intro x b;obtain⟨f,e⟩:=gA h;obtain⟨j,c,rfl⟩:=cJ b;obtain⟨y,a,d⟩:=e j _ (ai (by omega))
 rw[ai c] at a;cases a;exact aE d
theorem ag.sub{ks:List Nat}{σ f:List aj}{s:St}{a:List Loc}(hh:ag σ s)(n:jS ks σ=some f)(i:jS ks s.β=some a)(C:cy f=true)(A:dv ks=true) :
  ag f { s with β:=a,own:=wX s a }/\dX s { s with β:=a,own:=wX s a }:=by
 obtain⟨v,c2⟩:=gA n;obtain⟨d1,d2⟩:=gA i;have e:∀ L∈a,L∈s.β:=wY i;refine⟨⟨hh.mem,by simp[v,d1],?_,?_,?_,?_⟩,⟨rfl,λ_ _ _ h=>h,λ_ _ _=>rfl,hh.mem,?_⟩⟩
 ·intro j B L r c;have hj:j<ks.length:=by rw[<-v];exact(aD.1 r).1
  obtain⟨x,w,z⟩:=c2 j _ (ai hj);obtain⟨y,m,q⟩:=d2 j _ (ai hj);rw[r] at w;cases w;simp only at c;rw[c] at m;cases m;exact dT.plain (σ:=σ) (s:=s) (s':={ s with β:=a,own:=wX s a }) rfl rfl (jy C B (aE r)) (hh.box _ B L z q)
 ·intro j p L L' c g b d o;simp only at c g;have hj:j<ks.length:=by rw[<-d1];exact(aD.1 c).1
  have k:p<ks.length:=by rw[<-d1];exact(aD.1 g).1
  obtain⟨y,m,q⟩:=d2 j _ (ai hj);obtain⟨D,l,u⟩:=d2 p _ (ai k);rw[c] at m;cases m;rw[g] at l;cases l;have:=hh.fe _ _ L L' q u b d o;exact ti A j p ks[j] (ai hj) (by rw[ai k,this])
 ·intro L c b d;exact hh.lt _ (e L c) b d
 ·rintro b (d|⟨⟨L,c,d⟩,t⟩)
  ·exact⟨(hh.own b d).1,λL c=>(hh.own b d).2 L (e L c)⟩
  ·exact⟨hh.lt L c b d,t⟩
 ·rintro b ((d|⟨⟨L,c,d⟩,_⟩)|⟨L,c,d⟩)
  ·exact .inl d
  ·exact .inr ⟨L,c,d⟩
  ·exact .inr ⟨L,e L c,d⟩
theorem dX.back{σ g σ1:List aj}{s c s2:St}{a:List Loc}(hh:ag σ s)(h1:ag σ1 c)(st:bo g { s with β:=a,own:=wX s a } σ1 c)(l:s2.w=c.w)(f:s2.M=c.M)(i:s2.own=s.own)
  (e:∀ L∈s2.β,L∈c.β∨(L∈s.β/\∀ b∈L.bs,∀ L'∈a,b∉L'.bs)):dX c s2:=by
 refine⟨l,λb o v h=>by rw[f];exact h,λb _ o=>by rw[f],λb o v h=>by rw[f] at h;exact h1.mem b o v h,?_⟩
 rintro b (d|⟨L,j,d⟩)
 ·left;rw[st.own];exact .inl (by rw[<-i];exact d)
 ·rcases e L j with h|⟨h,k⟩
  ·exact .inr ⟨L,h,d⟩
  ·left;rw[st.own];exact .inr ⟨⟨L,h,d⟩,k b d⟩
theorem qy{P:Program}{ι:Type}{X:Cx P}{S:Goroutine->St->Prop}{b:Frame}{k:List Item}{cs:List Frame}{a:Act}{s:St}{ops:Array Oper}{i:Nat}{rest:List Nat}{o:Oper}{ks:List Nat}{σ g:List aj}{σ1:ι->List aj}{f:FuncId}{d:List D}{res:ι->D}{vs:List Value}
  (hb:b.kind≠.early) (ho:ops[i]?=some o) (hw:Region.wanted o (yielded ops a.tmps)=true) (hh:ag σ s) (H:∀ w,(execOp a.eval o).run P w=.ok (.enter f vs.toArray) w) (A:∀ w,(execOp a.eval o).events P w #[]=#[])
  (J:cf X f d g res σ1) (t:bC σ s vs (ix ks d)) (O:oD ks.length d=true) (p:jS ks σ=some g) (hp:cy g=true) (M:∀ j,cy (σ1 j)=true) (hn:dv ks=true) (N:∀ j,ks.length<=(σ1 j).length)
  (h:∀ j v s',cd (dt ks (σ1 j) σ) s' v (jd (ks++mG σ.length ((σ1 j).length-ks.length)) (res j))->ag (dt ks (σ1 j) σ) s'->bo σ s (dt ks (σ1 j) σ) s'->dn X S (G (b.aT (a.put o.dst v) (.inRegion ops rest::k)) cs) s') :
  dn X S (G (b.aT a (.inRegion ops (i::rest)::k)) cs) s:=by
 obtain⟨_,x⟩:=J;refine .next rfl λn K=>?_
 have R:=X.fz K;have e:=hh.rely R;obtain⟨m,u⟩:=wU (l':=n.β) p e.len;obtain⟨z,I⟩:=e.sub p u hp hn;have q:bC σ n vs (ix ks d):=t.mono R.stepW.ext hh.len;have C:bC g { n with β:=m,own:=wX n m } vs d:=(q.sub (s:=n) p u O).mono (σ:=g) (s:={ n with β:=m }) (σ':=g) (s':={ n with β:=m,own:=wX n m }) ⟨λ_ _ _ h=>h,λl B L hB hL=>⟨B,L,hB,hL,.refl _ _⟩⟩ z.len
 refine⟨_,n,_,nv ho hw hb (H n.w),?_,.ghost I (x _ vs C z S _ λj fr v s2 hl mo yb lB=>?_)⟩
 ·refine⟨⟨σ,σ,e,e,.refl _ _⟩,eK.seen ?_⟩;rw[A];exact .nil
 refine oc (cs:=cs) (c:=b.aT a (.inRegion ops (i::rest)::k)) yb hl λs3 r=>?_
 have E:=yb.rely r;have y:=lB.trans r.stepW;obtain⟨s4,Z,Y,W,V,U,Q,F⟩:=frame e p u hn (M j) E y (N j) (mo.mono r.stepW.ext yb.len);refine .ghost (dX.back e E y Z U Q F) ?_;have T:=iY (b:=b) (a:=a) (k:=k) ops i rest v;rw[ho] at T;simp only[jZ] at T;rw[T];exact h j v s4 Y W (R.stepW.trans V)
theorem EN{P:Program}{X:Cx P}{S:Goroutine->St->Prop}{b:Frame}{k:List Item}{cs:List Frame}{a:Act}{s:St}{ops:Array Oper}{i:Nat}{rest:List Nat}{o:Oper}{ks:List Nat}{σ d:List aj}{σ1:List aj}{f:FuncId}{c:List D}{res:D}{vs:List Value}
  (y:b.kind≠.early) (u:ops[i]?=some o) (z:Region.wanted o (yielded ops a.tmps)=true) (t:ag σ s) (j:∀ w,(execOp a.eval o).run P w=.ok (.enter f vs.toArray) w) (g:∀ w,(execOp a.eval o).events P w #[]=#[])
  (m:Ev X f c d res σ1) (e:bC σ s vs (ix ks c)) (n:oD ks.length c=true) (l:jS ks σ=some d) (r:cy d=true) (p:cy σ1=true) (x:dv ks=true) (q:ks.length<=σ1.length)
  (h:∀ v s',cd (dt ks σ1 σ) s' v (jd (ks++mG σ.length (σ1.length-ks.length)) res)->ag (dt ks σ1 σ) s'->bo σ s (dt ks σ1 σ) s'->dn X S (G (b.aT (a.put o.dst v) (.inRegion ops rest::k)) cs) s') :
  dn X S (G (b.aT a (.inRegion ops (i::rest)::k)) cs) s :=
 qy y u z t j g m.EM e n l r (λ_=>p) x (λ_=>q) (λ_=>h)
theorem fS{P:Program}{o:Oper}{l:Operand}{xs:Array Operand}{j:Array TypeId}(k:o.op=.call { callee:=.value l,args:=xs,argTypes:=j }){f:FuncId}{fn:Func}(h:P.funcs[f]?=some fn)(g:(fn.name== "runtime.NumGoroutine")=false)(d:fn.body.isNone=false)
  {a:Act} {cs:List Value} (m:a.eval l=.func (.func f) #[] cs.toArray) (w:World) :
  (execOp a.eval o).run P w=.ok (.enter f (xs.toList.map a.eval++cs).toArray) w/\(execOp a.eval o).events P w #[]=#[]:=by
 have i:(xs.map a.eval++cs.toArray)=(xs.toList.map a.eval++cs).toArray:=by apply gy;simp
 have c:fn.name≠ "runtime.NumGoroutine":=by simpa using g
 have b:fn.body≠none:=by intro e;rw[e] at d;cases d
 constructor
 ·simp[execOp,k,resolve,m,Deferred.ofValue,invoke,callFunc,h,c,b,i]
 ·simp[execOp,k,resolve,m,Deferred.ofValue,invoke,callFunc,h,c,b]
theorem dM.Kk{P:Program}{ι:Type}{X:Cx P}{N:Nat}{all rest:List Oper}{Q:Fr->List aj->Prop}{φ:Fr}{σ:List aj}{o:Oper}{A:Operand}{xs:Array Operand}{O:Array TypeId}
  (W:∀ σ s a,bg N σ s φ a->Region.wanted o (yielded all.toArray a.tmps)=true) (R:o.op=.call { callee:=.value A,args:=xs,argTypes:=O })
  {f:FuncId} {cap:List C} (B:eu (bn φ A)=some (f,cap)) (ks:List Nat) {e:List D} {r:List aj} {σ1:ι->List aj} {res:ι->D} (u:cf X f e r res σ1)
  (n:∀ s vs,bC σ s vs (xs.toList.map (bn φ)++fO cap)->bC σ s vs (ix ks e)) (L:oD ks.length e=true) (E:jS ks σ=some r) (hp:cy r=true) (J:∀ j,cy (σ1 j)=true) (U:dv ks=true) (K:∀ j,ks.length<=(σ1 j).length)
  (d:Option Nat) (hd:o.dst=d) (Y:∀ t,d=some t->t<N)
  (k:∀ j,dM X N all rest Q (iP d (jd (ks++mG σ.length ((σ1 j).length-ks.length)) (res j)) φ) (dt ks (σ1 j) σ)):dM X N all (o::rest) Q φ σ:=by
 subst hd;intro s a h hh b kk cs S idx hb fK hQ;cases idx with
 |nil=>exact fK.elim
 |cons i idx =>
 obtain⟨hi,fK⟩:=fK;have z:=cV h A;unfold eu at B;split at B
 case h_2=>cases B
 case h_1 f' Eo he =>
  cases B;rw[he] at z;have m:=eX z;generalize T:a.eval A=fv at m;cases m with
  |fn fs kU hl uX f1 f2 h1 h2 r1 r2 =>
   have G:fs=[]:=dq hl;subst G;have p:bC σ s kU (fO cap):=ky (λj c hj=>⟨f2 j,h2 j (by rw[uX];exact(aD.1 hj).1),r2 j c hj⟩) uX
   have x:bC σ s (xs.toList.map a.eval++kU) (ix ks e):=by
    exact n _ _ ((mr (cV h) xs.toList).append p)
   obtain⟨fn,y,l,g⟩:=u.1;refine qy hb hi (W _ _ _ h) hh (λw=>(fS R y l g T w).1) (λw=>(fS R y l g T w).2) u x L E hp J U K λj v s' hr ia st=>?_
   refine k j s' _ ?_ ia b kk cs S idx hb fK λH M Z a3 q f3 V F=>hQ H M Z a3 q f3 V (st.trans F)
   cases I:o.dst with
   |none=>exact h.mono st hh.len
   |some t=>exact(h.mono st hh.len).put (Y t I) hr
theorem dM.Kl{P:Program}{ι:Type}{X:Cx P}{N:Nat}{all rest:List Oper}{Q:Fr->List aj->Prop}{φ:Fr}{σ:List aj}{o:Oper}{q:Operand}{xs:Array Operand}{p:Array TypeId}
  (u:∀ σ s a,bg N σ s φ a->Region.wanted o (yielded all.toArray a.tmps)=true) (x:o.op=.call { callee:=.value q,args:=xs,argTypes:=p })
  {f:FuncId} {cap:List C} (r:eu (bn φ q)=some (f,cap)) (ks:List Nat) {b:List D} {c:List aj} {σ1:ι->List aj} {res:ι->D} (i:cf X f b c res σ1)
  (e:oI (xs.toList.map (bn φ)++fO cap)=ix ks b) (l:oD ks.length b=true) (g:jS ks σ=some c) (v:cy c=true) (m:∀ j,cy (σ1 j)=true) (y:dv ks=true) (n:∀ j,ks.length<=(σ1 j).length)
  (d:Option Nat) (z:o.dst=d) (w:∀ t,d=some t->t<N)
  (k:∀ j,dM X N all rest Q (iP d (jd (ks++mG σ.length ((σ1 j).length-ks.length)) (res j)) φ) (dt ks (σ1 j) σ)):dM X N all (o::rest) Q φ σ :=
 dM.Kk u x r ks i (λs vs h=>by rw[<-e];exact pT h) l g v m y n d z w k
theorem dM.call{P:Program}{X:Cx P}{N:Nat}{all rest:List Oper}{Q:Fr->List aj->Prop}{φ:Fr}{σ:List aj}{o:Oper}{n:Operand}{xs:Array Operand}{m:Array TypeId}
  (q:∀ σ s a,bg N σ s φ a->Region.wanted o (yielded all.toArray a.tmps)=true) (v:o.op=.call { callee:=.value n,args:=xs,argTypes:=m })
  {f:FuncId} {cap:List C} (p:eu (bn φ n)=some (f,cap)) (ks:List Nat) {b:List D} {c σ1:List aj} {res:D} (h:Ev X f b c res σ1)
  (e:oI (xs.toList.map (bn φ)++fO cap)=ix ks b) (i:oD ks.length b=true) (g:jS ks σ=some c) (r:cy c=true) (j:cy σ1=true) (w:dv ks=true) (l:ks.length<=σ1.length)
  (d:Option Nat) (x:o.dst=d) (u:∀ t,d=some t->t<N)
  (k:dM X N all rest Q (iP d (jd (ks++mG σ.length (σ1.length-ks.length)) res) φ) (dt ks σ1 σ)):dM X N all (o::rest) Q φ σ :=
 dM.Kl q v p ks h.EM e i g r (λ_=>j) w (λ_=>l) d x u (λ_=>k)
theorem Names.range(all:List Oper):Names all (List.range all.toArray.size) all:=by
 have key:∀ (l:List Oper) (n:Nat),(∀ j o,l[j]?=some o->all[n+j]?=some o)->Names all (List.range' n l.length) l:=by
  intro l
  induction l with
  |nil=>intro n _;trivial
  |cons o r a =>
   intro n h;rw[cM,List.range'_succ];refine⟨by simpa using h 0 o rfl,a (n+1) λj b hj=>?_⟩
   have:=h (j+1) b (by simpa using hj)
   rwa [show n+(j+1)=n+1+j by omega] at this
 have:=key all 0 (λj o h=>by simpa using h)
 rw[List.range_eq_range'];simpa using this
theorem AW.region{P:Program}{X:Cx P}{N:Nat}{Q:Post}{φ:Fr}{σ:List aj}{id:Nat}{ops:Array Oper}(h:dM X N ops.toList ops.toList (λφ σ=>Q .normal φ σ) φ σ):AW X N (.region id ops false) Q φ σ:=by
 intro s a f hh b k cs S i d;refine .ctl hh rfl (λ_=>og) λe h1=>?_
 have:=h e a (f.rely h1 hh) (hh.rely h1) b k cs S (List.range ops.size) i (by simpa using Names.range ops.toList) λc σ' s' a' q j g st=>d .normal c σ' s' a' q j g (h1.stepW.trans st)
 simpa using this
theorem dM.nil{P:Program}{X:Cx P}{N:Nat}{all:List Oper}{Q:Fr->List aj->Prop}{φ:Fr}{σ:List aj}(h:Q φ σ):dM X N all [] Q φ σ:=by
 intro s a f hh b k cs S idx _ c d;cases idx with
 |cons i idx=>exact c.elim
 |nil=>exact .ctl hh rfl (λ_=>ei) λe h1=>d φ σ e a h (f.rely h1 hh) (hh.rely h1) h1.stepW
theorem dM.mono{P:Program}{X:Cx P}{N:Nat}{all rest:List Oper}{Q d:Fr->List aj->Prop}{φ:Fr}{σ:List aj}(h:dM X N all rest Q φ σ)(g:∀ φ σ,Q φ σ->d φ σ):dM X N all rest d φ σ :=
 λs a f hh b k cs S idx hb hi hQ=>h s a f hh b k cs S idx hb hi λc σ' s' a' q i e st=>hQ c σ' s' a' (g _ _ q) i e st
theorem dM.le{P:Program}{X:Cx P}{N:Nat}{all rest:List Oper}{Q:Fr->List aj->Prop}{φ c:Fr}{σ:List aj}(h:dM X N all rest Q c σ)(hl:oE φ c):dM X N all rest Q φ σ :=
 λs a f hh b k cs S idx hb hi hQ=>h s a (f.le hl) hh b k cs S idx hb hi hQ
def iy:Nat->List D->Fr
 |_,[]=>[]
 |i,d::r=>(i,d)::iy (i+1) r
theorem mH:∀ (ds:List D)(i t:Nat),look (iy i ds) t=if i<=t then (ds[t-i]?).getD .any else .any
 |[],i,t=>by simp[iy,look]
 |d::r,i,t=>by
  simp only[iy,look]
  by_cases e:i=t
  ·subst e;rw[show Nat.beq i i=true from gT i]
   simp
  ·have:Nat.beq i t=false:=by
    cases h:Nat.beq i t
    ·rfl
    ·exact absurd (aO h) e
   rw[this];simp only[cond,mH r (i+1) t]
   by_cases a:i<=t
   ·rw[an (by omega),an a,show t-i=(t-(i+1))+1 by omega]
    simp
   ·rw[ak (by omega),ak a]
theorem bC.get{σ:List aj}{s:St}:∀ {vs:List Value}{ds:List D},bC σ s vs ds->vs.length=ds.length/\∀ (j:Nat),cd σ s ((vs[j]?).getD undef) ((ds[j]?).getD .any)
 |[],[],_=>⟨rfl,λj=>by simp[cd]⟩
 |[],_::_,h=>h.elim
 |_::_,[],h=>h.elim
 |v::vs,d::ds,h=>by
  obtain⟨h1,h2⟩:=bC.get h.2;refine⟨by simp[h1],λj=>?_⟩
  cases j with
  |zero=>simpa using h.1
  |succ j=>simpa using h2 j
def u5(φ:Fr):List ResultVar->Option (List D)
 |[]=>some []
 |.tmp t::r=>match u5 φ r with
  |some q=>some (look φ t::q)
  |none=>none
 |.cell _ _::_=>none
def rh:List D->Option (List E1)
 |[]=>some []
 |.e x::r=>match rh r with
  |some q=>some (x::q)
  |none=>none
 |_::_=>none
def pU:List D->Option D
 |[d]=>some d
 |ds=>match rh ds with
  |some es=>some (.dH es)
  |none=>none
def eZ(a:Act):ResultVar->Sem Value
 |ResultVar.tmp t=>pure (a.tmps.getD t undef)
 |ResultVar.cell ad t=>do loadVar t (<-asAddr (a.tmps.getD ad undef))
theorem BD(P:Program){N:Nat}{σ:List aj}{s:St}{φ:Fr}{a:Act}(f:bg N σ s φ a):∀ {rs:List ResultVar}{ds:List D},u5 φ rs=some ds ->
  ∃ vs,(∀ w,(rs.mapM (eZ a)).run P w=Result.ok vs w)/\bC σ s vs ds/\bR P (rs.mapM (eZ a))
 |[],ds,h=>by cases h;exact⟨[],by simp,ab,by rw[List.mapM_nil];exact .pure⟩
 |.tmp t::r,ds,h=>by
  simp only[u5] at h;cases b:u5 φ r with
  |none=>simp[b] at h
  |some q =>
   simp[b] at h;subst h;obtain⟨vs,e,c,d⟩:=BD P f b;refine⟨a.tmps.getD t undef::vs,?_,⟨f.slot t,c⟩,?_⟩
   ·intro w;simp only[jo,bm,eZ,cY,bP,e]
   ·rw[jo];exact .bind .pure λ_=>.bind d λ_=>.pure
 |.cell ad t::r,ds,h=>by simp[u5] at h
theorem yo{σ:List aj}{s:St}:∀ {vs:List Value}{ds:List D}{es:List E1},rh ds=some es->bC σ s vs ds->ey σ s vs es
 |[],[],es,h,_=>by cases h;trivial
 |[],_::_,_,_,h=>h.elim
 |_::_,[],_,_,h=>h.elim
 |v::vs,.e x::r,es,h,b=>by
  simp only[rh] at h;cases a:rh r with
  |none=>simp[a] at h
  |some q=>simp[a] at h;subst h;exact⟨b.1,yo a b.2⟩
 |_::_,.dH _::_,es,h,_=>by simp[rh] at h
 |_::_,.any::_,es,h,_=>by simp[rh] at h
theorem yp{σ:List aj}{s:St}{vs:List Value}{ds:List D}{d:D}(h:pU ds=some d)(a:bC σ s vs ds):cd σ s (if h:vs.length=1 then vs[0] else .tuple vs.toArray) d:=by
 unfold pU at h;split at h
 ·rename_i g
  cases h
  match vs,a with
  |[v],a=>simpa using a.1
 ·rename_i b
  cases c:rh ds with
  |none=>simp[c] at h
  |some es =>
   simp[c] at h;subst h;have f:vs.length≠1:=by
    intro e;rw[(bC.get a).1] at e
    match ds,e with
    |[x],_=>exact b x rfl
   rw[dif_neg f];exact⟨vs,rfl,yo c a⟩
def yq(P:Program)(fn:Func)(φ:Fr)(d:D):Prop:=∀ {N:Nat}{σ:List aj}{s:St}{a:Act},bg N σ s φ a->∃ v,cd σ s v d/\∀ w,(∀ b o u,s.M b o=some u->w.cell? ⟨b,o,none⟩=some u)->(results fn a.tmps).run P w=.ok v w/\∀ e∈(results fn a.tmps).events P w #[],∃ b o u,e=⟨.cell ⟨b,o,none⟩,false,false⟩/\s.M b o=some u
theorem ri{P:Program}{N:Nat}{σ:List aj}{s:St}{φ:Fr}{a:Act}(f:bg N σ s φ a){fn:Func}{ds:List D}{d:D}(h:u5 φ fn.results.toList=some ds)(c:pU ds=some d) :
  ∃ v,(∀ w,(results fn a.tmps).run P w=.ok v w)/\cd σ s v d/\bR P (results fn a.tmps):=by
 obtain⟨vs,i,b,g⟩:=BD P f h;refine⟨_,λw=>?_,yp c b,?_⟩
 ·have e:(fn.results.mapM (eZ a)).run P w=Result.ok vs.toArray w:=by
   rw[oR];simp only[Sem.run_map,i,bP]
  unfold results;rw[bm];refine(cn (λr=>Result.andThen r _) (Eq.trans ?_ e)).trans ?_
  ·congr 2
  ·simp
 ·unfold results;have e:bR P (fn.results.mapM (eZ a)):=by
   rw[oR];exact .map g
  exact .bind e λ_=>.pure
theorem yq.of{P:Program}{fn:Func}{φ:Fr}{ds:List D}{d:D}(h:u5 φ fn.results.toList=some ds)(hj:pU ds=some d):yq P fn φ d:=by
 intro N σ s a f;obtain⟨v,h1,h2,c⟩:=ri (P:=P) f h hj;exact⟨v,h2,λw _=>⟨h1 w,λe b=>by rw[c w #[]] at b;simp at b⟩⟩
theorem ag.k9{σ:List aj}{s:St}(h:ag σ s):ag (σ.map λ_=>.dead) s:=by
 refine⟨h.mem,by simp[h.len],λl B L a c=>?_,h.fe,h.lt,h.own⟩
 simp only[mb] at a;cases b:σ[l]? with
 |none=>rw[b] at a;cases a
 |some x=>rw[b] at a;cases a;trivial
structure Km (ls:List Nat)(s s':St):Prop where
 β:s'.β=s.β
 M:s'.M=s.M
 own:s'.own=s.own
 size:s.w.heap.size<=s'.w.heap.size
 eC:∀ b,(s.own b∨∃ (l:Nat) (L:Loc),s.β[l]?=some L/\l∉ls/\b∈L.bs)->s'.w.heap[b]?=s.w.heap[b]?
 mem:∀ b o v,s.M b o=some v->s'.w.cell? ⟨b,o,none⟩=some v
 os:s'.w.os=s.w.os
 tape:s'.w.tape=s.w.tape
 output:s'.w.output=s.w.output
theorem br.Wd{s s':St}(h:br s s')(d:List Nat):Km d s s' :=
 ⟨h.β,h.M,h.own,h.size,λb a=>h.eC b (a.imp id λ⟨l,L,h1,_,c⟩=>⟨L,aE h1,c⟩),h.mem,h.os,h.tape,h.output⟩
theorem Km.cat{l:Nat}{e:List Nat}{s f s2:St}(h:Km [l] s f)(k:Km e f s2):Km (l::e) s s2:=by
 refine⟨k.β.trans h.β,k.M.trans h.M,k.own.trans h.own,er h.size k.size,λb d=>?_,λb o v g=>k.mem b o v (by rw[h.M];exact g),k.os.trans h.os,k.tape.trans h.tape,k.output.trans h.output⟩
 rw[k.eC b,h.eC b (d.imp id λ⟨l',L,h1,h2,c⟩=>⟨l',L,h1,λa=>h2 (by simp at a;simp[a]),c⟩)]
 rw[h.own,h.β];exact d.imp id λ⟨l',L,h1,h2,c⟩=>⟨l',L,h1,λa=>h2 (im _ a),c⟩
theorem ET{P:Program}{w:World}{r:Nat}(a:w.heap[r]?=some (.deferred (some []))) :
  (Instr.takeDeferred r).run P w=.ok [] { w with heap:=w.heap.setIfInBounds r (.deferred none) }/\(Instr.takeDeferred r).events P w #[]=#[⟨.obj r,false,false⟩,⟨.obj r,true,false⟩]:=by
 have b:(getObj r).run P w=.ok (.deferred (some [])) w:=by simp only[getObj,Sem.run,a]
 have d:(setObj r (.deferred none)).run P w=.ok () { w with heap:=w.heap.setIfInBounds r (.deferred none) }:=by simp only[setObj,Sem.run,a]
 have c:∀ es,(getObj r).events P w es=es.push ⟨.obj r,false,false⟩:=λes=>by simp only[getObj,Sem.events,Sem.runT,a];rfl
 have e:∀ es,(setObj r (.deferred none)).events P w es=es.push ⟨.obj r,true,false⟩:=λes=>by simp only[setObj,Sem.events,Sem.runT,a];rfl
 constructor
 ·simp[Instr.takeDeferred,b,d]
 ·simp[Instr.takeDeferred,b,c,e]
variable {P:Program}{X:Cx P}{S:Goroutine->St->Prop}{cs:List Frame}{main:Bool}
theorem Ir{a:Frame}{r:Nat}{ds:List Deferred}{w:World}(c:a.mode=.returning)(e:a.defers={ target:=.collected r,args:=#[] }::ds)(b:w.heap[r]?=some (.deferred (some []))) :
  stepG P main (G a cs) w=.go (G { a with defers:=ds } cs) { w with heap:=w.heap.setIfInBounds r (.deferred none) } (seen P a.fn #[⟨.obj r,false,false⟩,⟨.obj r,true,false⟩]):=by
 obtain⟨d,f⟩:=ET (P:=P) b;simp[G,stepG,unwind,c,e,d,f,GStep.after]
def tn(s:St):List Deferred->List Nat->Prop
 |[],[]=>True
 |d::ds,l::ls=>(∃ r:Nat,s.β[l]?=some ⟨.int .i64 r,[r]⟩/\s.w.heap[r]?=some (.deferred (some []))/\(∀ o,s.M r o=none)/\d={ target:=.collected r,args:=#[] })/\l∉ls/\tn s ds ls
 |_,_=>False
theorem lG.taken{σ:List aj}{s:St}(hh:ag σ s):∀ {ds:List Deferred}{a:List Nat},lG σ s ds a->tn s ds a
 |[],[],_=>trivial
 |[],_::_,r=>r.elim
 |_::_,[],r=>r.elim
 |d::ds,l::a,⟨⟨h1,L,r,h2,f,i⟩,h,c⟩=>by
  obtain⟨r',k1,b,g⟩:=hh.box l _ L h1 h2;subst k1;simp at f;have e:r'=r:=by omega
  subst e;exact⟨⟨r',h2,b,g,i⟩,h,lG.taken hh c⟩
theorem tn.mono{s s':St}{c:Nat}(h:Km [c] s s'):∀ {ds:List Deferred}{b:List Nat},c∉b->tn s ds b->tn s' ds b
 |[],[],_,_=>trivial
 |[],_::_,_,r=>r.elim
 |_::_,[],_,r=>r.elim
 |d::ds,l::b,a,⟨⟨r,h1,h2,g,j⟩,i,f⟩=>by
  simp only[dr,not_or] at a;refine⟨⟨r,by rw[h.β];exact h1,by rw[h.eC r (.inr ⟨l,_,h1,by simp;exactλe=>a.1 e.symm,by simp⟩)];exact h2,λo=>by rw[h.M];exact g o,j⟩,i,tn.mono h a.2 f⟩
theorem o4:∀ (C:List Nat)(f:Frame)(s:St)(σ:List aj),ag σ s->(∀ B∈σ,B=.dead)->f.mode=.returning->tn s f.defers C ->
  (∀ s',Km C s s'->dn X S (G { f with defers:=[] } cs) s')->dn X S (G f cs) s
 |[],f,s,σ,x,m,D,n,k=>by
  have u:f.defers=[]:=by
   cases u:f.defers with
   |nil=>rfl
   |cons d ds=>rw[u] at n;exact n.elim
  have:=k s ((br.refl x).Wd _);have e:{ f with defers:=[] }=f:=by cases f;simp_all
  rwa [e] at this
 |l::C,f,s,σ,x,m,D,n,k=>by
  cases u:f.defers with
  |nil=>rw[u] at n;exact n.elim
  |cons d ds =>
   rw[u] at n;obtain⟨⟨r,A,W,Q,T⟩,U,O⟩:=n;subst T;refine .next rfl λi F=>?_
   have g:=X.fz F;have c:=x.rely g;have K:i.β[l]?=some ⟨.int .i64 r,[r]⟩:=by rw[g.β];exact A
   have J:i.w.heap[r]?=some (.deferred (some [])):=by rw[g.eC r (.inr ⟨_,aE A,by simp⟩)];exact W
   have E:∀ o,i.M r o=none:=λo=>by rw[g.M];exact Q o
   let s2:St:={ i with w:={ i.w with heap:=i.w.heap.setIfInBounds r (.deferred none) } }
   have N:∀ b,b≠r->s2.w.heap[b]?=i.w.heap[b]?:=λb a=>by
    show (i.w.heap.setIfInBounds r _)[b]?=_;rw[kr (λe=>a e.symm)]
   have j:∀ b o v,i.M b o=some v->s2.w.cell? ⟨b,o,none⟩=some v:=by
    intro b o v y;have q:b≠r:=by rintro rfl;rw[E] at y;cases y
    rw[<-c.mem b o v y];simp only[World.cell?];rw[N b q]
   have z:ag σ s2:=by
    refine⟨j,c.len,λl' B L V t=>?_,c.fe,λL t b a=>?_,λb a=>⟨?_,(c.own b a).2⟩⟩
    ·rw[m B (aE V)];trivial
    ·have:=c.lt L t b a;simpa[s2] using this
    ·have:=(c.own b a).1;simpa[s2] using this
   have p:∃ L∈i.β,r∈L.bs:=⟨_,aE K,by simp⟩
   have st:Step σ i σ s2:=by
    refine⟨by simp[s2],λb _ a=>N b ?_,λ_ _ _ h=>h,λ_ _ _ _=>rfl,λL t b a=>.inr ⟨L,t,a⟩,λ_ B L h R=>⟨B,L,h,R,.refl _ _⟩,rfl,rfl,rfl,rfl⟩
    rintro rfl;obtain⟨L,t,I⟩:=p;exact a L t I
   have un:Km [l] s s2:=by
    refine⟨g.β,g.M,g.own,er g.size (by simp[s2]),λb a=>?_,λb o v y=>j b o v (by rw[g.M];exact y),g.os,g.tape,g.output⟩
    have q:b≠r:=by
     rintro rfl;rcases a with a|⟨l',L',H,p2,p3⟩
     ·exact(x.own b a).2 _ (aE A) (by simp)
     ·exact p2 (by simp;exact x.fe l' l L' _ H A b p3 (by simp))
    rw[N b q];exact g.eC b (a.imp id λ⟨l',L',H,_,p3⟩=>⟨L',aE H,p3⟩)
   refine⟨_,s2,_,Ir D u J,⟨⟨σ,σ,c,z,st⟩,eK.seen (.two ?_ ?_)⟩,?_⟩
   ·exact⟨rfl,.inr p⟩
   ·exact⟨rfl,.inr p⟩
   refine o4 C { f with defers:=ds } s2 σ z m D (O.mono un U) λs' hu=>?_
   exact k s' (un.cat hu)
end Go.AM
