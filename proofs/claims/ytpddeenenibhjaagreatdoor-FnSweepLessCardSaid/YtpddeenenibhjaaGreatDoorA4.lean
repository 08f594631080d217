/- Part 4. No condition. -/
import Derived.Test.YtpddeenenibhjaaGreatDoorA3
import Derived.ProofKit
import Derived.OpenShut
import Derived.OpenVars
import Derived.LaidMore
import Derived.Lay
import Derived.SevenTiedAt
import Derived.Below
import Derived.Lib.Bytealg
import Derived.Sort.AssemblyPlain
import Derived.Sort.LotD5
import Derived.Sort.Walk13a
import Derived.Conc.DeferLaws
set_option linter.all false
set_option maxHeartbeats 8000000
open Go.Proofs
open Go renaming Value → ai, TypeId → aw, Frame → aU, FuncId → aJ, execOp → ak, undef → ah, Operand → aC, World → aA, Program → aM, Oper → aB, Goroutine → aq, stepG → aG
open Option renaming some → aa, none → af
open Bool renaming true → ab, false → ae
open Go.World renaming cell? → aV
open List renaming getD_eq_getElem?_getD → aj, range → bh
open Go.Sem renaming events_bind → aK
open Go.Result renaming evThen_ok → aP
open Nat renaming beq → av, ble → bu
open Go.Op renaming bytesLess → bc
open Go.Proofs.Tryz renaming prog → ag
open Go.Conc renaming stepG_seq → az, stepG_region_end → ay
namespace Go.AM
variable {n k l b i j:Nat}{E:aw}{H:ai->(Nat->Option Obj)->Prop}{L:Array Bool}{M:Mem}{N:Nat}{P:aM}{S:aq->St->Prop}{c:Code}{g:aq}{o:aB}{s:St}{t:aw}{v:ai}{w:aA}{x y:aC}{α:Type}{η:aC->D}{ι:Type}{σ:List bd}{φ:Fr}{all:List aB}{jJ:Array aw}{cap:List C}{cm:List D}{cs:List aU}{ds:List (Nat×Bool)}{es:Nat->List C}{fo:aC}{gs:Array aq}{obs:List Prop}{off:Nat}{op:BinOp}{ops:Array aB}{ps:List Prop}{rest:List aB}{s':St}{ty:aw}{val:Nat->Nat->ai}{vs:List ai}{w':aA}{xs:Array aC}{σ' σs:List bd}{res:ι->D}{σ1:ι->List bd}
variable {CT:List (Nat×dy)}{K:List It}{Qf:Post}{T:List (Nat×TI)}{ie:TI}
section
open Go.ChangeShapes Go.WideShapes Go.ChangeAt Go.RowKit
def Aq{H:Type}{enc:aw×ai->H}{a:Assume}{C:Checked}{os:Os}{f:aJ}{fn:Func}{s:ChangeSpec}{h:List PathCond}{apart fresh handsOn again:Bool}{X:aA->Array ai->Prop}(A:∀(w w':aA) (args:Array ai),w.heap=w'.heap->X w args->X w' args)(own:ownKnob C.prog.godebug=af)(d:os.Started)(x:C.prog.funcs[f]?=aa fn)(g:∃(w:aA) (b:Tape) (i:Input),w.os=os/\(w.forCall b i).Shaped C.prog/\i.vars=[]/\Input.okWide C.prog (w.forCall b i) .any w.heap.size f i /\
   ((s.pre enc C.prog fn h apart (w.forCall b i).memory i.args/\X (w.forCall b i).memory i.args)/\sizedMet enc C.prog fn (OpenSpec.ofChange s) apart (w.forCall b i).memory i.args)/\a.holds C.prog (lone (Frame.enter C.prog f i.args .normal) [] (w.forCall b i)))(k:∀(W:aA) (base:Nat) (args:Array ai) (ds gs:List (DataW H)) (c:List MemPlace),
   (∀(j:Nat) t v,fn.params[j]?=aa t->args[j]?=aa v->Value.okWide C.prog W .any base t v) ->
   DataW.Whole enc C.prog fn.params.toList s.vars apart W args.toList ds gs c->W.ShapedOpen C.prog->X W args ->
   ∃M last o w' t',runNT C.prog (M+1) (Conc.solo (Conc.G (Frame.enter C.prog f args .normal) []) W) #[]=(.ended o w',t')/\runN C.prog M (Conc.solo (Conc.G (Frame.enter C.prog f args .normal) []) W)=.next last /\
    step C.prog last=.ended o w'/\Conc.Good C.prog (λv J=>s.post enc C.prog fn apart fresh handsOn again W args v J) last o w' t'):
  ReturnsInLeavingWide a C os f .any (λw args=>(s.pre enc C.prog fn h apart w args/\X w args)/\sizedMet enc C.prog fn (OpenSpec.ofChange s) apart w args) (s.post enc C.prog fn apart fresh handsOn again):=by refine returnsInLeavingWide_of_good own d g ?_;intro w b i _ q _ u m p;obtain⟨_,_,_,y,n,_,_,_,_,l⟩:=u;have e:y=fn:=qZ (n.symm.trans x);subst e;obtain⟨⟨⟨ds,gs,c,K,L⟩,D⟩,N⟩:=m;have r:=DataW.Whole.of_heap (w':=w.forCall b i) (by rfl) K;obtain⟨M,last,o,w',t',B,E,z,I⟩:=k (w.forCall b i) w.heap.size i.args ds gs c l r q (A (w.forCall b i).memory (w.forCall b i) i.args rfl D);exact⟨M,last,o,w',t',B,E,z,I.mono λv F=>ChangeSpec.post_blind F⟩
def BT{H:Type}{enc:aw×ai->H}{a:Assume}{C:Checked}{os:Os}{f:aJ}{fn:Func}{s:ChangeSpec}{e:List PathCond}{apart fresh handsOn again:Bool}{X:aA->Array ai->Prop}(n:∀(w w':aA) (args:Array ai),w.heap=w'.heap->X w args->X w' args)(own:ownKnob C.prog.godebug=af)(g:os.Started)(k:C.prog.funcs[f]?=aa fn)(d:∃(w:aA) (b:Tape) (i:Input),w.os=os/\(w.forCall b i).Shaped C.prog/\i.vars=[]/\Input.okWide C.prog (w.forCall b i) .any w.heap.size f i /\
   ((s.pre enc C.prog fn e apart (w.forCall b i).memory i.args/\X (w.forCall b i).memory i.args)/\sizedMet enc C.prog fn (OpenSpec.ofChange s) apart (w.forCall b i).memory i.args)/\a.holds C.prog (lone (Frame.enter C.prog f i.args .normal) [] (w.forCall b i)))(h:∀(W:aA) (base:Nat) (args:Array ai) (ds gs:List (DataW H)) (c:List MemPlace),
   (∀(j:Nat) t v,fn.params[j]?=aa t->args[j]?=aa v->Value.okWide C.prog W .any base t v) ->
   DataW.Whole enc C.prog fn.params.toList s.vars apart W args.toList ds gs c ->
   ∃M last o w' t',runNT C.prog (M+1) (Conc.solo (Conc.G (Frame.enter C.prog f args .normal) []) W) #[]=(.ended o w',t')/\runN C.prog M (Conc.solo (Conc.G (Frame.enter C.prog f args .normal) []) W)=.next last /\
    step C.prog last=.ended o w'/\Conc.Good C.prog (λv p=>s.post enc C.prog fn apart fresh handsOn again W args v p) last o w' t'):
  ReturnsInLeavingWide a C os f .any (λw args=>(s.pre enc C.prog fn e apart w args/\X w args)/\sizedMet enc C.prog fn (OpenSpec.ofChange s) apart w args) (s.post enc C.prog fn apart fresh handsOn again) :=
 Aq n own g k d λW base args ds gs c m l _ _=>h W base args ds gs c m l
def GV(k:Looks){p:Pinned}{s:OpenSpec}{c:OpenClaim}(m:List (List PathCond))(kinds:List LaidKind)(a:Bool)(b:Bool×String)(lk:Bool)(v:c.holds p s)(l:∀D∈m,(c.withDomain D).holds p s)(y:c.wfByText s=ab)(i:∀D∈m,(c.withDomain D).wfByText s=ab)(e:c.laidByTextAt k p kinds a)(g:c.start=.entering)(d:c.noBlocks=ae/\c.again=ae)(o:p.checked.prog.mainIs=aa (b.1,b.2.toList))(w:(!b.1&&b.2.isEmpty&&!lk)=ae)(n:∀f fn,p.checked.prog.funcNamed c.func=aa f->p.checked.prog.funcs[f]?=aa fn->lk=p.checked.prog.looks []/\∀(j:Nat) t,fn.params[j]?=aa t->p.checked.prog.wantsStandIn t=ae)(x:ab=c.goesBy p.checked.prog):
  Claim7.holds p (.plain s) {stood:={row:=c,standIns:=[],harness:=b,looks:=lk},kinds:=[],alts:=m,goes:=ab,laidByText:=ab,laidKinds:=kinds,laidTests:=a,laidLooks:=k}:=by
 have u:∀r:OpenClaim,Claim7.isSixth {stood:={row:=r,standIns:=[],harness:=b,looks:=lk},kinds:=[]}=ae:=λr=>by simpa[Claim7.isSixth]using w
 refine⟨Claim7.tied_new_at k kinds a (Claim7.new_of_sixth v b lk g d o (u c) n) y,λD q=>?_,e,(λh=>by cases h),x⟩;exact Claim7.tied_new_at k kinds a (Claim7.new_of_sixth (l D q) b lk g d o (u _) n) (i D q)
end
namespace R1
def dl(s:Bs)(i:Nat):Int:=(cw s i-97) % 256
def iD(t:Bs)(e:Nat):Bool:=(dl t (e-1)+2*dl t (e-2)+3*dl t (e-3)) % 5==0
def sO(t:Bs)(f:Nat):Nat->Nat
 |0=>min (f+8) t.length
 |k+1=>if t.length<=f+(7-k)then t.length else if iD t (f+(7-k))then f+(7-k)else sO t f k
def cutAt(t:Bs)(f:Nat):Nat:=sO t f 5
def FH(t:Bs)(f:Nat)(a:f<t.length):∀k,k<=5->f<sO t f k/\sO t f k<=t.length/\sO t f k<=f+8
 |0,_=>by simp only[sO];omega
 |k+1,b=>by
  simp only[sO];split
  .omega
  .split
   .omega
   .exact FH t f a k (by omega)
theorem mX(t:Bs)(f:Nat)(a:f<t.length):f<cutAt t f/\cutAt t f<=t.length/\cutAt t f<=f+8:=FH t f a 5 (by omega)
def md(t:Bs):Nat->Nat->List Nat
 |0,_=>[]
 |k+1,f=>if f<t.length then cutAt t f::md t k (cutAt t f)else[]
def z9(t:Bs):List Nat:=md t t.length 0
def fg(t:Bs):Nat->Nat->List Bs
 |0,_=>[]
 |k+1,f=>if f<t.length then(t.drop f).take (cutAt t f-f)::fg t k (cutAt t f)else[]
def pieces(t:Bs):List Bs:=fg t t.length 0
def fZ(l:List Bs):Option Bs:=if ef l.flatten&&(pieces l.flatten==l)then aa l.flatten else af
def bG(p:Bs):Bool:=decide (1<=p.length)&&decide (p.length<=8)&&b6 p
def codeOf(p:Bs):Int:=p.foldl (λn b=>27*n+((b.toNat:Int)-97) % 256+1) 0
def cB(k:Int):Bool:=decide (1<=k)&&decide (k<=99)
def gp(k:Int)(p:Bs):Int:=(codeOf p*(2*k+1)+k*7919) % 999999999989
def cG(n:Nat):Nat:=if n<1∨8<n then 0 else if n<=2 then 2 else if n<=4 then 4 else 8
def gq(p:Bs):Bs:=if bG p then p++List.replicate (cG p.length-p.length) 46 else[]
def strip(b:Bs):Bs:=(b.reverse.dropWhile (·==46)).reverse
def eO(b:Bs):Option Bs:=if bG (strip b)&&(gq (strip b)==b)then aa (strip b)else af
abbrev cn:=Int×Bs
abbrev ba:=Int×List cn
def right(k:Int)(x:cn):Bool:=match eO x.2 with|some p=>gp k p==x.1|none=>ae
def zW(l:List Int):Bool:=(bh l.length).all λi=>i==0||decide (l.getD (i-1) 0<l.getD i 0)
def iX(k:Int)(p:ba):Bool :=
 decide (1<=p.1)&&decide (p.1<=99)&&cB k&&decide (1<=p.2.length)&&decide (p.2.length<=4)&&p.2.all (right k)&&zW (p.2.map (·.1))
def chunk(k:Int)(x:cn):Option Bs:=match eO x.2 with|some p=>if cB k&&(gp k p==x.1)then aa p else af|none=>af
def dt(k:Int)(p:ba)(n:Int):Option Bs:=match p.2.find? (λx=>x.1==n)with|some x=>chunk k x|none=>af
def cD(p:ba)(ns:List Int):ba:=(p.1,p.2.filter λx=>ns.contains x.1)
def lW(l:List cn)(x:cn):List cn:=match l with
 |[]=>[x]
 |y::r=>if x.1<y.1 then x::y::r else y::lW r x
def o0(no k:Int)(ps:List Bs):ba:=(no,ps.foldl (λl p=>lW l (gp k p,gq p)) [])
abbrev dw:=Int×Int
def kL(s:dw):Bool:=decide (0<=s.1)&&decide (s.1<999999999989)&&decide (1<=s.2)&&decide (s.2<=99)
def qF(l:List dw)(s:dw):List dw:=match l with
 |[]=>[s]
 |y::r=>if y.1<s.1 then y::qF r s else s::(y::r).filter (λz=>!(z.1==s.1))
def tz(l:List dw)(n:Int):Int:=match l.find? (λs=>s.1==n)with|some s=>s.2|none=>0
def eP(l:List ba):List dw:=l.flatMap λp=>p.2.map λx=>(x.1,p.1)
def indexOf(l:List ba):List dw:=if(eP l).all kL then(eP l).foldl qF []else[]
abbrev gz:=Bs×List Int
abbrev cC:=Int×List gz
def wu(k:Int)(f:bz):gz:=(f.1,(pieces f.2).map (gp k))
def kM(no k:Int)(t:List bz):cC:=(no,t.map (wu k))
def m0(k:Int)(l:List dw)(out:List Bs)(p:Bs):List Bs:=if tz l (gp k p)==0&&!out.contains p then out++[p]else out
def jE(k:Int)(t:List bz)(l:List dw):List Bs:=(t.flatMap λf=>pieces f.2).foldl (m0 k l) []
def c6(k:Int)(ps:List ba)(n:Int):Option Bs:=ps.findSome? λp=>dt k p n
def kq{p:Bs}(h:b6 p=ab):∀b∈p,97<=b.toNat/\b.toNat<=122:=by intro b a;have:=List.all_eq_true.1 h b a;simpa[eF]using this
def vR:∀(p:Bs) (n m:Int)(k:Nat),(∀b∈p,97<=b.toNat/\b.toNat<=122)->0<=n->n<m->1<=m ->
  0<=p.foldl (λn b=>27*n+((b.toNat:Int)-97) % 256+1) n/\p.foldl (λn b=>27*n+((b.toNat:Int)-97) % 256+1) n<m*27 ^ p.length
 |[],n,m,_,_,c,d,_=>by grind
 |b::p,n,m,k,a,c,d,e=>by obtain⟨f,q2⟩:=a b (by simp);have:=vR p (27*n+((b.toNat:Int)-97) % 256+1) (m*27) k (λx g=>a x (by grind)) (by omega) (by omega) (by omega);grind[Int.mul_assoc]
def OS:∀{n:Nat},n<=8->(27:Int) ^ n<=282429536481:=by
 intro n a
 match n,a with
 |0,_|1,_|2,_|3,_|4,_|5,_|6,_|7,_|8,_=>decide
def ya{p:Bs}(h:bG p=ab):0<=codeOf p/\codeOf p<282429536481:=by simp only[bG,bS,bl]at h;obtain⟨a,q2⟩:=vR p 0 1 0 (kq h.2) (by omega) (by omega) (by omega);have:=OS h.1.2;rw[Int.one_mul]at q2;exact⟨a,Int.lt_of_lt_of_le q2 this⟩
def wF{α:Type}[BEq α][LawfulBEq α]:∀(L l:List α),L.Nodup->(∀q∈L,q∈l)->L.length<=l.length
 |[],l,_,_=>iN _
 |a::L,l,h,d=>by
  obtain⟨f,g⟩:=List.nodup_cons.1 h;have c:=d a iA;have:=wF L (l.erase a) g λq b=>by have:q≠a:=λe=>f (e▸b);exact(List.mem_erase_of_ne this).2 (d q (kE _ b))
  have e:=List.length_erase_of_mem c;have:=List.length_pos_of_mem c;simp only[gb];omega
def FG:∀{p q:List Int},p.Pairwise (· < ·)->q.Pairwise (· < ·)->(∀n,n∈p↔n∈q)->p=q
 |[],[],_,_,_=>rfl
 |[],b::q,_,_,h=>by have:=(h b).2 iA;cases this
 |a::p,[],_,_,h=>by have:=(h a).1 iA;cases this
 |a::p,b::q,m,l,h=>by
  obtain⟨k,p2⟩:=mo.1 m;obtain⟨j,q2⟩:=mo.1 l;have c:=(h a).1 iA;have d:=(h b).2 iA;simp only[dK]at c d;have e:a=b:=by
   rcases c with c|c
   .exact c
   rcases d with d|d
   .exact d.symm
   have:=k b d;have:=j a c;omega
  subst e;rw[FG p2 q2 λn=>?_];have i:=h n;simp only[dK]at i;constructor
  .intro g;have:=k n g;rcases i.1 (.inr g)with f|f
   .omega
   .exact f
  .intro g;have:=j n g;rcases i.2 (.inr g)with f|f
   .omega
   .exact f
section
variable {X:Cx ag}
def Rq:dy:=λargs σ=>match args,σ with
 |[.e (.one (.c (.str b)))],[]=>aa (dB (dE b),[],[])
 |_,_=>af
def t110:dM X 110 Rq:=by intro args σ res σ' obs h _;unfold Rq at h;grind[Hf]
def NM:dy:=λargs σ=>match args,σ with
 |[.e (.one (.c (.str b)))],[]=>aa (dB (ef b),[],[])
 |_,_=>af
def t111:dM X 111 NM:=by intro args σ res σ' obs h _;unfold NM at h;grind[Hg]
def Rr:dy:=λargs σ=>match args,σ with
 |[.e (.one (.c (.str a))),.e (.one (.c (.str b)))],[]=>aa (dB (clash a b),[],[a≠[],b≠[]])
 |_,_=>af
def t146:dM X 146 Rr:=by
 intro args σ res σ' obs h ho;unfold Rr at h;split at h
 .cases h;exact KE _ _ ho.1 ho.2
 grind
def Y3:List (Nat×dy):=(110,Rq)::(111,NM)::(146,Rr)::Y2
def s9:bA X Y3:=bA.cons t110 (bA.cons t111 (bA.cons t146 Ch))
def eY(t:List bz)(i:Nat):Bs:=(t.getD i ([],[])).1
def tZ(t:List bz)(i:Nat):Bs:=(t.getD i ([],[])).2
def gk(t:List bz)(i:Nat):(t.getD i cF.bR).1=eY t i:=rfl
def pf(t:List bz)(i:Nat):(t.getD i cF.bR).2=tZ t i:=rfl
def gi(t:List bz)(i:Nat):Bool:=dE (eY t i)&&ef (tZ t i)&&(i==0||bc (eY t (i-1)) (eY t i))&&(bh i).all λj=>!clash (eY t j) (eY t i)
def dq(t:List bz):Bool:=(bh t.length).all (gi t)&&decide (t.length<=6)
def dg{p:Nat->Bool}:(bh n).all p=ab↔∀i,i<n->p i=ab:=by grind
def pW{s:Bs}(h:dE s=ab):s≠[]:=by rintro rfl;simp[dE]at h
def k7{t:List bz}(hi:i<t.length)(h:gi t i=ae):dq t=ae:=by
 cases a:dq t with
 |false=>rfl
 |true =>
  simp only[dq,bS]at a;grind
def yi(t:List bz):Ev X 104 [cF.sl t] [] (dB (dq t)) []:=by
 refine Ev.bQ Tryz.func104 rfl λu=>?_;have o:=u.sl 0 rfl;refine bZ s9 rfl ar ?_;refine AK.vt (λi=>i<=t.length/\∀j,j<i->gi t j=ab) (λi:Nat=>[(0,cF.sl t),(3,dI i)]) (λ_=>[]) (λi=>t.length-i) 0 rfl (by simp[cp]) ⟨by omega,by omega⟩ rfl ?_;rintro i ⟨hi,k⟩;by_cases h:i<t.length
 .by_cases b:dE (eY t i)=ab
  .by_cases f:ef (tZ t i)=ab
   .by_cases n:i=0∨bc (eY t (i-1)) (eY t i)=ab
    .apply AK.join [(0,cF.sl t),(3,dI i),(4,dI 0)] []
     .intro p;by_cases d:i=0
      .refine aR s9 [(8,ab),(16,ab),(24,ab),(29,ae)] rfl ?_ (p _ _ rfl ?_)
       .simp[-aj,h,gk,pf,b,f];omega
       .simp[cp]
      .have g:=n.resolve_left d;have c:bw .i64 ((i:Int)-1):=by simp only[bw];omega
       have m:((i:Int)-1).toNat=i-1:=by omega
       refine aR s9 [(8,ab),(16,ab),(24,ab),(29,ab),(42,ae)] rfl ?_ (p _ _ rfl ?_)
       .simp[-aj,h,gk,pf,b,f,g,c,m];omega
       .simp[cp]
     ·
      have s:gi t i=(bh i).all (λj=>!clash (eY t j) (eY t i)):=by
       rcases n with rfl|g
       .simp[gi,b,f]
       .simp[gi,b,f,g]
      refine AK.vt (λj=>j<=i/\∀r,r<j->clash (eY t r) (eY t i)=ae) (λj:Nat=>[(0,cF.sl t),(3,dI i),(4,dI j)]) (λ_=>[]) (λj=>i-j) 0 rfl (by simp[cp]) ⟨by omega,by omega⟩ rfl ?_;rintro j ⟨w,v⟩;by_cases a:j<i
      .have l:dE (eY t j)=ab:=by have:=k j a;simp only[gi,bS]at this;exact this.1.1.1
       cases q:clash (eY t j) (eY t i)with
       |true =>
        refine aR s9 [(47,ab),(60,ab)] rfl ?_ (AK.gU (AK.rI (cd.zero rfl ?_)))
        .simp[-aj,h,a,gk,q,pW b,pW l];omega
        .have:gi t i=ae:=by grind
         simp[k7 h this]
       |false =>
        refine aR s9 [(47,ab),(60,ae)] rfl ?_ (AK.again (j+1) rfl ?_ ?_ ?_ rfl)
        .simp[-aj,h,a,gk,q,pW b,pW l,bw];omega
        .simp[cp]
        .grind
        .omega
      .have a:j=i:=by omega
       subst a;refine aR s9 [(47,ae)] rfl (by simp) (AK.leave rfl rfl ?_);refine bZ s9 rfl ?_ (AK.again (j+1) rfl ?_ ?_ ?_ rfl)
       .simp[bw];omega
       .simp[cp]
       .grind
       .omega
    .have d:i≠0:=λe=>n (.inl e);have g:bc (eY t (i-1)) (eY t i)=ae:=by grind
     have c:bw .i64 ((i:Int)-1):=by simp only[bw];omega
     have m:((i:Int)-1).toNat=i-1:=by omega
     refine aR s9 [(8,ab),(16,ab),(24,ab),(29,ab),(42,ab)] rfl ?_ (AK.gU (cd.zero rfl ?_))
     .simp[-aj,h,gk,pf,b,f,g,c,m];omega
     .simp[au,k7 h (by simp[gi,d,g])]
   .refine aR s9 [(8,ab),(16,ab),(24,ae)] rfl ?_ (AK.gU (cd.zero rfl ?_))
    .simp[-aj,h,gk,pf,b,f]
    .simp[au,k7 h (by simp[gi,f])]
  .refine aR s9 [(8,ab),(16,ae)] rfl ?_ (AK.gU (cd.zero rfl ?_))
   .simp[-aj,h,gk,b]
   .simp[au,k7 h (by simp[gi,b])]
 .refine aR s9 [(8,ae)] rfl (by simp;omega) (AK.leave rfl rfl ?_);refine bZ s9 rfl ar (AK.bo rfl ?_);simp only[au,dq];grind
end
section
open Go.Proofs Go.Conc.Lib
def OW:WgLink:={add:=120,done:=122,wait:=124,relMerge:=160,disable:=161,enable:=162,inBubble:=163,associate:=164,fatal:=165,uOr:=166,uAdd:=167,raceRead:=168,uLoad:=169,uStore:=170,disassociate:=171,semrelease:=172,acquire:=174,isAssociated:=175,uCas:=176,raceWrite:=177,semacquire:=178,orU64:=201,addU64:=202,loadU64:=203,storeU64:=204,casU64:=207,tWgP:=197,tUP:=199,tAssoc:=201,tWg:=164,tAU:=161,tU64:=159,tUint:=136,tU32:=162,tPU32:=205,tPAU:=237,tPU64:=239,tNoCopy:=156,tANoCopy:=157,tAlign64:=158}
def BK:WgLib ag OW where
 f_add:=Tryz.func120.trans (dA aa (by kernel_rfl))
 f_done:=Tryz.func122.trans (dA aa (by kernel_rfl))
 f_wait:=Tryz.func124.trans (dA aa (by kernel_rfl))
 f_relMerge:=Tryz.func160.trans (dA aa (by kernel_rfl))
 f_disable:=Tryz.func161.trans (dA aa (by kernel_rfl))
 f_enable:=Tryz.func162.trans (dA aa (by kernel_rfl))
 f_inBubble:=Tryz.func163.trans (dA aa (by kernel_rfl))
 f_associate:=Tryz.func164.trans (dA aa (by kernel_rfl))
 f_fatal:=Tryz.func165.trans (dA aa (by kernel_rfl))
 f_uOr:=Tryz.func166.trans (dA aa (by kernel_rfl))
 f_uAdd:=Tryz.func167.trans (dA aa (by kernel_rfl))
 f_raceRead:=Tryz.func168.trans (dA aa (by kernel_rfl))
 f_uLoad:=Tryz.func169.trans (dA aa (by kernel_rfl))
 f_uStore:=Tryz.func170.trans (dA aa (by kernel_rfl))
 f_disassociate:=Tryz.func171.trans (dA aa (by kernel_rfl))
 f_semrelease:=Tryz.func172.trans (dA aa (by kernel_rfl))
 f_acquire:=Tryz.func174.trans (dA aa (by kernel_rfl))
 f_isAssociated:=Tryz.func175.trans (dA aa (by kernel_rfl))
 f_uCas:=Tryz.func176.trans (dA aa (by kernel_rfl))
 f_raceWrite:=Tryz.func177.trans (dA aa (by kernel_rfl))
 f_semacquire:=Tryz.func178.trans (dA aa (by kernel_rfl))
 f_orU64:=Tryz.func201.trans (dA aa (by kernel_rfl))
 f_addU64:=Tryz.func202.trans (dA aa (by kernel_rfl))
 f_loadU64:=Tryz.func203.trans (dA aa (by kernel_rfl))
 f_storeU64:=Tryz.func204.trans (dA aa (by kernel_rfl))
 f_casU64:=Tryz.func207.trans (dA aa (by kernel_rfl))
 underlying_tWgP:=Tryz.underlying197
 runUnderlying_tWgP:=Tryz.runUnderlying197
 sizeOf_tWgP:=Tryz.sizeOf197
 isAgg_tWgP:=Tryz.isAgg197
 zeroValue_tWgP:=Tryz.zeroValue197
 underlying_tUP:=Tryz.underlying199
 runUnderlying_tUP:=Tryz.runUnderlying199
 sizeOf_tUP:=Tryz.sizeOf199
 isAgg_tUP:=Tryz.isAgg199
 zeroValue_tUP:=Tryz.zeroValue199
 underlying_tI32:=Tryz.underlying201
 runUnderlying_tI32:=Tryz.runUnderlying201
 sizeOf_tI32:=Tryz.sizeOf201
 isAgg_tI32:=Tryz.isAgg201
 zeroValue_tI32:=Tryz.zeroValue201
 underlying_tWg:=Tryz.underlying164
 runUnderlying_tWg:=Tryz.runUnderlying164
 sizeOf_tWg:=Tryz.sizeOf164
 isAgg_tWg:=Tryz.isAgg164
 zeroValue_tWg:=Tryz.zeroValue164
 underlying_tAU:=Tryz.underlying161
 runUnderlying_tAU:=Tryz.runUnderlying161
 sizeOf_tAU:=Tryz.sizeOf161
 isAgg_tAU:=Tryz.isAgg161
 zeroValue_tAU:=Tryz.zeroValue161
 underlying_tU64:=Tryz.underlying159
 runUnderlying_tU64:=Tryz.runUnderlying159
 sizeOf_tU64:=Tryz.sizeOf159
 isAgg_tU64:=Tryz.isAgg159
 zeroValue_tU64:=Tryz.zeroValue159
 underlying_tSh:=Tryz.underlying136
 runUnderlying_tSh:=Tryz.runUnderlying136
 sizeOf_tSh:=Tryz.sizeOf136
 isAgg_tSh:=Tryz.isAgg136
 zeroValue_tSh:=Tryz.zeroValue136
 underlying_tU32:=Tryz.underlying162
 runUnderlying_tU32:=Tryz.runUnderlying162
 sizeOf_tU32:=Tryz.sizeOf162
 isAgg_tU32:=Tryz.isAgg162
 zeroValue_tU32:=Tryz.zeroValue162
 underlying_tPU32:=Tryz.underlying205
 runUnderlying_tPU32:=Tryz.runUnderlying205
 sizeOf_tPU32:=Tryz.sizeOf205
 isAgg_tPU32:=Tryz.isAgg205
 zeroValue_tPU32:=Tryz.zeroValue205
 underlying_tPAU:=Tryz.underlying237
 runUnderlying_tPAU:=Tryz.runUnderlying237
 sizeOf_tPAU:=Tryz.sizeOf237
 isAgg_tPAU:=Tryz.isAgg237
 zeroValue_tPAU:=Tryz.zeroValue237
 underlying_tPU64:=Tryz.underlying239
 runUnderlying_tPU64:=Tryz.runUnderlying239
 sizeOf_tPU64:=Tryz.sizeOf239
 isAgg_tPU64:=Tryz.isAgg239
 zeroValue_tPU64:=Tryz.zeroValue239
 underlying_t0:=Tryz.underlying0
 runUnderlying_t0:=Tryz.runUnderlying0
 sizeOf_t0:=Tryz.sizeOf0
 isAgg_t0:=Tryz.isAgg0
 zeroValue_t0:=Tryz.zeroValue0
 underlying_t3:=Tryz.underlying3
 runUnderlying_t3:=Tryz.runUnderlying3
 sizeOf_t3:=Tryz.sizeOf3
 isAgg_t3:=Tryz.isAgg3
 zeroValue_t3:=Tryz.zeroValue3
 underlying_t4:=Tryz.underlying4
 runUnderlying_t4:=Tryz.runUnderlying4
 sizeOf_t4:=Tryz.sizeOf4
 isAgg_t4:=Tryz.isAgg4
 zeroValue_t4:=Tryz.zeroValue4
 underlying_t9:=Tryz.underlying9
 runUnderlying_t9:=Tryz.runUnderlying9
 sizeOf_t9:=Tryz.sizeOf9
 isAgg_t9:=Tryz.isAgg9
 zeroValue_t9:=Tryz.zeroValue9
 underlying_t20:=Tryz.underlying20
 runUnderlying_t20:=Tryz.runUnderlying20
 sizeOf_t20:=Tryz.sizeOf20
 isAgg_t20:=Tryz.isAgg20
 zeroValue_t20:=Tryz.zeroValue20
 underlying_t21:=Tryz.underlying21
 runUnderlying_t21:=Tryz.runUnderlying21
 sizeOf_t21:=Tryz.sizeOf21
 isAgg_t21:=Tryz.isAgg21
 zeroValue_t21:=Tryz.zeroValue21
 room_tWg:=by kernel_rfl
 room_tU32:=by kernel_rfl
end
end R1
def cg.imp{d a:D}{ds EE:List D}(h:∀v,dk σ s v d->dk σ s v a)(k:∀vs,cg σ s vs ds->cg σ s vs EE):∀vs,cg σ s vs (d::ds)->cg σ s vs (a::EE)
 |[],r=>r.elim
 |v::vs,r=>⟨h v r.1,k vs r.2⟩
abbrev dP(f:bz):D:=.e (.agg [.c (.str f.1),.c (.str f.2)])
abbrev QI(a:List bz)(b:Bool):D:=.fw [.one (.c (.sl ae 2 a.length (cF.fn a))),.one (.c (.bool b))]
namespace R1
variable {X:Cx ag}
def NO:dy:=λargs σ=>match args,σ with
 |[c],[]=>match kr 2 c with
  |none=>af
  |some (a,b)=>aa (dB (dq (cF.list a b)),[],[cF.fits a b])
 |_,_=>af
def t104:dM X 104 NO:=by
 intro args σ res σ' obs h ho;unfold NO at h;split at h
 .split at h
  .cases h
  rename_i b c a;cases h;exact(yi _ ).args (λ_ vs=>cg.imp (λ_=>cF.jD a ho) (λ_ r=>r) vs)
 grind
def Y4:List (Nat×dy):=(104,NO)::Y3
def XI:bA X Y4:=bA.cons t104 s9
end R1
def jY.cr(c:jY α)(l:List α)(x:α):cp (l.length+1) (cy l.length (c.fn l) (λi=>[c.enc x].getD i [])) (c.fn (l++[x])):=by intro i hi;unfold cy jY.fn xb;grind
@[simp] theorem cp.same{f:Nat->List C}:cp n f f:=λ_ _=>rfl
@[simp] theorem cp.nil{f g:Nat->List C}:cp 0 f g:=λi h=>by omega
namespace R1
variable {X:Cx ag}
def lO(t:List bz)(p:Bs):List bz:=t.filter λf=>!(f.1==p)
def Eg{t:List bz}{p:Bs}(h:i<t.length):lO (t.take (i+1)) p=lO (t.take i) p++(if eY t i=p then[]else[(eY t i,tZ t i)]):=by
 have e:t.getD i ([],[])=t[i]:=by grind
 have a:(eY t i,tZ t i)=t[i]:=by simp only[eY,tZ,e]
 rw[jO,bm h,a];simp only[lO,List.filter_append,Option.toList_some];grind
theorem Hi(t:List bz)(p:Bs):(lO t p).length<=t.length:=kD _ _
def FL(t:List bz)(p:Bs)(d:t.length<=4000000):Ev X 89 [cF.sl t,dS p] [] (cF.sl (lO t p)) []:=by
 refine Ev.bQ Tryz.func89 rfl λf=>?_;refine bx rfl ar ?_;refine AK.ix 5 110 2 rfl rfl ?_;refine AK.jA (λi=>i<=t.length) (λi:Nat=>[(0,cF.sl t),(1,dS p),(6,dI i),(5,.e (.one (.vec 0 2 (lO (t.take i) p).length (cF.fn (lO (t.take i) p)))))]) (λi=>[.vec 110 2 (lO (t.take i) p).length (cF.fn (lO (t.take i) p))]) (λi=>t.length-i) 0 rfl ?_ rfl ?_ (by omega) ?_
 .simp[cp,lO]
 .simp[cp,lO]
 intro i hi;by_cases h:i<t.length
 .have a:=Eg (p:=p) h;have c:(lO (t.take i) p).length<=4000000:=by grind[Hi]
  by_cases b:eY t i=p
  .rw[bn b,jR]at a;refine aW [(11,ab),(20,ae)] rfl ?_ (AK.fK (i+1) rfl ?_ rfl ?_ ?_ ?_)
   .simp[-aj,h,gk,b,bw];omega
   .rw[a];simp[cp]
   .rw[a];simp[cp]
   .omega
   .omega
  .rw[a9 b]at a;refine aW [(11,ab),(20,ab)] rfl ?_ (AK.fK (i+1) rfl ?_ rfl ?_ ?_ ?_)
   .simp[-aj,h,gk,b,bw,i110];omega
   .rw[a];simp[-aj];exact cF.cr _ (eY t i,tZ t i)
   .rw[a];simp[-aj];exact cF.cr _ (eY t i,tZ t i)
   .omega
   .omega
 .have:i=t.length:=by omega
  subst this;refine aW [(11,ae)] rfl (by simp) (AK.leave rfl rfl ?_);refine bx rfl ar (AK.bo rfl ?_);simp[cp]
def XK:dy:=λargs σ=>match args,σ with
 |[f,.e (.one (.c (.str b)))],[]=>match kr 2 f with
  |none=>af
  |some (a,d)=>aa (cF.sl (lO (cF.list a d) b),[],[cF.fits a d,((cF.list a d)).length<=4000000])
 |_,_=>af
def t89:dM X 89 XK:=by
 intro args σ res σ' obs h ho;unfold XK at h;split at h
 .split at h
  .cases h
  rename_i b c a;cases h;exact(FL _ _ (ho.2)).args (λ_ vs=>cg.imp (λ_=>cF.jD a ho.1) (cg.imp (λ_ r=>r) (λ_ r=>r)) vs)
 grind
def Y5:List (Nat×dy):=(89,XK)::Y4
def XL:bA X Y5:=bA.cons t89 XI
end R1
def Fits.O8{args:List D}(h:Fits args σ)(k:Nat){cs:List A}(a:args[k]?=aa (.e (.agg cs)))(j:Nat){t:Bool}{q:Nat}(hj:cs[j]?=aa (A.c (.sl t q n es))):n<=9223372036854775807:=by obtain⟨s,v,d⟩:=h.at a;obtain⟨vs,_,h2⟩:=d;obtain⟨u,_,b⟩:=dZ.get h2 hj;cases b<;>omega
namespace R1
def fV{p:Nat->Bool}(hi:i<n)(h:p i=ae):(bh n).all p=ae:=by grind
def gX{p:Nat->Bool}(a:∀j,j<i->p j=ab)(h:p i=ab):∀j,j<i+1->p j=ab:=λj b=>by grind
end R1
namespace R1
section
variable {X:Cx ag}
def qK(f:bz)(acc:List bz×Bool)(g:Bs):List bz×Bool:=if acc.2=ab then acc else if bc g f.1=ab then acc else(acc.1++[f],ab)
def NY(f:bz)(a:List bz×Bool)(g:bz):List bz×Bool:=if g.1=f.1 then a else(a.1++[g],a.2)
def nU(f:bz)(acc:List bz×Bool)(g:bz):List bz×Bool:=NY f (qK f acc g.1) g
def kO(f:bz)(t:List bz):List bz×Bool:=t.foldl (nU f) ([],ae)
def rZ(t:List bz)(f:bz):List bz:=if(kO f t).2=ab then(kO f t).1 else(kO f t).1++[f]
theorem fileAt{t:List bz}(h:i<t.length):t[i]=(eY t i,tZ t i):=by
 have e:t.getD i ([],[])=t[i]:=by grind
 simp only[eY,tZ,e]
def Ck{f:bz}{t:List bz}(h:i<t.length):kO f (t.take (i+1))=nU f (kO f (t.take i)) (eY t i,tZ t i):=by rw[jO,bm h,fileAt h];simp[kO]
def Cl(f:bz)(acc:List bz×Bool)(g:Bs):(qK f acc g).1.length<=acc.1.length+1:=by unfold qK;grind
def KL(f:bz)(acc:List bz×Bool)(g:bz):(NY f acc g).1.length<=acc.1.length+1:=by unfold NY;grind
def wU(f:bz):∀(t:List bz)(acc:List bz×Bool),(t.foldl (nU f) acc).1.length<=acc.1.length+2*t.length
 |[],acc=>by simp
 |g::r,acc=>by
  have b:=wU f r (nU f acc g);have a:=Cl f acc g.1;have c:=KL f (qK f acc g.1) g;simp only[iB,gb];have:(nU f acc g).1.length<=acc.1.length+2:=by unfold nU;omega
  omega
abbrev dV(l:Nat)(t:List bz):D:=.e (.one (.vec l 2 t.length (cF.fn t)))
abbrev bV(t:List bz):bd:=.vec 110 2 t.length (cF.fn t)
def NZ(t:List bz)(f:bz)(s:t.length<=4000000):Ev X 112 [cF.sl t,dP f] [] (dV 0 (rZ t f)) [bV (rZ t f)]:=by
 refine Ev.bQ Tryz.func112 rfl λu=>?_;refine bx rfl ar ?_;refine AK.ix 5 110 2 rfl rfl ?_;let A:Nat->List bz×Bool:=λi=>kO f (t.take i);have a:∀i,i<=t.length->(A i).1.length<=8000000:=by intro i hi;have:=wU f (t.take i) ([],ae);simp at this;show(kO f (t.take i)).1.length<=_;unfold kO;omega
 refine AK.jA (λi=>i<=t.length) (λi:Nat=>[(0,cF.sl t),(3,.e (.one (.ptr 0 0))),(7,dI i),(5,dV 1 (A i).1),(6,dB (A i).2)]) (λi=>[.cells 110 [.c (.str f.1),.c (.str f.2)],bV (A i).1]) (λi=>t.length-i) 0 rfl ?_ rfl ?_ (by omega) ?_
 .simp[cp,A,kO]
 .simp[cp,A,kO]
 intro i hi;by_cases h:i<t.length
 .have q:A (i+1)=nU f (A i) (eY t i,tZ t i):=Ck h;have p:=a i hi;generalize A i=acc at *;have r:=Cl f acc (eY t i);apply AK.join [(0,cF.sl t),(3,.e (.one (.ptr 0 0))),(7,dI i),(5,dV 1 (qK f acc (eY t i)).1),(6,dB (qK f acc (eY t i)).2)] [.cells 110 [.c (.str f.1),.c (.str f.2)],bV (qK f acc (eY t i)).1]
  .intro g;cases b:acc.2 with
   |true =>
    have k:qK f acc (eY t i)=acc:=by unfold qK;grind
    rw[k]at g;refine bF [(12,ab),(15,ab),(1000009,ab)] rfl ?_ (g _ _ rfl ?_)
    .simp[h]
    .simp[b]
   |false =>
    cases l:bc (eY t i) f.1 with
    |true =>
     have k:qK f acc (eY t i)=acc:=by unfold qK;grind
     rw[k]at g;refine bF [(12,ab),(15,ae),(25,ae),(1000009,ab)] rfl ?_ (g _ _ rfl ?_)
     .simp[-aj,h,gk,l]
     .simp[b]
    |false =>
     have k:qK f acc (eY t i)=(acc.1++[f],ab):=by unfold qK;grind
     rw[k]at g;refine bF [(12,ab),(15,ae),(25,ab),(1000009,ab)] rfl ?_ (AK.norm _ rfl ?_ (g _ _ rfl ?_))
     .simp[-aj,h,gk,l,i110];omega
     .simp[-aj];exact cF.cr _ f
     .simp[-aj];exact cF.cr _ f
  .have m:A (i+1)=NY f (qK f acc (eY t i)) (eY t i,tZ t i):=q;generalize qK f acc (eY t i)=a1 at *;by_cases n:eY t i=f.1
   .have d:A (i+1)=a1:=by rw[m];exact bn n
    refine bF [(38,ae)] rfl ?_ (AK.fK (i+1) rfl ?_ rfl ?_ ?_ ?_)
    .simp[-aj,h,gk,n,bw];omega
    .rw[d];simp
    .rw[d];simp
    .omega
    .omega
   .have d:A (i+1)=(a1.1++[(eY t i,tZ t i)],a1.2):=by rw[m];exact a9 n
    refine bF [(38,ab)] rfl ?_ (AK.fK (i+1) rfl ?_ rfl ?_ ?_ ?_)
    .simp[-aj,h,gk,n,bw,i110];omega
    .rw[d];simp[-aj];exact cF.cr _ (eY t i,tZ t i)
    .rw[d];simp[-aj];exact cF.cr _ (eY t i,tZ t i)
    .omega
    .omega
 .have:i=t.length:=by omega
  subst this;have o:A t.length=kO f t:=by grind
  have p:=a t.length (aZ _);refine aW [(12,ae)] rfl (by simp) (AK.leave rfl rfl ?_);have j:rZ t f=if(A t.length).2=ab then(A t.length).1 else(A t.length).1++[f]:=by rw[o];rfl
  cases b:(A t.length).2 with
  |true =>
   rw[b,bn rfl]at j;refine aW [(46,ab)] rfl ?_ (AK.norm [.cells 110 [.c (.str f.1),.c (.str f.2)],bV (rZ t f)] rfl ?_ (AK.dG [1] rfl ?_ rfl rfl rfl ?_))
   .simp
   .rw[j];simp
   .rw[j];simp
   grind
  |false =>
   rw[b,a9 (by simp)]at j;refine aW [(46,ae)] rfl ?_ (AK.norm [.cells 110 [.c (.str f.1),.c (.str f.2)],bV (rZ t f)] rfl ?_ (AK.dG [1] rfl ?_ rfl rfl rfl ?_))
   .simp[i110];omega
   .rw[j];simp[-aj];exact cF.cr _ f
   .rw[j];simp[-aj];exact cF.cr _ f
   grind
end
end R1
def cp.app0{f g:Nat->List C}:cp n (cy 0 f g) g:=λi _=>by simp[cy]
namespace R1
variable {X:Cx ag}
def Ru:dy:=λargs σ=>match args,σ with
 |[d,.e (.agg [.c (.str b0),.c (.str b1)])],[]=>match kr 2 d with
  |none=>af
  |some (a,b)=>aa (dV 0 (rZ (cF.list a b) (b0,b1)) ,[ bV (rZ (cF.list a b) (b0,b1))],[cF.fits a b,((cF.list a b)).length<=4000000])
 |_,_=>af
def t112:dM X 112 Ru:=by
 intro args σ res σ' obs h ho;unfold Ru at h;split at h
 .split at h
  .cases h
  rename_i b c a;cases h;exact(NZ _ _ (ho.2)).args (λ_ vs=>cg.imp (λ_=>cF.jD a ho.1) (cg.imp (λ_ r=>r) (λ_ r=>r)) vs)
 .cases h
def Y6:List (Nat×dy):=(112,Ru)::Y5
def Hj:bA X Y6:=bA.cons t112 (XL)
def ee(t:List bz)(p x:Bs):List bz×Bool :=
 if dq t=ab/\dE p=ab/\ef x=ab then(if dq (rZ t (p,x))=ab then(rZ t (p,x),ab)else(t,ae))else([],ae)
abbrev tVB(l:Nat)(t:List bz)(b:Bool):D:=.fw [.one (.vec l 2 t.length (cF.fn t)),.one (.c (.bool b))]
def nR{t:List bz}(h:dq t=ab):t.length<=6:=by simp only[dq,bS,bl]at h;exact h.2
def tH(t:List bz)(p x:Bs):Ev X 86 [cF.sl t,dS p,dS x] [] (tVB 0 (ee t p x).1 (ee t p x).2) [bV (ee t p x).1]:=by
 refine Ev.bQ Tryz.func86 rfl λi=>?_;have a:¬(dq t=ab/\dE p=ab/\ef x=ab)->ee t p x=([],ae):=λh=>a9 h;cases b:dq t with
 |false =>
  rw[a (by grind)];refine aR Hj [(10,ae)] rfl ?_ ?_
  .simp[cF.list_fn,cF.aO,b]
  .refine AK.ix 6 110 2 rfl rfl (AK.norm [bV []] rfl ?_ (AK.dG [0] rfl ?_ rfl rfl rfl ?_))
   .simp[cp]
   .simp[cp]
   grind
 |true =>
  have g:=nR b;cases c:dE p with
  |false =>
   rw[a (by grind)];refine aR Hj [(10,ab),(14,ae)] rfl ?_ ?_
   .simp[cF.list_fn,cF.aO,b,c]
   .refine AK.ix 6 110 2 rfl rfl (AK.norm [bV []] rfl ?_ (AK.dG [0] rfl ?_ rfl rfl rfl ?_))
    .simp[cp]
    .simp[cp]
    grind
  |true =>
   cases e:ef x with
   |false =>
    rw[a (by grind)];refine aR Hj [(10,ab),(14,ab),(19,ae)] rfl ?_ ?_
    .simp[cF.list_fn,cF.aO,b,c,e]
    .refine AK.ix 6 110 2 rfl rfl (AK.norm [bV []] rfl ?_ (AK.dG [0] rfl ?_ rfl rfl rfl ?_))
     .simp[cp]
     .simp[cp]
     grind
   |true =>
    have d:ee t p x=if dq (rZ t (p,x))=ab then(rZ t (p,x),ab)else(t,ae):=bn ⟨b,c,e⟩;cases f:dq (rZ t (p,x))with
    |true =>
     rw[f,bn rfl]at d;rw[d];refine aR Hj [(10,ab),(14,ab),(19,ab),(29,ab)] rfl ?_ (AK.norm [bV (rZ t (p,x))] rfl ?_ (AK.dG [0] rfl ?_ rfl rfl rfl ?_))
     .simp[cF.list_fn,cF.aO,b,c,e,f];omega
     .simp[cF.list_fn]
     .simp[cF.list_fn]
     grind
    |false =>
     rw[f,a9 (by simp)]at d;rw[d];refine aR Hj [(10,ab),(14,ab),(19,ab),(29,ae)] rfl ?_ (AK.norm [bV (rZ t (p,x)),bV t] rfl ?_ (AK.dG [1] rfl ?_ rfl rfl rfl ?_))
     .simp[cF.list_fn,cF.aO,b,c,e,f,i110];omega
     .simp[cF.list_fn,cp.app0]
     .simp[cp.app0]
     grind
def wV(t:List bz)(p x:Bs):Ev X 86 [cF.sl t,dS p,dS x] [] (QI (ee t p x).1 (ee t p x).2) [] :=
 (tH t p x).forget rfl (by simp) rfl
def XM:dy:=λargs σ=>match args,σ with
 |[f,.e (.one (.c (.str b))),.e (.one (.c (.str c)))],[]=>match kr 2 f with
  |none=>af
  |some (a,d)=>aa (QI (ee (cF.list a d) b c).1 (ee (cF.list a d) b c).2,[],[cF.fits a d])
 |_,_=>af
def t86:dM X 86 XM:=by
 intro args σ res σ' obs h ho;unfold XM at h;split at h
 .split at h
  .cases h
  rename_i b c a;cases h;exact(wV _ _ _ ).args (λ_ vs=>cg.imp (λ_=>cF.jD a ho) (cg.imp (λ_ r=>r) (cg.imp (λ_ r=>r) (λ_ r=>r))) vs)
 .cases h
def Y7:List (Nat×dy):=(86,XM)::Y6
def XN:bA X Y7:=bA.cons t86 (Hj)
end R1
def Gv(cs:List C)(j:Nat):Nat×(Nat->List C):=match eB j cs with|some (.sl _ _ n es)=>(n,es)|_=>(0,λ_=>[])
def cI:jY Int:={k:=1,enc:=λn=>[.int .i64 n],dec:=λcs=>vU cs 0,bR:=0,inv:=λ_=>rfl,len:=λ_=>rfl}
def cS:jY Bs:={k:=1,enc:=λs=>[.str s],dec:=λcs=>BF cs 0,bR:=[],inv:=λ_=>rfl,len:=λ_=>rfl}
namespace R1
def er:jY cn:={k:=2,enc:=λx=>[.int .i64 x.1,.str x.2],dec:=λcs=>(vU cs 0,BF cs 1),bR:=(0,[]),inv:=λ_=>rfl,len:=λ_=>rfl}
def ou:jY dw:={k:=2,enc:=λx=>[.int .i64 x.1,.int .i64 x.2],dec:=λcs=>(vU cs 0,vU cs 1),bR:=(0,0),inv:=λ_=>rfl,len:=λ_=>rfl}
abbrev sP(p:ba):C:=.sl ae 2 p.2.length (er.fn p.2)
def cP:jY ba:={k:=2,enc:=λp=>[.int .i64 p.1,sP p],dec:=λcs=>(vU cs 0,er.list (Gv cs 1).1 (Gv cs 1).2),bR:=(0,[]),inv:=λp=>by show(p.1,er.list p.2.length (er.fn p.2))=p;rw[er.list_fn],len:=λ_=>rfl}
def cL:jY gz:={k:=2,enc:=λx=>[.str x.1,.sl ae 1 x.2.length (cI.fn x.2)],dec:=λcs=>(BF cs 0,cI.list (Gv cs 1).1 (Gv cs 1).2),bR:=([],[]),inv:=λp=>by show(p.1,cI.list p.2.length (cI.fn p.2))=p;rw[cI.list_fn],len:=λ_=>rfl}
def eG:jY cC:={k:=2,enc:=λx=>[.int .i64 x.1,.sl ae 2 x.2.length (cL.fn x.2)],dec:=λcs=>(vU cs 0,cL.list (Gv cs 1).1 (Gv cs 1).2),bR:=(0,[]),inv:=λp=>by show(p.1,cL.list p.2.length (cL.fn p.2))=p;rw[cL.list_fn],len:=λ_=>rfl}
def cH:jY (Int×Int):=ou
abbrev xa(p:ba):D:=.e (.agg [.c (.int .i64 p.1),.c (sP p)])
abbrev Vs(r:Option Bs):D:=.e (.agg [.c (.str (r.getD [])),.c (.bool r.isSome)])
end R1
structure Arg(α:Type) where
 enc:α->D
 arg:D->Option (α×List Prop)
 ok:∀{d a o},arg d=aa (a,o)->au o->∀{σ:List bd} {s:St} {v:ai},dk σ s v d->dk σ s v (enc a)
def aI:Arg Int:=⟨dI,λd=>match d with|.e (.one (.c (.int .i64 n)))=>aa (n,[])|_=>af,λ{d a o} h _ _ _ _ r=>by grind⟩
def aS:Arg Bs:=⟨dS,λd=>match d with|.e (.one (.c (.str n)))=>aa (n,[])|_=>af,λ{d a o} h _ _ _ _ r=>by grind⟩
def aL(c:jY α):Arg (List α):=⟨c.sl,λd=>match kr c.k d with|some (n,es)=>aa (c.list n es,[c.fits n es])|none=>af,λ{d a o} h ho _ _ _ r=>by
 split at h
 .rename_i n es he;cases h;exact c.jD he ho r
 .cases h⟩
def Sb:Arg (Int×Bs):=⟨λx=>.e (.agg [.c (.int .i64 x.1),.c (.str x.2)]),λd=>match d with|.e (.agg [.c (.int .i64 a),.c (.str b)])=>aa ((a,b),[])|_=>af,λ{d a o} h _ _ _ _ r=>by grind⟩
def Vt:Arg (Int×Int):=⟨λx=>.e (.agg [.c (.int .i64 x.1),.c (.int .i64 x.2)]),λd=>match d with|.e (.agg [.c (.int .i64 a),.c (.int .i64 b)])=>aa ((a,b),[])|_=>af,λ{d a o} h _ _ _ _ r=>by grind⟩
def CK(c:jY α):Arg (Int×List α):=⟨λx=>.e (.agg [.c (.int .i64 x.1),.c (.sl ae c.k x.2.length (c.fn x.2))]),λd=>match d with
 |.e (.agg [.c (.int .i64 a),.c b])=>match kr c.k (.e (.one (.c b)))with|some (n,es)=>aa ((a,c.list n es),[c.fits n es])|none=>af
 |_=>af,λ{d a o} h ho _ s _ r=>by
 split at h
 .split at h
  .rename_i n es he;cases h;obtain⟨vs,m,g⟩:=r
   match vs,g with
   |[],g=>exact g.elim
   |[_],g=>exact g.2.elim
   |_::_::_::_,g=>exact g.2.2.elim
   |[p,l],g=>exact⟨_,m,g.1,c.jD (σ:=[]) (s:=s) (v:=l) he ho g.2.1,ar⟩
  .cases h
 .cases h⟩
def kB(A:Arg α)(res:α->D)(pre:α->List Prop):dy:=λargs σ=>match args,σ with
 |[d],[]=>match A.arg d with
  |some (a,o)=>aa (res a,[],iF o (pre a))
  |none=>af
 |_,_=>af
def oa{i:Type}(A:Arg α)(B:Arg i)(res:α->i->D)(pre:α->i->List Prop):dy:=λargs σ=>match args,σ with
 |[d,e],[]=>match A.arg d with
  |some (a,o)=>match B.arg e with
   |some (b,p)=>aa (res a b,[],iF o (iF p (pre a b)))
   |none=>af
  |none=>af
 |_,_=>af
def Fl{i j:Type}(A:Arg α)(B:Arg i)(C:Arg j)(res:α->i->j->D)(pre:α->i->j->List Prop):dy:=λargs σ=>match args,σ with
 |[d,e,f],[]=>match A.arg d with
  |some (a,o)=>match B.arg e with
   |some (b,p)=>match C.arg f with
    |some (c,q)=>aa (res a b c,[],iF o (iF p (iF q (pre a b c))))
    |none=>af
   |none=>af
  |none=>af
 |_,_=>af
section
variable {X:Cx P}{f:aJ}{i j:Type}{A:Arg α}{B:Arg i}{C:Arg j}
def dM.ox{res:α->D}{pre:α->List Prop}(h:∀a,au (pre a)->Ev X f [A.enc a] [] (res a) []):dM X f (kB A res pre):=by
 intro args σ r σ' obs h1 ho;unfold kB at h1;split at h1
 .split at h1
  .rename_i d a o b;cases h1;rw[au.cat]at ho;exact(h a ho.2).args λs vs=>cg.imp (λ_ r=>A.ok b ho.1 r) (λ_ r=>r) vs
  .cases h1
 .cases h1
def dM.qC{res:α->i->D}{pre:α->i->List Prop}(h:∀a b,au (pre a b)->Ev X f [A.enc a,B.enc b] [] (res a b) []):dM X f (oa A B res pre):=by
 intro args σ r σ' obs h1 ho;unfold oa at h1;split at h1
 .split at h1
  .rename_i d e a o c;split at h1
   .rename_i b p hb;cases h1;rw[au.cat,au.cat]at ho;exact(h a b ho.2.2).args λs vs=>cg.imp (λ_ r=>A.ok c ho.1 r) (cg.imp (λ_ r=>B.ok hb ho.2.1 r) (λ_ r=>r)) vs
   .cases h1
  .cases h1
 .cases h1
def dM.LN{res:α->i->j->D}{pre:α->i->j->List Prop}(h:∀a b c,au (pre a b c)->Ev X f [A.enc a,B.enc b,C.enc c] [] (res a b c) []):dM X f (Fl A B C res pre):=by
 intro args σ r σ' obs h1 ho;unfold Fl at h1;split at h1
 .split at h1
  .rename_i d e g a o l;split at h1
   .rename_i b p hb;split at h1
    .rename_i c q k;cases h1;rw[au.cat,au.cat,au.cat]at ho;exact(h a b c ho.2.2.2).args λs vs=>cg.imp (λ_ r=>A.ok l ho.1 r) (cg.imp (λ_ r=>B.ok hb ho.2.1 r) (cg.imp (λ_ r=>C.ok k ho.2.2.1 r) (λ_ r=>r))) vs
    .cases h1
   .cases h1
  .cases h1
 .cases h1
end
namespace R1
def zU(a:List D)(res:D):dy:=λargs σ=>match σ with|[]=>aa (res,[],[args=a])|_=>af
def DI{X:Cx ag}{f:aJ}{a:List D}{res:D}(h:Ev X f a [] res []):dM X f (zU a res):=by
 intro args σ r σ' obs he ho;unfold zU at he;split at he
 .cases he;have:args=a:=ho;subst this;exact h
 .cases he
def Jx(a:List D)(σ0:List bd)(res:D)(σ1:List bd):dy:=λargs σ=>aa (res,σ1,[args=a,σ=σ0])
def OT{X:Cx ag}{f:aJ}{a:List D}{σ0 σ1:List bd}{res:D}(h:Ev X f a σ0 res σ1):dM X f (Jx a σ0 res σ1):=by intro args σ r σ' obs he ho;cases he;obtain⟨c,b⟩:args=a/\σ=σ0:=ho;subst c b;exact h
end R1
def GI(M:Mem):List ai->List C->Prop
 |[],[]=>True
 |v::vs,c::cs=>Rd M v c/\GI M vs cs
 |_,_=>False
structure FA(α:Type) where
 enc:α->List C
 dec:List C->Option (α×List Prop×List C)
 ok:∀{cs a o r},dec cs=aa (a,o,r)->au o->∀{M:Mem} {vs:List ai},GI M vs cs->∃v1 v2,vs=v1++v2/\GI M v1 (enc a)/\GI M v2 r
def GI.app{M:Mem}:∀{v1 v2:List ai}{c1 c2:List C},GI M v1 c1->GI M v2 c2->GI M (v1++v2) (c1++c2)
 |[],_,[],_,_,h=>h
 |_::_,_,_::_,_,h1,h2=>⟨h1.1,h1.2.app h2⟩
 |[],_,_::_,_,h,_=>h.elim
 |_::_,_,[],_,h,_=>h.elim
def GI.one{c:C}{r:List C}(h:GI M vs (c::r)):∃v a,vs=v::a/\Rd M v c/\GI M a r:=by
 cases vs with
 |nil=>exact h.elim
 |cons v vs=>exact⟨v,vs,rfl,h⟩
def fL(c:jY α):FA (List α):=⟨λl=>[.sl ae c.k l.length (c.fn l)],λcs=>match cs with
 |d::r=>match kr c.k (.e (.one (.c d)))with|some (n,es)=>aa (c.list n es,[c.fits n es],r)|none=>af
 |_=>af,λ{cs a o r} h ho M vs hr=>by
 split at h
 .split at h
  .rename_i n es he;cases h;obtain⟨v,b,rfl,g,f⟩:=hr.one;exact⟨[v],b,rfl,⟨c.jD (σ:=[]) (s:=⟨[],M,default,λ_=>True⟩) (v:=v) he ho g,ar⟩,f⟩
  .cases h
 .cases h⟩
def fP{c:Type}(A:FA α)(B:FA c):FA (α×c):=⟨λx=>A.enc x.1++B.enc x.2,λcs=>match A.dec cs with
 |some (a,o,r)=>match B.dec r with|some (b,p,q)=>aa ((a,b),iF o p,q)|none=>af
 |none=>af,λ{cs a o r} h ho M vs hr=>by
 split at h
 .rename_i f;split at h
  .rename_i j;cases h;rw[au.cat]at ho;obtain⟨v1,k,rfl,i,g2⟩:=A.ok f ho.1 hr;obtain⟨d,v4,rfl,g,e⟩:=B.ok j ho.2 g2;exact⟨v1++d,v4,(jP _ _ _).symm,i.app g,e⟩
  .cases h
 .cases h⟩
def Vv:List A->Option (List C)
 |[]=>aa []
 |.c x::r=>match Vv r with|some q=>aa (x::q)|none=>af
 |_=>af
def Xl:List C->List A
 |[]=>[]
 |x::r=>.c x::Xl r
def JI{σ:List bd}{s:St}:∀{cs:List A}{q:List C}{vs:List ai},Vv cs=aa q->dZ σ s vs cs->GI s.M vs q
 |[],q,vs,h,a=>by cases h;cases vs with|nil=>trivial|cons=>exact a.elim
 |.c x::r,q,vs,h,a=>by
  simp only[Vv]at h;split at h
  .rename_i b;cases h;cases vs with
   |nil=>exact a.elim
   |cons v vs=>exact⟨a.1,JI b a.2⟩
  .cases h
 |.ptr ..::_,_,_,h,_=>by cases h
 |.vec ..::_,_,_,h,_=>by cases h
 |.ref ..::_,_,_,h,_=>by cases h
 |.bp ..::_,_,_,h,_=>by cases h
 |.any::_,_,_,h,_=>by cases h
def JJ{σ:List bd}{s:St}:∀{q:List C}{vs:List ai},GI s.M vs q->dZ σ s vs (Xl q)
 |[],[],_=>trivial
 |_::_,_::_,h=>⟨h.1,JJ h.2⟩
 |[],_::_,h=>h.elim
 |_::_,[],h=>h.elim
def aAg(F:FA α):Arg α:=⟨λa=>.e (.agg (Xl (F.enc a))),λd=>match d with
 |.e (.agg xs)=>match Vv xs with
  |some cs=>match F.dec cs with|some (a,o,[])=>aa (a,o)|_=>af
  |none=>af
 |_=>af,λ{d a o} h ho σ s v r=>by
 split at h
 .split at h
  .rename_i c;split at h
   .rename_i g;cases h;obtain⟨vs,rfl,b⟩:=r;obtain⟨v1,i,rfl,f,g2⟩:=F.ok g ho (JI c b);cases i with
    |nil=>exact⟨v1,by rw[jR],JJ f⟩
    |cons=>exact g2.elim
   .cases h
  .cases h
 .cases h⟩
namespace R1
section
variable {X:Cx ag}
def Jo(k:Int):Ev X 49 [dI k] [] (dB (cB k)) []:=by
 refine Ev.bQ Tryz.func49 rfl λc=>?_;by_cases a:1<=k
 .by_cases b:k<=99
  .refine aW [(4,ab),(7,ab)] rfl ?_ (AK.bo rfl ?_)
   .simp[a,b]
   .simp[cB,a,b]
  .refine aW [(4,ab),(7,ae)] rfl ?_ (AK.bo rfl ?_)
   .simp[a];omega
   .simp[cB,a,b]
 .refine aW [(4,ae)] rfl ?_ (AK.bo rfl ?_)
  .simp;omega
  .simp[cB,a]
def t49:dM X 49 (kB aI (λk=>dB (cB k)) λ_=>[]):=.ox λk _=>Jo k
def zQ{s:Bs}(h:i<s.length):b6 (s.take (i+1))=(b6 (s.take i)&&eF (s.getD i 0)):=by unfold b6;grind[List.take_add_one]
def oV{b:UInt8}:eF b=ab↔97<=(b.toNat:Int)/\(b.toNat:Int)<=122:=by simp[eF];omega
def vP{s:Bs}(h:i<s.length)(b:eF (s.getD i 0)=ae):b6 s=ae:=by
 cases a:b6 s with
 |false=>rfl
 |true =>
  have:=List.all_eq_true.1 a (s.getD i 0) (by grind);grind
def BA(s:Bs):Ev X 182 [dS s] [] (dB (b6 s)) []:=by
 refine Ev.bQ Tryz.func182 rfl λg=>?_;have f:=g.str 0 rfl;refine bx rfl ar ?_;refine AK.vt (λi=>i<=s.length/\b6 (s.take i)=ab) (λi:Nat=>[(0,dS s),(5,dI s.length),(6,dI i)]) (λ_=>[]) (λi=>s.length-i) 0 rfl (by simp) ⟨by omega,by simp[b6]⟩ rfl ?_;rintro i ⟨hi,a⟩;by_cases h:i<s.length
 .by_cases b:cw s i<97
  .refine aW [(7,ab),(12,ab)] rfl ?_ (AK.gU (cd.zero rfl ?_))
   .simp[-aj,h,cz,b]
   .have:eF (s.getD i 0)=ae:=by
     cases c:eF (s.getD i 0)with
     |false=>rfl
     |true=>have:=oV.1 c;unfold cw at b;omega
    simp[vP h this]
  .by_cases d:cw s i<=122
   .refine aW [(7,ab),(12,ae),(17,ae)] rfl ?_ (AK.again (i+1) rfl ?_ ?_ ?_ rfl)
    .simp[-aj,h,cz,b,d,bw];grind
    .simp
    .refine⟨by omega,?_⟩;rw[zQ h,a,fA];exact oV.2 (by unfold cw at b d;omega)
    .omega
   .refine aW [(7,ab),(12,ae),(17,ab)] rfl ?_ (AK.gU (cd.zero rfl ?_))
    .simp[-aj,h,cz,b];grind
    .have:eF (s.getD i 0)=ae:=by
      cases c:eF (s.getD i 0)with
      |false=>rfl
      |true=>have:=oV.1 c;unfold cw at d;omega
     simp[vP h this]
 .have e:i=s.length:=by omega
  subst e;refine aW [(7,ae)] rfl (by simp) (AK.leave rfl rfl ?_);refine bx rfl ar (AK.bo rfl ?_);rw[cO]at a;simp[a]
def TE:dM X 182 (kB aS (λs=>dB (b6 s)) λ_=>[]):=.ox λk _=>BA k
abbrev tb1:List (Nat×dy):=[(49,kB aI (λk=>dB (cB k)) λ_=>[]),(182,kB aS (λs=>dB (b6 s)) λ_=>[])]
def W8:bA X tb1:=.cons t49 (.cons TE .nil)
def BC(p:Bs):Ev X 195 [dS p] [] (dB (bG p)) []:=by
 refine Ev.bQ Tryz.func195 rfl λc=>?_;by_cases a:1<=p.length
 .by_cases b:p.length<=8
  .refine aR W8 [(5,ab),(9,ab),(11,ab)] rfl ?_ (AK.bo rfl ?_)
   .simp;omega
   .simp[bG,a,b]
  .refine aR W8 [(5,ab),(9,ae),(11,ae)] rfl ?_ (AK.bo rfl ?_)
   .simp;omega
   .simp[bG,a,b]
 .refine aR W8 [(5,ae),(11,ae)] rfl ?_ (AK.bo rfl ?_)
  .simp;omega
  .simp[bG,a]
def t195:dM X 195 (kB aS (λs=>dB (bG s)) λ_=>[]):=.ox λk _=>BC k
def BD(n:Nat)(h:n<=4000000):Ev X 219 [dI n] [] (dI (cG n)) []:=by
 refine Ev.bQ Tryz.func219 rfl λd=>?_;by_cases b:n<1
 .refine aW [(5,ab),(9,ab)] rfl ?_ (AK.bo rfl ?_)
  .simp;omega
  .simp[cG,b]
 .by_cases c:8<n
  .refine aW [(5,ae),(8,ab)] rfl ?_ (AK.bo rfl ?_)
   .simp;omega
   .simp[cG,c]
  .refine aW [(5,ae),(8,ae)] rfl ?_ ?_
   .simp;omega
   have e:cG n=2∨cG n=4∨cG n=8:=by unfold cG;grind
   refine AK.vt (λi:Nat=>(i=2∨i=4∨i=8)/\i<=cG n) (λi:Nat=>[(0,dI n),(3,dI i)]) (λ_=>[]) (λi=>8-i) 2 rfl (by simp) ⟨by simp,by omega⟩ rfl ?_;rintro i ⟨hi,a⟩;by_cases h:i<n
   .refine aW [(12,ab)] rfl ?_ (AK.again (2*i) rfl ?_ ?_ ?_ rfl)
    .simp[bw];omega
    .simp;omega
    .unfold cG at a⊢;grind
    .omega
   .refine aW [(12,ae)] rfl (by simp;omega) (AK.leave rfl rfl ?_);refine bx rfl ar (AK.bo rfl ?_);have:i=cG n:=by unfold cG at a⊢;grind
    simp[this]
theorem Dw(s:Bs)(b:UInt8):strip (s++[b])=if b=46 then strip s else s++[b]:=by unfold strip;grind[List.dropWhile_cons]
def vQ{s:Bs}(h:n<s.length):strip (s.take (n+1))=if s.getD n 0=46 then strip (s.take n)else s.take (n+1):=by grind[List.take_add_one,Dw]
theorem BE(s:Bs):Ev X 214 [dS s,dU 46] [] (dS (strip s)) []:=by
 refine Ev.bQ Tryz.func214 rfl λi=>?_;have g:=i.str 0 rfl;refine bx rfl ar ?_;refine AK.vt (λn=>n<=s.length/\strip (s.take n)=strip s) (λn:Nat=>[(0,dS (s.take n)),(1,dU 46)]) (λ_=>[]) (λn=>n) s.length rfl (by simp) ⟨by omega,by simp⟩ rfl ?_;rintro n ⟨k,a⟩;cases n with
 |zero =>
  refine aW [(7,ae),(16,ae)] rfl ?_ (AK.leave rfl rfl ?_)
  .simp
  refine bx rfl ar (AK.bo rfl ?_);have:strip s=[]:=by rw[<-a];rfl
  simp[this]
 |succ n =>
  have f:(s.take (n+1)).length=n+1:=by grind
  have h:cw (s.take (n+1)) n=cw s n:=by simp[cw,aj,fR]
  have j:=vQ (s:=s) (n:=n) (by omega);have b:((n:Int)+1-1).toNat=n:=by omega
  by_cases c:s.getD n 0=46
  .refine aW [(7,ab),(15,ab),(16,ab)] rfl ?_ (AK.again n rfl ?_ ?_ ?_ rfl)
   .have d:cw s n=46:=by unfold cw;rw[c];rfl
    simp[-aj,-List.length_take,f,cz,b,h,d,bw];omega
   .simp;show(s.take (n+1)).take _=_;grind
   .grind
   .omega
  .refine aW [(7,ab),(15,ae),(16,ae)] rfl ?_ (AK.leave rfl rfl ?_)
   .have d:cw s n≠46:=by unfold cw;intro e;exact c (pt.1 (by grind))
    simp[-aj,-List.length_take,f,cz,b,h,d,bw];omega
   refine bx rfl ar (AK.bo rfl ?_);rw[j,a9 c]at a;simp[a]
def TG:dy:=λargs σ=>match args,σ with
 |[.e (.one (.c (.str s))),.e (.one (.c (.int .u8 46)))],[]=>aa (dS (strip s),[],[])
 |_,_=>af
def t214:dM X 214 TG:=by intro args σ res σ' obs h _;unfold TG at h;grind[BE]
theorem M5(s:Bs):Ev X 194 [dS s,dS [46]] [] (dS (strip s)) []:=by
 refine Ev.bQ Tryz.func194 rfl λb=>?_;by_cases h:s=[]
 .subst h;refine aR (bA.cons t214 .nil) [(8,ab),(12,ab)] rfl ?_ (AK.bo rfl ?_)
  .simp
  .simp[strip]
 .refine aR (bA.cons t214 .nil) [(8,ae),(11,ae),(12,ae),(16,ab),(20,ab),(21,ab)] rfl ?_ (AK.bo rfl)
  .cases s with
   |nil=>grind
   |cons a r=>simp;decide
def Qx:dy:=λargs σ=>match args,σ with
 |[.e (.one (.c (.str s))),.e (.one (.c (.str [46])))],[]=>aa (dS (strip s),[],[])
 |_,_=>af
def t194:dM X 194 Qx:=by intro args σ res σ' obs h _;unfold Qx at h;grind[M5]
def tw{p:Bs}(h:i<p.length):codeOf (p.take (i+1))=27*codeOf (p.take i)+(cw p i-97) % 256+1:=by unfold codeOf;rw[jO,bm h];simp only[uj,Option.toList_some,iB,List.foldl_nil,cw,aj,bm h,ga]
def jC{p:Bs}(h:bG p=ab)(hi:i<=p.length):0<=codeOf (p.take i)/\codeOf (p.take i)<282429536481:=by simp only[bG,bS,bl]at h;obtain⟨c,q2⟩:=vR (p.take i) 0 1 0 (λb a=>kq h.2 b (ji a)) (by omega) (by omega) (by omega);have:=OS (n:=(p.take i).length) (by grind);rw[Int.one_mul]at q2;exact⟨c,Int.lt_of_lt_of_le q2 this⟩
def vS{p:Bs}(h:i<p.length):p.getD i 0∈p:=by grind
abbrev tb2:List (Nat×dy):=[(49,kB aI (λk=>dB (cB k)) λ_=>[]),(195,kB aS (λs=>dB (bG s)) λ_=>[])]
def pT:bA X tb2:=.cons t49 (.cons t195 .nil)
abbrev YP(n:Int):D:=.fw [.one (.c (.int .i64 n)),.one (.c .oI)]
def Jp(k:Int)(p:Bs)(f:cB k=ab)(b:bG p=ab):Ev X 197 [dI k,dS p] [] (YP (gp k p)) []:=by
 refine Ev.bQ Tryz.func197 rfl λq=>?_;have a:=b;simp only[bG,bS,bl]at a;have c:=f;simp only[cB,bS,bl]at c;refine aR pT [(8,ae),(13,ae)] rfl (by simp[f,b]) ?_;refine AK.vt (λi=>i<=p.length) (λi:Nat=>[(0,dI k),(1,dS p),(6,dI (codeOf (p.take i))),(19,dI p.length),(20,dI i)]) (λ_=>[]) (λi=>p.length-i) 0 rfl (by simp[codeOf]) (by omega) rfl ?_;intro i hi;by_cases h:i<p.length
 .have g:=jC b hi;have r:=jC b (i:=i+1) (by omega);have e:=tw h;refine aW [(21,ab)] rfl ?_ (AK.again (i+1) rfl ?_ ?_ ?_ rfl)
  .simp only[au,cz,bw];simp[-aj,h,cz];have l:=kq a.2 (p.getD i 0) (vS h);have d:97<=cw p i/\cw p i<=122:=by unfold cw;omega
   omega
  .have l:=kq a.2 (p.getD i 0) (vS h);have d:97<=cw p i/\cw p i<=122:=by unfold cw;omega
   have o:(cw p i-97) % 256=cw p i-97:=Int.emod_eq_of_lt (by omega) (by omega);rw[o]at e;simp[-aj,cz,e]
  .grind
  grind
 .have e:i=p.length:=by omega
  subst e;have g:=ya b;refine aW [(21,ae)] rfl (by simp) (AK.leave rfl rfl ?_);refine bx rfl ?_ (AK.bo rfl ?_)
  .rw[cO];have j:0<=codeOf p*(2*k+1):=Int.mul_nonneg g.1 (by omega);have n:codeOf p*(2*k+1)<=282429536481*199:=Int.mul_le_mul (by omega) (by omega) (by omega) (by omega);generalize codeOf p*(2*k+1)=m at j n;simp only[au,bw];simp;omega
  .rw[cO];refine au.cat.2 ⟨?_,au.cat.2 ⟨rfl,ar⟩⟩;show(_:Int)=_;rw[Int.mul_comm 7919 k];rfl
def t197:dM X 197 (oa aI aS (λk p=>YP (gp k p)) λk p=>[cB k=ab,bG p=ab]):=.qC λk p h=>Jp k p h.1 h.2
def Qz(h:o.op=.binOp op t x (.const .nilIface) ty){c:Bool}{ms:Array (String×aw)}(k:P.underlying t=aa (.interface ms))(n:η x=.e (.one (.c .oI)))(p:η (.const .nilIface)=.e (.one (.c .oI)))(j:lA op ab=aa c):bD P o η σ (.e (.one (.c (.bool c)))) σ:=by
 refine .quiet λs l q m=>?_;have d:=m x;have f:=m (.const .nilIface);rw[n]at d;rw[p]at f;replace d:=fH d;replace f:=fH f;generalize b:l x=vx at d;generalize a:l (.const .nilIface)=vy at f;cases d;cases f;have i:(Op.equal t .nilIface .nilIface).run P s.w=.ok ab s.w:=by show(Op.equalIn (9999+1) t _ _).run P s.w=_;unfold Op.equalIn;simp[underlying,k]
 have g:∀es,(Op.equal t .nilIface .nilIface).events P s.w es=es:=λes=>by show(Op.equalIn (9999+1) t _ _).events P s.w es=es;unfold Op.equalIn;simp[underlying,k]
 cases op<;>simp only[lA,reduceCtorEq,dx]at j
 .subst j;exact⟨.bool ab,by simp[ak,h,b,a,eqGuard,binOp,i],Rd.bool,by simp[ak,h,b,a,eqGuard,binOp,i,g]⟩
 .subst j;exact⟨.bool ae,by simp[ak,h,b,a,eqGuard,binOp,i],Rd.bool,by simp[ak,h,b,a,eqGuard,binOp,i,g]⟩
def Gt(k:Int)(p:Bs)(n:Int)(a:cB k=ab)(b:bG p=ab):Ev X 145 [dI k,dS p,dI n] [] (dB (gp k p==n)) []:=by
 refine Ev.bQ Tryz.func145 rfl λc=>?_;refine aR (bA.cons t197 .nil) [(17,ab)] rfl ?_ ?_
 .simp[a,b]
 refine AK.law (Qz rfl Tryz.underlying217 rfl rfl rfl) rfl rfl ?_;refine aR (bA.cons t197 .nil) [(17,ab)] rfl ?_ (AK.bo rfl ?_)
 .rfl
 .rfl
def t145:dM X 145 (Fl aI aS aI (λk p n=>dB (gp k p==n)) λk p _=>[cB k=ab,bG p=ab]):=.LN λk p n h=>Gt k p n h.1 h.2
abbrev dQ(n:Int):D:=.e (.one (.c (.int .u64 n)))
def _root_.Go.AM.AW.Fo{X:Cx P}{Q:Post}{x y:Code}(h:AW X N y Q φ σ):AW X N (.cond (.const (.bool ae)) x y) Q φ σ:=by intro s a f hh b k cs S hb hQ;refine .ctl hh rfl (λ_=>uu (t:=ae) rfl) λg h1=>?_;exact h g a (f.rely h1 hh) (hh.rely h1) b k cs S hb λe φ' σ' s' a' q c d st=>hQ e φ' σ' s' a' q c d (h1.stepW.trans st)
def _root_.Go.AM.AK.Fo{P:aM}{X:Cx P}{N:Nat}{Qf:Post}{K:List It}{φ:Fr}{σ:List bd}{x y:Code}(h:AK X N Qf (.code y::K) .normal φ σ):AK X N Qf (.code (.cond (.const (.bool ae)) x y)::K) .normal φ σ:=AW.Fo h
def Jg{k l:IntKind}{a b:Int}(c:Int)(h:o.op=.binOp op t x y ty)(r:η x=.e (.one (.c (.int k a))))(u:η y=.e (.one (.c (.int l b))))(m:bw k c)(d:∀w,(binOp op t (.int k a) (.int l b)).run P w=.ok (.int k c) w)(n:∀w,(binOp op t (.int k a) (.int l b)).events P w #[]=#[]):
  bD P o η σ (.e (.one (.c (.int k c)))) σ:=by refine .quiet λs p v q=>?_;have f:=q x;have i:=q y;rw[r]at f;rw[u]at i;replace f:=fH f;replace i:=fH i;generalize j:p x=vx at f;generalize g:p y=vy at i;cases f;cases i;exact⟨.int k c,by simp only[ak,h,bO,j,g,gn,b9,d,cT],.int m,by simp[ak,h,j,g,gn,js,d,n]⟩
def DF:Ev X 239 [dQ 1,dQ 2] [] (.fw [.one (.c (.int .u64 0)),.one (.c (.int .u64 2))]) []:=by refine Ev.bQ Tryz.func239 rfl λa=>?_;exact c9 rfl (by simp[bw]) (AK.bo rfl)
def DG:Ev X 239 [dQ 1,dQ 3] [] (.fw [.one (.c (.int .u64 0)),.one (.c (.int .u64 3))]) []:=by refine Ev.bQ Tryz.func239 rfl λa=>?_;exact c9 rfl (by simp[bw]) (AK.bo rfl)
def TJ:dy:=λargs σ=>match args,σ with
 |[.e (.one (.c (.int .u64 1))),.e (.one (.c (.int .u64 c)))],[]=>aa (.fw [.one (.c (.int .u64 0)),.one (.c (.int .u64 c))],[],[c=2∨c=3])
 |_,_=>af
def t239:dM X 239 TJ:=by
 intro args σ res σ' obs h ho;unfold TJ at h;split at h
 .cases h;rcases ho with rfl|rfl
  .exact DF
  .exact DG
 grind
def QF(c:Int)(a:c=2∨c=3):Ev X 228 [dQ 1,dQ c] [] (.fw [.one (.c (.int .u64 0)),.one (.c (.int .u64 c))]) []:=by
 refine Ev.bQ Tryz.func228 rfl λb=>?_;refine bZ (bA.cons t239 .nil) rfl ar ?_;refine AK.Fo ?_;refine bZ (bA.cons t239 .nil) rfl ?_ (AK.bo rfl)
 .simp[a]
def Qw:dy:=λargs σ=>match args,σ with
 |[.e (.one (.c (.int .u64 1))),.e (.one (.c (.int .u64 c)))],[]=>aa (.fw [.one (.c (.int .u64 0)),.one (.c (.int .u64 c))],[],[c=2∨c=3])
 |_,_=>af
def t228:dM X 228 Qw:=by
 intro args σ res σ' obs h ho;unfold Qw at h;split at h
 .cases h;exact QF _ ho
 grind
abbrev oU:dy:=kB aS (λp=>dS (gq p)) λ_=>[]
abbrev zR(r:Option Bs):D:=.fw [.one (.c (.str (r.getD []))),.one (.c (.bool r.isSome))]
def Dx(c:dM X 196 oU)(b:Bs):Ev X 144 [dS b] [] (zR (eO b)) []:=by
 refine Ev.bQ Tryz.func144 rfl λf=>?_;have e:bA X [(194,Qx),(195,kB aS (λs=>dB (bG s)) λ_=>[]),(196,oU)]:=.cons t194 (.cons t195 (.cons c .nil));by_cases a:bG (strip b)=ab
 .by_cases d:gq (strip b)=b
  .refine aR e [(10,ae),(15,ae)] rfl ?_ (AK.bo rfl ?_)
   .simp[a,d]
   .simp[eO,a,d]
  .refine aR e [(10,ae),(15,ab)] rfl ?_ (AK.bo rfl ?_)
   .simp[a,d]
   .simp[eO,a,d]
 .refine aR e [(10,ab),(15,ab)] rfl ?_ (AK.bo rfl ?_)
  .simp[a]
  .simp[eO,a]
def TH(a:dM X 196 oU):dM X 144 (kB aS (λb=>zR (eO b)) λ_=>[]):=.ox λb _=>Dx a b
def vT{b p:Bs}(h:eO b=aa p):bG p=ab:=by unfold eO at h;grind
abbrev W9(x:cn):D:=Sb.enc x
def Jq(c:dM X 196 oU)(x:cn)(k:Int)(d:cB k=ab):Ev X 101 [W9 x,dI k] [] (zR (chunk k x)) []:=by
 refine Ev.bQ Tryz.func101 rfl λh=>?_;have f:bA X [(144,kB aS (λb=>zR (eO b)) λ_=>[]),(145,Fl aI aS aI (λk p n=>dB (gp k p==n)) λk p _=>[cB k=ab,bG p=ab])]:=.cons (TH c) (.cons t145 .nil);cases a:eO x.2 with
 |none =>
  refine aR f [(16,ab),(23,ab)] rfl ?_ (AK.bo rfl ?_)
  .simp[a]
  .simp[chunk,a]
 |some p =>
  have g:=vT a;by_cases e:gp k p=x.1
  .refine aR f [(16,ae),(23,ae)] rfl ?_ (AK.bo rfl ?_)
   .simp[a,e,d,g]
   .simp[chunk,a,e,d]
  .refine aR f [(16,ae),(23,ab)] rfl ?_ (AK.bo rfl ?_)
   .simp[a,e,d,g]
   .simp[chunk,a,e,d]
def Jr(a:dM X 196 oU):dM X 101 (oa Sb aI (λx k=>zR (chunk k x)) λ_ k=>[cB k=ab]):=.qC λx k h=>Jq a x k h
def QA(x:cn)(n:Int):Ev X 206 [W9 x,.e (.one (.c (.rp [.int .i64 n])))] [] (dB (x.1==n)) []:=by refine Ev.bQ Tryz.func206 rfl λa=>?_;exact bx rfl ar (AK.bo rfl)
def QB:dy:=λargs σ=>match args,σ with
 |[.e (.agg [.c (.int .i64 a0),.c (.str a1)]),.e (.one (.c (.rp [.int .i64 n])))],[]=>aa (dB (a0==n),[],[a1=a1])
 |_,_=>af
def t206:dM X 206 QB:=by
 intro args σ res σ' obs h ho;unfold QB at h;split at h
 .rename_i a b n;cases h;exact QA (a,b) n
 grind
abbrev Js(n:Int):D:=.e (.one (.c (.fn (.func 206) [] [.rp [.int .i64 n]])))
def zT(l:List cn)(n:Int):Int:=match l.findIdx? (λx=>x.1==n)with|some i=>i|none=>-1
def M6{t:List cn}{n:Int}(hi:i<t.length)(h:(t.getD i (0,[])).1=n)(a:∀j,j<i->(t.getD j (0,[])).1≠n):zT t n=i:=by
 have:t.findIdx? (λf=>f.1==n)=aa i:=by
  rw[r8];refine⟨hi,?_,λj b=>?_⟩
  .grind
  grind
 rw[zT,this]
def Gu{t:List cn}{n:Int}(a:∀j,j<t.length->(t.getD j (0,[])).1≠n):zT t n=-1:=by
 have:t.findIdx? (λf=>f.1==n)=af:=by grind[List.getElem_of_mem]
 rw[zT,this]
def M7(t:List cn)(n:Int):Ev X 205 [er.sl t,Js n] [] (dI (zT t n)) []:=by
 refine Ev.bQ Tryz.func205 rfl λe=>?_;have d:=e.sl 0 rfl;have b:bA X [(206,QB)]:=.cons t206 .nil;refine bZ b rfl ar ?_;refine AK.jA (λi=>i<=t.length/\∀j,j<i->(t.getD j (0,[])).1≠n) (λi:Nat=>[(0,er.sl t),(1,Js n),(7,dI t.length),(8,dI i)]) (λ_=>[]) (λi=>t.length-i) 0 rfl ?_ rfl ar ⟨by omega,by omega⟩ ?_
 .simp
 rintro i ⟨hi,a⟩;by_cases h:i<t.length
 .by_cases c:(t.getD i (0,[])).1=n
  .refine aR b [(9,ab),(16,ab)] rfl ?_ (AK.gU (cd.zero rfl ?_))
   .simp only[au,bL];grind
   .simp[M6 h c a]
  .refine aR b [(9,ab),(16,ae)] rfl ?_ (AK.fK (i+1) rfl ?_ rfl ar ?_ ?_)
   .simp only[au,bL];exact⟨by simp only[bw];omega,ar,fy.2 c,by omega,by omega,dh (by omega)⟩
   .simp
   .grind
   .omega
 .refine aR b [(9,ae)] rfl (by simp;omega) (AK.leave rfl rfl ?_);refine bZ b rfl ar (AK.bo rfl ?_);simp[Gu (λj f=>a j (by omega))]
def QC:dy:=λargs σ=>match args,σ with
 |[d,.e (.one (.c (.fn (.func 206) [] [.rp [.int .i64 n]])))],[]=>match kr 2 d with
  |none=>af
  |some (m,es)=>aa (dI (zT (er.list m es) n),[],[er.fits m es])
 |_,_=>af
def t205:dM X 205 QC:=by
 intro args σ res σ' obs h ho;unfold QC at h;split at h
 .rename_i d n;split at h
  .cases h
  rename_i m es hd;cases h;exact(M7 _ n).args (λ_ vs=>cg.imp (λ_=>er.jD hd ho) (cg.imp (λ_ r=>r) (λ_ r=>r)) vs)
 grind
def Dy(t:List cn)(n:Int):(zT t n=-1/\t.find? (λx=>x.1==n)=af)∨∃i:Nat,i<t.length/\zT t n=i/\t.find? (λx=>x.1==n)=aa (t.getD i (0,[])):=by unfold zT;grind[List.findIdx?_eq_some_iff_getElem,List.find?_eq_some_iff_getElem]
def Dz(a:dM X 196 oU)(k:Int)(p:ba)(n:Int)(g:cB k=ab):Ev X 173 [dI k,xa p,dI n] [] (zR (dt k p n)) []:=by
 refine Ev.bQ Tryz.func173 rfl λh=>?_;have f:bA X [(205,QC),(101,oa Sb aI (λx k=>zR (chunk k x)) λ_ k=>[cB k=ab])]:=.cons t205 (.cons (Jr a) .nil);have c:er.list p.2.length (er.fn p.2)=p.2:=er.list_fn _;refine DC [] 7 rfl ar ?_;refine AK.freeze 5 1 rfl rfl rfl ?_;rcases Dy p.2 n with⟨b,d⟩|⟨i,hi,b,d⟩
 .refine aR f [(14,ab)] rfl ?_ (AK.bo rfl ?_)
  .simp only[au,c,b];exact⟨rfl,er.aO _⟩
  .simp[dt,d]
 .refine aR f [(14,ae)] rfl ?_ (AK.bo rfl ?_)
  .simp only[au,c,b];exact⟨g,by omega,by omega,gL (by omega),er.aO _⟩
  .have e:dt k p n=chunk k (p.2.getD i (0,[])):=by simp only[dt,d]
   rw[e,c,b];simp only[bL];exact au.cat.2 ⟨rfl,au.cat.2 ⟨rfl,ar⟩⟩
def QD(a:dM X 196 oU):dM X 173 (Fl aI (CK er) aI (λk p n=>zR (dt k p n)) λk _ _=>[cB k=ab]):=.LN λk p n h=>Dz a k p n h
def k8:∀(l:List UInt8)(c:UInt8),Lib.indexByte l c<l.length∨Lib.indexByte l c=-1
 |[],c=>.inr (by rw[Lib.indexByte.eq_def])
 |b::l,c=>by have a:=k8 l c;grind[Lib.indexByte.eq_def]
set_option maxRecDepth 20000 in
theorem Ao(s:Bs)(c:UInt8):Ev X 231 [dS s,dU c.toNat] [] (dI (Lib.indexByte s c)) []:=by
 refine Ev.bQ Tryz.func231 rfl λq=>?_;have A:=q.str 0 rfl;refine bx rfl ar ?_;refine AK.one (x:=dI (Lib.indexByte s c)) (σ':=[]) ?_ rfl ?_
 .refine OA.mK (λ_ _ _ _=>du (by rfl)) ?_;refine bD.ny λst ρ t k=>?_;have o:=fH (k (.tmp 5));have p:=fH (k (.tmp 6));generalize g:ρ (.tmp 5)=v1 at o;generalize i:ρ (.tmp 6)=v2 at p;cases o with
  |str e1 l1 =>
  cases p with
  |int l2 =>
  have j:ρ (.func 240)=.func (.func 240) #[] #[]:=by
   have:=fH (k (.func 240));generalize ρ (.func 240)=v at this;cases this with
   |fn fs cs a b B u c1 c2 d1 d2 =>
    grind
  have f:(callFunc 240 #[.string ‹ByteArray›,.int .u8 c.toNat]).run ag st.w=.ok (.value (.int .i64 (Lib.indexByte s c))) st.w:=by rw[run_callFunc_extern Tryz.func240 (by kernel_rfl) (by kernel_rfl) (by kernel_rfl) (e:=Extern.BytealgIndexByte.indexByte) (by kernel_rfl),Lib.run_indexByteString];subst e1;simp
  have l:cV ag (Extern.BytealgIndexByte.indexByte #[.string ‹ByteArray›,.int .u8 c.toNat]):=by
   refine cV.bind (m:=Extern.Bytes.bytesOf (.string ‹ByteArray›)) (λ_ _=>rfl) λb=>cV.bind (m:=Extern.Bytes.asByte (.int .u8 c.toNat)) (λ_ _=>?_) λd=>?_
   .simp[Extern.Bytes.asByte]
   .skip
    split<;>exact .pure
  have h:=ly Tryz.func240 (by kernel_rfl) (by kernel_rfl) (by kernel_rfl) (e:=Extern.BytealgIndexByte.indexByte) (by kernel_rfl) _ l st.w #[];refine⟨.int .i64 (Lib.indexByte s c),?_,Rd.int ?_,?_⟩
  rotate_left 2
  .intro y n;simp[ak,resolve,Deferred.ofValue,invoke,g,i,j,h]at n;subst n;exact .inr ⟨_,rfl⟩
  .simp[ak,resolve,Deferred.ofValue,invoke,g,i,j,f]
  .have r:=Lib.indexByte_ge s c;have z:=k8 s c;simp only[bw];omega
 .exact bx rfl ar (AK.bo rfl)
def GU(b:Nat->Int):Nat->List C:=λi=>[.int .u8 (b i)]
def Bytes(b:Nat->Int):Prop:=∀i,0<=b i/\b i<=255
abbrev ku(m:Nat)(b:Nat->Int)(k:Int):bd:=.cells 89 [.c (.sl ae 1 m (GU b)),.c (.int .i64 k)]
def dL.oc{f:aJ}{fn:Func}{args:List D}{σ':ι->List bd}(d:Tryz.prog.funcs[f]?=aa fn)(b:(fn.name== "runtime.NumGoroutine")=ae)(hb:fn.body=aa c)(a:bu args.length fn.ntmps=ab)(h:Fits args σ->AK X fn.ntmps (λe φ σ1=>∃j,cd fn σ.length (res j) (σ' j) e φ σ1) [.code c] .normal (jb 0 args) σ):dL X f args σ res σ' :=
 dL.zD d b hb a λg=>AW.top (AK.of_code (h g))
def AK.kK{fn:Func}{a:Nat}{σ':ι->List bd}(i:ι)(k:AK X N (cd fn a (res i) (σ' i)) K .normal φ σ):AK X N (λe φ σ1=>∃j,cd fn a (res j) (σ' j) e φ σ1) K .normal φ σ :=
 AK.il (λ_ _ _ q=>⟨i,q⟩) k
def lP(m:Nat)(b:Nat->Int)(k:Nat)(n:Int):Int :=
 if m=0 then 0 else if k<m then b k % n else
  ((b ((k:Int) % m).toNat*131+b (((k:Int)*7+3) % m).toNat*1117+k*29+(k:Int) / m*53).toNat ^^^ ((b ((k:Int) % m).toNat*131+b (((k:Int)*7+3) % m).toNat*1117+k*29+(k:Int) / m*53) / 64).toNat:Nat) % n
set_option maxRecDepth 20000 in
def Ci(m:Nat)(b:Nat->Int)(c:Bytes b)(k:Nat)(n:Int)(p:k<=4000000)(q:m<=1048576)(x:1<=n/\n<=4000000):
  Ev X 54 [.e (.one (.ptr 0 0)),dI n] [ku m b k] (dI (lP m b k n)) [ku m b (k+1)]:=by
 refine Ev.bQ Tryz.func54 rfl λl=>?_;have g:∀j,j<([ku m b k]:List bd).length->([0]:List Nat)[j]?=aa j:=λj A=>by grind
 by_cases d:m=0
 .subst d;refine aW [(17,ae),(24,ab)] rfl ?_ (AK.dG [0] rfl ?_ rfl rfl rfl g)
  .simp[bw];omega
  .simp[lP]
 have f:((k:Int)+1-1)=k:=by omega
 have i:((k:Int)+1-1).toNat=k:=by omega
 have h:=c k;by_cases o:(k:Int)<m
 .refine aW [(17,ae),(24,ae),(36,ab)] rfl ?_ (AK.dG [0] rfl ?_ rfl rfl rfl g)
  .simp only[au,f,bL,bl,b7,fy,bw];omega
  .have:k<m:=by omega
   simp[lP,d,this]
 .refine bF [(17,ae),(24,ae),(36,ae)] rfl ?_ (AK.dG [0] rfl ?_ rfl rfl rfl g)
  .simp only[au,f,b7,fy,bw];have a:(0:Int)<m:=by omega
   have y:=q8 (k:Int) (by omega:(m:Int)≠0);have r:=qT (k:Int) a;have v1:=q8 ((k:Int)*7+3) (by omega:(m:Int)≠0);have z:=qT ((k:Int)*7+3) a;have w1:0<=(k:Int) / m:=Int.ediv_nonneg (by omega) (by omega);have w2:(k:Int) / m<=k:=Int.ediv_le_self _ (by omega);generalize(k:Int) % m=u at *;generalize((k:Int)*7+3) % m=v at *;generalize(k:Int) / m=w at *;have s:=c u.toNat;have t:=c v.toNat;grind
  .have:¬k<m:=by omega
   simp[lP,d,this,f]
def tG(m:Nat)(b:Nat->Int)(k:Nat)(n:Int)(a:1<=n):0<=lP m b k n/\lP m b k n<n:=by
 unfold lP;split
 .omega
 .split
  .exact⟨q8 _ (by omega),qT _ (by omega)⟩
  .exact⟨q8 _ (by omega),qT _ (by omega)⟩
def gA(m:Nat)(b:Nat->Int)(c:Bytes b)(k:Nat)(n:Int)(d:k<=4000000)(f:m<=1048576)(a:1<=n/\n<=4000000):
  dL (ι:={v:Int // 0<=v/\v<n}) X 54 [.e (.one (.ptr 0 0)),dI n] [ku m b k] (λv=>dI v.1) (λ_=>[ku m b (k+1)]):=by have h:=Ci (X:=X) m b c k n d f a;exact⟨h.1,λs vs hr hh S cs hS=>h.2 s vs hr hh S cs (hS ⟨_,tG m b k n a.1⟩)⟩
def Rs(es:Nat->List C):Nat->Int:=λi=>vU (es i) 0
def XJ:dy:=λargs σ=>match args,σ with
 |[.e (.one (.ptr 0 0)),.e (.one (.c (.int .i64 n)))],[.cells 89 [.c (.sl ae 1 m es),.c (.int .i64 k)]] =>
  aa (dI (lP m (Rs es) k.toNat n),[ku m (Rs es) (k+1)],[k=k.toNat,es=GU (Rs es),Bytes (Rs es),k<=4000000,m<=1048576,1<=n,n<=4000000])
 |_,_=>af
def t54:dM X 54 XJ:=by
 intro args σ res σ' obs h ho;unfold XJ at h;split at h
 .rename_i n m es k;cases h;obtain⟨e,g,a,f,d,c,b⟩:=ho;have:=Ci (X:=X) m (Rs es) a k.toNat n (by omega) d ⟨c,b⟩;grind
 grind
def xz:∀j,j<1->([0]:List Nat)[j]?=aa j:=λj a=>by grind
set_option maxRecDepth 20000 in
def KF(m:Nat)(b:Nat->Int)(c:Bytes b)(k:Nat)(d:k<=4000000)(f:m<=1048576)(l:List Bs)(h:1<=l.length/\l.length<=1000):
  dL (ι:={p:Bs // p∈l}) X 113 [.e (.one (.ptr 0 0)),cS.sl l] [ku m b k] (λp=>dS p.1) (λ_=>[ku m b (k+1)]):=by
 refine dL.oc Tryz.func113 rfl rfl rfl λg=>?_;refine bx rfl ar ?_;refine AK.cP (gA m b c k l.length d f (by omega)) [0] rfl (λ_=>rfl) ?_;rintro⟨v,v0,v1⟩;refine bx rfl ?_ ?_
 .simp;omega
 have a:l.getD v.toNat cS.bR∈l:=by grind
 refine AK.kK ⟨l.getD v.toNat cS.bR,a⟩ (AK.dG [0] rfl ?_ rfl rfl rfl xz);simp
def KG:List Bs:=[[],[102],[97,47],[97,98],[97,47,98,47,99],[47,97]]
def KH:List Bs:=[[97],[98],[99,47,97],[99,47,98],[100,47,97],[101],[97,47,98],[100]]
set_option maxRecDepth 20000 in
def uL(m:Nat)(b:Nat->Int)(a:Bytes b)(k:Nat)(g:k<=100000)(c:m<=1048576):
  dL (ι:={p:Bs // p.length<=8}) X 87 [.e (.one (.ptr 0 0))] [ku m b k] (λp=>dS p.1) (λ_=>[ku m b (k+1+1)]):=by
 refine dL.oc Tryz.func87 rfl rfl rfl λf=>?_;refine bx rfl ar ?_;refine AK.cP (gA m b a k 40 (by omega) c (by omega)) [0] rfl (λ_=>rfl) ?_;rintro⟨v,v0,v1⟩;by_cases h:v=0
 .refine aW [(5,ab)] rfl ?_ ?_
  .simp[h]
  have:=KF (X:=X) m b a (k+1) (by omega) c KG (by decide);refine AK.kW this [0] rfl rfl rfl rfl ?_ rfl rfl rfl (λ_=>rfl) rfl (λ_=>rfl) rfl ?_
  .refine⟨rfl,λi hi=>?_⟩;rcases i with _|_|_|_|_|_|i<;>first|rfl|omega
  rintro⟨p,d⟩;refine bx rfl ar (AK.kK ⟨p,(by decide:∀p∈KG,p.length<=8) p d⟩ (AK.dG [0] rfl ?_ rfl rfl rfl xz));simp
 .refine aW [(5,ae)] rfl ?_ ?_
  .simp[h]
  have:=KF (X:=X) m b a (k+1) (by omega) c KH (by decide);refine AK.kW this [0] rfl rfl rfl rfl ?_ rfl rfl rfl (λ_=>rfl) rfl (λ_=>rfl) rfl ?_
  .refine⟨rfl,λi hi=>?_⟩;rcases i with _|_|_|_|_|_|_|_|i<;>first|rfl|omega
  rintro⟨p,d⟩;refine bx rfl ar (AK.kK ⟨p,(by decide:∀p∈KH,p.length<=8) p d⟩ (AK.dG [0] rfl ?_ rfl rfl rfl xz));simp
def words:List Bs:=[[97,98,99],[104,101,108,108,111],[119,111,114,108,100],[97,97,97,97],[107,101,101,112],[122,122],[98,97,99,107,117,112],[113]]
abbrev UB(k:Nat):={q:Bs×Nat // q.1.length<=100000/\k<=q.2/\q.2<=k+60}
def FJ(s:Bs)(n:Int)(f:s.length<=10)(j:0<=n/\n<=100):dL (ι:={p:Bs // p.length<=100000}) X 114 [dS s,dI n] [] (λp=>dS p.1) (λ_=>[]):=by
 refine dL.oc Tryz.func114 rfl rfl rfl λg=>?_;refine bx rfl ar ?_;refine AK.jA (λx:Nat×Bs×Bs=>x.1<=100/\x.2.2.length+x.2.1.length*x.1<=1010) (λx=>[(0,dS x.2.1),(1,dI x.1),(5,dS x.2.2)]) (λ_=>[]) (λx=>x.1) (n.toNat,s,[]) rfl ?_ rfl ar ⟨by grind,?_⟩ ?_
 .simp;omega
 .have:s.length*n.toNat<=10*100:=Nat.mul_le_mul f (by omega);grind
 rintro⟨k,t,out⟩ ⟨c,b⟩;simp only at c b;by_cases a:0<k
 .have i:t.length<=t.length*k:=ue _ a;have h:((k:Int) / 2)=((k / 2:Nat):Int):=by omega
  by_cases l:k % 2=1
  .have d:(t++t).length*(k / 2)+t.length=t.length*k:=by
    have e:k=2*(k / 2)+1:=by omega
    grind
   refine aW [(7,ab),(10,ab)] rfl ?_ (AK.fK (k / 2,t++t,out++t) rfl ?_ rfl ar ?_ ?_)
   .simp[a];omega
   .simp
   .grind
   grind
  .have d:(t++t).length*(k / 2)=t.length*k:=by
    have e:k=2*(k / 2):=by omega
    grind
   refine aW [(7,ab),(10,ae)] rfl ?_ (AK.fK (k / 2,t++t,out) rfl ?_ rfl ar ?_ ?_)
   .simp[a];omega
   .simp
   .grind
   grind
 .obtain rfl:k=0:=by omega
  refine aW [(7,ae)] rfl (by simp) (AK.leave rfl rfl ?_);exact bx rfl ar (AK.kK ⟨out,by omega⟩ (AK.bo rfl))
set_option maxRecDepth 20000 in
def FK(m:Nat)(b:Nat->Int)(c:Bytes b)(k:Nat)(K:k<=100000)(d:m<=1048576):
  dL (ι:=UB k) X 88 [.e (.one (.ptr 0 0))] [ku m b k] (λq=>dS q.1.1) (λq=>[ku m b q.1.2]):=by
 refine dL.oc Tryz.func88 rfl rfl rfl λC=>?_;refine bx rfl ar ?_;refine AK.cP (gA m b c k 5 (by omega) d (by omega)) [0] rfl (λ_=>rfl) ?_;rintro⟨v,v0,v1⟩;refine bx rfl ar ?_;refine AK.bY 1 (λs:Nat×Bs×Nat=>s.1<=4/\s.2.1.length+6*s.1<=24/\k<=s.2.2/\s.2.2+s.1<=k+5) (λs=>[(0,.e (.one (.ptr 0 0))),(4,dI s.1),(3,dS s.2.1)]) (λs=>[ku m b s.2.2]) (λs=>s.1) (v.toNat,[],k+1) rfl ?_ rfl ?_ rfl ⟨by omega,by grind,by simp,by grind⟩ ?_
 .simp;omega
 .simp
 rintro⟨n,s,k1⟩ ⟨t,B,o,F⟩;simp only at t B o F;by_cases j:0<n
 .refine aW [(9,ab)] rfl ?_ ?_
  .simp[j]
  have:=KF (X:=X) m b c k1 (by omega) d words (by decide);refine AK.kW this [0] rfl rfl rfl rfl ?_ rfl rfl rfl (λ_=>rfl) rfl (λ_=>rfl) rfl ?_
  .refine⟨rfl,λi hi=>?_⟩;rcases i with _|_|_|_|_|_|_|_|i<;>first|rfl|omega
  rintro⟨p,h⟩;have r:p.length<=6:=(by decide:∀p∈words,p.length<=6) p h;refine bx rfl ?_ (AK.aQ (n-1,s++p,k1+1) rfl ?_ ?_ ?_ ?_)
  .simp[bw];omega
  .simp;omega
  .simp
  .grind
  grind
 .obtain rfl:n=0:=by omega
  refine aW [(9,ae)] rfl (by simp) (AK.leaveD rfl rfl ?_);refine bx rfl ar ?_;refine AK.cP (gA m b c k1 4 (by omega) d (by omega)) [0] rfl (λ_=>rfl) ?_;rintro⟨u,M,J⟩;by_cases l:u=0
  .refine aW [(19,ab)] rfl (by simp[l]) ?_;refine AK.cP (gA m b c (k1+1) 12 (by omega) d (by omega)) [0] rfl (λ_=>rfl) ?_;rintro⟨w,L,w1⟩;refine bx rfl ar ?_;refine AK.bY 1 (λs:Nat×Bs×Nat=>s.1<=11/\s.2.1.length+s.1<=36/\k<=s.2.2/\s.2.2+s.1<=k+20) (λs=>[(0,.e (.one (.ptr 0 0))),(5,dI s.1),(3,dS s.2.1)]) (λs=>[ku m b s.2.2]) (λs=>s.1) (w.toNat,s,k1+2) rfl ?_ rfl ?_ rfl ⟨by omega,by grind,by grind,by grind⟩ ?_
   .simp;omega
   .simp;omega
   rintro⟨n,s2,f⟩ ⟨A,g2,E,D⟩;simp only at A g2 E D;by_cases j:0<n
   .refine aW [(23,ab)] rfl ?_ ?_
    .simp[j]
    refine AK.cP (gA m b c f 26 (by omega) d (by omega)) [0] rfl (λ_=>rfl) ?_;rintro⟨x,I,H⟩;refine bx rfl ?_ (AK.aQ (n-1,s2++[UInt8.ofNat (97+x).toNat],f+1) rfl ?_ ?_ ?_ ?_)
    .simp[bw];omega
    .simp;omega
    .simp
    .grind
    grind
   .obtain rfl:n=0:=by omega
    refine aW [(23,ae)] rfl (by simp) (AK.leaveD rfl rfl ?_);refine aW [(36,ae)] rfl ?_ ?_
    .simp;omega
    refine AK.cP (gA m b c f 60 (by omega) d (by omega)) [0] rfl (λ_=>rfl) ?_;rintro⟨y,G,z⟩;by_cases g:y=0
    .refine aW [(41,ab)] rfl ?_ (AK.kK ⟨(s2++[65],f+1),by grind,by grind,by grind⟩ (AK.dG [0] rfl ?_ rfl rfl rfl xz))
     .simp[g];omega
     .simp
    by_cases a:y=1
    .refine aW [(41,ae),(45,ab)] rfl ?_ ?_
     .simp[a]
     refine AK.cP (FJ [97,98,99,100,101] 9 (by decide) (by decide)) [] rfl (λ_=>rfl) ?_;rintro⟨p,h⟩;refine bx rfl ar (AK.kK ⟨(p,f+1),h,by grind,by grind⟩ (AK.dG [0] rfl ?_ rfl rfl rfl xz));simp
    .refine aW [(41,ae),(45,ae)] rfl ?_ (AK.kK ⟨(s2,f+1),by grind,by grind,by grind⟩ (AK.dG [0] rfl ?_ rfl rfl rfl xz))
     .simp[g,a]
     .simp
  .refine DC [(19,ae)] 2 rfl (by simp[l]) ?_;refine aW [(36,ae)] rfl ?_ ?_
   .simp;omega
   refine AK.cP (gA m b c (k1+1) 60 (by omega) d (by omega)) [0] rfl (λ_=>rfl) ?_;rintro⟨y,G,z⟩;by_cases g:y=0
   .refine aW [(41,ab)] rfl ?_ (AK.kK ⟨(s++[65],(k1+1)+1),by grind,by grind,by grind⟩ (AK.dG [0] rfl ?_ rfl rfl rfl xz))
    .simp[g];omega
    .simp
   by_cases a:y=1
   .refine aW [(41,ae),(45,ab)] rfl ?_ ?_
    .simp[a]
    refine AK.cP (FJ [97,98,99,100,101] 9 (by decide) (by decide)) [] rfl (λ_=>rfl) ?_;rintro⟨p,h⟩;refine bx rfl ar (AK.kK ⟨(p,(k1+1)+1),h,by grind,by grind⟩ (AK.dG [0] rfl ?_ rfl rfl rfl xz));simp
   .refine aW [(41,ae),(45,ae)] rfl ?_ (AK.kK ⟨(s,(k1+1)+1),by grind,by grind,by grind⟩ (AK.dG [0] rfl ?_ rfl rfl rfl xz))
    .simp[g,a]
    .simp
def NW(m:Nat)(b:Nat->Int)(a:m<=1048576):dL (ι:={n:Nat // n<=1048576}) X 21 [.e (.one (.c (.sl ae 1 m (GU b))))] [] (λ_=>.e (.one (.ptr 0 0))) (λn=>[ku n.1 b 0]):=by
 refine dL.oc Tryz.func21 rfl rfl rfl λf=>?_;by_cases h:2000<m
 .refine aW [(5,ab)] rfl ?_ (AK.norm [ku 2000 b 0] rfl ?_ (AK.kK ⟨2000,by decide⟩ (AK.dG [0] rfl ?_ rfl rfl rfl (λj d=>by grind))))
  .simp;omega
  .simp[cp,kX,cq]
  .simp
 .refine aW [(5,ae)] rfl ?_ (AK.kK ⟨m,a⟩ (AK.dG [0] rfl ?_ rfl rfl rfl (λj d=>by grind)))
  .simp;omega
  .simp
end
section
open Go.Sort (swp insInner insOuter ltInt)
variable {X:Cx ag}
def KV(n:Int):Ev X 193 [dI n] [] (dB ae) []:=by refine Ev.bQ Tryz.func193 rfl λa=>?_;exact aW [(5,ae)] rfl (by simp) (AK.bo rfl)
abbrev UN:dy:=kB aI (λ_=>dB ae) λ_=>[]
def XP:dM X 193 UN:=.ox λn _=>KV n
def N4(x y:Int):Ev X 139 [dI x,dI y] [] (dB (ltInt x y)) []:=by have a:bA X [(193,UN)]:=.cons XP .nil;refine Ev.bQ Tryz.func139 rfl λb=>?_;refine bZ a rfl (by simp) (AK.bo rfl ?_);simp[ltInt]
abbrev tI:dy:=oa aI aI (λx y=>dB (ltInt x y)) λ_ _=>[]
def wW:dM X 139 tI:=.qC λx y _=>N4 x y
def eI(d:Array Int)(j:Nat):List C:=[.int .i64 d[j]!]
abbrev j6(n:Nat):D:=.e (.one (.bp 0 (.sl n 1 0 n)))
abbrev bI(n:Nat)(d:Array Int):bd:=.buf 3 1 n (eI d)
def g7:∀j,j<1->([0]:List Nat)[j]?=aa j:=λj a=>by grind
end
section
open Go.Sort (swp insInner insOuter insertionSort ltInt)
variable {X:Cx ag}
def gQ{d:Array Int}(g:d.size=n)(hi:i<n)(h:j<n){f:Nat->List C}(a:cp n f (eI d)):cp n (n8 j [.int .i64 d[i]!] (n8 i [.int .i64 d[j]!] f)) (eI (swp d i j)):=by
 intro k b;have e:(swp d i j)[k]! = if k=j then d[i]! else if k=i then d[j]! else d[k]! := by unfold swp;grind
 have c:=a k b;simp only[eI,n8]at c⊢;grind
theorem size_swp(d:Array Int)(i j:Nat):(swp d i j).size=d.size:=by simp[swp]
theorem Ar{a:Nat}{d:Array Int}(h:a<j)(b:ltInt d[j]! d[j-1]! = ab):insInner ltInt a j d=insInner ltInt a (j-1) (swp d j (j-1)):=by
 cases j with
 |zero=>omega
 |succ j =>
  simp only[pq]at b⊢;rw[insInner,bn];grind
def r5{a:Nat}{d:Array Int}(h:a<j->ltInt d[j]! d[j-1]! = ae):insInner ltInt a j d=d:=by
 cases j with
 |zero=>rfl
 |succ j =>
  simp only[pq]at h;rw[insInner,a9];grind
theorem RK(n:Nat)(d:Array Int)(a b:Nat)(q:d.size=n)(t:b<=n)(v:a<=n)(w:n<=4000000):
  Ev X 133 [j6 n,dI a,dI b] [bI n d] (.fw []) [bI n (insertionSort ltInt d a b)]:=by
 have l:bA X [(139,tI)]:=.cons wW .nil;refine Ev.bQ Tryz.func133 rfl λu=>?_;refine bx rfl (by simp[bw];omega) ?_;refine AK.bY 1 (λs:Nat×Array Int=>s.2.size=n/\a+1<=s.1/\s.1<=n+1/\insOuter ltInt a b s.1 s.2=insertionSort ltInt d a b) (λs=>[(0,j6 n),(1,dI a),(2,dI b),(6,dI s.1)]) (λs=>[bI n s.2]) (λs=>b-s.1) (a+1,d) rfl ?_ rfl ?_ rfl ⟨q,by omega,by grind,rfl⟩ ?_
 .simp[cp]
 .simp[cp]
 rintro⟨i,d1⟩ ⟨m,hi,k,e⟩;simp only at m hi k e;by_cases h:i<b
 .refine aW [(12,ab)] rfl (by simp;omega) ?_;refine AK.bY 1 (λs:Nat×Array Int=>s.2.size=n/\s.1<=i/\insInner ltInt a s.1 s.2=insInner ltInt a i d1) (λs=>[(0,j6 n),(1,dI a),(2,dI b),(6,dI i),(7,dI s.1)]) (λs=>[bI n s.2]) (λs=>s.1) (i,d1) rfl ?_ rfl ?_ rfl ⟨m,by simp,rfl⟩ ?_
  .simp[cp]
  .simp[cp]
  rintro⟨j,d2⟩ ⟨f,r,c⟩;simp only at f r c;by_cases p:a<j
  .have g:((j:Int)-1).toNat=j-1:=by omega
   by_cases o:ltInt d2[j]! d2[j-1]! = ab
   .refine aR l [(18,ab),(29,ab)] rfl ?_ ?_
    .simp[bw,g,o];omega
    refine AK.aQ (j-1,swp d2 j (j-1)) rfl ?_ ?_ ?_ ?_
    .simp;omega
    .simp only[au.cat,au,g,br,bL,aE,aH];exact gQ f (by omega) (by omega) (λ_ _=>rfl)
    .refine⟨by grind[size_swp],by omega,?_⟩;grind[Ar]
    .simp;omega
   .refine aR l [(18,ab),(29,ae)] rfl ?_ (AK.leaveD rfl rfl ?_)
    .simp[bw,g,o];omega
    refine bx rfl ?_ (AK.aQ (i+1,d2) rfl ?_ ?_ ?_ ?_)
    .simp[bw];omega
    .simp
    .simp[cp]
    .refine⟨f,by omega,by grind,?_⟩;simp only;rw[<-e,insOuter.eq_1 ltInt a b i,bn h,<-c,r5 λ_=>by grind]
    .simp;omega
  .refine aR l [(18,ae)] rfl ?_ (AK.leaveD rfl rfl ?_)
   .simp[bw];omega
   refine bx rfl ?_ (AK.aQ (i+1,d2) rfl ?_ ?_ ?_ ?_)
   .simp[bw];omega
   .simp
   .simp[cp]
   .refine⟨f,by omega,by grind,?_⟩;simp only;rw[<-e,insOuter.eq_1 ltInt a b i,bn h,<-c,r5 λx=>absurd x p]
   .simp;omega
 .refine aW [(12,ae)] rfl (by simp;omega) (AK.leaveD rfl rfl ?_);have:insertionSort ltInt d a b=d1:=by rw[<-e,insOuter,a9 h]
  rw[this];exact cd.sI [0] rfl ar rfl rfl rfl g7
end
section
open Go.Sort (swp siftDown ltInt)
variable {X:Cx ag}
def K5{hi first root:Nat}{d:Array Int}(h:¬2*root+1<hi):siftDown ltInt hi first root d=d:=by rw[siftDown,dif_pos (by omega)]
theorem K6{hi first root:Nat}{d:Array Int}(h:2*root+1<hi)(a:2*root+1+1<hi->ltInt d[first+(2*root+1)]! d[first+(2*root+1)+1]! = ae)(b:ltInt d[first+root]! d[first+(2*root+1)]! = ab):
  siftDown ltInt hi first root d=siftDown ltInt hi first (2*root+1) (swp d (first+root) (first+(2*root+1))):=by rw[siftDown.eq_1 ltInt hi first root d,dif_neg (by omega),a9 (by grind),a9 (by grind)]
theorem FN{hi first root:Nat}{d:Array Int}(h:2*root+1<hi)(a:2*root+1+1<hi->ltInt d[first+(2*root+1)]! d[first+(2*root+1)+1]! = ae)(b:ltInt d[first+root]! d[first+(2*root+1)]! = ae):
  siftDown ltInt hi first root d=d:=by rw[siftDown.eq_1 ltInt hi first root d,dif_neg (by omega),a9 (by grind),bn (by grind)]
theorem RN{hi first root:Nat}{d:Array Int}(h:2*root+1+1<hi)(a:ltInt d[first+(2*root+1)]! d[first+(2*root+1+1)]! = ab)(b:ltInt d[first+root]! d[first+(2*root+1+1)]! = ab):
  siftDown ltInt hi first root d=siftDown ltInt hi first (2*root+1+1) (swp d (first+root) (first+(2*root+1+1))):=by rw[siftDown.eq_1 ltInt hi first root d,dif_neg (by omega),bn (by grind),a9 (by grind),dif_pos (by omega)]
theorem N9{hi first root:Nat}{d:Array Int}(h:2*root+1+1<hi)(a:ltInt d[first+(2*root+1)]! d[first+(2*root+1+1)]! = ab)(b:ltInt d[first+root]! d[first+(2*root+1+1)]! = ae):
  siftDown ltInt hi first root d=d:=by rw[siftDown.eq_1 ltInt hi first root d,dif_neg (by omega),bn (by grind),bn (by grind)]
theorem Oa(n:Nat)(d:Array Int)(lo hi first:Nat)(o:d.size=n)(q:first+hi<=n)(l:lo<=n)(t:n<=4000000):
  Ev X 188 [j6 n,dI lo,dI hi,dI first] [bI n d] (.fw []) [bI n (siftDown ltInt hi first lo d)]:=by
 have g:bA X [(139,tI)]:=.cons wW .nil;refine Ev.bQ Tryz.func188 rfl λr=>?_;refine bx rfl ar ?_;refine AK.bY 1 (λs:Nat×Array Int=>s.2.size=n/\s.1<=n/\siftDown ltInt hi first s.1 s.2=siftDown ltInt hi first lo d) (λs=>[(0,j6 n),(1,dI lo),(2,dI hi),(3,dI first),(8,dI s.1)]) (λs=>[bI n s.2]) (λs=>hi-s.1) (lo,d) rfl ?_ rfl ?_ rfl ⟨o,l,rfl⟩ ?_
 .simp[cp]
 .simp[cp]
 rintro⟨root,d1⟩ ⟨j,m,f⟩;simp only at j m f;by_cases h:2*root+1<hi
 .have c:((first:Int)+(2*(root:Int)+1)).toNat=first+(2*root+1):=by omega
  have e:((first:Int)+(2*(root:Int)+1)+1).toNat=first+(2*root+1+1):=by omega
  by_cases p:2*root+1+1<hi
  .by_cases i:ltInt d1[first+(2*root+1)]! d1[first+(2*root+1+1)]! = ab
   .have k:((first:Int)+(2*(root:Int)+1+1)).toNat=first+(2*root+1+1):=by omega
    have a:((first:Int)+(root:Int)).toNat=first+root:=by omega
    by_cases b:ltInt d1[first+root]! d1[first+(2*root+1+1)]! = ab
    .refine bq g [(16,ae),(20,ab),(35,ab),(51,ab)] rfl ?_ (AK.aQ (2*root+1+1,swp d1 (first+root) (first+(2*root+1+1))) rfl ?_ ?_ ?_ ?_)
     .simp only[au,br,c,e,a,k,i,b,bw,bl,b7,aH,aE];and_intros<;>omega
     .simp only[au.cat,au,aH,aE];grind
     .simp only[au.cat,au,br,c,e,a,k,aE,aH];exact gQ j (by omega) (by omega) (λ_ _=>rfl)
     .grind [size_swp,RN]
     grind
    .rw[lX]at b;rw[show siftDown ltInt hi first lo d=d1 by grind[N9]];refine bq g [(16,ae),(20,ab),(35,ab),(51,ae)] rfl ?_ (AK.eX (cd.mk [0] rfl ar rfl rfl rfl g7));simp only[au,br,c,e,a,k,i,b,bw,bl,b7,aH,aE];and_intros<;>omega
   .rw[lX]at i;have a:((first:Int)+(root:Int)).toNat=first+root:=by omega
    by_cases b:ltInt d1[first+root]! d1[first+(2*root+1)]! = ab
    .refine bq g [(16,ae),(20,ab),(35,ae),(51,ab)] rfl ?_ (AK.aQ (2*root+1,swp d1 (first+root) (first+(2*root+1))) rfl ?_ ?_ ?_ ?_)
     .simp only[au,br,c,e,a,i,b,bw,bl,b7,aH,aE];and_intros<;>omega
     .simp only[au.cat,au,aH,aE];grind
     .simp only[au.cat,au,br,c,e,a,aE,aH];exact gQ j (by omega) (by omega) (λ_ _=>rfl)
     .grind [size_swp,K6]
     grind
    .rw[lX]at b;rw[show siftDown ltInt hi first lo d=d1 by grind[FN]];refine bq g [(16,ae),(20,ab),(35,ae),(51,ae)] rfl ?_ (AK.eX (cd.mk [0] rfl ar rfl rfl rfl g7));simp only[au,br,c,e,a,i,b,bw,bl,b7,aH,aE];and_intros<;>omega
  .have i:True:=ar;have a:((first:Int)+(root:Int)).toNat=first+root:=by omega
   by_cases b:ltInt d1[first+root]! d1[first+(2*root+1)]! = ab
   .refine bq g [(16,ae),(20,ae),(51,ab)] rfl ?_ (AK.aQ (2*root+1,swp d1 (first+root) (first+(2*root+1))) rfl ?_ ?_ ?_ ?_)
    .simp only[au,br,c,e,a,b,bw,bl,b7,aH,aE];and_intros<;>omega
    .simp only[au.cat,au,aH,aE];grind
    .simp only[au.cat,au,br,c,e,a,aE,aH];exact gQ j (by omega) (by omega) (λ_ _=>rfl)
    .grind [size_swp,K6]
    grind
   .rw[lX]at b;rw[show siftDown ltInt hi first lo d=d1 by grind[FN]];refine bq g [(16,ae),(20,ae),(51,ae)] rfl ?_ (AK.eX (cd.mk [0] rfl ar rfl rfl rfl g7));simp only[au,br,c,e,a,b,bw,bl,b7,aH,aE];and_intros<;>omega
 .refine aW [(16,ab)] rfl (by simp only[au,bw,bl,aH,aE];and_intros<;>omega) (AK.leaveD rfl rfl ?_);rw[<-f,K5 h];exact cd.sI [0] rfl ar rfl rfl rfl g7
end
section
open Go.Sort (swp order2 median medianAdjacent choosePivot Hint ltInt)
variable {X:Cx ag}
abbrev bN(k:Nat):bd:=.cells 3 [.c (.int .i64 k)]
abbrev Se:D:=.e (.one (.ptr 1 0))
abbrev tII(a b:Nat):D:=.fw [.one (.c (.int .i64 a)),.one (.c (.int .i64 b))]
def FO:∀j,j<2->([0,1]:List Nat)[j]?=aa j:=λj a=>by grind
def tb(n:Nat)(d:Array Int)(a b sw:Nat)(j:a<n)(g:b<n)(k:n<=4000000)(f:sw<=1000):
  Ev X 213 [j6 n,dI a,dI b,Se] [bI n d,bN sw] (tII (order2 ltInt d a b sw).1 (order2 ltInt d a b sw).2.1) [bI n d,bN (order2 ltInt d a b sw).2.2]:=by
 have c:bA X [(139,tI)]:=.cons wW .nil;refine Ev.bQ Tryz.func213 rfl λi=>?_;by_cases h:ltInt d[b]! d[a]! = ab
 .have e:order2 ltInt d a b sw=(b,a,sw+1):=by simp[order2,h]
  rw[e];refine bq c [(18,ab)] rfl ?_ (AK.dG [0,1] rfl ?_ rfl rfl rfl FO)
  .simp only[au,br,bL,h,bw,aH,aE];and_intros<;>omega
  .simp
 .have e:order2 ltInt d a b sw=(a,b,sw):=by simp[order2,h]
  rw[e];rw[lX]at h;refine bq c [(18,ae)] rfl ?_ (AK.dG [0,1] rfl ?_ rfl rfl rfl FO)
  .simp only[au,br,bL,h,bw,aH,aE];and_intros<;>omega
  .simp
def nb{d:Array Int}{a sw:Nat}(e:a<n)(c:b<n):(order2 ltInt d a b sw).1<n/\(order2 ltInt d a b sw).2.1<n/\(order2 ltInt d a b sw).2.2<=sw+1:=by unfold order2;split<;>simp only<;>omega
theorem yH(n:Nat)(d:Array Int)(a b c sw:Nat)(i:a<n)(g:b<n)(h:c<n)(f:n<=4000000)(j:sw<=900):
  Ev X 192 [j6 n,dI a,dI b,dI c,Se] [bI n d,bN sw] (dI (median ltInt d a b c sw).1) [bI n d,bN (median ltInt d a b c sw).2]:=by refine Ev.bQ Tryz.func192 rfl λl=>?_;have e:=nb (d:=d) (sw:=sw) i g;have k:=nb (d:=d) (sw:=(order2 ltInt d a b sw).2.2) e.2.1 h;refine c9 rfl ar ?_;refine AK.cQ (tb n d a b sw i g f (by omega)) [0,1] rfl ?_;refine c9 rfl ar ?_;refine AK.cQ (tb n d (order2 ltInt d a b sw).2.1 c (order2 ltInt d a b sw).2.2 e.2.1 h f (by omega)) [0,1] rfl ?_;refine c9 rfl ar ?_;refine AK.cQ (tb n d (order2 ltInt d a b sw).1 (order2 ltInt d (order2 ltInt d a b sw).2.1 c (order2 ltInt d a b sw).2.2).1 (order2 ltInt d (order2 ltInt d a b sw).2.1 c (order2 ltInt d a b sw).2.2).2.2 e.1 k.1 f (by omega)) [0,1] rfl ?_;refine c9 rfl ar (AK.dG [0,1] rfl ?_ rfl rfl rfl FO);simp[median]
def Hn{d:Array Int}{a c sw:Nat}(h:a<n)(f:b<n)(g:c<n):(median ltInt d a b c sw).1<n/\(median ltInt d a b c sw).2<=sw+3:=by have e:=nb (d:=d) (sw:=sw) h f;have i:=nb (d:=d) (sw:=(order2 ltInt d a b sw).2.2) e.2.1 g;have j:=nb (d:=d) (sw:=(order2 ltInt d (order2 ltInt d a b sw).2.1 c (order2 ltInt d a b sw).2.2).2.2) e.1 i.1;unfold median;grind
theorem As(n:Nat)(d:Array Int)(a sw:Nat)(g:1<=a)(e:a+1<n)(c:n<=4000000)(b:sw<=900):
  Ev X 191 [j6 n,dI a,Se] [bI n d,bN sw] (dI (medianAdjacent ltInt d a sw).1) [bI n d,bN (medianAdjacent ltInt d a sw).2]:=by
 refine Ev.bQ Tryz.func191 rfl λf=>?_;obtain⟨a,rfl⟩:∃a',a=a'+1:=⟨a-1,by omega⟩
 refine c9 rfl (by simp only[au,bw];and_intros<;>omega) ?_;have key:∀x y z:Int,x=(a:Int)->y=((a+1:Nat):Int)->z=((a+1+1:Nat):Int)->Ev X 192 [j6 n,dI x,dI y,dI z,Se] [bI n d,bN sw] (dI (median ltInt d a (a+1) (a+1+1) sw).1) [bI n d,bN (median ltInt d a (a+1) (a+1+1) sw).2]:=by rintro x y z rfl rfl rfl;exact yH n d a (a+1) (a+1+1) sw (by omega) (by omega) (by omega) c b
 refine AK.cQ (key (((a+1:Nat):Int)-1) _ (((a+1:Nat):Int)+1) (by omega) rfl (by omega)) [0,1] rfl ?_;refine c9 rfl ar (AK.dG [0,1] rfl ?_ rfl rfl rfl FO);simp[medianAdjacent]
def na:Hint->Int|.unknown=>0|.increasing=>1|.decreasing=>2
def wZ(n:Nat)(d:Array Int){a c:Nat}(sw:Nat)(i:a<n)(f:b<n)(h:c<n)(k:n<=4000000)(e:sw<=900){x y z:Int}(g:x=a)(l:y=b)(j:z=c):
  Ev X 192 [j6 n,dI x,dI y,dI z,Se] [bI n d,bN sw] (dI (median ltInt d a b c sw).1) [bI n d,bN (median ltInt d a b c sw).2]:=by grind[yH]
def mI(n:Nat)(d:Array Int){a:Nat}(sw:Nat)(f:1<=a)(c:a+1<n)(g:n<=4000000)(b:sw<=900){x:Int}(e:x=a):
  Ev X 191 [j6 n,dI x,Se] [bI n d,bN sw] (dI (medianAdjacent ltInt d a sw).1) [bI n d,bN (medianAdjacent ltInt d a sw).2]:=by grind[As]
def nW{d:Array Int}{a sw:Nat}(c:1<=a)(b:a+1<n):(medianAdjacent ltInt d a sw).1<n/\(medianAdjacent ltInt d a sw).2<=sw+3 :=
 Hn (by omega) (by omega) (by omega)
abbrev pg(k:Nat):Hint:=if k=0 then .increasing else if k=12 then .decreasing else .unknown
def K7{d:Array Int}{a:Nat}(c:8<=l)(b:l<50):choosePivot ltInt d a (a+l)=((median ltInt d (a+l / 4*1) (a+l / 4*2) (a+l / 4*3) 0).1,pg (median ltInt d (a+l / 4*1) (a+l / 4*2) (a+l / 4*3) 0).2):=by unfold choosePivot;grind
abbrev mA(d:Array Int)(a l:Nat):=medianAdjacent ltInt d (a+l / 4*1) 0
abbrev mB(d:Array Int)(a l:Nat):=medianAdjacent ltInt d (a+l / 4*2) (mA d a l).2
abbrev mC(d:Array Int)(a l:Nat):=medianAdjacent ltInt d (a+l / 4*3) (mB d a l).2
def K8{d:Array Int}{a:Nat}(b:50<=l):choosePivot ltInt d a (a+l)=((median ltInt d (mA d a l).1 (mB d a l).1 (mC d a l).1 (mC d a l).2).1,pg (median ltInt d (mA d a l).1 (mB d a l).1 (mC d a l).1 (mC d a l).2).2):=by unfold choosePivot;grind
def Hl(n:Nat)(d:Array Int)(a b:Nat)(j:a<=b)(k:b<=n)(i:8<=b-a)(g:n<=4000000):
  Ev X 136 [j6 n,dI a,dI b] [bI n d] (.fw [.one (.c (.int .i64 (choosePivot ltInt d a b).1)),.one (.c (.int .i64 (na (choosePivot ltInt d a b).2)))]) [bI n d]:=by
 refine Ev.bQ Tryz.func136 rfl λm=>?_;obtain⟨l,rfl⟩:∃l,b=a+l:=⟨b-a,by omega⟩
 rw[yQ]at i;by_cases h:l<50
 .refine bF [(32,ab),(34,ae)] rfl ?_ ?_
  .simp only[au,bw,bl,b7,aH,aE];and_intros<;>omega
  refine AK.cQ (wZ n d (a:=a+l / 4*1) (b:=a+l / 4*2) (c:=a+l / 4*3) 0 (by omega) (by omega) (by omega) g (by omega) (by omega) (by omega) (by omega)) [0,1] rfl ?_;rw[K7 i h];generalize median ltInt d (a+l / 4*1) (a+l / 4*2) (a+l / 4*3) 0=r;by_cases e:r.2=0
  .refine bF [(52,ab)] rfl (by simp[e]) (AK.dG [0] rfl ?_ rfl rfl rfl g7);simp[e,na,pg]
  by_cases f:r.2=12
  .refine bF [(52,ae),(55,ab)] rfl (by simp[f]) (AK.dG [0] rfl ?_ rfl rfl rfl g7);simp[f,na,pg]
  .refine bF [(52,ae),(55,ae)] rfl (by simp[e];omega) (AK.dG [0] rfl ?_ rfl rfl rfl g7);simp[e,f,na,pg]
 .refine bF [(32,ab),(34,ab)] rfl ?_ ?_
  .simp only[au,bw,bl,b7,aH,aE];and_intros<;>omega
  have q:(mA d a l).1<n/\(mA d a l).2<=0+3:=nW (d:=d) (a:=a+l / 4*1) (sw:=0) (n:=n) (by omega) (by omega);have o:(mB d a l).1<n/\(mB d a l).2<=(mA d a l).2+3:=nW (d:=d) (a:=a+l / 4*2) (sw:=(mA d a l).2) (n:=n) (by omega) (by omega);have p:(mC d a l).1<n/\(mC d a l).2<=(mB d a l).2+3:=nW (d:=d) (a:=a+l / 4*3) (sw:=(mB d a l).2) (n:=n) (by omega) (by omega);refine AK.cQ (mI n d (a:=a+l / 4*1) 0 (by omega) (by omega) g (by omega) (by omega)) [0,1] rfl ?_;refine c9 rfl ar ?_;refine AK.cQ (mI n d (a:=a+l / 4*2) (mA d a l).2 (by omega) (by omega) g (by omega) (by omega)) [0,1] rfl ?_;refine c9 rfl ar ?_;refine AK.cQ (mI n d (a:=a+l / 4*3) (mB d a l).2 (by omega) (by omega) g (by omega) (by omega)) [0,1] rfl ?_;refine c9 rfl ar ?_;refine AK.cQ (wZ n d (a:=(mA d a l).1) (b:=(mB d a l).1) (c:=(mC d a l).1) (mC d a l).2 (by omega) (by omega) (by omega) g (by omega) rfl rfl rfl) [0,1] rfl ?_;rw[K8 (by omega)];generalize median ltInt d (mA d a l).1 (mB d a l).1 (mC d a l).1 (mC d a l).2=r;by_cases e:r.2=0
  .refine bF [(52,ab)] rfl (by simp[e]) (AK.dG [0] rfl ?_ rfl rfl rfl g7);simp[e,na,pg]
  by_cases f:r.2=12
  .refine bF [(52,ae),(55,ab)] rfl (by simp[f]) (AK.dG [0] rfl ?_ rfl rfl rfl g7);simp[f,na,pg]
  .refine bF [(52,ae),(55,ae)] rfl (by simp[e];omega) (AK.dG [0] rfl ?_ rfl rfl rfl g7);simp[e,f,na,pg]
end
section
open Go.Sort (swp reverseLoop reverseRange siftDown heapBuild heapPop heapSort ltInt)
variable {X:Cx ag}
def RM(n:Nat)(d:Array Int)(a b:Nat)(g:d.size=n)(l:1<=b)(p:a<=n)(m:b<=n)(q:n<=4000000):Ev X 137 [j6 n,dI a,dI b] [bI n d] (.fw []) [bI n (reverseRange d a b)]:=by
 refine Ev.bQ Tryz.func137 rfl λo=>?_;refine bx rfl (by simp[bw];omega) ?_;refine AK.bY 1 (λs:Nat×Nat×Array Int=>s.2.2.size=n/\s.1<=n/\s.2.1<n+1/\s.2.1<n/\reverseLoop s.1 s.2.1 s.2.2=reverseRange d a b) (λs=>[(0,j6 n),(6,dI s.1),(7,dI s.2.1)]) (λs=>[bI n s.2.2]) (λs=>s.2.1-s.1) (a,b-1,d) rfl ?_ rfl ?_ rfl ⟨g,by grind,by grind,by grind,rfl⟩ ?_
 .simp;omega
 .simp[cp]
 rintro⟨i,j,d1⟩ ⟨f,hi,_,k,c⟩;simp only at f hi k c;by_cases h:i<j
 .refine bF [(13,ab)] rfl ?_ (AK.aQ (i+1,j-1,swp d1 i j) rfl ?_ ?_ ?_ ?_)
  .simp only[au,br,bL,bw,bl,aH,aE];and_intros<;>omega
  .simp only[au.cat,au,aH,aE];and_intros<;>omega
  .simp only[au.cat,au,br,bL,aE,aH];exact gQ f (by omega) (by omega) (λ_ _=>rfl)
  .refine⟨by grind[size_swp],by grind,by grind,by grind,?_⟩;rw[<-c,reverseLoop.eq_1 i j d1,bn h]
  grind
 .have e:reverseRange d a b=d1:=by rw[<-c,reverseLoop,a9 h]
  rw[e];refine aW [(13,ae)] rfl (by simp;omega) (AK.leaveD rfl rfl ?_);exact cd.sI [0] rfl ar rfl rfl rfl g7
def Cq(n:Nat)(d:Array Int){lo hi first:Nat}(f:d.size=n)(b:first+hi<=n)(a:lo<=n)(g:n<=4000000){x y z:Int}(c:x=lo)(h:y=hi)(e:z=first):
  Ev X 188 [j6 n,dI x,dI y,dI z] [bI n d] (.fw []) [bI n (siftDown ltInt hi first lo d)]:=by grind[Oa]
def yI(hi first:Nat):∀(m root:Nat)(d:Array Int),hi-root<=m->(siftDown ltInt hi first root d).size=d.size:=by
 intro m;induction m with
 |zero=>intro root d h;rw[siftDown,dif_pos (by omega)]
 |succ m a =>
  intro root d h;rw[siftDown];grind[size_swp]
theorem N7(n:Nat)(d:Array Int)(a b:Nat)(t:d.size=n)(q:a<=b)(o:1<=b-a)(p:b<=n)(m:n<=4000000):Ev X 134 [j6 n,dI a,dI b] [bI n d] (.fw []) [bI n (heapSort ltInt d a b)]:=by
 refine Ev.bQ Tryz.func134 rfl λu=>?_;obtain⟨l,rfl⟩:∃l,b=a+l:=⟨b-a,by omega⟩
 rw[yQ]at o;refine c9 rfl (by simp only[au,bw,aH,aE];and_intros<;>omega) ?_;refine AK.kp (S2:=Array Int) 0 rfl rfl (λd2=>d2.size=n/\d2=heapBuild ltInt l a ((l-1) / 2+1) d) (λ_=>[(0,j6 n),(6,dI a),(7,dI 0),(8,dI l)]) (λd2=>[bI n d2]) 1 (λs:Nat×Array Int=>s.2.size=n/\s.1<=(l-1) / 2+1/\heapBuild ltInt l a s.1 s.2=heapBuild ltInt l a ((l-1) / 2+1) d) (λs=>[(0,j6 n),(6,dI a),(7,dI 0),(8,dI l),(9,dI ((s.1:Int)-1))]) (λs=>[bI n s.2]) (λs=>s.1) ((l-1) / 2+1,d) rfl ?_ rfl ?_ rfl ⟨t,aZ _,rfl⟩ ?_ ?_
 .simp;omega
 .simp[cp]
 .rintro out ⟨k,d1⟩ ⟨e,g,c⟩;simp only at e g c;cases k with
  |zero =>
   refine aW [(19,ae)] rfl (by simp) (AK.leaveD rfl rfl ?_);exact out d1 ⟨e,c⟩ rfl (by simp) rfl (by simp[cp])
  |succ k =>
   refine aW [(19,ab)] rfl (by simp only[au,bl];omega) ?_;refine AK.cQ (Cq n d1 (lo:=k) (hi:=l) (first:=a) e p (by omega) m (by omega) rfl rfl) [0] rfl ?_;refine c9 rfl ?_ (AK.aQ (k,siftDown ltInt l a k d1) rfl ?_ ?_ ?_ ?_)
   .simp only[au,bw];omega
   .simp only[au.cat,au,aH,aE];omega
   .simp[cp]
   .exact⟨by rw[yI _ _ _ _ _ (aZ _)];exact e,by grind,c⟩
   .simp
 rintro i ⟨h,r⟩;refine c9 rfl (by simp only[au,bw];omega) ?_;have f:heapSort ltInt d a (a+l)=heapPop ltInt a l i:=by unfold heapSort;grind
 rw[f];refine AK.bY 1 (λs:Nat×Array Int=>s.2.size=n/\s.1<=l/\heapPop ltInt a s.1 s.2=heapPop ltInt a l i) (λs=>[(0,j6 n),(6,dI a),(7,dI 0),(8,dI l),(10,dI ((s.1:Int)-1))]) (λs=>[bI n s.2]) (λs=>s.1) (l,i) rfl ?_ rfl ?_ rfl ⟨h,aZ _,rfl⟩ ?_
 .simp
 .simp[cp]
 rintro⟨k,d1⟩ ⟨e,g,c⟩;simp only at e g c;cases k with
 |zero =>
  rw[<-c];refine aW [(30,ae)] rfl (by simp) (AK.leaveD rfl rfl ?_);exact cd.sI [0] rfl ar rfl rfl rfl g7
 |succ k =>
  have j:((a:Int)+(((k+1:Nat):Int)-1)).toNat=a+k:=by omega
  refine bF [(30,ab),(1000011,ab)] rfl ?_ ?_
  .simp only[au,br,bL,j,bw,bl,aH,aE];and_intros<;>omega
  refine AK.norm [bI n (swp d1 a (a+k))] rfl ?_ ?_
  .simp only[au.cat,au,br,bL,j,aE,aH];exact gQ e (by omega) (by omega) (λ_ _=>rfl)
  refine c9 rfl ar ?_;refine AK.cQ (Cq n (swp d1 a (a+k)) (lo:=0) (hi:=k) (first:=a) (by grind[size_swp]) (by omega) (by omega) m rfl (by omega) rfl) [0] rfl ?_;refine c9 rfl ?_ (AK.aQ (k,siftDown ltInt k a 0 (swp d1 a (a+k))) rfl ?_ ?_ ?_ ?_)
  .simp only[au,bw];omega
  .simp only[au.cat,au,aH,aE];omega
  .simp[cp]
  .exact⟨by rw[yI _ _ _ _ _ (aZ _),size_swp];exact e,by grind,c⟩
  .simp
end
section
open Go.Sort (bitsLen)
variable {X:Cx ag}
def xC:List UInt8:=(bh 256).map λi=>UInt8.ofNat (bitsLen i)
def j1{x:Nat}(h:x<2 ^ k):bitsLen x<=k:=by
 unfold bitsLen;split
 .omega
 .rename_i a;have:=(Nat.log2_lt a).2 h;omega
theorem Ob{x:Nat}(h:x<256):(iG xC x).toNat=bitsLen x:=by unfold iG xC;rw[bL,aj,nq,List.getElem?_range h];have:=j1 (x:=x) (k:=8) h;grind[UInt8.toNat_ofNat']
def tJ(h:2 ^ k<=n):bitsLen n=k+bitsLen (n / 2 ^ k):=by
 have a:0<2 ^ k:=Nat.two_pow_pos k;have c:0<n / 2 ^ k:=Nat.div_pos h a;unfold bitsLen;rw[a9 (by omega),a9 (by omega)];have e:Nat.log2 n=k+Nat.log2 (n / 2 ^ k):=by
  rw[Nat.log2_eq_iff (by omega)];have b:=Nat.log2_self_le (n:=n / 2 ^ k) (by omega);have d:=Nat.lt_log2_self (n:=n / 2 ^ k);constructor
  .rw[Nat.pow_add,Nat.mul_comm];exact dO (eu _ b) (Nat.div_mul_le_self n _)
  .rw[show k+Nat.log2 (n / 2 ^ k)+1=k+(Nat.log2 (n / 2 ^ k)+1) by omega,Nat.pow_add];grind[Nat.div_lt_iff_lt_mul]
 omega
set_option maxRecDepth 100000 in
def K9(n:Nat)(j:n<=4000000):Ev X 143 [dQ n] [] (dI (bitsLen n)) []:=by
 refine Ev.bQ Tryz.func143 rfl λh=>?_;have fin:∀{T:List UInt8} {x:Nat},T=xC->x<256->(iG T (x:Int)).toNat=bitsLen x:=λb i=>by grind[Ob]
 have fl:∀{T:List UInt8},T=xC->T.length=256:=λb=>by rw[b];rfl
 by_cases f:65536<=n
 .have c:((n:Int).toNat / 2 ^ Int.toNat 16)=n / 65536:=by simp
  have e:bitsLen n=16+bitsLen (n / 65536):=tJ (n:=n) (k:=16) f;have d:=j1 (x:=n / 65536) (k:=8) (by grind);refine bF [(4,ae),(8,ab),(14,ae)] rfl ?_ (AK.bo rfl ?_)
  .generalize b:(ByteArray.data _).toList=T;have a:T=xC:=by rw[<-b];decide +kernel
   simp only[au,c,fin a (show n / 65536<256 by omega),fl a,bw,bl,b7];and_intros<;>omega
  .generalize b:(ByteArray.data _).toList=T;have a:T=xC:=by rw[<-b];decide +kernel
   simp only[au,au.cat,c,fin a (show n / 65536<256 by omega),aH,aE];omega
 by_cases g:256<=n
 .have c:((n:Int).toNat / 2 ^ Int.toNat 8)=n / 256:=by simp
  have e:bitsLen n=8+bitsLen (n / 256):=tJ (n:=n) (k:=8) g;have d:=j1 (x:=n / 256) (k:=8) (by grind);refine bF [(4,ae),(8,ae),(14,ab)] rfl ?_ (AK.bo rfl ?_)
  .generalize b:(ByteArray.data _).toList=T;have a:T=xC:=by rw[<-b];decide +kernel
   simp only[au,c,fin a (show n / 256<256 by omega),fl a,bw,bl,b7];and_intros<;>omega
  .generalize b:(ByteArray.data _).toList=T;have a:T=xC:=by rw[<-b];decide +kernel
   simp only[au,au.cat,c,fin a (show n / 256<256 by omega),aH,aE];omega
 .have d:=j1 (x:=n) (k:=8) (by grind);refine bF [(4,ae),(8,ae),(14,ae)] rfl ?_ (AK.bo rfl ?_)
  .generalize b:(ByteArray.data _).toList=T;have a:T=xC:=by rw[<-b];decide +kernel
   simp only[au,fin a (show n<256 by omega),fl a,bw,bl,b7];and_intros<;>omega
  .generalize b:(ByteArray.data _).toList=T;have a:T=xC:=by rw[<-b];decide +kernel
   simp only[au,au.cat,fin a (show n<256 by omega),aH,aE];omega
def K3(n:Nat)(a:n<=4000000):Ev X 100 [dQ n] [] (dI (bitsLen n)) []:=by refine Ev.bQ Tryz.func100 rfl λb=>?_;refine c9 rfl ar ?_;refine AK.Fo ?_;refine c9 rfl ar ?_;refine AK.cQ (K9 n a) [] rfl ?_;exact c9 rfl ar (AK.bo rfl)
end
section
open Go.Sort (swp bitsLen xorNextN xorNextN_lt xorNext xorNext_toNat breakStep breakPatterns)
variable {X:Cx ag}
abbrev bQ(r:Nat):bd:=.cells 227 [.c (.int .u64 r)]
def Oc(r:Nat):Ev X 190 [.e (.one (.ptr 0 0))] [bQ r] (dQ (xorNextN r)) [bQ (xorNextN r)]:=by
 refine Ev.bQ Tryz.func190 rfl λd=>?_;have b:(2:Nat) ^ Int.toNat 13=8192:=by decide
 have c:(2:Nat) ^ Int.toNat 7=128:=by decide
 have a:(2:Nat) ^ Int.toNat 17=131072:=by decide
 refine c9 rfl ?_ ?_
 .simp only[au];omega
 refine AK.norm [bQ (xorNextN r)] rfl ?_ (AK.dG [0] rfl ?_ rfl rfl rfl g7)
 .simp only[au,au.cat,xorNextN,bL,b,c,a,aE]
 .simp only[au,au.cat,xorNextN,bL,b,c,a]
theorem Od(n:Nat)(a:n<=4000000):Ev X 189 [dI n] [] (dQ ((1 <<< bitsLen n:Nat):Int)) []:=by
 refine Ev.bQ Tryz.func189 rfl λb=>?_;have l:=j1 (x:=n) (k:=22) (by grind);refine c9 rfl (by simp only[au,bw];and_intros<;>omega) ?_;refine AK.cQ (K3 n a) [] rfl ?_;refine c9 rfl ?_ (AK.bo rfl ?_)
 .simp only[au];omega
 .have c:2 ^ bitsLen n<=2 ^ 22:=Nat.pow_le_pow_right (by omega) l;simp only[au,au.cat,Nat.shiftLeft_eq,bL];grind
def Cr{L:Nat}(h:0<L):1 <<< bitsLen L<=2*L:=by rw[Nat.shiftLeft_eq,Nat.one_mul];unfold bitsLen;rw[a9 (by omega),Nat.pow_succ];grind[Nat.log2_self_le]
def La(L:Nat):1<=1 <<< bitsLen L:=by rw[Nat.shiftLeft_eq,Nat.one_mul];grind
def Sf(a L M:Nat):Nat->Nat->UInt64×Array Int->UInt64×Array Int
 |0,_,st=>st
 |k+1,idx,st=>Sf a L M k (idx+1) (breakStep a L M st idx)
def tc{d:Array Int}{a L:Nat}(h:8<=L):breakPatterns d a (a+L)=(Sf a L (1 <<< bitsLen L) 3 (a+L / 4*2-1) (UInt64.ofNat L,d)).2:=by unfold breakPatterns;simp only[yQ];rw[bn h];rfl
def Au{a L M idx:Nat}{r:UInt64}{d:Array Int}:breakStep a L M (r,d) idx=(xorNext r,swp d idx (a+if(xorNextN r.toNat &&& (M-1))≥L then(xorNextN r.toNat &&& (M-1))-L else(xorNextN r.toNat &&& (M-1)))):=by unfold breakStep;simp only[xorNext_toNat]
abbrev XQ(n a L M:Nat)(k:Nat):Fr:=[(0,j6 n),(1,dI a),(6,dI L),(7,.e (.one (.ptr 1 0))),(8,dQ M),(9,dI ((a+L / 4*2-1+(3-k):Nat):Int))]
def K1(n:Nat)(d:Array Int)(a b:Nat)(u:d.size=n)(t:a<=b)(z:b<=n)(A:n<=4000000):
  Ev X 135 [j6 n,dI a,dI b] [bI n d] (.fw []) [bI n (breakPatterns d a b)]:=by
 refine Ev.bQ Tryz.func135 rfl λB=>?_;obtain⟨L,rfl⟩:∃L,b=a+L:=⟨b-a,by omega⟩
 by_cases v:8<=L
 .rw[tc v];have C:=Cr (L:=L) (by omega);have w:=La L;have l:(UInt64.ofNat L).toNat=L:=by grind[UInt64.toNat_ofNat']
  refine bF [(15,ab)] rfl ?_ ?_
  .simp only[au,bw,bl,aH,aE];and_intros<;>omega
  have key:∀x:Int,x=(L:Int)->Ev X 189 [dI x] [] (dQ ((1 <<< bitsLen L:Nat):Int)) []:=by grind[Od]
  refine AK.cQ (key _ (by omega)) [] rfl ?_;refine c9 rfl ?_ ?_
  .simp only[au,bw,bl,aH,aE];and_intros<;>omega
  generalize p:1 <<< bitsLen L=M at *;refine AK.bY 2 (λs:Nat×UInt64×Array Int=>s.2.2.size=n/\s.1<=3/\(Sf a L M s.1 (a+L / 4*2-1+(3-s.1)) s.2).2=(Sf a L M 3 (a+L / 4*2-1) (UInt64.ofNat L,d)).2) (λs=>XQ n a L M s.1) (λs=>[bI n s.2.2,bQ s.2.1.toNat]) (λs=>s.1) (3,UInt64.ofNat L,d) rfl ?_ rfl ?_ rfl ⟨u,aZ _,rfl⟩ ?_
  .simp only[au.cat,au,aH,aE];and_intros<;>omega
  .simp only[au.cat,au,cp,l,aH,aE];grind
  rintro⟨k,r,d1⟩ ⟨m,q,c⟩;simp only at m q c;cases k with
  |zero =>
   rw[<-c];refine bF [(33,ae)] rfl ?_ (AK.leaveD rfl rfl ?_)
   .simp only[au,bw,b7,aH,aE];and_intros<;>omega
   exact cd.sI [0] rfl ar rfl rfl rfl g7
  |succ k =>
   have y:xorNextN r.toNat<18446744073709551616:=xorNextN_lt _ (UInt64.toNat_lt r);have o:xorNextN r.toNat &&& (M-1)<=M-1:=Nat.and_le_right;have i:((M:Int)-1).toNat=M-1:=by omega
   refine bF [(33,ab)] rfl ?_ ?_
   .simp only[au,bw,bl,aH,aE];and_intros<;>omega
   refine AK.cQ (Oc r.toNat) [1] rfl ?_;have f:=Au (a:=a) (L:=L) (M:=M) (idx:=a+L / 4*2-1+(3-(k+1))) (r:=r) (d:=d1);generalize j:xorNextN r.toNat &&& (M-1)=O at *;by_cases g:L<=O
   .rw[bn g]at f;have h:((a:Int)+((O:Int)-(L:Int))).toNat=a+(O-L):=by omega
    refine bF [(43,ab)] rfl ?_ (AK.aQ (k,xorNext r,swp d1 (a+L / 4*2-1+(3-(k+1))) (a+(O-L))) rfl ?_ ?_ ?_ ?_)
    .simp only[au,br,bL,i,j,h,bw,bl,aH,aE];and_intros<;>omega
    .simp only[au.cat,au,aH,aE];omega
    .simp only[au.cat,au,br,bL,i,j,h,xorNext_toNat,aE,aH];exact gQ m (by omega) (by omega) (λ_ _=>rfl)
    .refine⟨by grind[size_swp],by grind,?_⟩;rw[<-c,Sf,f,show a+L / 4*2-1+(3-(k+1))+1=a+L / 4*2-1+(3-k) by omega]
    .simp
   .rw[a9 g]at f;have h:((a:Int)+(O:Int)).toNat=a+O:=by omega
    refine bF [(43,ae)] rfl ?_ (AK.aQ (k,xorNext r,swp d1 (a+L / 4*2-1+(3-(k+1))) (a+O)) rfl ?_ ?_ ?_ ?_)
    .simp only[au,br,bL,i,j,h,bw,b7,aH,aE];and_intros<;>omega
    .simp only[au.cat,au,aH,aE];omega
    .simp only[au.cat,au,br,bL,i,j,h,xorNext_toNat,aE,aH];exact gQ m (by omega) (by omega) (λ_ _=>rfl)
    .refine⟨by grind[size_swp],by grind,?_⟩;rw[<-c,Sf,f,show a+L / 4*2-1+(3-(k+1))+1=a+L / 4*2-1+(3-k) by omega]
    .simp
 .have e:breakPatterns d a (a+L)=d:=by unfold breakPatterns;grind
  rw[e];refine bF [(15,ae)] rfl ?_ ?_
  .simp only[au,bw,b7,aH,aE];and_intros<;>omega
  exact cd.sI [0] rfl ar rfl rfl rfl g7
end
section
open Go.Sort (swp scanUp scanDown partLoop partEqLoop partition partitionEqual ltInt)
variable {X:Cx ag}
theorem mh{p:Int->Bool}{d:Array Int}(h:i<=j)(a:p d[i]! = ab):scanUp p d j i=scanUp p d j (i+1):=by rw[scanUp.eq_1 p d j i,bn (by grind)]
theorem gv{p:Int->Bool}{d:Array Int}(h:i<=j->p d[i]! = ae):scanUp p d j i=i:=by rw[scanUp,a9];grind
theorem j9{p:Int->Bool}{d:Array Int}(c:1<=j)(h:i<=j)(b:p d[j]! = ab):scanDown p d i j=scanDown p d i (j-1):=by
 obtain⟨j,rfl⟩:∃a,j=a+1:=⟨j-1,by omega⟩
 rw[scanDown,bn (by grind),pq]
theorem ft{p:Int->Bool}{d:Array Int}(h:i<=j->p d[j]! = ae):scanDown p d i j=j:=by
 cases j with
 |zero=>rfl
 |succ j =>
  rw[scanDown,a9];grind
def nc{p:Int->Bool}{d:Array Int}:∀(m i:Nat),j+1-i<=m->i<=scanUp p d j i/\(scanUp p d j i<=j+1∨scanUp p d j i=i):=by
 intro m;induction m with
 |zero=>intro i h;rw[gv (λa=>by omega)];omega
 |succ m b =>
  intro i h;by_cases c:i<=j
  .cases a:p d[i]! with
   |true=>grind[mh]
   |false=>grind[gv]
  grind
def kz{p:Int->Bool}{d:Array Int}:∀j:Nat,scanDown p d i j<=j/\(i<=scanDown p d i j+1∨scanDown p d i j=j):=by
 intro j;induction j with
 |zero=>rw[show scanDown p d i 0=0 from rfl];omega
 |succ j b =>
  by_cases c:i<=j+1
  .cases a:p d[j+1]! with
   |true=>grind[j9]
   |false=>grind[ft]
  grind[ft]
def partLoop_eq{a:Nat}{d:Array Int}{i2 j2:Nat}(f:1<=i)(hi:i2=scanUp (λx=>ltInt x d[a]!) d j i)(b:j2=scanDown (λx=>!ltInt x d[a]!) d i2 j):
  partLoop ltInt a i j d=if i2>j2 then(j2,d)else partLoop ltInt a (i2+1) (j2-1) (swp d i2 j2):=by have e:=nc (p:=λx=>ltInt x d[a]!) (d:=d) (j:=j) (j+1-i) i (aZ _);have c:=kz (p:=λx=>!ltInt x d[a]!) (d:=d) (i:=i2) j;rw[<-hi]at e;rw[<-b]at c;rw[partLoop.eq_1,<-hi,<-b];grind
def Cs{d c:Array Int}{a v:Nat}(e:c=swp d a v)(hi:i=scanUp (λx=>ltInt x c[a]!) c (b-1) (a+1))(f:j=scanDown (λx=>!ltInt x c[a]!) c i (b-1))(h:i>j):partition ltInt d a b v=(j,ab,swp c j a):=by unfold partition;grind
def Ct{d c:Array Int}{a v:Nat}(f:c=swp d a v)(hi:i=scanUp (λx=>ltInt x c[a]!) c (b-1) (a+1))(g:j=scanDown (λx=>!ltInt x c[a]!) c i (b-1))(h:¬i>j){r:Nat×Array Int}(e:partLoop ltInt a (i+1) (j-1) (swp c i j)=r):partition ltInt d a b v=(r.1,ae,swp r.2 r.1 a):=by subst e;unfold partition;grind
def N8(n:Nat)(d:Array Int)(a b v:Nat)(T:d.size=n)(S:a<b)(V:b<=n)(Z:v<n)(W:n<=4000000):
  Ev X 141 [j6 n,dI a,dI b,dI v] [bI n d] (.fw [.one (.c (.int .i64 (partition ltInt d a b v).1)),.one (.c (.bool (partition ltInt d a b v).2.1))]) [bI n (partition ltInt d a b v).2.2]:=by
 have h:bA X [(139,tI)]:=.cons wW .nil;refine Ev.bQ Tryz.func141 rfl λY=>?_;refine bq h [(1000002,ab)] rfl ?_ ?_
 .simp only[au,br,bL,bw,aH,aE];and_intros<;>omega
 refine AK.norm [bI n (swp d a v)] rfl ?_ ?_
 .simp only[au.cat,au,br,bL,aE,aH];exact gQ T (by omega) (by omega) (λ_ _=>rfl)
 have u:(swp d a v).size=n:=by grind[size_swp]
 obtain⟨f,M⟩:∃f,f=swp d a v:=⟨_,rfl⟩;rw[<-M]at u⊢;refine cJ h rfl ?_ ?_
 .simp only[au,bw];and_intros<;>omega
 refine AK.kp (S2:=Unit) 0 rfl rfl (λ_=>True) (λ_=>[(0,j6 n),(1,dI a),(10,dI ((scanUp (λx=>ltInt x f[a]!) f (b-1) (a+1)):Nat)),(11,dI (b-1:Nat))]) (λ_=>[bI n f]) 1 (λk:Nat=>a+1<=k/\k<=n+1/\scanUp (λx=>ltInt x f[a]!) f (b-1) k=scanUp (λx=>ltInt x f[a]!) f (b-1) (a+1)) (λk=>[(0,j6 n),(1,dI a),(10,dI (k:Nat)),(11,dI (b-1:Nat))]) (λ_=>[bI n f]) (λk=>b-1+1-k) (a+1) rfl ?_ rfl ?_ rfl ⟨aZ _,by omega,rfl⟩ ?_ ?_
 .simp[cp]<;>omega
 .simp[cp]
 .rintro out k ⟨o,w,y⟩;by_cases t:k<=b-1
  .by_cases N:(λx=>ltInt x f[a]!) f[k]! = ab
   .have g:ltInt f[k]! f[a]! = ab:=by grind
    refine bq h [(32,ab),(42,ab)] rfl ?_ (AK.aQ (k+1) rfl ?_ ?_ ?_ ?_)
    .simp only[au,br,bL,g,bw,bl,aH,aE];and_intros<;>omega
    .simp only[au.cat,au,aH,aE];omega
    .simp[cp]
    .grind [mh]
    .omega
   .have g:ltInt f[k]! f[a]! = ae:=by grind
    refine bq h [(32,ab),(42,ae)] rfl ?_ (AK.leaveD rfl rfl ?_)
    .simp only[au,br,bL,g,bw,bl,aH,aE];and_intros<;>omega
    have e:scanUp (λx=>ltInt x f[a]!) f (b-1) (a+1)=k:=by grind[gv]
    exact out () ar rfl (by simp only[au.cat,au,e,aH,aE]) rfl (by simp[cp])
  .refine bq h [(32,ae)] rfl ?_ (AK.leaveD rfl rfl ?_)
   .simp only[au,bw,b7,aH,aE];omega
   have e:scanUp (λx=>ltInt x f[a]!) f (b-1) (a+1)=k:=by grind[gv]
   exact out () ar rfl (by simp only[au.cat,au,e,aH,aE]) rfl (by simp[cp])
 rintro⟨⟩ -;have R:=nc (p:=λx=>ltInt x f[a]!) (d:=f) (j:=b-1) (b-1+1-(a+1)) (a+1) (aZ _);obtain⟨i,hi⟩:∃i,i=scanUp (λx=>ltInt x f[a]!) f (b-1) (a+1):=⟨_,rfl⟩
 rw[<-hi]at R⊢;refine cJ h rfl ar ?_;refine AK.kp (S2:=Unit) 2 rfl rfl (λ_=>True) (λ_=>[(0,j6 n),(1,dI a),(10,dI (i:Nat)),(11,dI ((scanDown (λx=>!ltInt x f[a]!) f (i) (b-1)):Nat))]) (λ_=>[bI n f]) 1 (λk:Nat=>k<=b-1/\k<=n/\scanDown (λx=>!ltInt x f[a]!) f (i) k=scanDown (λx=>!ltInt x f[a]!) f (i) (b-1)) (λk=>[(0,j6 n),(1,dI a),(10,dI (i:Nat)),(11,dI (k:Nat))]) (λ_=>[bI n f]) (λk=>k) (b-1) rfl ?_ rfl ?_ rfl ⟨aZ _,by omega,rfl⟩ ?_ ?_
 .simp[cp]<;>omega
 .simp[cp]
 .rintro out k ⟨o,w,y⟩;by_cases t:i<=k
  .by_cases N:(λx=>!ltInt x f[a]!) f[k]! = ab
   .have g:ltInt f[k]! f[a]! = ae:=by grind
    refine bq h [(48,ab),(58,ae)] rfl ?_ (AK.aQ (k-1) rfl ?_ ?_ ?_ ?_)
    .simp only[au,br,bL,g,bw,bl,aH,aE];and_intros<;>omega
    .simp only[au.cat,au,aH,aE];omega
    .simp[cp]
    .exact⟨by omega,by omega,by grind[j9]⟩
    .omega
   .have g:ltInt f[k]! f[a]! = ab:=by grind
    refine bq h [(48,ab),(58,ab)] rfl ?_ (AK.leaveD rfl rfl ?_)
    .simp only[au,br,bL,g,bw,bl,aH,aE];and_intros<;>omega
    have e:scanDown (λx=>!ltInt x f[a]!) f (i) (b-1)=k:=by grind[ft]
    exact out () ar rfl (by simp only[au.cat,au,e,aH,aE]) rfl (by simp[cp])
  .refine bq h [(48,ae)] rfl ?_ (AK.leaveD rfl rfl ?_)
   .simp only[au,bw,b7,aH,aE];omega
   have e:scanDown (λx=>!ltInt x f[a]!) f (i) (b-1)=k:=by grind[ft]
   exact out () ar rfl (by simp only[au.cat,au,e,aH,aE]) rfl (by simp[cp])
 rintro⟨⟩ -;have Q:=kz (p:=λx=>!ltInt x f[a]!) (d:=f) (i:=i) (b-1);obtain⟨j,L⟩:∃j,j=scanDown (λx=>!ltInt x f[a]!) f i (b-1):=⟨_,rfl⟩
 rw[<-L]at Q⊢;by_cases J:j<i
 .rw[Cs M hi L J];refine bq h [(65,ab),(1000009,ab)] rfl ?_ ?_
  .simp only[au,br,bL,bw,bl,aH,aE];and_intros<;>omega
  refine AK.norm [bI n (swp f j a)] rfl ?_ ?_
  .simp only[au.cat,au,br,bL,aE,aH];exact gQ u (by omega) (by omega) (λ_ _=>rfl)
  refine cJ h rfl ar (AK.dG [0] rfl ?_ rfl rfl rfl g7);simp
 refine bq h [(65,ae),(1000011,ab)] rfl ?_ ?_
 .simp only[au,br,bL,bw,b7,aH,aE];and_intros<;>omega
 refine AK.norm [bI n (swp f i j)] rfl ?_ ?_
 .simp only[au.cat,au,br,bL,aE,aH];exact gQ u (by omega) (by omega) (λ_ _=>rfl)
 refine cJ h rfl ?_ ?_
 .simp only[au,bw];and_intros<;>omega
 have D:(swp f i j).size=n:=by grind[size_swp]
 obtain⟨r,I⟩:∃r,partLoop ltInt a (i+1) (j-1) (swp f i j)=r:=⟨_,rfl⟩;rw[Ct M hi L (by omega) I]
 obtain⟨d1,H⟩:∃d1,d1=swp f i j:=⟨_,rfl⟩;rw[<-H]at D I⊢;refine AK.kp (S2:=Unit) 4 rfl rfl (λ_=>r.1<n/\r.2.size=n) (λ_=>[(0,j6 n),(1,dI a),(11,dI r.1)]) (λ_=>[bI n r.2]) 1 (λs:Nat×Nat×Array Int=>s.2.2.size=n/\a+1<=s.1/\s.1<=n+1/\s.2.1<n/\partLoop ltInt a s.1 s.2.1 s.2.2=r) (λs=>[(0,j6 n),(1,dI a),(10,dI s.1),(11,dI s.2.1)]) (λs=>[bI n s.2.2]) (λs=>s.2.1+1-s.1) (i+1,j-1,d1) rfl ?_ rfl ?_ rfl ⟨D,by grind,by grind,by grind,I⟩ ?_ ?_
 .simp only[au.cat,au,aH,aE];and_intros<;>omega
 .simp[cp]
 .rintro F ⟨i3,l,d2⟩ ⟨G,O,E,P,m⟩;simp only at G O E P m;refine cJ h rfl ar ?_;refine AK.kp (S2:=Unit) 6 rfl rfl (λ_=>True) (λ_=>[(0,j6 n),(1,dI a),(10,dI ((scanUp (λx=>ltInt x d2[a]!) d2 (l) (i3)):Nat)),(11,dI (l:Nat))]) (λ_=>[bI n d2]) 1 (λk:Nat=>i3<=k/\k<=n+1/\scanUp (λx=>ltInt x d2[a]!) d2 (l) k=scanUp (λx=>ltInt x d2[a]!) d2 (l) (i3)) (λk=>[(0,j6 n),(1,dI a),(10,dI (k:Nat)),(11,dI (l:Nat))]) (λ_=>[bI n d2]) (λk=>l+1-k) (i3) rfl ?_ rfl ?_ rfl ⟨aZ _,by omega,rfl⟩ ?_ ?_
  .simp[cp]<;>omega
  .simp[cp]
  .rintro out k ⟨o,w,y⟩;by_cases t:k<=l
   .by_cases N:(λx=>ltInt x d2[a]!) d2[k]! = ab
    .have g:ltInt d2[k]! d2[a]! = ab:=by grind
     refine bq h [(101,ab),(111,ab)] rfl ?_ (AK.aQ (k+1) rfl ?_ ?_ ?_ ?_)
     .simp only[au,br,bL,g,bw,bl,aH,aE];and_intros<;>omega
     .simp only[au.cat,au,aH,aE];omega
     .simp[cp]
     .grind [mh]
     .omega
    .have g:ltInt d2[k]! d2[a]! = ae:=by grind
     refine bq h [(101,ab),(111,ae)] rfl ?_ (AK.leaveD rfl rfl ?_)
     .simp only[au,br,bL,g,bw,bl,aH,aE];and_intros<;>omega
     have e:scanUp (λx=>ltInt x d2[a]!) d2 (l) (i3)=k:=by grind[gv]
     exact out () ar rfl (by simp only[au.cat,au,e,aH,aE]) rfl (by simp[cp])
   .refine bq h [(101,ae)] rfl ?_ (AK.leaveD rfl rfl ?_)
    .simp only[au,bw,b7,aH,aE];omega
    have e:scanUp (λx=>ltInt x d2[a]!) d2 (l) (i3)=k:=by grind[gv]
    exact out () ar rfl (by simp only[au.cat,au,e,aH,aE]) rfl (by simp[cp])
  rintro⟨⟩ -;have c1:=nc (p:=λx=>ltInt x d2[a]!) (d:=d2) (j:=l) (l+1-i3) i3 (aZ _);obtain⟨i4,C⟩:∃i4,i4=scanUp (λx=>ltInt x d2[a]!) d2 l i3:=⟨_,rfl⟩
  rw[<-C]at c1⊢;refine cJ h rfl ar ?_;refine AK.kp (S2:=Unit) 8 rfl rfl (λ_=>True) (λ_=>[(0,j6 n),(1,dI a),(10,dI (i4:Nat)),(11,dI ((scanDown (λx=>!ltInt x d2[a]!) d2 (i4) (l)):Nat))]) (λ_=>[bI n d2]) 1 (λk:Nat=>k<=l/\k<=n/\scanDown (λx=>!ltInt x d2[a]!) d2 (i4) k=scanDown (λx=>!ltInt x d2[a]!) d2 (i4) (l)) (λk=>[(0,j6 n),(1,dI a),(10,dI (i4:Nat)),(11,dI (k:Nat))]) (λ_=>[bI n d2]) (λk=>k) (l) rfl ?_ rfl ?_ rfl ⟨aZ _,by omega,rfl⟩ ?_ ?_
  .simp[cp]<;>omega
  .simp[cp]
  .rintro out k ⟨o,w,y⟩;by_cases t:i4<=k
   .by_cases N:(λx=>!ltInt x d2[a]!) d2[k]! = ab
    .have g:ltInt d2[k]! d2[a]! = ae:=by grind
     refine bq h [(117,ab),(127,ae)] rfl ?_ (AK.aQ (k-1) rfl ?_ ?_ ?_ ?_)
     .simp only[au,br,bL,g,bw,bl,aH,aE];and_intros<;>omega
     .simp only[au.cat,au,aH,aE];omega
     .simp[cp]
     .exact⟨by omega,by omega,by grind[j9]⟩
     .omega
    .have g:ltInt d2[k]! d2[a]! = ab:=by grind
     refine bq h [(117,ab),(127,ab)] rfl ?_ (AK.leaveD rfl rfl ?_)
     .simp only[au,br,bL,g,bw,bl,aH,aE];and_intros<;>omega
     have e:scanDown (λx=>!ltInt x d2[a]!) d2 (i4) (l)=k:=by grind[ft]
     exact out () ar rfl (by simp only[au.cat,au,e,aH,aE]) rfl (by simp[cp])
   .refine bq h [(117,ae)] rfl ?_ (AK.leaveD rfl rfl ?_)
    .simp only[au,bw,b7,aH,aE];omega
    have e:scanDown (λx=>!ltInt x d2[a]!) d2 (i4) (l)=k:=by grind[ft]
    exact out () ar rfl (by simp only[au.cat,au,e,aH,aE]) rfl (by simp[cp])
  rintro⟨⟩ -;have c2:=kz (p:=λx=>!ltInt x d2[a]!) (d:=d2) (i:=i4) l;obtain⟨z,A⟩:∃z,z=scanDown (λx=>!ltInt x d2[a]!) d2 i4 l:=⟨_,rfl⟩
  rw[<-A]at c2⊢;have q:=partLoop_eq (by omega) C A;by_cases B:z<i4
  .have e:=q;rw[m,bn B]at e;refine bq h [(134,ab)] rfl ?_ (AK.leaveD rfl rfl ?_)
   .simp only[au,bw,bl];omega
   exact F () (by grind) rfl (by simp only[au.cat,au,e,aH,aE]) rfl (by simp[cp,e])
  .have e:=q;rw[m,a9 (by omega)]at e;refine bq h [(134,ae),(1000019,ab)] rfl ?_ ?_
   .simp only[au,br,bL,bw,b7,aH,aE];and_intros<;>omega
   refine AK.norm [bI n (swp d2 i4 z)] rfl ?_ ?_
   .simp only[au.cat,au,br,bL,aE,aH];exact gQ G (by omega) (by omega) (λ_ _=>rfl)
   refine cJ h rfl ?_ (AK.aQ (i4+1,z-1,swp d2 i4 z) rfl ?_ ?_ ?_ ?_)
   .simp only[au,bw];and_intros<;>omega
   .simp only[au.cat,au,aH,aE];and_intros<;>omega
   .simp[cp]
   .grind [size_swp]
   grind
 rintro⟨⟩ ⟨U,K⟩;refine bq h [(1000022,ab)] rfl ?_ ?_
 .simp only[au,br,bL,bw,aH,aE];and_intros<;>omega
 refine AK.norm [bI n (swp r.2 r.1 a)] rfl ?_ ?_
 .simp only[au.cat,au,br,bL,aE,aH];exact gQ K (by omega) (by omega) (λ_ _=>rfl)
 refine cJ h rfl ar (AK.dG [0] rfl ?_ rfl rfl rfl g7);simp
def partEqLoop_eq{a:Nat}{d:Array Int}{i2 j2:Nat}(f:1<=i)(hi:i2=scanUp (λx=>!ltInt d[a]! x) d j i)(b:j2=scanDown (λx=>ltInt d[a]! x) d i2 j):
  partEqLoop ltInt a i j d=if i2>j2 then(i2,d)else partEqLoop ltInt a (i2+1) (j2-1) (swp d i2 j2):=by have e:=nc (p:=λx=>!ltInt d[a]! x) (d:=d) (j:=j) (j+1-i) i (aZ _);have c:=kz (p:=λx=>ltInt d[a]! x) (d:=d) (i:=i2) j;rw[<-hi]at e;rw[<-b]at c;rw[partEqLoop.eq_1,<-hi,<-b];grind
def Hm(n:Nat)(d:Array Int)(a b v:Nat)(K:d.size=n)(J:a<b)(M:b<=n)(P:v<n)(N:n<=4000000):
  Ev X 140 [j6 n,dI a,dI b,dI v] [bI n d] (dI (partitionEqual ltInt d a b v).1) [bI n (partitionEqual ltInt d a b v).2]:=by
 have g:bA X [(139,tI)]:=.cons wW .nil;refine Ev.bQ Tryz.func140 rfl λO=>?_;refine bq g [(1000002,ab)] rfl ?_ ?_
 .simp only[au,br,bL,bw,aH,aE];and_intros<;>omega
 refine AK.norm [bI n (swp d a v)] rfl ?_ ?_
 .simp only[au.cat,au,br,bL,aE,aH];exact gQ K (by omega) (by omega) (λ_ _=>rfl)
 have B:(swp d a v).size=n:=by grind[size_swp]
 unfold partitionEqual;generalize swp d a v=d1 at *;obtain⟨r,G⟩:∃r,partEqLoop ltInt a (a+1) (b-1) d1=r:=⟨_,rfl⟩;rw[G];refine cJ g rfl ?_ ?_
 .simp only[au,bw];and_intros<;>omega
 refine AK.kp (S2:=Unit) 0 rfl rfl (λ_=>r.1<=n+1/\r.2.size=n) (λ_=>[(0,j6 n),(1,dI a),(9,dI r.1)]) (λ_=>[bI n r.2]) 1 (λs:Nat×Nat×Array Int=>s.2.2.size=n/\a+1<=s.1/\s.1<=n+1/\s.2.1<n/\partEqLoop ltInt a s.1 s.2.1 s.2.2=r) (λs=>[(0,j6 n),(1,dI a),(9,dI s.1),(10,dI s.2.1)]) (λs=>[bI n s.2.2]) (λs=>s.2.1+1-s.1) (a+1,b-1,d1) rfl ?_ rfl ?_ rfl ⟨B,by grind,by grind,by grind,G⟩ ?_ ?_
 .simp only[au.cat,au,aH,aE];and_intros<;>omega
 .simp[cp]
 .rintro w ⟨i3,c,d2⟩ ⟨y,C,u,E,h⟩;simp only at y C u E h;refine cJ g rfl ar ?_;refine AK.kp (S2:=Unit) 2 rfl rfl (λ_=>True) (λ_=>[(0,j6 n),(1,dI a),(9,dI ((scanUp (λx=>!ltInt d2[a]! x) d2 (c) (i3)):Nat)),(10,dI (c:Nat))]) (λ_=>[bI n d2]) 1 (λk:Nat=>i3<=k/\k<=n+1/\scanUp (λx=>!ltInt d2[a]! x) d2 (c) k=scanUp (λx=>!ltInt d2[a]! x) d2 (c) (i3)) (λk=>[(0,j6 n),(1,dI a),(9,dI (k:Nat)),(10,dI (c:Nat))]) (λ_=>[bI n d2]) (λk=>c+1-k) (i3) rfl ?_ rfl ?_ rfl ⟨aZ _,by omega,rfl⟩ ?_ ?_
  .simp[cp]<;>omega
  .simp[cp]
  .rintro out k ⟨z,D,F⟩;by_cases A:k<=c
   .by_cases I:(λx=>!ltInt d2[a]! x) d2[k]! = ab
    .have f:ltInt d2[a]! d2[k]! = ae:=by grind
     refine bq g [(31,ab),(41,ae)] rfl ?_ (AK.aQ (k+1) rfl ?_ ?_ ?_ ?_)
     .simp only[au,br,bL,f,bw,bl,aH,aE];and_intros<;>omega
     .simp only[au.cat,au,aH,aE];omega
     .simp[cp]
     .grind [mh]
     .omega
    .have f:ltInt d2[a]! d2[k]! = ab:=by grind
     refine bq g [(31,ab),(41,ab)] rfl ?_ (AK.leaveD rfl rfl ?_)
     .simp only[au,br,bL,f,bw,bl,aH,aE];and_intros<;>omega
     have e:scanUp (λx=>!ltInt d2[a]! x) d2 (c) (i3)=k:=by grind[gv]
     exact out () ar rfl (by simp only[au.cat,au,e,aH,aE]) rfl (by simp[cp])
   .refine bq g [(31,ae)] rfl ?_ (AK.leaveD rfl rfl ?_)
    .simp only[au,bw,b7,aH,aE];omega
    have e:scanUp (λx=>!ltInt d2[a]! x) d2 (c) (i3)=k:=by grind[gv]
    exact out () ar rfl (by simp only[au.cat,au,e,aH,aE]) rfl (by simp[cp])
  rintro⟨⟩ -;have c1:=nc (p:=λx=>!ltInt d2[a]! x) (d:=d2) (j:=c) (c+1-i3) i3 (aZ _);obtain⟨i4,t⟩:∃i4,i4=scanUp (λx=>!ltInt d2[a]! x) d2 c i3:=⟨_,rfl⟩
  rw[<-t]at c1⊢;refine cJ g rfl ar ?_;refine AK.kp (S2:=Unit) 4 rfl rfl (λ_=>True) (λ_=>[(0,j6 n),(1,dI a),(9,dI (i4:Nat)),(10,dI ((scanDown (λx=>ltInt d2[a]! x) d2 (i4) (c)):Nat))]) (λ_=>[bI n d2]) 1 (λk:Nat=>k<=c/\k<=n/\scanDown (λx=>ltInt d2[a]! x) d2 (i4) k=scanDown (λx=>ltInt d2[a]! x) d2 (i4) (c)) (λk=>[(0,j6 n),(1,dI a),(9,dI (i4:Nat)),(10,dI (k:Nat))]) (λ_=>[bI n d2]) (λk=>k) (c) rfl ?_ rfl ?_ rfl ⟨aZ _,by omega,rfl⟩ ?_ ?_
  .simp[cp]<;>omega
  .simp[cp]
  .rintro out k ⟨z,D,F⟩;by_cases A:i4<=k
   .by_cases I:(λx=>ltInt d2[a]! x) d2[k]! = ab
    .have f:ltInt d2[a]! d2[k]! = ab:=by grind
     refine bq g [(48,ab),(58,ab)] rfl ?_ (AK.aQ (k-1) rfl ?_ ?_ ?_ ?_)
     .simp only[au,br,bL,f,bw,bl,aH,aE];and_intros<;>omega
     .simp only[au.cat,au,aH,aE];omega
     .simp[cp]
     .exact⟨by omega,by omega,by grind[j9]⟩
     .omega
    .have f:ltInt d2[a]! d2[k]! = ae:=by grind
     refine bq g [(48,ab),(58,ae)] rfl ?_ (AK.leaveD rfl rfl ?_)
     .simp only[au,br,bL,f,bw,bl,aH,aE];and_intros<;>omega
     have e:scanDown (λx=>ltInt d2[a]! x) d2 (i4) (c)=k:=by grind[ft]
     exact out () ar rfl (by simp only[au.cat,au,e,aH,aE]) rfl (by simp[cp])
   .refine bq g [(48,ae)] rfl ?_ (AK.leaveD rfl rfl ?_)
    .simp only[au,bw,b7,aH,aE];omega
    have e:scanDown (λx=>ltInt d2[a]! x) d2 (i4) (c)=k:=by grind[ft]
    exact out () ar rfl (by simp only[au.cat,au,e,aH,aE]) rfl (by simp[cp])
  rintro⟨⟩ -;have c2:=kz (p:=λx=>ltInt d2[a]! x) (d:=d2) (i:=i4) c;obtain⟨l,m⟩:∃l,l=scanDown (λx=>ltInt d2[a]! x) d2 i4 c:=⟨_,rfl⟩
  rw[<-m]at c2⊢;have q:=partEqLoop_eq (by omega) t m;by_cases o:l<i4
  .have e:=q;rw[h,bn o]at e;refine bq g [(64,ab)] rfl ?_ (AK.leaveD rfl rfl ?_)
   .simp only[au,bw,bl];omega
   exact w () (by grind) rfl (by simp only[au.cat,au,e,aH,aE]) rfl (by simp[cp,e])
  .have e:=q;rw[h,a9 (by omega)]at e;refine bq g [(64,ae),(1000009,ab)] rfl ?_ ?_
   .simp only[au,br,bL,bw,b7,aH,aE];and_intros<;>omega
   refine AK.norm [bI n (swp d2 i4 l)] rfl ?_ ?_
   .simp only[au.cat,au,br,bL,aE,aH];exact gQ y (by omega) (by omega) (λ_ _=>rfl)
   refine cJ g rfl ?_ (AK.aQ (i4+1,l-1,swp d2 i4 l) rfl ?_ ?_ ?_ ?_)
   .simp only[au,bw];and_intros<;>omega
   .simp only[au.cat,au,aH,aE];and_intros<;>omega
   .simp[cp]
   .grind [size_swp]
   grind
 rintro⟨⟩ ⟨L,H⟩;refine cJ g rfl ar (AK.dG [0] rfl ?_ rfl rfl rfl g7);simp
end
section
open Go.Sort (swp scanSorted shiftDown shiftUp partialIns partialInsertionSort ltInt)
variable {X:Cx ag}
theorem wX{d:Array Int}(h:i<b)(a:ltInt d[i]! d[i-1]! = ae):scanSorted ltInt d b i=scanSorted ltInt d b (i+1):=by rw[scanSorted.eq_1 ltInt d b i,bn (by grind)]
theorem nV{d:Array Int}(h:i<b->ltInt d[i]! d[i-1]! = ab):scanSorted ltInt d b i=i:=by rw[scanSorted,a9];grind
def KW{d:Array Int}:∀(m i:Nat),b-i<=m->i<=b->i<=scanSorted ltInt d b i/\scanSorted ltInt d b i<=b:=by
 intro m;induction m with
 |zero=>grind[nV]
 |succ m c =>
  intro i h a;by_cases e:i<b
  .cases f:ltInt d[i]! d[i-1]! with
   |false=>grind[wX]
   |true=>grind[nV]
  grind
theorem KX{d:Array Int}(b:1<=j)(h:ltInt d[j]! d[j-1]! = ab):shiftDown ltInt j d=shiftDown ltInt (j-1) (swp d j (j-1)):=by
 obtain⟨j,rfl⟩:∃a,j=a+1:=⟨j-1,by omega⟩
 simp only[pq]at h⊢;rw[shiftDown,a9 (by simp[h])]
theorem Co{d:Array Int}(h:1<=j->ltInt d[j]! d[j-1]! = ae):shiftDown ltInt j d=d:=by
 cases j with
 |zero=>rfl
 |succ j =>
  have:=h (by omega);simp only[pq]at this;rw[shiftDown,bn (by grind)]
theorem KY{d:Array Int}(a:j<b)(h:ltInt d[j]! d[j-1]! = ab):shiftUp ltInt b j d=shiftUp ltInt b (j+1) (swp d j (j-1)):=by rw[shiftUp.eq_1 ltInt b j d,bn a,a9 (by simp[h])]
theorem Cp{d:Array Int}(h:j<b->ltInt d[j]! d[j-1]! = ae):shiftUp ltInt b j d=d:=by rw[shiftUp];grind
abbrev Pg(n a b i s:Nat):Fr:=[(0,j6 n),(1,dI a),(2,dI b),(7,dI i),(8,dI (5-(s:Int)))]
def N5{a s:Nat}{d:Array Int}:partialIns ltInt a b (s+1) i d=(if scanSorted ltInt d b i=b then(d,ab)else if b-a<50 then(d,ae)else
  partialIns ltInt a b s (scanSorted ltInt d b i) (if b-scanSorted ltInt d b i≥2 then shiftUp ltInt b (scanSorted ltInt d b i+1) (if scanSorted ltInt d b i-a≥2 then shiftDown ltInt (scanSorted ltInt d b i-1) (swp d (scanSorted ltInt d b i) (scanSorted ltInt d b i-1))else swp d (scanSorted ltInt d b i) (scanSorted ltInt d b i-1))else(if scanSorted ltInt d b i-a≥2 then shiftDown ltInt (scanSorted ltInt d b i-1) (swp d (scanSorted ltInt d b i) (scanSorted ltInt d b i-1))else swp d (scanSorted ltInt d b i) (scanSorted ltInt d b i-1)))):=rfl
def wY(n:Nat)(d:Array Int)(a b:Nat)(Q:d.size=n)(P:a<b)(T:b<=n)(V:n<=4000000):
  Ev X 138 [j6 n,dI a,dI b] [bI n d] (dB (partialInsertionSort ltInt d a b).2) [bI n (partialInsertionSort ltInt d a b).1]:=by
 have g:bA X [(139,tI)]:=.cons wW .nil;refine Ev.bQ Tryz.func138 rfl λW=>?_;obtain⟨r,J⟩:∃r,partialIns ltInt a b 5 (a+1) d=r:=⟨_,rfl⟩;have H:partialInsertionSort ltInt d a b=r:=J;rw[H];refine cJ g rfl (by simp only[au,bw];omega) ?_
 refine AK.kp (S2:=Unit) 0 rfl rfl (λ_=>r.2=ae) (λ_=>[(0,j6 n)]) (λ_=>[bI n r.1]) 1 (λs:Nat×Nat×Array Int=>s.2.2.size=n/\s.1<=5/\a+1<=s.2.1/\s.2.1<=b/\partialIns ltInt a b s.1 s.2.1 s.2.2=r) (λs=>Pg n a b s.2.1 s.1) (λs=>[bI n s.2.2]) (λs=>s.1) (5,a+1,d) rfl ?_ rfl ?_ rfl ⟨Q,by grind,by grind,by grind,J⟩ ?_ ?_
 .simp
 .simp[cp]
 .rintro z ⟨s,i,d1⟩ ⟨K,B,hi,q,f⟩;simp only at K B hi q f;cases s with
  |zero =>
   rw[partialIns]at f;refine bq g [(14,ae)] rfl ?_ (AK.leaveD rfl rfl ?_)
   .simp
   exact z () (by grind) rfl (by simp) rfl (by simp[cp,<-f])
  |succ s =>
   rw[N5]at f;refine bq g [(14,ab)] rfl (by simp only[au,bl];omega) ?_;refine AK.kp (S2:=Unit) 2 rfl rfl (λ_=>True) (λ_=>Pg n a b (scanSorted ltInt d1 b i) (s+1)) (λ_=>[bI n d1]) 1 (λk:Nat=>i<=k/\k<=b/\scanSorted ltInt d1 b k=scanSorted ltInt d1 b i) (λk=>Pg n a b k (s+1)) (λ_=>[bI n d1]) (λk=>b-k) i rfl ?_ rfl ?_ rfl ⟨aZ _,q,rfl⟩ ?_ ?_
   .simp
   .simp[cp]
   .rintro out k ⟨M,R,S⟩;by_cases N:k<b
    .have y:((k:Int)-1).toNat=k-1:=by omega
     cases p:ltInt d1[k]! d1[k-1]! with
     |false =>
      refine bq g [(19,ab),(30,ae)] rfl ?_ (AK.aQ (k+1) rfl ?_ ?_ ?_ ?_)
      .simp only[au,br,bL,y,p,bw,bl,aH,aE];and_intros<;>omega
      .simp only[au.cat,au,aH,aE];omega
      .simp[cp]
      .grind [wX]
      .omega
     |true =>
      refine bq g [(19,ab),(30,ab)] rfl ?_ (AK.leaveD rfl rfl ?_)
      .simp only[au,br,bL,y,p,bw,bl,aH,aE];and_intros<;>omega
      have e:scanSorted ltInt d1 b i=k:=by grind[nV]
      exact out () ar rfl (by simp only[au.cat,au,e,aH,aE]) rfl (by simp[cp])
    .refine bq g [(19,ae)] rfl ?_ (AK.leaveD rfl rfl ?_)
     .simp only[au,bw,b7,aH,aE];omega
     have e:scanSorted ltInt d1 b i=k:=by grind[nV]
     exact out () ar rfl (by simp only[au.cat,au,e,aH,aE]) rfl (by simp[cp])
   rintro⟨⟩ -;have c:=KW (d:=d1) (b:=b) (b-i) i (aZ _) q;obtain⟨i2,D⟩:∃i2,i2=scanSorted ltInt d1 b i:=⟨_,rfl⟩;rw[<-D]at c f⊢
   by_cases u:i2=b
   .rw[bn u]at f;rw[<-f];refine bq g [(37,ab)] rfl ?_ (AK.eX (cd.mk [0] rfl ?_ rfl rfl rfl g7))
    .simp[u]
    .simp
   rw[a9 u]at f;by_cases A:b-a<50
   .rw[bn A]at f;rw[<-f];refine bq g [(37,ae),(41,ab)] rfl ?_ (AK.eX (cd.mk [0] rfl ?_ rfl rfl rfl g7))
    .simp[bw];omega
    .simp
   rw[a9 A]at f;have y:((i2:Int)-1).toNat=i2-1:=by omega
   refine bq g [(37,ae),(41,ae),(1000012,ab)] rfl ?_ ?_
   .simp only[au,br,bL,y,bw,b7,fy,cR,aH,aE];and_intros<;>omega
   refine AK.norm [bI n (swp d1 i2 (i2-1))] rfl ?_ ?_
   .simp only[au.cat,au,br,bL,y,aE,aH];exact gQ K (by omega) (by omega) (λ_ _=>rfl)
   have v:(swp d1 i2 (i2-1)).size=n:=by grind[size_swp]
   obtain⟨d2,C⟩:∃d2,d2=swp d1 i2 (i2-1):=⟨_,rfl⟩;rw[<-C]at v f⊢;obtain⟨d3,o⟩:∃d3,d3=if i2-a≥2 then shiftDown ltInt (i2-1) d2 else d2:=⟨_,rfl⟩
   rw[<-o]at f;have U:∀(j:Nat) (d:Array Int),(shiftDown ltInt j d).size=d.size:=by
    intro j;induction j with
    |zero=>intro d;rfl
    |succ j Y =>
     intro d;rw[shiftDown];grind[size_swp]
   have G:d3.size=n:=by grind
   apply AK.join (Pg n a b i2 (s+1)) [bI n d3]
   .intro out;by_cases L:i2-a≥2
    .rw[bn L]at o;refine bq g [(61,ab)] rfl ?_ ?_
     .simp only[au,bw,bl,aH,aE];and_intros<;>omega
     refine AK.kp (S2:=Unit) 4 rfl rfl (λ_=>True) (λ_=>Pg n a b i2 (s+1)) (λ_=>[bI n d3]) 1 (λs:Nat×Array Int=>s.2.size=n/\s.1<b/\shiftDown ltInt s.1 s.2=d3) (λs2=>Pg n a b i2 (s+1)++[(9,dI s2.1)]) (λs=>[bI n s.2]) (λs=>s.1) (i2-1,d2) rfl ?_ rfl ?_ rfl ⟨v,by grind,o.symm⟩ ?_ ?_
     .simp only[au.cat,au,aH,aE];omega
     .simp[cp]
     .rintro h ⟨j,d4⟩ ⟨m,F,l⟩;simp only at m F l;by_cases x:1<=j
      .have t:((j:Int)-1).toNat=j-1:=by omega
       cases p:ltInt d4[j]! d4[j-1]! with
       |true =>
        refine bq g [(65,ab),(77,ab)] rfl ?_ (AK.aQ (j-1,swp d4 j (j-1)) rfl ?_ ?_ ?_ ?_)
        .simp only[au,br,bL,t,p,bw,bl,aH,aE];and_intros<;>omega
        .simp only[au.cat,au,aH,aE];omega
        .simp only[au.cat,au,br,bL,t,aE,aH];exact gQ m (by omega) (by omega) (λ_ _=>rfl)
        .grind [KX]
        grind
       |false =>
        refine bq g [(65,ab),(77,ae)] rfl ?_ (AK.leaveD rfl rfl ?_)
        .simp only[au,br,bL,t,p,bw,bl,aH,aE];and_intros<;>omega
        have e:d3=d4:=by grind[Co]
        exact h () ar rfl (by simp) rfl (by simp[cp,e])
      .refine bq g [(65,ae)] rfl ?_ (AK.leaveD rfl rfl ?_)
       .simp only[au,b7];omega
       have e:d3=d4:=by grind[Co]
       exact h () ar rfl (by simp) rfl (by simp[cp,e])
     rintro⟨⟩ -;refine bq g [(1000018,ab)] rfl ar ?_;exact out _ _ rfl (by simp)
    .rw[a9 L]at o;rw[<-o];refine bq g [(61,ae),(1000018,ab)] rfl ?_ ?_
     .simp only[au,bw,b7,aH,aE];and_intros<;>omega
     exact out _ _ rfl (by simp)
   by_cases I:b-i2≥2
   .rw[bn I]at f;obtain⟨d5,w⟩:∃d5,shiftUp ltInt b (i2+1) d3=d5:=⟨_,rfl⟩;rw[w]at f;refine bq g [(98,ab)] rfl ?_ ?_
    .simp only[au,bw,bl,aH,aE];and_intros<;>omega
    refine AK.kp (S2:=Unit) 6 rfl rfl (λ_=>d5.size=n) (λ_=>Pg n a b i2 (s+1)) (λ_=>[bI n d5]) 1 (λs:Nat×Array Int=>s.2.size=n/\1<=s.1/\s.1<=b/\shiftUp ltInt b s.1 s.2=d5) (λs2=>Pg n a b i2 (s+1)++[(10,dI s2.1)]) (λs=>[bI n s.2]) (λs=>b-s.1) (i2+1,d3) rfl ?_ rfl ?_ rfl ⟨G,by grind,by grind,w⟩ ?_ ?_
    .simp only[au.cat,au,aH,aE];omega
    .simp[cp]
    .rintro h ⟨j,d4⟩ ⟨m,x,F,l⟩;simp only at m x F l;by_cases O:j<b
     .have t:((j:Int)-1).toNat=j-1:=by omega
      cases p:ltInt d4[j]! d4[j-1]! with
      |true =>
       refine bq g [(103,ab),(115,ab)] rfl ?_ (AK.aQ (j+1,swp d4 j (j-1)) rfl ?_ ?_ ?_ ?_)
       .simp only[au,br,bL,t,p,bw,bl,aH,aE];and_intros<;>omega
       .simp only[au.cat,au,aH,aE];omega
       .simp only[au.cat,au,br,bL,t,aE,aH];exact gQ m (by omega) (by omega) (λ_ _=>rfl)
       .grind [size_swp,KY]
       grind
      |false =>
       refine bq g [(103,ab),(115,ae)] rfl ?_ (AK.leaveD rfl rfl ?_)
       .simp only[au,br,bL,t,p,bw,bl,aH,aE];and_intros<;>omega
       have e:d5=d4:=by grind[Cp]
       exact h () (by grind) rfl (by simp) rfl (by simp[cp,e])
     .refine bq g [(103,ae)] rfl ?_ (AK.leaveD rfl rfl ?_)
      .simp only[au,b7];omega
      have e:d5=d4:=by grind[Cp]
      exact h () (by grind) rfl (by simp) rfl (by simp[cp,e])
    rintro⟨⟩ B;refine cJ g rfl ?_ (AK.aQ (s,i2,d5) rfl ?_ ?_ ?_ ?_)
    .simp only[au,bw];omega
    .simp only[au.cat,au,aH,aE];omega
    .simp[cp]
    .grind
    grind
   .rw[a9 I]at f;refine bq g [(98,ae)] rfl ?_ (AK.aQ (s,i2,d3) rfl ?_ ?_ ?_ ?_)
    .simp only[au,bw,b7,aH,aE];and_intros<;>omega
    .simp only[au.cat,au,aH,aE];omega
    .simp[cp]
    .grind
    grind
 rintro⟨⟩ E;refine cJ g rfl ar (AK.dG [0] rfl ?_ rfl rfl rfl g7);simp[E]
end
section
open Go.Sort (swp pdq rd Rd Below SWO insertionSort heapSort breakPatterns choosePivot reverseRange partialInsertionSort partition partitionEqual Hint ltInt PermIn SortedIn)
variable {X:Cx ag}
abbrev UO(n a b c:Nat)(wb wp:Bool):Fr:=[(0,j6 n),(1,dI a),(2,dI b),(3,dI c),(8,dB wb),(9,dB wp)]
def yG{h:Hint}:na h=2↔h=.decreasing:=by cases h<;>simp[na]
def ta{h:Hint}:na h=1↔h=.increasing:=by cases h<;>simp[na]
structure PqS where
 a:Nat
 b:Nat
 lim:Nat
 wb:Bool
 wp:Bool
 d:Array Int
def N6(n:Nat)(d:Array Int){a:Nat}(g:d.size=n)(e:b<=n)(f:a<=n)(h:n<=4000000){r:Array Int}(c:r=insertionSort ltInt d a b):Ev X 133 [j6 n,dI a,dI b] [bI n d] (.fw []) [bI n r]:=by grind[RK]
def KZ(n:Nat)(d:Array Int){a:Nat}(h:d.size=n)(c:a<=b)(e:1<=b-a)(g:b<=n)(i:n<=4000000){r:Array Int}(f:r=heapSort ltInt d a b):Ev X 134 [j6 n,dI a,dI b] [bI n d] (.fw []) [bI n r]:=by grind[N7]
def RL(n:Nat)(G:n<=4000000):∀(m:Nat)(d:Array Int)(a b lim:Nat),b-a<=m->d.size=n->a<=b->b<=n->lim<=100->Below ltInt a b d ->
  ∀{x y z:Int},x=a->y=b->z=lim->∀{R:Array Int},R=pdq ltInt d a b lim ab ab->Ev X 99 [j6 n,dI x,dI y,dI z] [bI n d] (.fw []) [bI n R]:=by
 have i:bA X [(139,tI)]:=.cons wW .nil;have E:SWO ltInt:=Go.Sort.swo_ltInt;have Z:=Go.Sort.partialInsertionSort_holds (lt:=ltInt);have hpt:=Go.Sort.partition_holds ltInt;have hpe:=Go.Sort.partitionEqual_holds ltInt;have Q:=Go.Sort.reverseRange_holds (α:=Int);have O:=Go.Sort.pdq_sorts ltInt;intro m;induction m using Nat.strongRecOn with
 |_ m ih =>
 intro d a b lim hm hd hab hb hl hB x y z hx hy hz R hR;subst hx hy hz;refine Ev.bQ Tryz.func99 rfl λhf=>?_;refine cJ i rfl ar ?_;refine AK.bY 1 (λs:PqS=>s.d.size=n/\s.a<=s.b/\s.b<=n/\s.lim<=100/\s.b-s.a<=b-a/\Below ltInt s.a s.b s.d/\pdq ltInt s.d s.a s.b s.lim s.wb s.wp=R) (λs=>UO n s.a s.b s.lim s.wb s.wp) (λs=>[bI n s.d]) (λs=>s.b-s.a) ⟨a,b,lim,ab,ab,d⟩ rfl ?_ rfl ?_ rfl ⟨hd,hab,hb,hl,aZ _,hB,hR.symm⟩ ?_
 .simp
 .simp[cp]
 clear hf hB hd hR;rintro⟨f,h,p,wb,wp,d1⟩ ⟨T,v,j,S9,Ts,hB,k⟩;simp only at T v j S9 Ts hB k;by_cases B:h-f<=12
 .rw[Go.Sort.pdq_small B]at k;refine bq i [(23,ab)] rfl ?_ ?_
  .simp only[au,bw,bl];and_intros<;>omega
  refine AK.cQ (N6 n d1 (a:=f) (b:=h) T j (by omega) G k.symm) [0] rfl ?_;refine cJ i rfl ar (AK.eX (cd.mk [0] rfl ar rfl rfl rfl g7))
 by_cases U:p=0
 .rw[Go.Sort.pdq_heap B U]at k;refine bq i [(23,ae),(29,ab)] rfl ?_ ?_
  .simp only[au,bw,b7,hO];and_intros<;>omega
  refine AK.cQ (KZ n d1 (a:=f) (b:=h) T v (by omega) j G k.symm) [0] rfl ?_;refine cJ i rfl ar (AK.eX (cd.mk [0] rfl ar rfl rfl rfl g7))
 have l:f<h:=by omega
 obtain⟨f1,f2,f3,Y,f5,V,W,f8⟩:=Go.Sort.rd_facts (limit:=p) (wb:=wb) (wp:=wp) E Z Q l (by grind) hB;have fl:=Go.Sort.rd_lim_le (lt:=ltInt) (d:=d1) (a:=f) (b:=h) (limit:=p) (wb:=wb) (wp:=wp);have S:=Go.Sort.rd_dec (lt:=ltInt) (d:=d1) (a:=f) (b:=h) (limit:=p) (wb:=wb) (wp:=wp);have N:=Go.Sort.rd_not (lt:=ltInt) (d:=d1) (a:=f) (b:=h) (limit:=p) (wb:=wb) (wp:=wp);have H:=Go.Sort.rd_pi_yes (lt:=ltInt) (d:=d1) (a:=f) (b:=h) (limit:=p) (wb:=wb) (wp:=wp);have fno:=Go.Sort.rd_pi_no (lt:=ltInt) (d:=d1) (a:=f) (b:=h) (limit:=p) (wb:=wb) (wp:=wp);have fc:=Go.Sort.rd_c (lt:=ltInt) (d:=d1) (a:=f) (b:=h) (limit:=p) (wb:=wb) (wp:=wp);have fd1:wb=ae->(rd ltInt d1 f h p wb wp).d1=breakPatterns d1 f h/\(rd ltInt d1 f h p wb wp).lim=p-1:=by grind[Go.Sort.rd_false]
 have fd2:wb=ab->(rd ltInt d1 f h p wb wp).d1=d1/\(rd ltInt d1 f h p wb wp).lim=p:=by grind[Go.Sort.rd_true]
 have C:=Go.Sort.pdq_done (lt:=ltInt) (d:=d1) (wb:=wb) (wp:=wp) B U;have geq:=Go.Sort.pdq_eq (lt:=ltInt) (d:=d1) (wb:=wb) (wp:=wp) B U;have D:=Go.Sort.pdq_left (lt:=ltInt) (d:=d1) (wb:=wb) (wp:=wp) B U;have w:=Go.Sort.pdq_right (lt:=ltInt) (d:=d1) (wb:=wb) (wp:=wp) B U;rw[T]at f1 Y W;rw[k]at C geq D w;generalize rd ltInt d1 f h p wb wp=r at *;apply AK.join (UO n f h r.lim wb wp++[(10,dI ((h-f:Nat):Int))]) [bI n r.d1]
 .intro out;cases wb with
  |false =>
   obtain⟨J,I⟩:=fd1 rfl;refine bq i [(23,ae),(29,ae)] rfl ?_ ?_
   .simp only[au,bw,b7,fy,cR];and_intros<;>omega
   refine AK.cQ (K1 n d1 f h T v j G) [0] rfl ?_;rw[<-J];refine bq i [(1000010,ab)] rfl ?_ ?_
   .simp only[au,bw];and_intros<;>omega
   exact out _ _ rfl (by simp only[au.cat,au,I,aH,aE];and_intros<;>omega)
  |true =>
   obtain⟨J,I⟩:=fd2 rfl;subst J;refine bq i [(23,ae),(29,ae),(1000010,ab)] rfl ?_ ?_
   .simp only[au,bw,b7,fy,cR];and_intros<;>omega
   exact out _ _ rfl (by simp only[au.cat,au,I,aH,aE];and_intros<;>omega)
 refine cJ i rfl ar ?_;refine AK.cQ (Hl n r.d1 f h v j (by omega) G) [0] rfl ?_;rw[<-fc];apply AK.join (UO n f h r.lim wb wp++[(10,dI ((h-f:Nat):Int)),(11,dI r.pivot),(12,dI (na r.hint))]) [bI n r.d2]
 .intro out;by_cases A:r.c.2=.decreasing
  .obtain⟨J,I,e3⟩:=S A;refine bq i [(50,ab)] rfl ?_ ?_
   .simp only[au,hO,yG];exact A
   refine AK.cQ (RM n r.d1 f h f1 (by omega) (by omega) j G) [0] rfl ?_;rw[<-J];refine bq i [(1000015,ab)] rfl ?_ ?_
   .simp only[au,bw];and_intros<;>omega
   exact out _ _ rfl (by simp only[au.cat,au,I,e3,na,aH,aE];and_intros<;>omega)
  .obtain⟨J,I,e3⟩:=N A;rw[<-J];refine bq i [(50,ae),(1000015,ab)] rfl ?_ ?_
   .simp only[au,fy,cR,yG];exact A
   exact out _ _ rfl (by simp only[au.cat,au,I,e3,aH,aE])
 by_cases t:r.pi.2=ab
 ·
  have q:(wb&&wp&&decide (r.hint=.increasing))=ab:=by grind
  have e:=H q;simp only[bS,bl]at q;obtain⟨⟨rfl,rfl⟩,F⟩:=q;refine bq i [(67,ab)] rfl ?_ ?_
  .simp only[au,hO,ta];exact F
  refine AK.cQ (wY n r.d2 f h Y l j G) [0] rfl ?_;rw[<-e,t,<-C t];refine cJ i rfl ar (AK.eX (cd.mk [0] rfl ar rfl rfl rfl g7))
 rw[lX]at t;apply AK.join (UO n f h r.lim wb wp++[(10,dI ((h-f:Nat):Int)),(11,dI r.pivot)]) [bI n r.pi.1]
 .intro out;cases o:(wb&&wp&&decide (r.hint=.increasing))with
  |true =>
   have e:=H o;simp only[bS,bl]at o;obtain⟨⟨rfl,rfl⟩,F⟩:=o;refine bq i [(67,ab)] rfl ?_ ?_
   .simp only[au,hO,ta];exact F
   refine AK.cQ (wY n r.d2 f h Y l j G) [0] rfl ?_;rw[<-e,t];refine bq i [(1000017,ab)] rfl ar ?_;exact out _ _ rfl (by simp)
  |false =>
   have e:r.d2=r.pi.1:=by grind
   rw[e];cases wb with
   |false =>
    refine bq i [(1000017,ab)] rfl ar ?_;exact out _ _ rfl (by simp)
   |true =>
    cases wp with
    |false =>
     refine bq i [(1000017,ab)] rfl ar ?_;exact out _ _ rfl (by simp)
    |true =>
     refine bq i [(67,ae),(1000017,ab)] rfl ?_ ?_
     .simp only[au,fy,cR,ta];grind
     exact out _ _ rfl (by simp)
 have ep:((f:Int)-1).toNat=f-1:=by omega
 cases o:(decide (f>0)&&!ltInt r.pi.1[f-1]! r.pi.1[r.pivot]!)with
 |true =>
  have u:=o;simp only[bS,bl,iU]at u;obtain⟨L,q2,K,q4,_⟩:=Go.Sort.round_eq (mid:=(partitionEqual ltInt r.pi.1 f h r.pivot).1) (d4:=(partitionEqual ltInt r.pi.1 f h r.pivot).2) E hpe u.1 V.1 V.2 (by grind) f8 u.2 rfl;have g:=geq t o ⟨L,q2⟩;refine bq i [(74,ab),(85,ae)] rfl ?_ ?_
  .simp only[au,br,bL,ep,u.2,bw,bl,aH,aE];and_intros<;>omega
  refine AK.cQ (Hm n r.pi.1 f h r.pivot W l j (by omega) G) [0] rfl ?_;refine cJ i rfl ar (AK.aQ ⟨(partitionEqual ltInt r.pi.1 f h r.pivot).1,h,r.lim,wb,wp,(partitionEqual ltInt r.pi.1 f h r.pivot).2⟩ rfl ?_ ?_ ?_ ?_)
  .simp
  .simp[cp]
  .grind
  grind
 |false =>
  obtain⟨L,q2,K,q4,q5,q6,q7⟩:=Go.Sort.round_part (mid:=(partition ltInt r.pi.1 f h r.pivot).1) (ap:=(partition ltInt r.pi.1 f h r.pivot).2.1) (d4:=(partition ltInt r.pi.1 f h r.pivot).2.2) E hpt V.1 V.2 (by grind) f8 rfl;apply AK.join (UO n f h r.lim wb wp++[(10,dI ((h-f:Nat):Int)),(11,dI r.pivot)]) [bI n r.pi.1]
  .intro out;by_cases ha0:0<f
   .have tM:ltInt r.pi.1[f-1]! r.pi.1[r.pivot]! = ab:=by grind
    refine bq i [(74,ab),(85,ab),(1000020,ab)] rfl ?_ ?_
    .simp only[au,br,bL,ep,tM,bw,bl,aH,aE];and_intros<;>omega
    exact out _ _ rfl (by simp)
   .refine bq i [(74,ae),(1000020,ab)] rfl ?_ ?_
    .simp only[au,b7];omega
    exact out _ _ rfl (by simp)
  refine cJ i rfl ar ?_;refine AK.cQ (N8 n r.pi.1 f h r.pivot W l j (by omega) G) [0] rfl ?_;have gl:=D t o ⟨L,q2⟩;have gr:=w t o ⟨L,q2⟩;generalize partition ltInt r.pi.1 f h r.pivot=P at *;rw[W]at K;by_cases M:P.1-f<h-P.1
  .have g:=gl M;obtain⟨w1,w2⟩:=O E P.2.2 f P.1 r.lim ab ab L (by grind) q4;obtain⟨w3,_⟩:=q6 _ w1 w2;refine bq i [(113,ab)] rfl ?_ ?_
   .simp only[au,bw,bl,aH,aE];and_intros<;>omega
   refine AK.cQ (ih (P.1-f) (by omega) P.2.2 f P.1 r.lim (aZ _) K L (by omega) (by omega) q4 rfl rfl rfl rfl) [0] rfl ?_;refine cJ i rfl ?_ (AK.aQ ⟨P.1+1,h,r.lim,decide (P.1-f≥(h-f) / 8),P.2.1,pdq ltInt P.2.2 f P.1 r.lim ab ab⟩ rfl ?_ ?_ ?_ ?_)
   .simp only[au,bw,aH,aE];and_intros<;>omega
   .simp only[au.cat,au,aH,aE];grind
   .simp[cp]
   .exact⟨by simp only;rw[w1.1,K],by grind,j,by grind,by grind,w3,g.symm⟩
   grind
  .have g:=gr M;obtain⟨w1,w2⟩:=O E P.2.2 (P.1+1) h r.lim ab ab (by omega) (by grind) q5;obtain⟨w3,_⟩:=q7 _ w1 w2;refine bq i [(113,ae)] rfl ?_ ?_
   .simp only[au,bw,b7,aH,aE];and_intros<;>omega
   refine AK.cQ (ih (h-(P.1+1)) (by omega) P.2.2 (P.1+1) h r.lim (aZ _) K (by omega) j (by omega) q5 (x:=(P.1:Int)+1) (by omega) rfl rfl rfl) [0] rfl ?_;refine cJ i rfl ?_ (AK.aQ ⟨f,P.1,r.lim,decide (h-P.1≥(h-f) / 8),P.2.1,pdq ltInt P.2.2 (P.1+1) h r.lim ab ab⟩ rfl ?_ ?_ ?_ ?_)
   .trivial
   .simp only[au.cat,au,aH,aE];grind
   .simp[cp]
   .exact⟨by simp only;rw[w1.1,K],by grind,by grind,by grind,by grind,w3,g.symm⟩
   grind
end
section
open Go.Proofs Go.Conc Go.Conc.Lib
open Go.ConcN (WgLive PayAt Has RW AtR0)
open Go.ConcR (KK WgAt stA smA rd wr mk Payload DC0)
instance pay:Payload:=⟨166⟩
def lJ(f:Int):dy:=λargs σ=>match args,σ with
 |[.e (.one (.c (.int .i64 k))),g,.e (.one (.c (.int .i64 n)))],[]=>match kr 2 g with
  |none=>af
  |some (d,b)=>aa (Vs (c6 k (cP.list d b) n),[],[cP.fits d b,k=f])
 |_,_=>af
noncomputable def OX:Code:=(Tryz.f121.body).getD .skip
noncomputable def JA:Array aB:=match OX with|.seq (.region _ o _) _=>o|_=>#[]
noncomputable def JB:Array aB:=match OX with|.seq _ (.region _ o _)=>o|_=>#[]
def JC:Tryz.f121.body=aa (.seq (.region 0 JA ae) (.region 1 JB ab)):=by kernel_rfl
def oW(d:Option Nat)(op:Op)(ty:aw)(b:Array Edge):aB:={dst:=d,op:=op,type:=ty,pos:= "l12_snap.go:82",after:=b,guard:=af}
def tV:List aB:=[oW (aa 6) (.load 154 (.tmp 4)) 154 #[],oW (aa 7) (.load 3 (.tmp 5)) 3 #[],oW (aa 8) (.load 3 (.tmp 1)) 3 #[],oW (aa 9) (.load 23 (.tmp 2)) 23 #[],oW (aa 10) (.load 3 (.tmp 3)) 3 #[],
 oW (aa 11) (.call {callee:=.value (.func 123),args:=#[.tmp 8,.tmp 9,.tmp 10],argTypes:=#[3,23,3]}) 166 #[⟨2,.data⟩,⟨3,.data⟩,⟨4,.data⟩],
 oW (aa 12) (.indexAddr 154 (.tmp 6) (.tmp 7)) 0 #[⟨0,.data⟩,⟨1,.data⟩,⟨0,.phase⟩,⟨1,.phase⟩,⟨2,.phase⟩,⟨3,.phase⟩,⟨4,.phase⟩,⟨5,.phase⟩],
 oW af (.store 166 (.tmp 12) (.tmp 11)) 0 #[⟨6,.data⟩,⟨5,.data⟩,⟨5,.chain⟩,⟨0,.phase⟩,⟨1,.phase⟩,⟨2,.phase⟩,⟨3,.phase⟩,⟨4,.phase⟩,⟨5,.phase⟩]]
def Ng:JB=tV.toArray:=by kernel_rfl
def nK(h:tV[i]?=aa o):i<8:=(b8.1 h).1
section
variable (k:Int)(ps:List ba)(a:Int)(n x C:Nat)
def TM(b:ai):Fr:=[(0,.e (.one (.v b))),(1,.e (.one (.c (.rp [.int .i64 k])))),(2,.e (.one (.c (.rp [.sl ae 2 ps.length (cP.fn ps)])))),(3,.e (.one (.c (.rp [.int .i64 a])))),(4,.e (.one (.c (.rp [.val (.slice (aa ⟨C,0,af⟩) n n)])))),(5,.e (.one (.c (.rp [.int .i64 x]))))]
def xW:Nat->D
 |0=>.e (.one (.v (.slice (aa ⟨C,0,af⟩) n n)))
 |1=>dI x
 |2=>dI k
 |3=>cP.sl ps
 |4=>dI a
 |5=>Vs (c6 k ps a)
 |6=>.e (.one (.v (.pointer (aa ⟨C,x*2,af⟩))))
 |_=>.any
def DL:Nat->Option Nat
 |6=>aa 0|7=>aa 1|8=>aa 2|9=>aa 3|10=>aa 4|11=>aa 5|12=>aa 6|_=>af
def YQ(b:ai):Nat->Fr
 |5=>[(8,dI k),(9,cP.sl ps),(10,dI a)]
 |6=>[(6,.e (.one (.v (.slice (aa ⟨C,0,af⟩) n n)))),(7,dI x)]
 |_=>TM k ps a n x C b
end
def Nh{X:Cx ag}{n x C:Nat}(h:x<n):OA X 13 tV (oW (aa 12) (.indexAddr 154 (.tmp 6) (.tmp 7)) 0 #[⟨0,.data⟩,⟨1,.data⟩,⟨0,.phase⟩,⟨1,.phase⟩,⟨2,.phase⟩,⟨3,.phase⟩,⟨4,.phase⟩,⟨5,.phase⟩]) [(6,.e (.one (.v (.slice (aa ⟨C,0,af⟩) n n)))),(7,dI x)] [] (.e (.one (.v (.pointer (aa ⟨C,x*2,af⟩))))) []:=by
 refine .mK (λ_ _ _ _=>du rfl) (bD.quiet λs i m g=>?_);have b:=g (.tmp 6);have d:=g (.tmp 7);have l:bJ [(6,D.e (.one (.v (.slice (aa ⟨C,0,af⟩) n n)))),(7,dI x)] (.tmp 6)=.e (.one (.v (.slice (aa ⟨C,0,af⟩) n n))):=rfl;have j:bJ [(6,D.e (.one (.v (.slice (aa ⟨C,0,af⟩) n n)))),(7,dI x)] (.tmp 7)=dI x:=rfl;rw[l]at b;rw[j]at d;have b:=Rd.fj b;have d:=fH d;generalize c:i (.tmp 7)=vy at d;cases d;have f:=(tok 154 i154 rfl).run_underlying (w:=s.w);refine⟨.pointer (aa ⟨C,x*2,af⟩),?_,Rd.val rfl,?_⟩
 .simp[ak,oW,b,c,Instr.indexAt,asIntOf,f,i154,(tok 166 i166 rfl).run_sizeOf,i166,dm,h]
 .simp[ak,oW,b,c,Instr.indexAt,asIntOf,f,i154,dm,h]
def TN{X:Cx ag}{k:Int}(l:dM X 123 (lJ k))(ps:List ba)(a:Int)(n x C:Nat)(m:x<n)(g:ai):
  Jd X 13 tV.toArray (TM k ps a n x C g) [] (xW k ps a n x C) (YQ k ps a n x C g) DL 7:=by
 have p:bA X [(123,lJ k)]:=bA.cons l bA.nil;have b:∀(i:Nat) (o:aB) (φ:Fr) (d:D) (obs:List Prop),tV[i]?=aa o->tR tt [(123,lJ k)] [] tV φ [] o=aa (d,af,obs)->au obs->OA X 13 tV o φ [] d [] :=
  λi o φ d obs _ h ho=>en tok p h ho
 refine⟨?_,?_,?_,?_,?_,?_,by decide⟩
 .intro i o ho e f _;simp only[g8]at ho;have hi:=nK ho
  match i,hi with
  |0,_|1,_|2,_|3,_|4,_|5,_|6,_|7,_ =>
   cases ho;simp[oW]at f;try (rcases f with rfl|rfl|rfl|rfl|rfl|rfl|rfl|rfl|rfl<;>decide)
   try (rcases f with rfl|rfl|rfl<;>decide)
 .intro i o d ho hd;simp only[g8]at ho;have hi:=nK ho
  match i,hi with
  |0,_|1,_|2,_|3,_|4,_|5,_|6,_|7,_ =>
   cases ho;cases hd;try exact⟨rfl,by decide⟩
 .intro d i h;unfold DL at h;split at h<;>cases h<;>exact⟨_,rfl,rfl⟩
 .intro i o ho AE;simp only[g8]at ho;have hi:=nK ho
  match i,hi with
  |0,_=>cases ho;exact b 0 _ _ _ _ rfl rfl ar
  |1,_=>cases ho;exact b 1 _ _ _ _ rfl rfl ar
  |2,_=>cases ho;exact b 2 _ _ _ _ rfl rfl ar
  |3,_=>cases ho;exact b 3 _ _ _ _ rfl rfl ar
  |4,_=>cases ho;exact b 4 _ _ _ _ rfl rfl ar
  |5,_ =>
   cases ho;have:=b 5 _ (YQ k ps a n x C g 5) _ _ rfl rfl (by simp[cP.aO]);rw[cP.list_fn]at this;exact this
  |6,_=>cases ho;exact Nh m
  |7,_=>grind
 .intro i o ho AE t σ s v c;simp only[g8]at ho;have hi:=nK ho
  match i,hi with
  |0,_|1,_|2,_|3,_|4,_ =>
   match t with
   |0|1|2|3|4|5=>exact c
   |t+6=>trivial
  |5,_ =>
   cases ho
   match t with
   |8=>exact(show dk σ s v (xW k ps a n x C 2)from by simpa[DL,oW,de,Region.binds]using c)
   |9=>exact(show dk σ s v (xW k ps a n x C 3)from by simpa[DL,oW,de,Region.binds]using c)
   |10=>exact(show dk σ s v (xW k ps a n x C 4)from by simpa[DL,oW,de,Region.binds]using c)
   |0|1|2|3|4|5|6|7=>trivial
   |t+11=>trivial
  |6,_ =>
   cases ho
   match t with
   |6=>exact(show dk σ s v (xW k ps a n x C 0)from by simpa[DL,oW,de,Region.binds]using c)
   |7=>exact(show dk σ s v (xW k ps a n x C 1)from by simpa[DL,oW,de,Region.binds]using c)
   |0|1|2|3|4|5=>trivial
   |t+8=>trivial
  |7,_=>grind
 .intro o ho j q AE;simp only[g8]at ho;cases ho
  match j,q with
  |0,_=>exact⟨⟨0,.phase⟩,by simp[oW],rfl,rfl⟩
  |1,_=>exact⟨⟨1,.phase⟩,by simp[oW],rfl,rfl⟩
  |2,_=>exact⟨⟨2,.phase⟩,by simp[oW],rfl,rfl⟩
  |3,_=>exact⟨⟨3,.phase⟩,by simp[oW],rfl,rfl⟩
  |4,_=>exact⟨⟨4,.phase⟩,by simp[oW],rfl,rfl⟩
  |5,_=>exact⟨⟨5,.phase⟩,by simp[oW],rfl,rfl⟩
  |6,_=>exact⟨⟨6,.data⟩,by simp[oW],rfl,rfl⟩
  |7,_=>grind
noncomputable def tX:aU:={(default:aU)with fn:=Tryz.prog.funcs.size,defers:=[],mode:=.panicking [goexitEntry]}
def vW(vs:Array ai):Deferred:={target:=.fn (.func 121) vs,args:=#[]}
def GF(v0 v1 v2 v3 v4 v5:ai)(w:aA):aG ag ae (born ag (vW #[v0,v1,v2,v3,v4,v5])) w =
  .go (G ((baseD 121).at ⟨#[v0,v1,v2,v3,v4,v5,ah,ah,ah,ah,ah,ah,ah],[]⟩ [.code (.seq (.region 0 JA ae) (.region 1 JB ab))]) [tX]) w #[]:=by
 have c:=JC;have d:Tryz.f121.ntmps=13:=by kernel_rfl
 have b:¬Tryz.f121.name= "runtime.NumGoroutine":=by
  have:(Tryz.f121.name== "runtime.NumGoroutine")=ae:=by kernel_rfl
  grind
 simp[born,vW,aG,unwind,callDeferred,invoke,callFunc,Tryz.func121,c,d,b,seen,GStep.after,G,Frame.enter,Frame.at,baseD,tX]
end
section
variable {X:Cx ag}
abbrev pk(ps:List ba)(i:Nat):ba:=ps.getD i (0,[])
def Jt{k n:Int}{ps:List ba}{r:Bs}(hi:i<ps.length)(h:dt k (pk ps i) n=aa r)(a:∀j,j<i->dt k (pk ps j) n=af):c6 k ps n=aa r:=by
 unfold c6;induction ps generalizing i with
 |nil=>grind
 |cons p ps ih =>
  cases i with
  |zero=>grind
  |succ i =>
   have b:=a 0 (by omega);grind
def DD{k n:Int}{ps:List ba}(a:∀j,j<ps.length->dt k (pk ps j) n=af):c6 k ps n=af:=by unfold c6;grind[List.getElem_of_mem]
theorem A2.U8{P:aM}{φ:Fr}{σ:List bd}{T:List (Nat×TI)}(e:c8 P T){fn:Func}{c:Nat}{res:D}{σ':List bd}(ks:List Nat){ps:List Prop}(h:Mf T fn.results.toList ks φ res=aa ps)(g:au ps)(l:jV ks σ=aa σ')(a:kJ σ'=ab)(i:dX ks=ab)(f:∀j,j<c->ks[j]?=aa j):
  A2 P fn c res σ' .ret φ σ:=by
 refine⟨.inl rfl,ks,?_⟩;unfold Mf at h;split at h
 .rename_i ds WN;split at h
  .rename_i d k;split at h
   .rename_i b;exact⟨d,ps,A1.U8 e WN k,h,g,b,l,a,i,f⟩
   grind
  grind
 grind
def tU{a:List Nat}:∀j,j<0->a[j]?=aa j:=λ_ h=>absurd h (gw _)
def Ju(b:dM X 196 oU)(k:Int)(ps:List ba)(n:Int)(g:cB k=ab):Ev X 123 [dI k,cP.sl ps,dI n] [] (Vs (c6 k ps n)) []:=by
 refine Ev.n7 Tryz.func123 rfl rfl rfl λm=>?_;have l:=m.sl 1 rfl;have d:bA X [(173,Fl aI (CK er) aI (λk p n=>zR (dt k p n)) λk _ _=>[cB k=ab])]:=.cons (QD b) .nil;refine bZ d rfl ar ?_;refine AK.bY 1 (λi=>i<=ps.length/\∀j,j<i->dt k (pk ps j) n=af) (λi:Nat=>[(0,dI k),(2,dI n),(6,.e (.one (.ptr 0 0))),(11,cP.sl ps),(12,dI ps.length),(13,dI i)]) (λ_=>[.cells 166 [.c (.str []),.c (.bool ae)]]) (λi=>ps.length-i) 0 rfl ?_ rfl ?_ rfl ⟨by omega,by omega⟩ ?_
 .simp
 .simp
 rintro i ⟨hi,a⟩;by_cases h:i<ps.length
 .cases f:dt k (pk ps i) n with
  |some r =>
   refine aR d [(14,ab),(24,ab)] rfl ?_ (AK.freeze 6 0 rfl rfl rfl (AK.eX ?_))
   .simp only[au,bL,er.list_fn];refine⟨?_,er.aO _,g,by omega,by omega,dh (by omega)⟩;grind
   .refine A2.U8 tok [] rfl ?_ rfl rfl rfl tU;rw[Jt h f a];simp only[bL,er.list_fn];have e:dt k ((ps.getD i cP.bR).1,(ps.getD i cP.bR).2) n=aa r:=f;rw[e];simp
  |none =>
   refine aR d [(14,ab),(24,ae)] rfl ?_ (AK.aQ (i+1) rfl ?_ ?_ ?_ ?_)
   .simp only[au,bL,er.list_fn];refine⟨by simp only[bw];omega,?_,er.aO _,g,by omega,by omega,dh (by omega)⟩;grind
   .simp
   .simp
   .grind
   grind
 .refine aR d [(14,ae)] rfl (by simp;omega) (AK.leaveD rfl rfl ?_);refine bZ d rfl ar ?_;refine AK.freeze 6 0 rfl rfl rfl ?_;refine AK.zh tok [] rfl ?_ rfl rfl rfl tU;rw[DD λj o=>a j (by omega)];simp
def QE(a:dM X 196 oU){k:Int}(b:cB k=ab):dM X 123 (lJ k):=by
 intro args σ res σ' obs h ho;unfold lJ at h;split at h
 .rename_i k1 da n;split at h
  .cases h
  .rename_i e f c;cases h;obtain⟨d,rfl⟩:=ho;exact(Ju a _ _ n b).args λs vs=>cg.imp (λ_ r=>r) (cg.imp (λ_ r=>cP.jD c d r) (cg.imp (λ_ r=>r) (λ_ r=>r))) vs
 grind
def Gs:dy:=λargs σ=>match args,σ with
 |[.e (.one (.c (.str [46]))),.e (.one (.c (.int .i64 c)))],[]=>aa (dS (List.replicate c.toNat 46),[],[0<=c/\c<=3])
 |_,_=>af
def t219:dM X 219 (kB aI (λn=>dI (cG n.toNat)) λn=>[0<=n/\n<=4000000]):=.ox λn h=>by
 have a:0<=n/\n<=4000000:=h;obtain⟨m,rfl⟩:∃m:Nat,n=m:=⟨n.toNat,by omega⟩
 exact BD (X:=X) m (by omega)
def Jv(b:1<=n)(a:n<=8):n<=cG n/\cG n<=n+3:=by unfold cG;grind
def Jw(b:dM X 218 Gs)(p:Bs):Ev X 196 [dS p] [] (dS (gq p)) []:=by
 refine Ev.bQ Tryz.func196 rfl λf=>?_;have d:bA X [(195,kB aS (λs=>dB (bG s)) λ_=>[]),(219,kB aI (λn=>dI (cG n.toNat)) λn=>[0<=n/\n<=4000000]),(218,Gs)]:=.cons t195 (.cons t219 (.cons b .nil));by_cases a:bG p=ab
 .have c:=a;simp only[bG,bS,bl]at c;have e:=Jv c.1.1 c.1.2;refine aR d [(5,ae)] rfl ?_ (AK.bo rfl ?_)
  .simp[a,bw];omega
  .simp[gq,a]
 .refine aR d [(5,ab)] rfl ?_ (AK.bo rfl ?_)
  .simp[a]
  .simp[gq,a]
def TC(a:dM X 218 Gs):dM X 196 oU:=.ox λp _=>Jw a p
def M8:Ev X 218 [dS [46],dI 0] [] (dS []) []:=by
 refine Ev.bQ Tryz.func218 rfl λa=>?_;refine aW [(12,ab)] rfl ?_ (AK.bo rfl)
 .simp
def M9:Ev X 218 [dS [46],dI 1] [] (dS [46]) []:=by
 refine Ev.bQ Tryz.func218 rfl λa=>?_;refine aW [(12,ae),(14,ab)] rfl ?_ (AK.bo rfl)
 .simp
def Tz(a:Ev X 218 [dS [46],dI 2] [] (dS [46,46]) [])(b:Ev X 218 [dS [46],dI 3] [] (dS [46,46,46]) []):dM X 218 Gs:=by
 intro args σ res σ' obs h ho;unfold Gs at h;split at h
 .rename_i c;cases h;have:c=0∨c=1∨c=2∨c=3:=by have:0<=c/\c<=3:=ho;omega
  rcases this with rfl|rfl|rfl|rfl
  .exact M8
  .exact M9
  .exact a
  grind
 grind
def Qy(a b:List Bs):Ev X 127 [cS.sl a,cS.sl b] [] (dB (a==b)) []:=by
 refine Ev.bQ Tryz.func127 rfl λk=>?_;have d:=k.sl 0 rfl;by_cases g:a.length=b.length
 .refine aW [(10,ae)] rfl (by simp[g]) ?_;refine AK.jA (λi=>i<=a.length/\∀j,j<i->a.getD j []=b.getD j []) (λi:Nat=>[(0,cS.sl a),(1,cS.sl b),(12,dI a.length),(13,dI i)]) (λ_=>[]) (λi=>a.length-i) 0 rfl ?_ rfl ar ⟨by omega,by omega⟩ ?_
  .simp
  rintro i ⟨hi,f⟩;by_cases h:i<a.length
  .by_cases c:a.getD i []=b.getD i []
   .refine aW [(14,ab),(24,ae)] rfl ?_ (AK.fK (i+1) rfl ?_ rfl ar ?_ ?_)
    .simp only[au,bL];have e:(a.getD i cS.bR==b.getD i cS.bR)=ab:=hO.2 c;exact⟨by simp only[bw];omega,by grind,by omega,by omega,by omega,by omega,dh (by omega)⟩
    .simp
    .grind
    .omega
   .refine aW [(14,ab),(24,ab)] rfl ?_ (AK.gU (cd.zero rfl ?_))
    .simp only[au,bL];grind
    .have:(a==b)=ae:=fy.2 (by grind);simp[this]
  .refine aW [(14,ae)] rfl (by simp;omega) (AK.leave rfl rfl ?_);refine bx rfl ar (AK.bo rfl ?_);have:a=b:=uk g λj c l=>by grind
   simp[this]
 .refine aW [(10,ab)] rfl ?_ (AK.bo rfl ?_)
  .simp;omega
  .have:(a==b)=ae:=fy.2 (by grind);simp[this]
end
def DH(h:o.op=.binOp op t x y ty){e:aw}(A:P.underlying t=aa (.pointer e)){b c:Bool}(z:∀s u v,aD σ s->dk σ s u (η x)->dk σ s v (η y)->∃p q,u=.pointer p/\v=.pointer q/\(p==q)=b/\(eqGuard op t x y u v).run P s.w=.ok () s.w/\(∀es,(eqGuard op t x y u v).events P s.w es=es) /\
   (Op.equal t u v).run P s.w=.ok b s.w/\∀es,(Op.equal t u v).events P s.w es=es)(k:lA op b=aa c):bD P o η σ (.e (.one (.c (.bool c)))) σ:=by
 refine .quiet λs B r n=>?_;obtain⟨p,q,f,g,C,j,l,i,m⟩:=z s _ _ r (n x) (n y);rw[f,g]at j i;have d:=l #[];have a:=m #[];rw[f,g]at d a;cases op<;>simp only[lA,reduceCtorEq,dx]at k
 .subst k;exact⟨.bool b,by simp[ak,h,f,g,j,binOp,i],Rd.bool,by simp[ak,h,f,g,j,d,binOp,i,a]⟩
 .subst k;exact⟨.bool (!b),by simp[ak,h,f,g,j,binOp,i],Rd.bool,by simp[ak,h,f,g,j,d,binOp,i,a]⟩
def Qt(h:o.op=.binOp op t x (.const (.pointer af)) ty){e:aw}(f:P.underlying t=aa (.pointer e)){c:Bool}(j:η x=.e (.one (.c .oG)))(l:η (.const (.pointer af))=.e (.one (.c .oG)))(k:lA op ab=aa c):bD P o η σ (.e (.one (.c (.bool c)))) σ:=by
 refine DH h f (b:=ab) ?_ k;intro s u v _ a d;rw[j]at a;rw[l]at d;replace a:=fH a;replace d:=fH d;cases a;cases d;have i:(Op.equal t (.pointer af) (.pointer af)).run P s.w=.ok ab s.w:=by show(Op.equalIn (9999+1) t _ _).run P s.w=_;unfold Op.equalIn;simp[underlying,f]
 have g:∀es,(Op.equal t (.pointer af) (.pointer af)).events P s.w es=es:=λes=>by show(Op.equalIn (9999+1) t _ _).events P s.w es=es;unfold Op.equalIn;simp[underlying,f]
 exact⟨af,af,rfl,rfl,rfl,by cases op<;>simp[eqGuard],λes=>by cases op<;>simp[eqGuard],i,g⟩
def Qu(h:o.op=.binOp op t x (.const (.pointer af)) ty){e:aw}(d:P.underlying t=aa (.pointer e)){c:Bool}(j:η x=.e (.one (.ptr l off)))(m:η (.const (.pointer af))=.e (.one (.c .oG)))(k:lA op ae=aa c):bD P o η σ (.e (.one (.c (.bool c)))) σ:=by
 refine DH h d (b:=ae) ?_ k;intro s u v _ g a;rw[j]at g;rw[m]at a;replace a:=fH a;cases a;obtain⟨_,L,b,_,_,rfl⟩:=(g:gd σ s u (.ptr l off));have i:(Op.equal t (.pointer (aa ⟨b,off,af⟩)) (.pointer af)).run P s.w=.ok ae s.w:=by show(Op.equalIn (9999+1) t _ _).run P s.w=_;unfold Op.equalIn;simp[underlying,d]
 have f:∀es,(Op.equal t (.pointer (aa ⟨b,off,af⟩)) (.pointer af)).events P s.w es=es:=λes=>by show(Op.equalIn (9999+1) t _ _).events P s.w es=es;unfold Op.equalIn;simp[underlying,d]
 exact⟨_,af,rfl,rfl,rfl,by cases op<;>simp[eqGuard],λes=>by cases op<;>simp[eqGuard],i,f⟩
def MX(h:o.op=.binOp op t x y ty){e:aw}(f:P.underlying t=aa (.pointer e))(m:n≠0)(p:∀w,(sizeOf e).run P w=.ok n w)(g:∀w es,(sizeOf e).events P w es=es){c:Bool}(z:η x=.e (.one (.ptr l off)))(C:η y=.e (.one (.ptr l off)))(A:lA op ab=aa c):bD P o η σ (.e (.one (.c (.bool c)))) σ:=by
 refine DH h f (b:=ab) ?_ A;intro s u v _ k q;rw[z]at k;rw[C]at q;obtain⟨_,L,b,B,i,rfl⟩:=(k:gd σ s u (.ptr l off));obtain⟨_,E,D,d,a,rfl⟩:=(q:gd σ s v (.ptr l off));rw[B]at d;cases d;rw[i]at a;cases a;have r:(Op.equal t (.pointer (aa ⟨b,off,af⟩)) (.pointer (aa ⟨b,off,af⟩))).run P s.w=.ok ab s.w:=by show(Op.equalIn (9999+1) t _ _).run P s.w=_;unfold Op.equalIn;simp[underlying,f,p,m,sameAddr]
 have j:∀es,(Op.equal t (.pointer (aa ⟨b,off,af⟩)) (.pointer (aa ⟨b,off,af⟩))).events P s.w es=es:=λes=>by show(Op.equalIn (9999+1) t _ _).events P s.w es=es;unfold Op.equalIn;simp[underlying,f,p,g,m,sameAddr]
 exact⟨_,_,rfl,rfl,by simp,by cases op<;>simp[eqGuard],λes=>by cases op<;>simp[eqGuard],r,j⟩
section
variable {X:Cx ag}
abbrev bB(a:Bool)(v1:ai)(bf:Option (Nat×Nat))(xs:Bs)(b:Nat):bd:=.cf (BB 215 5 a v1 bf xs b)
def By(v1:ai)(b:cW v1=ab)(bf:Option (Nat×Nat))(xs:Bs)(a:Nat):Ev X 208 [.e (.one (.ptr 0 0))] [bB ae v1 bf xs a] (.fw []) [bB ab v1 bf xs a]:=by
 refine Ev.bQ Tryz.func208 rfl λc=>?_;refine bx rfl ar ?_;refine AK.law (bD.Pq tok rfl rfl rfl rfl rfl) rfl rfl ?_;refine AK.law (Qt rfl Tryz.underlying213 rfl rfl rfl) rfl rfl ?_;refine bx rfl ar ?_;refine AK.law (bD.ZF rfl rfl Tryz.underlying213 Tryz.underlying199 (ff Tryz.type215) (by simp[Tryz.t215]) rfl) rfl rfl ?_;refine AK.law (bD.Sw Tryz.func221 (by kernel_rfl) (by kernel_rfl) (by kernel_rfl) (by kernel_rfl) rfl rfl rfl) rfl rfl ?_;refine AK.law (bD.Sv rfl rfl Tryz.underlying199 Tryz.underlying213 (ff Tryz.type215) (by simp[Tryz.t215]) (by kernel_rfl) rfl) rfl rfl ?_
 refine bx rfl ar ?_;refine AK.law (bD.L5 tok rfl rfl rfl rfl rfl rfl b) rfl rfl ?_;refine bx rfl ar ?_;exact cd.sI [0] rfl ar rfl rfl rfl (λj d=>by grind)
def Bz(v1:ai)(bf:Option (Nat×Nat))(xs:Bs)(a:Nat):Ev X 208 [.e (.one (.ptr 0 0))] [bB ab v1 bf xs a] (.fw []) [bB ab v1 bf xs a]:=by
 refine Ev.bQ Tryz.func208 rfl λb=>?_;refine bx rfl ar ?_;refine AK.law (bD.HP tok rfl rfl rfl rfl rfl) rfl rfl ?_;refine AK.law (Qu rfl Tryz.underlying213 rfl rfl rfl) rfl rfl ?_;refine bx rfl ar ?_;refine AK.law (bD.HP tok rfl rfl rfl rfl rfl) rfl rfl ?_;refine bx rfl ar ?_;refine AK.law (MX rfl Tryz.underlying213 (n:=2) (by decide) (λw=>by simp[sizeOf,typeInfo,ff Tryz.type215,Tryz.t215]) (λw es=>by simp[sizeOf,typeInfo,ff Tryz.type215]) rfl rfl rfl) rfl rfl ?_
 refine bx rfl ar ?_;exact cd.sI [0] rfl ar rfl rfl rfl (λj c=>by grind)
abbrev bb(a:Bool)(bf:Option (Nat×Nat))(xs:Bs)(b:Nat):bd:=bB a (oE bf xs.length) bf xs b
def lU:∀j,j<1->([0]:List Nat)[j]?=aa j:=λj a=>by grind
def zP(a:Bool)(bf:Option (Nat×Nat))(xs:Bs)(b:Nat)(c:xs.length<=9223372036854775807)(d:bf=af->xs=[]):Ev X 229 [.e (.one (.ptr 0 0))] [bb a bf xs b] (dI xs.length) [bb a bf xs b]:=by
 refine Ev.bQ Tryz.func229 rfl λf=>?_;refine bx rfl ar ?_;refine AK.law (bD.fb tok rfl rfl rfl rfl rfl) rfl rfl ?_;cases bf with
 |none =>
  have:=d rfl;subst this;refine AK.law (bD.tN rfl rfl Tryz.underlying22 rfl (by simp)) rfl rfl ?_;refine bx rfl ar (AK.dG [0] rfl ?_ rfl rfl rfl lU);simp
 |some p =>
  refine AK.law (bD.tN rfl rfl Tryz.underlying22 rfl c) rfl rfl ?_;refine bx rfl ar (AK.dG [0] rfl ?_ rfl rfl rfl lU);simp
def Dt(g cap:Nat)(xs s:Bs)(b:Nat)(f:s.length<=9223372036854775807)(a:xs.length+s.length<=cap):Ev X 180 [.e (.one (.ptr 0 0)),dS s] [bb ab (aa (g,cap)) xs b] (.fw [.one (.c (.int .i64 s.length)),.one (.c .oI)]) [bb ab (aa (g,cap)) (xs++s) b]:=by
 refine Ev.bQ Tryz.func180 rfl λd=>?_;refine bx rfl ar ?_;refine AK.cQ (Bz (oE (aa (g,cap)) xs.length) (aa (g,cap)) xs b) [0] rfl ?_;refine bx rfl ar ?_;refine AK.law (bD.fb tok rfl rfl rfl rfl rfl) rfl rfl ?_;refine bx rfl ar ?_;refine AK.law (bD.L6 (l:=0) (g:=g) (cap:=cap) (xs:=xs) rfl Tryz.underlying22 Tryz.underlying9 (ff Tryz.type5) (by simp[Tryz.t5]) rfl rfl rfl rfl a) rfl rfl ?_;refine bx rfl ar ?_;refine AK.law (bD.y5 tok rfl rfl rfl rfl rfl rfl rfl) rfl rfl ?_;have e:bb ab (aa (g,cap)) (xs++s) b=.cf (BB 215 5 ab (oE (aa (g,cap)) (xs.length+s.length)) (aa (g,cap)) (xs++s) b):=by grind
 rw[e];refine bx rfl ar (AK.dG [0] rfl ?_ rfl rfl rfl lU);simp
theorem Qv:Ev X 180 [.e (.one (.ptr 0 0)),dS []] [bb ab af [] 0] (.fw [.one (.c (.int .i64 0)),.one (.c .oI)]) [bb ab af [] 0]:=by refine Ev.bQ Tryz.func180 rfl λa=>?_;refine bx rfl ar ?_;refine AK.cQ (Bz (oE af 0) af [] 0) [0] rfl ?_;refine bx rfl ar ?_;refine AK.law (bD.fb tok rfl rfl rfl rfl rfl) rfl rfl ?_;refine bx rfl ar ?_;refine AK.law (bD.HS rfl Tryz.underlying22 Tryz.underlying9 (ff Tryz.type5) rfl rfl) rfl rfl ?_;refine bx rfl ar ?_;refine AK.law (bD.y5 tok rfl rfl rfl rfl rfl rfl rfl) rfl rfl ?_;refine bx rfl ar (AK.dG [0] rfl ?_ rfl rfl rfl lU);simp
abbrev dp:D:=.e (.one (.ptr 0 0))
abbrev LM:D:=.e (.one (.ptr 0 1))
def Du(g cap:Nat)(xs:Bs)(c:Nat)(a:xs.length<=9223372036854775807)(b:cap≠0):Ev X 181 [.e (.one (.ptr 0 0))] [bb ab (aa (g,cap)) xs c] (dS xs) [bb ab (aa (g,cap)) xs xs.length]:=by
 refine Ev.bQ Tryz.func181 rfl λd=>?_;refine aW [(1000001,ab)] rfl ar ?_;refine AK.LL di 10 (λi=>bu i 9) (λi=>[dp,dp,LM,.e (.one (.v (.slice (aa ⟨g,0,af⟩) xs.length cap))),.e (.one (.v (.pointer (aa ⟨g,0,af⟩)))),dp,dp,LM,.e (.one (.v (.slice (aa ⟨g,0,af⟩) xs.length cap))),dI xs.length].getD i .any) (λ(_:Unit) _=>dS xs)
  (λ_=>[bb ab (aa (g,cap)) xs xs.length]) rfl rfl rfl rfl rfl rfl ?_ ?_ ?_ ?_
 .refine⟨.dr tok bA.nil rfl,.dr tok bA.nil rfl,.dr tok bA.nil rfl,?_,?_,.dr tok bA.nil rfl,.dr tok bA.nil rfl,.dr tok bA.nil rfl,?_,?_,ar,ar,ar⟩
  .exact .law (bD.fb (l:=0) tok rfl rfl rfl rfl rfl) rfl
  .exact .law (bD.Sr rfl rfl b) rfl
  .exact .law (bD.fb (l:=0) tok rfl rfl rfl rfl rfl) rfl
  .exact .law (bD.tN rfl rfl Tryz.underlying22 rfl a) rfl
 .intro _;refine⟨.dr tok bA.nil rfl,.dr tok bA.nil rfl,.dr tok bA.nil rfl,?_,?_,.dr tok bA.nil rfl,.dr tok bA.nil rfl,.dr tok bA.nil rfl,?_,?_,ar,.dr tok bA.nil rfl,ar⟩
  .exact .law (bD.fb (l:=0) tok rfl rfl rfl rfl rfl) rfl
  .exact .law (bD.Sr rfl rfl b) rfl
  .exact .law (bD.fb (l:=0) tok rfl rfl rfl rfl rfl) rfl
  .exact .law (bD.tN rfl rfl Tryz.underlying22 rfl a) rfl
 .exact .xo (.law (Sp (l:=0) rfl Tryz.underlying245 (by kernel_rfl) rfl rfl rfl) rfl)
 .intro _;refine bx rfl ar (AK.dG [0] rfl ?_ rfl rfl rfl lU);simp
def Ty(h:o.op=.binOp .add t x y ty){b:Int}(d:η x=dI 0)(e:η y=dI b)(a:bw .i64 b):bD ag o η σ (dI b) σ:=by have:=bD.binOp (P:=ag) (σ:=σ) h d e (c:=.int .i64 (0+b)) (obs:=[bw .i64 (0+b)]) rfl (by rw[Int.zero_add];exact a);grind
def dL.OR{f:aJ}{fn:Func}{args:List D}{σ':ι->List bd}(d:Tryz.prog.funcs[f]?=aa fn)(b:(fn.name== "runtime.NumGoroutine")=ae)(hb:fn.body=aa c)(a:bu args.length fn.ntmps=ab)(h:AK X fn.ntmps (λe φ σ1=>∃j,cd fn σ.length (res j) (σ' j) e φ σ1) [.code c] .normal (jb 0 args) σ):dL X f args σ res σ' :=
 dL.intro d b hb (dJ a) (AK.of_code h)
def MY:Ev X 181 [.e (.one (.ptr 0 0))] [bb ab af [] 0] (dS []) [bb ab af [] 0]:=by
 refine Ev.bQ Tryz.func181 rfl λa=>?_;refine aW [(1000001,ab)] rfl ar ?_;refine AK.LL di 10 (λi=>bu i 9) (λi=>[dp,dp,LM,.e (.one (.v (.slice af 0 0))),.e (.one (.v (.pointer af))),dp,dp,LM,.e (.one (.v (.slice af 0 0))),dI (0:Nat)].getD i .any) (λ(_:Unit) _=>dS [])
  (λ_=>[bb ab af [] 0]) rfl rfl rfl rfl rfl rfl ?_ ?_ ?_ ?_
 .refine⟨.dr tok bA.nil rfl,.dr tok bA.nil rfl,.dr tok bA.nil rfl,?_,?_,.dr tok bA.nil rfl,.dr tok bA.nil rfl,.dr tok bA.nil rfl,?_,?_,ar,ar,ar⟩
  .exact .law (bD.fb (l:=0) tok rfl rfl rfl rfl rfl) rfl
  .exact .law (bD.Sq rfl rfl) rfl
  .exact .law (bD.fb (l:=0) tok rfl rfl rfl rfl rfl) rfl
  .exact .law (bD.tN rfl rfl Tryz.underlying22 rfl (by decide)) rfl
 .intro _;refine⟨.dr tok bA.nil rfl,.dr tok bA.nil rfl,.dr tok bA.nil rfl,?_,?_,.dr tok bA.nil rfl,.dr tok bA.nil rfl,.dr tok bA.nil rfl,?_,?_,ar,.dr tok bA.nil rfl,ar⟩
  .exact .law (bD.fb (l:=0) tok rfl rfl rfl rfl rfl) rfl
  .exact .law (bD.Sq rfl rfl) rfl
  .exact .law (bD.fb (l:=0) tok rfl rfl rfl rfl rfl) rfl
  .exact .law (bD.tN rfl rfl Tryz.underlying22 rfl (by decide)) rfl
 .exact .xo (.law (bD.Su rfl rfl rfl) rfl)
 .intro _;refine bx rfl ar (AK.dG [0] rfl ?_ rfl rfl rfl lU);simp
def MZ(n:Nat)(d:0<n)(b:n<=140737488355328):dL (ι:={p:Nat×Nat // n<=p.2}) X 209 [.e (.one (.ptr 0 0)),dI n] [bb ab af [] 0] (λ_=>.fw []) (λj=>[bb ab (aa j.1) [] 0]):=by
 refine dL.OR Tryz.func209 rfl rfl rfl ?_;refine aW [(1000000,ab)] rfl ar ?_;have a:bw .i64 (n:Int):=by simp only[bw];omega
 have v0:D:=.e (.one (.v (.slice af 0 0)));refine AK.LL (ι:={p:Nat×Nat // n<=p.2}) di 8 (λi=>bu i 7||(bu 9 i&&bu i 13)) (λi=>[dp,dp,LM,.e (.one (.v (.slice af 0 0))),dI (0:Nat),dI 0,dI n,dI n,.any,dp,dp,LM,.e (.one (.v (.slice af 0 0))),dI (0:Nat)].getD i .any)
  (λj i=>[.e (.one (.v (oE (aa j.1) n))),.any,.any,.any,.any,.any,.e (.one (.v (.slice (aa ⟨j.1.1,0,af⟩) 0 j.1.2))),.e (.one (.v (.slice (aa ⟨j.1.1,0,af⟩) 0 j.1.2)))].getD (i-8) .any)
  (λj=>[bB ab (.slice af 0 0) (aa j.1) [] 0]) rfl rfl rfl rfl rfl rfl ?_ ?_ ?_ ?_
 .refine⟨.dr tok bA.nil rfl,.dr tok bA.nil rfl,.dr tok bA.nil rfl,?_,?_,?_,.dr tok bA.nil rfl,?_,ar,.dr tok bA.nil rfl,.dr tok bA.nil rfl,.dr tok bA.nil rfl,?_,?_,ar,ar,ar⟩
  .exact .law (bD.fb (l:=0) tok rfl rfl rfl rfl rfl) rfl
  .exact .law (bD.L8 rfl rfl Tryz.underlying22 rfl (by decide)) rfl
  .exact .law (Jg 0 rfl rfl rfl (by simp[bw]) (λw=>rfl) (λw=>rfl)) rfl
  .exact .law (Ty rfl rfl rfl a) rfl
  .exact .law (bD.fb (l:=0) tok rfl rfl rfl rfl rfl) rfl
  .exact .law (bD.tN rfl rfl Tryz.underlying22 rfl (by decide)) rfl
 .intro j;have c:j.1.2≠0:=by grind
  refine⟨.dr tok bA.nil rfl,.dr tok bA.nil rfl,.dr tok bA.nil rfl,?_,?_,?_,.dr tok bA.nil rfl,?_,ar,.dr tok bA.nil rfl,.dr tok bA.nil rfl,.dr tok bA.nil rfl,?_,?_,?_,.dr tok bA.nil rfl,ar⟩
  .exact .law (bD.fb (l:=0) tok rfl rfl rfl rfl rfl) rfl
  .exact .law (bD.L8 rfl rfl Tryz.underlying22 rfl (by decide)) rfl
  .exact .law (Jg 0 rfl rfl rfl (by simp[bw]) (λw=>rfl) (λw=>rfl)) rfl
  .exact .law (Ty rfl rfl rfl a) rfl
  .exact .law (bD.fb (l:=0) tok rfl rfl rfl rfl rfl) rfl
  .exact .law (bD.tN rfl rfl Tryz.underlying22 rfl (by decide)) rfl
  .exact .law (bD.Ss (k:=0) rfl Tryz.underlying22 (ff Tryz.type5) rfl rfl (iN _) j.2 c (dm _ _ _)) rfl
 .exact .mK rfl (So (l:=0) (ps:=#[3]) Tryz.underlying22 Tryz.func222 (by kernel_rfl) (by kernel_rfl) (by kernel_rfl) (by kernel_rfl) rfl rfl rfl d b rfl)
 .intro j;refine bx rfl ar ?_;refine AK.law (bD.fb (l:=0) tok rfl rfl rfl rfl rfl) rfl rfl ?_;refine AK.law (bD.copyV rfl Tryz.underlying22 (ff Tryz.type5) rfl rfl) rfl rfl ?_;refine bx rfl ar ?_;refine AK.law (bD.y5 (l:=0) tok rfl rfl rfl rfl rfl rfl rfl) rfl rfl ?_;refine bx rfl ar ?_;exact⟨j,cd.sI [0] rfl ar rfl rfl rfl lU⟩
def Fi(n:Nat)(b:0<n)(a:n<=140737488355328):dL (ι:={p:Nat×Nat // n<=p.2}) X 179 [.e (.one (.ptr 0 0)),dI n] [bb ae af [] 0] (λ_=>.fw []) (λj=>[bb ab (aa j.1) [] 0]):=by
 refine dL.OR Tryz.func179 rfl rfl rfl ?_;refine bx rfl ar ?_;refine AK.cQ (By (oE af 0) rfl af [] 0) [0] rfl ?_;refine aW [(7,ae),(1000003,ab)] rfl ?_ ?_
 .simp
 refine AK.LL di 4 (λi=>bu i 3||(bu 5 i&&bu i 9)||av i 11) (λi=>[dp,dp,LM,.e (.one (.v (.slice af 0 0))),.any,dp,dp,LM,.e (.one (.v (.slice af 0 0))),dI (0:Nat),.any,dI n].getD i .any)
  (λ(_:Unit) i=>[dI (0:Nat),.any,.any,.any,.any,.any,dI (0-0),.any,dB ab].getD (i-4) .any)
  (λ_=>[bb ab af [] 0]) rfl rfl rfl rfl rfl rfl ?_ ?_ ?_ ?_
 .refine⟨.dr tok bA.nil rfl,.dr tok bA.nil rfl,.dr tok bA.nil rfl,?_,ar,.dr tok bA.nil rfl,.dr tok bA.nil rfl,.dr tok bA.nil rfl,?_,?_,ar,.dr tok bA.nil rfl,ar,ar⟩
  .exact .law (bD.fb (l:=0) tok rfl rfl rfl rfl rfl) rfl
  .exact .law (bD.fb (l:=0) tok rfl rfl rfl rfl rfl) rfl
  .exact .law (bD.tN rfl rfl Tryz.underlying22 rfl (by decide)) rfl
 .intro _;refine⟨.dr tok bA.nil rfl,.dr tok bA.nil rfl,.dr tok bA.nil rfl,?_,ar,.dr tok bA.nil rfl,.dr tok bA.nil rfl,.dr tok bA.nil rfl,?_,?_,?_,.dr tok bA.nil rfl,?_,ar⟩
  .exact .law (bD.fb (l:=0) tok rfl rfl rfl rfl rfl) rfl
  .exact .law (bD.fb (l:=0) tok rfl rfl rfl rfl rfl) rfl
  .exact .law (bD.tN rfl rfl Tryz.underlying22 rfl (by decide)) rfl
  .exact .eval (ds:=[]) tok bA.nil (obs:=[bw .i64 (((0:Nat):Int)-((0:Nat):Int))]) rfl (by simp[bw])
  .exact .eval (ds:=[(21,ab)]) tok bA.nil (obs:=[decide ((0:Int)-0<(n:Int))=ab]) rfl (by simp;omega)
 .exact .xo (.law (bD.L8 rfl rfl Tryz.underlying22 rfl (by decide)) rfl)
 .intro _;refine bx rfl ar ?_;refine AK.cP (MZ n b a) [0] rfl (λ_=>rfl) λj=>?_;refine bx rfl ar ?_;exact⟨j,cd.sI [0] rfl ar rfl rfl rfl lU⟩
def Jh:Ev X 179 [.e (.one (.ptr 0 0)),dI (0:Nat)] [bb ae af [] 0] (.fw []) [bb ab af [] 0]:=by
 refine Ev.bQ Tryz.func179 rfl λa=>?_;refine bx rfl ar ?_;refine AK.cQ (By (oE af 0) rfl af [] 0) [0] rfl ?_;refine aW [(7,ae),(1000003,ab)] rfl ?_ ?_
 .simp
 refine AK.LL di 4 (λi=>bu i 3||(bu 5 i&&bu i 9)||av i 11) (λi=>[dp,dp,LM,.e (.one (.v (.slice af 0 0))),.any,dp,dp,LM,.e (.one (.v (.slice af 0 0))),dI (0:Nat),.any,dI (0:Nat)].getD i .any)
  (λ(_:Unit) i=>[dI (0:Nat),.any,.any,.any,.any,.any,dI (0-0),.any,dB ae].getD (i-4) .any)
  (λ_=>[bb ab af [] 0]) rfl rfl rfl rfl rfl rfl ?_ ?_ ?_ ?_
 .refine⟨.dr tok bA.nil rfl,.dr tok bA.nil rfl,.dr tok bA.nil rfl,?_,ar,.dr tok bA.nil rfl,.dr tok bA.nil rfl,.dr tok bA.nil rfl,?_,?_,ar,.dr tok bA.nil rfl,ar,ar⟩
  .exact .law (bD.fb (l:=0) tok rfl rfl rfl rfl rfl) rfl
  .exact .law (bD.fb (l:=0) tok rfl rfl rfl rfl rfl) rfl
  .exact .law (bD.tN rfl rfl Tryz.underlying22 rfl (by decide)) rfl
 .intro _;refine⟨.dr tok bA.nil rfl,.dr tok bA.nil rfl,.dr tok bA.nil rfl,?_,ar,.dr tok bA.nil rfl,.dr tok bA.nil rfl,.dr tok bA.nil rfl,?_,?_,?_,.dr tok bA.nil rfl,?_,ar⟩
  .exact .law (bD.fb (l:=0) tok rfl rfl rfl rfl rfl) rfl
  .exact .law (bD.fb (l:=0) tok rfl rfl rfl rfl rfl) rfl
  .exact .law (bD.tN rfl rfl Tryz.underlying22 rfl (by decide)) rfl
  .exact .eval (ds:=[]) tok bA.nil (obs:=[bw .i64 (((0:Nat):Int)-((0:Nat):Int))]) rfl (by simp[bw])
  .exact .eval (ds:=[(21,ae)]) tok bA.nil (obs:=[decide ((0:Int)-0<((0:Nat):Int))=ae]) rfl (by simp)
 .exact .xo (.law (bD.L8 rfl rfl Tryz.underlying22 rfl (by decide)) rfl)
 .intro _;refine bx rfl ar ?_;exact cd.sI [0] rfl ar rfl rfl rfl lU
def Ji(h:o.op=.alloc 215):bD ag o η σ (.e (.one (.ptr σ.length 0))) (σ++[bb ae af [] 0]) :=
 bD.Pr h (λw=>by simp[zeroValue,typeInfo,ff Tryz.type215,Tryz.t215]) (λw es=>by simp)
def Jj{z:aC}{a b c:Int}(m:Int)(h:o.op=.call {callee:=.builtin .min,args:=#[x,y,z],argTypes:=jJ})(q:η x=dI a)(t:η y=dI b)(r:η z=dI c)(v:min (min a b) c=m)(p:bw .i64 m):bD ag o η σ (dI m) σ:=by
 refine .quiet λs n u d=>?_;have g:=d x;have k:=d y;have f:=d z;rw[q]at g;rw[t]at k;rw[r]at f;replace g:=fH g;replace k:=fH k;replace f:=fH f;generalize l:n x=vx at g;generalize j:n y=vy at k;generalize i:n z=vz at f;cases g;cases k;cases f;have e:(if c<(if b<a then b else a)then c else if b<a then b else a)=m:=by grind
 exact⟨.int .i64 m,by simp[ak,h,resolve,invoke,builtin,l,j,i,Builtin.min_,Builtin.min2,e],.int p,by simp[ak,h,resolve,invoke,builtin,l,j,i,Builtin.min_,Builtin.min2]⟩
def Jk(n:Nat)(q:2<=n)(l:n<=3):Ev X 218 [dS [46],dI n] [] (dS (List.replicate n 46)) []:=by
 refine Ev.bQ Tryz.func218 rfl λo=>?_;have a:bA X [(228,Qw)]:=.cons t228 .nil;refine bq a [(13,ae),(15,ae),(18,ae),(30,ae),(33,ae),(40,ae),(44,ae),(45,ae),(46,ae),(47,ae),(48,ae),(96,ae),(1000035,ab)] rfl ?_ ?_
 .have h:(n:Int)=2∨(n:Int)=3:=by omega
  have e:(iG [46] 0).toNat=46:=rfl;simp[bw,e,h];omega
 refine AK.region ?_;refine AK.law (Ji rfl) rfl rfl ?_;refine cJ a rfl ar ?_;refine AK.cP (Fi n (by omega) (by omega)) [0] rfl (λ_=>rfl) λj=>?_;obtain⟨⟨g,cap⟩,b⟩:=j;have b:n<=cap:=b;refine cJ a rfl ar ?_;refine AK.cQ (Dt g cap [] [46] 0 (by simp) (by simp;omega)) [0] rfl ?_;refine cJ a rfl ar ?_;refine AK.jA (λk=>1<=k/\k<=n) (λk:Nat=>[(0,dS [46]),(7,dI n),(8,dI n),(9,.e (.one (.ptr 0 0)))]) (λk=>[bb ab (aa (g,cap)) (List.replicate k 46) (k-1)]) (λk=>n-k) 1 rfl ?_ rfl ?_ ⟨by omega,by omega⟩ ?_
 .simp
 .exact au.cat.2 ⟨rfl,ar⟩
 rintro k ⟨f,d⟩;refine cJ a rfl ar ?_;refine AK.cQ (zP ab (aa (g,cap)) (List.replicate k 46) (k-1) (by simp;omega) (by simp)) [0] rfl ?_;by_cases p:k<n
 .refine bq a [(113,ab)] rfl ?_ ?_
  .simp;omega
  refine AK.cQ (zP ab (aa (g,cap)) (List.replicate k 46) (k-1) (by simp;omega) (by simp)) [0] rfl ?_;refine cJ a rfl ?_ ?_
  .simp[bw];omega
  refine AK.cQ (zP ab (aa (g,cap)) (List.replicate k 46) (k-1) (by simp;omega) (by simp)) [0] rfl ?_;refine cJ a rfl ar ?_;refine AK.law (Jj 1 rfl rfl rfl rfl (by simp;omega) (by simp[bw])) rfl rfl ?_;refine cJ a rfl ar ?_;refine AK.cQ (Du g cap (List.replicate k 46) (k-1) (by simp;omega) (by omega)) [0] rfl ?_;have c:rB (List.replicate k (46:UInt8)) af (aa 1)=[46]:=by
   obtain⟨m,rfl⟩:∃m,k=m+1:=⟨k-1,by omega⟩
   simp[rB,List.replicate_succ]
  refine cJ a rfl ?_ ?_
  .simp;omega
  rw[c];refine AK.cQ (Dt g cap (List.replicate k 46) [46] (List.replicate k 46).length (by simp) (by simp;omega)) [0] rfl ?_;have i:List.replicate k (46:UInt8)++[46]=List.replicate (k+1) 46:=by rw[List.replicate_succ']
  rw[i];refine cJ a rfl ar (AK.fK (k+1) rfl ?_ rfl ?_ ⟨by omega,by omega⟩ (by omega))
  .simp
  .refine au.cat.2 ⟨?_,ar⟩;simp
 .refine bq a [(113,ae)] rfl ?_ (AK.leave rfl rfl ?_)
  .simp;omega
  have e:k=n:=by omega
  subst e;refine cJ a rfl ar ?_;refine AK.cQ (Du g cap (List.replicate k 46) (k-1) (by simp;omega) (by omega)) [0] rfl ?_;exact cJ a rfl ar (AK.bo rfl)
def W7:dM X 218 Gs:=Tz (Jk 2 (by omega) (by omega)) (Jk 3 (by omega) (by omega))
def TB:dM X 196 oU:=TC W7
def Room(bf:Option (Nat×Nat))(n:Nat):Prop:=match bf with|none=>n=0|some (_,cap)=>n<=cap/\0<cap
def _root_.Go.AM.dL.re{b:Type}{X:Cx P}{f:aJ}{args:List D}{σ':ι->List bd}{a:b->D}{σ2:b->List bd}(h:dL X f args σ res σ')(g:ι->b)(d:∀i,a (g i)=res i)(c:∀i,σ2 (g i)=σ' i):dL X f args σ a σ2 :=
 ⟨h.1,λs vs h1 h2 S cs hS=>h.2 s vs h1 h2 S cs λi fr v s' k1 k2 k3 k4=>hS (g i) fr v s' k1 (by grind) (by grind) (by grind)⟩
def Jl(n:Nat)(a:n<=140737488355328):dL (ι:={bf:Option (Nat×Nat) // Room bf n}) X 179 [.e (.one (.ptr 0 0)),dI n] [bb ae af [] 0] (λ_=>.fw []) (λj=>[bb ab j.1 [] 0]):=by
 by_cases h:n=0
 .subst h;exact Jh.HX.re (λ_=>⟨af,rfl⟩) (λ_=>rfl) (λ_=>rfl)
 .exact(Fi n (by omega) a).re (λp=>⟨aa p.1,p.2,by grind⟩) (λ_=>rfl) (λ_=>rfl)
def Dv(bf:Option (Nat×Nat))(xs s:Bs)(a:s.length<=9223372036854775807)(h:Room bf (xs.length+s.length)):Ev X 180 [.e (.one (.ptr 0 0)),dS s] [bb ab bf xs 0] (.fw [.one (.c (.int .i64 s.length)),.one (.c .oI)]) [bb ab bf (xs++s) 0]:=by
 cases bf with
 |none =>
  have h:xs.length+s.length=0:=h;grind[Qv]
 |some p=>exact Dt p.1 p.2 xs s 0 a h.1
def shown(bf:Option (Nat×Nat))(xs:Bs):Nat:=match bf with|none=>0|some _=>xs.length
def M3(bf:Option (Nat×Nat))(xs:Bs)(a:xs.length<=9223372036854775807)(h:Room bf xs.length):Ev X 181 [.e (.one (.ptr 0 0))] [bb ab bf xs 0] (dS xs) [bb ab bf xs (shown bf xs)]:=by
 cases bf with
 |none =>
  have h:xs.length=0:=h;have b:xs=[]:=jg h;subst b;exact MY
 |some p=>exact Du p.1 p.2 xs 0 a (by have:=h.2;omega)
def Fj(l:List Bs)(i:Nat):Bs:=(l.take i).flatten
def Jm{l:List Bs}(h:i<l.length):Fj l (i+1)=Fj l i++l.getD i []:=by unfold Fj;grind[List.take_add_one]
def TD{l:List Bs}:Fj l l.length=l.flatten:=by simp[Fj]
def Jn{l:List Bs}(i:Nat):(Fj l i).length<=l.flatten.length:=by
 have e:l.flatten=(l.take i).flatten++(l.drop i).flatten:=by grind[List.take_append_drop]
 rw[e,cv];simp only[Fj];omega
def M4(l:List Bs)(o:l.flatten.length<=140737488355328):Ev X 125 [cS.sl l,dS []] [] (dS l.flatten) []:=by
 refine Ev.bQ Tryz.func125 rfl λs=>?_;have g:=s.sl 0 rfl;by_cases m:l=[]
 .subst m;refine aW [(14,ab)] rfl ?_ (AK.bo rfl)
  .simp
 by_cases r:l.length=1
 .obtain⟨x,rfl⟩:=List.length_eq_one_iff.1 r;refine aW [(14,ae),(16,ab)] rfl ?_ (AK.bo rfl ?_)
  .simp
  .simp[cS,jY.fn]
 have v:2<=l.length:=by
  have:l.length≠0:=by grind
  omega
 refine aW [(14,ae),(16,ae),(22,ae)] rfl ?_ ?_
 .simp[m];omega
 refine AK.jA (λi=>i<=l.length) (λi:Nat=>[(0,cS.sl l),(1,dS []),(5,dI (Fj l i).length),(39,cS.sl l),(40,dI l.length),(41,dI i)]) (λ_=>[]) (λi=>l.length-i) 0 rfl ?_ rfl ar (by omega) ?_
 .simp[Fj]
 .intro i hi;have u:=Jn (l:=l) i;by_cases h:i<l.length
  .have d:=Jn (l:=l) (i+1);rw[Jm h,cv]at d;refine aW [(42,ab),(49,ae)] rfl ?_ (AK.fK (i+1) rfl ?_ rfl ar (by omega) (by omega))
   .have e:(l.getD (i:Int).toNat cS.bR)=l.getD i []:=rfl;simp only[au,bw,e];grind
   .have e:(l.getD (i:Int).toNat cS.bR)=l.getD i []:=rfl;rw[Jm h];rw[e];simp
  .have e:i=l.length:=by omega
   subst e;refine aW [(42,ae),(1000018,ab)] rfl ?_ (AK.leave rfl rfl ?_)
   .simp
   refine aW [(1000018,ab)] rfl ar ?_;refine AK.region ?_;refine AK.law (Ji rfl) rfl rfl ?_;refine c9 rfl ar ?_;rw[TD];refine AK.cP (Jl l.flatten.length o) [0] rfl (λ_=>rfl) λj=>?_;obtain⟨bf,b⟩:=j;refine c9 rfl ?_ ?_
   .exact⟨by omega,show(0:Int)<(l.length:Int) by omega⟩
   have room:∀n,n<=l.flatten.length->Room bf n:=λn t=>by
    cases bf with
    |none =>
     have:l.flatten.length=0:=b;grind
    |some p=>exact⟨dO t b.1,b.2⟩
   have k:Fj l 1=l.getD 0 []:=by rw[Jm (by omega)];simp[Fj]
   have f:=Jn (l:=l) 1;rw[k]at f;refine AK.cQ (Dv bf [] (l.getD 0 []) (by omega) (room _ (by grind))) [0] rfl ?_;refine c9 rfl ?_ ?_
   .exact⟨by omega,show(1:Int)<=(l.length:Int) by omega⟩
   refine AK.jA (λi=>i+1<=l.length) (λi:Nat=>[(1,dS []),(8,.e (.one (.ptr 0 0))),(63,.e (.one (.c (.sl ae 1 (l.length-1) (kX 1 (cS.fn l)))))),(64,dI (l.length-1:Nat)),(65,dI i)]) (λi=>[bb ab bf (Fj l (i+1)) 0]) (λi=>l.length-i) 0 rfl ?_ rfl ?_ (by omega) ?_
   .simp[cq]
   .refine au.cat.2 ⟨?_,ar⟩;rw[br,k];exact rfl
   intro i hi;have q:=Jn (l:=l) (i+1);by_cases h:i+1<l.length
   .have a:=Jn (l:=l) (i+2);rw[Jm h,cv]at a;refine aW [(66,ab)] rfl ?_ ?_
    .exact⟨by omega,by omega,dh (by omega)⟩
    refine AK.cQ (Dv bf (Fj l (i+1)) [] (by simp) (room _ (by grind))) [0] rfl ?_;rw[jR];refine bx rfl ar ?_;refine AK.cQ (Dv bf (Fj l (i+1)) (l.getD (1+i) []) (by grind) (room _ (by grind))) [0] rfl ?_;refine bx rfl ?_ (AK.fK (i+1) rfl ?_ rfl ?_ (by omega) (by omega))
    .simp only[au,bw];omega
    .simp
    .refine au.cat.2 ⟨?_,ar⟩;rw[Jm h,Nat.add_comm 1 i];exact rfl
   .have e:i+1=l.length:=by omega
    refine aW [(66,ae)] rfl ?_ (AK.leave rfl rfl ?_)
    .exact gL (by omega)
    rw[e,TD];refine bx rfl ar ?_;refine AK.cQ (M3 bf l.flatten (by omega) (room _ (by omega))) [0] rfl ?_;exact bx rfl ar (AK.bo rfl)
def Gw{s:Bs}(h:b6 s=ab)(i:Nat)(hi:i<s.length):97<=cw s i/\cw s i<=122:=by have a:=List.all_eq_true.1 h (s.getD i 0) (by grind);simp only[eF,bS,bl]at a;unfold cw;omega
def BG(s:Bs)(i:Nat)(a:b6 s=ab)(f:3<=i)(hi:i<=s.length)(e:s.length<=4000000):Ev X 223 [dS s,dI i] [] (dB (iD s i)) []:=by
 refine Ev.bQ Tryz.func223 rfl λg=>?_;have k:=Gw a (i-1) (by omega);have h:=Gw a (i-2) (by omega);have j:=Gw a (i-3) (by omega);have b:((iG s ((i:Int)-1)).toNat:Int)=cw s (i-1):=by grind[cz]
 have d:((iG s ((i:Int)-2)).toNat:Int)=cw s (i-2):=by grind[cz]
 have c:((iG s ((i:Int)-3)).toNat:Int)=cw s (i-3):=by grind[cz]
 refine bx rfl ?_ (AK.bo rfl ?_)
 .simp only[au,bw,b,d,c];omega
 .simp only[au,au.cat,b,d,c,iD,dl,aE];grind
def Gx:dM X 223 (oa aS aI (λs i=>dB (iD s i.toNat)) λs i=>[b6 s=ab,3<=i,i<=s.length,s.length<=4000000]):=.qC λs i h=>by
 obtain⟨b,c,d,a⟩:=h;obtain⟨m,rfl⟩:∃m:Nat,i=m:=⟨i.toNat,by omega⟩
 exact BG s m b (by omega) (by omega) a
def zV{a b:Int}(m:Int)(h:o.op=.call {callee:=.builtin .min,args:=#[x,y],argTypes:=jJ})(l:η x=dI a)(n:η y=dI b)(q:min a b=m)(k:bw .i64 m):bD ag o η σ (dI m) σ:=by
 refine .quiet λs j p c=>?_;have d:=c x;have g:=c y;rw[l]at d;rw[n]at g;replace d:=fH d;replace g:=fH g;generalize i:j x=vx at d;generalize f:j y=vy at g;cases d;cases g;have e:(if b<a then b else a)=m:=by grind
 exact⟨.int .i64 m,by simp[ak,h,resolve,invoke,builtin,i,f,Builtin.min_,Builtin.min2,e],.int k,by simp[ak,h,resolve,invoke,builtin,i,f,Builtin.min_,Builtin.min2]⟩
theorem Jy{t:Bs}{f:Nat}(h:t.length<=f+3+j)(c:j<=5):sO t f (5-j)=min (f+8) t.length:=by
 rcases cA j 5 with b|b
 .obtain⟨k,a⟩:∃k,5-j=k+1:=⟨4-j,by omega⟩
  rw[a];simp only[sO];grind
 .rw[show 5-j=0 by omega];rfl
def Gy(t:Bs)(f:Nat)(m:b6 t=ab)(o:f<=t.length)(p:t.length<=4000000):Ev X 211 [dS t,dI f] [] (dI (cutAt t f)) []:=by
 refine Ev.bQ Tryz.func211 rfl λq=>?_;have a:bA X [(223,oa aS aI (λs i=>dB (iD s i.toNat)) λs i=>[b6 s=ab,3<=i,i<=s.length,s.length<=4000000])]:=.cons Gx .nil;refine bZ a rfl ?_ ?_
 .simp[bw];omega
 refine AK.jA (λj=>j<=5/\sO t f (5-j)=cutAt t f) (λj:Nat=>[(0,dS t),(1,dI f),(5,dI (f+3+j))]) (λ_=>[]) (λj=>5-j) 0 rfl ?_ rfl ar ⟨by omega,rfl⟩ ?_
 .simp
 rintro j ⟨r,b⟩;by_cases h:j<5/\f+3+j<t.length
 .obtain⟨k,n⟩:∃k,5-j=k+1:=⟨4-j,by omega⟩
  have g:f+(7-k)=f+3+j:=by omega
  rw[n]at b;simp only[sO,g]at b;rw[a9 (by omega)]at b;have e:((f:Int)+3+j).toNat=f+3+j:=by omega
  cases c:iD t (f+3+j)with
  |true =>
   rw[c,bn rfl]at b;refine aR a [(11,ab),(16,ab),(22,ab)] rfl ?_ (AK.gU (cd.zero rfl ?_))
   .simp only[au,bw,e,c,m,bl,eq_self,aH,aE];omega
   .simp[<-b]
  |false =>
   rw[c,a9 (by simp)]at b;refine aR a [(11,ab),(16,ab),(22,ae)] rfl ?_ (AK.fK (j+1) rfl ?_ rfl ar ⟨by omega,by grind⟩ (by omega))
   .simp only[au,bw,e,c,m,bl,eq_self,aH,aE];omega
   .simp;omega
 .have e:cutAt t f=min (f+8) t.length:=by
   rw[<-b];rcases cA j 5 with d|d
   .grind [Jy]
   .rw[show 5-j=0 by omega];rfl
  have l:bw .i64 ((min (f+8) t.length:Nat):Int):=by simp only[bw];omega
  rcases cA j 5 with d|d
  .refine aR a [(11,ab),(16,ae)] rfl ?_ (AK.leave rfl rfl ?_)
   .simp only[au,bw,bl,b7];omega
   refine bZ a rfl ?_ ?_
   .simp only[au,bw];omega
   refine AK.law (zV ((min (f+8) t.length:Nat):Int) rfl rfl rfl (by omega) l) rfl rfl ?_;refine bZ a rfl ar (AK.bo rfl ?_);simp[e]
  .refine aR a [(11,ae)] rfl ?_ (AK.leave rfl rfl ?_)
   .simp only[au,bw,bl,b7];omega
   refine bZ a rfl ?_ ?_
   .simp only[au,bw];omega
   refine AK.law (zV ((min (f+8) t.length:Nat):Int) rfl rfl rfl (by omega) l) rfl rfl ?_;refine bZ a rfl ar (AK.bo rfl ?_);simp[e]
def QG:dM X 211 (oa aS aI (λs i=>dI (cutAt s i.toNat)) λs i=>[b6 s=ab,0<=i,i<=s.length,s.length<=4000000]):=.qC λs i h=>by
 obtain⟨b,c,d,a⟩:=h;obtain⟨m,rfl⟩:∃m:Nat,i=m:=⟨i.toNat,by omega⟩
 exact Gy s m b (by omega) a
abbrev OU(t:Bs):C:=.fn (.func 210) [] [.rp [.str t]]
theorem Na(t:Bs):Ev X 183 [dS t] [] (.e (.one (.c (OU t)))) []:=by refine Ev.bQ Tryz.func183 rfl λa=>?_;refine DC [] 5 rfl ar ?_;refine AK.freeze 1 0 rfl rfl rfl ?_;exact bx rfl ar (AK.bo rfl)
def Gz{T:Type}(text:Bs)(r:b6 text=ab)(v:text.length<=4000000){k:Nat}{a:Fr}{l:Loop}(g B1 B2:T->bd)(R:Nat->T->Prop)(j:T)(u:R 0 j)(o:∀t,g t≠.qp/\B1 t≠.qp/\B2 t≠.qp)(b:∀f t,f<text.length->R f t->Yields (ι:={d:T // R (cutAt text f) d}) X 3 [dI f,dI (cutAt text f)] [g t,B1 t,B2 t,.loop k a l] ab (λd=>[g d.1,B1 d.1,B2 d.1,.loop k a l])):
  dL (ι:={t:T // R text.length t}) X 210 [.e (.one (.ref 3)),.e (.one (.c (.rp [.str text])))] [g j,B1 j,B2 j,.loop k a l] (λ_=>.fw []) (λi=>[g i.1,B1 i.1,B2 i.1,.loop k a l]):=by
 refine dL.De Tryz.func210 rfl rfl rfl (AK.of_code ?_);have m:bA X [(211,oa aS aI (λs i=>dI (cutAt s i.toNat)) λs i=>[b6 s=ab,0<=i,i<=s.length,s.length<=4000000])]:=.cons QG .nil;refine bZ m rfl ar ?_;show AW X _ (.loop _) _ _ _;refine AW.loop (S:=T×Nat) (λx=>x.2<=text.length/\R x.2 x.1) (λx=>[(0,.e (.one (.ref 3))),(1,.e (.one (.c (.rp [.str text])))),(3,dI x.2)]) (λx=>[g x.1,B1 x.1,B2 x.1,.loop k a l]) (λx=>text.length-x.2) (j,0) ⟨iN _,u⟩ (dv rfl (by simp)) rfl ?_;rintro⟨t,f⟩ ⟨q,p⟩;simp only at q p;refine AK.of_code ?_;by_cases h:f<text.length
 .have n:=mX text f h;refine aR m [(8,ab)] rfl ?_ ?_
  .simp only[au,r,bl,eq_self,aH,aE];omega
  refine AK.yield (b f t h p) rfl rfl rfl rfl rfl rfl λd=>?_;refine aR m [(16,ae)] rfl ?_ ?_
  .simp
  refine⟨(d.1,cutAt text f),⟨n.2.1,d.2⟩,?_,dv rfl (by simp),rfl⟩;grind
 .have e:f=text.length:=by omega
  subst e;refine aR m [(8,ae)] rfl ?_ ?_
  .simp
  refine AK.IV rfl rfl ?_;exact⟨⟨t,p⟩,.inr rfl,rfl,jX (o t).1 (jX (o t).2.1 (jX (o t).2.2 rfl)),[],.fw [],[],rfl,rfl,rfl,ar⟩
end
section
open Go.Proofs Go.Conc Go.Conc.Lib Go.ConcR.Gen
open Go.ConcN (WgLive PayAt Has RW AtR0)
open Go.ConcN.Gen
open Go.ConcR (KK WgAt stA smA rd wr mk Payload DC0)
def JD:JA=#[{dst:=af,op:=.defer {callee:=.value (.func 122),args:=#[.tmp 0],argTypes:=#[164]},type:=0,pos:= "l12_snap.go:81",after:=#[],guard:=af}]:=by kernel_rfl
def bW(a:ai):aU:={baseD 121 with defers:=[dcall 122 #[a]]}
abbrev tW(v0 v1 v2 v3 v4 v5:ai):Array ai:=#[v0,v1,v2,v3,v4,v5,ah,ah,ah,ah,ah,ah,ah]
def QJ(v0 v1 v2 v3 v4 v5:ai)(w:aA):Goes ag ae (λ_ _=>True) DC0 (λg _=>g=G ((bW v0).aT ⟨tW v0 v1 v2 v3 v4 v5,[]⟩ [.code (.region 1 JB ab)]) [tX]) 8 (born ag (vW #[v0,v1,v2,v3,v4,v5])) w:=by
  have a:True:=ar;have b:True->True->True:=λ_ _=>trivial;refine Goes.step rfl (λw1 h1=>?_);rw[GF];simp only[goes_go];refine⟨⟨rfl,rfl⟩,?_⟩;clear h1;rw[JD]
  u_c az b a
  u_reg b a
  u_defer b a
  u_c ay b a
  exact Goes.stop λ_ _=>rfl
def Xb(T:Array ai):QuitsD ag 2 0 (G {(baseD 121).at ⟨T,[]⟩ []with mode:=.returning} [tX]):=by
  have a:Tryz.f121.results=#[]:=by kernel_rfl
  refine QuitsD.ctl (g':=G tX []) rfl (λw=>?_) ?_
  · simp[G,aG,unwind,doReturn,results,Frame.at,baseD,tX,Tryz.func121,a,seen,GStep.after,goexitEntry]
  refine QuitsD.ctl (g':={G tX []with status:=.finished}) rfl (λw=>?_) ⟨rfl,rfl⟩;simp[G,aG,unwind,tX,goexitEntry,Frame.catches];rfl
section
variable {Y:Lay}
def tailW(x:Nat)(d:Y.kc=2)(T:Array ai)(w:aA)(a:WgLive 164 Y.Wg w/\Has Y.C (Y.kc*x+1-1) (val x 0) w):
    ∃m,Goes ag ae (RW 164 Y.Wg Y.C (2*n) 0 (Y.kc*x+1-1)) DC0 (AtR0 ag 164 Y.Wg Y.C (2*n) 0 (Y.kc*x+1) (val x 0)) m (G ((bW (.pointer (aa ⟨Y.Wg,0,af⟩))).aT ⟨T,[]⟩ [.inRegion tV.toArray []]) [tX]) w:=by
  refine⟨26,?_⟩;have e:(bW (.pointer (aa ⟨Y.Wg,0,af⟩))).aT ⟨T,[]⟩ [.inRegion tV.toArray []]=(baseD 121).at ⟨T,[dcall 122 #[.pointer (aa ⟨Y.Wg,0,af⟩)]]⟩ [.inRegion tV.toArray []]:=rfl;rw[e]
  u_c ay kn_rely a
  u_c stepG_end kn_rely a
  u_in kn_rely a
  rw[stepG_unwind_enter (c:=body_done OW) rfl BK.f_done (by kernel_rfl) (by kernel_rfl)];simp only[goes_go];refine⟨by u_nil,?_⟩;have b:=TO (P:=ag) (L:=OW) (Wg:=Y.Wg) (C:=Y.C) (n:=2*n) (Low:=0) (x:=Y.kc*x+1) (val:=val x 0) (c:={(baseD 121).at ⟨T,[]⟩ []with mode:=.returning}) (cs:=[tX]) BK rfl (Xb T) _ a;exact b
def rd_str{l:Bs}(h:Rd M v (.str l)):v=.string ⟨l.toArray⟩:=by
  cases h with
  | str h1 h2=>rw[<-h1]
def rd_bool{b:Bool}(h:Rd M v (.bool b)):v=.bool b:=by cases h;rfl
def Sc:aB:=oW af (.store 166 (.tmp 12) (.tmp 11)) 0 #[⟨6,.data⟩,⟨5,.data⟩,⟨5,.chain⟩,⟨0,.phase⟩,⟨1,.phase⟩,⟨2,.phase⟩,⟨3,.phase⟩,⟨4,.phase⟩,⟨5,.phase⟩]
def TP{x:Nat}(hx:x<n)(D:Y.kc=2){k:Int}{ps:List ba}{I:Int}(E:val x 0=.string ⟨((c6 k ps I).getD []).toArray⟩)(B:val x 1=.bool (c6 k ps I).isSome){T:Array ai}(m:dk [] s (T.getD 12 ah) (xW k ps I n x Y.C 6))(p:dk [] s (T.getD 11 ah) (Vs (c6 k ps I))):
    Ix ag 164 Y (2*n) val x (G ((bW (.pointer (aa ⟨Y.Wg,0,af⟩))).aT ⟨T,[]⟩ [.inRegion tV.toArray [7]]) [tX]) s:=by
  have m:T.getD 12 ah=.pointer (aa ⟨Y.C,x*2,af⟩):=Rd.fj m;have p:T.getD 11 ah=.agg #[val x 0,val x 1]:=by
    obtain⟨vs,S,d⟩:=p
    match vs,d with
    | [],d=>exact d.elim
    | [_],d=>exact d.2.elim
    | _::_::_::_,d=>exact d.2.2.elim
    | [u0,u1],d =>
      rw[S,rd_str d.1,rd_bool d.2.1,E,B]
  refine⟨rfl,λw1 hr IE JE=>?_⟩;obtain⟨cs,c,U⟩:=IE;have K:Y.kc*x=x*2:=by grind
  have A:∀v∈[val x 0,val x 1],v.oneCell'=ab:=by
    intro v N;simp only[dK,nt,or_false]at N;rcases N with rfl|rfl
    · rw[E];rfl
    · rw[B];rfl
  have r:x*2+0+[val x 0,val x 1].length<=cs.size:=by grind
  have g:=run_storeCells_at ag Y.C (x*2) 166 [val x 0,val x 1] 0 cs w1 c r A;simp only[hI,gb,jk,br]at g;generalize q:(cs.toList.take (x*2)++[val x 0,val x 1]++cs.toList.drop (x*2+2)).toArray=new at g;have V:new.size=cs.size:=by grind
  have u:=setRow_heap w1 Y.C cs new 166 (0,0) c;have y:∀o,(w1.setRow Y.C new).cell? ⟨Y.C,o,af⟩=new[o]?:=λo=>cell_setRow_same w1 Y.C o cs new 166 (0,0) c;have J:∀o,w1.cell? ⟨Y.C,o,af⟩=cs[o]?:=λo=>by simp[aV,c]
  have W:∀i,i<2->new[x*2+i]?=aa (val x i):=by
    intro i hi;rw[<-q];have L:(cs.toList.take (x*2)).length=x*2:=by grind
    rw[jP];simp only[g8];rw[fx (by omega),L]
    match i,hi with
    | 0,_=>simp
    | 1,_=>simp
  have P:∀o,(o<x*2∨x*2+2<=o)->new[o]?=cs[o]?:=by
    intro o ho;rw[<-q];have L:(cs.toList.take (x*2)).length=x*2:=by grind
    rw[jP];simp only[g8];rcases ho with ho|ho
    · grind
    · rw[fx (by omega),L,fx (by grind)]
      simp only[gb,jk,oy];rw[show x*2+2+(o-x*2-(0+1+1))=o by omega];simp
  have H:(Value.agg #[val x 0,val x 1]).cells=#[val x 0,val x 1]:=rfl;have z:(ak (⟨T,[]⟩:Act).eval Sc).run ag w1=.ok .skip (w1.setRow Y.C new):=by have w:(⟨T,[]⟩:Act).eval (.tmp 12)=.pointer (aa ⟨Y.C,x*2,af⟩):=m;have t:(⟨T,[]⟩:Act).eval (.tmp 11)=.agg #[val x 0,val x 1]:=p;simp[ak,Sc,oW,w,t,Instr.storeAt,Instr.sureAddr,storeVar,(tok 166 i166 rfl).run_sizeOf,i166,H,g]
  have f:∀e∈(ak (⟨T,[]⟩:Act).eval Sc).events ag w1 #[],∃j,j<2/\e=F0 Y.C (x*2+j):=by
    intro O f;have w:(⟨T,[]⟩:Act).eval (.tmp 12)=.pointer (aa ⟨Y.C,x*2,af⟩):=m;have t:(⟨T,[]⟩:Act).eval (.tmp 11)=.agg #[val x 0,val x 1]:=p;have e:ak (⟨T,[]⟩:Act).eval Sc=(do storeVar 166 ⟨Y.C,x*2,af⟩ (.agg #[val x 0,val x 1]);pure .skip):=by simp[ak,Sc,oW,w,t,Instr.storeAt,Instr.sureAddr]
    rw[e]at f;have F:O∈(storeCells ⟨Y.C,x*2,af⟩ [val x 0,val x 1]).events ag w1 #[]:=by simp only[storeVar,aK,(tok 166 i166 rfl).run_sizeOf,i166,H,aP,events_sizeOf,cR,bM,bO,b9,Sem.events_pure]at f;simpa[g]using f
    rcases eh [val x 0,val x 1] 0 cs w1 #[] c r A O F with Z|⟨j,_,R,rfl⟩
    · grind
    grind
  have l:WgLive 164 Y.Wg (w1.setRow Y.C new):=by
    obtain⟨st,M,h⟩:=JE;refine⟨st,M,?_⟩;show(w1.setRow Y.C new).heap[Y.Wg]?=_;rw[setRow_other w1 Y.C Y.Wg new ?_]
    · exact h
    · intro e
      have d:w1.heap[Y.Wg]?=aa (Go.ConcR.wgBlock 164 st M):=h;rw[e,c]at d;simp[Go.ConcR.wgBlock]at d;exact absurd d.2 (by decide)
  refine⟨_,w1.setRow Y.C new,_,Ez (b:=bW (.pointer (aa ⟨Y.Wg,0,af⟩))) (a:=⟨T,[]⟩) (k:=[]) (ops:=tV.toArray) (i:=7) (rest:=[]) (o:=Sc) rfl rfl (by simp[bW,baseD]) z,?_,?_,?_⟩
  · refine⟨rfl,rfl,rfl,by simp,λb Q=>setRow_other w1 Y.C b new Q,⟨new,u,by grind⟩,λo ho=>?_,λi hi=>?_⟩
    · grind
    · rw[D]at hi
      rw[y,K];grind
  · intro e X
    obtain⟨j,R,rfl⟩:=f e (Go.Conc.mem_seen X);exact⟨x*2+j,rfl,by omega,by omega⟩
  · exact tailW x D T _ ⟨l,by show(w1.setRow Y.C new).cell? _=_;grind⟩
def worker{k:Int}(l:dM (Cx.work ag) 123 (lJ k)){x:Nat}(q:x<n)(f:Y.kc=2){ps:List ba}{d:Int}(j:val x 0=.string ⟨((c6 k ps d).getD []).toArray⟩)(e:val x 1=.bool (c6 k ps d).isSome)(A:aD [] s)(F:s.β=[]){v1 v2 v3 v4 v5:ai}(p:Rd s.M v1 (.rp [.int .i64 k]))(r:Rd s.M v2 (.rp [.sl ae 2 ps.length (cP.fn ps)]))(m:Rd s.M v3 (.rp [.int .i64 d]))(u:Rd s.M v4 (.rp [.val (.slice (aa ⟨Y.C,0,af⟩) n n)]))(v:Rd s.M v5 (.rp [.int .i64 x])):
    eg (Cx.work ag) E0 (Ix ag 164 Y (2*n) val x) (born ag (vW #[.pointer (aa ⟨Y.Wg,0,af⟩),v1,v2,v3,v4,v5])) s:=by
  refine eg.goes (X:=Cx.work ag) (R:=λ_ _=>True) (D:=DC0) (Stop:=λg _=>g=G ((bW (.pointer (aa ⟨Y.Wg,0,af⟩))).aT ⟨tW (.pointer (aa ⟨Y.Wg,0,af⟩)) v1 v2 v3 v4 v5,[]⟩ [.code (.region 1 JB ab)]) [tX])
    (λb=>aD [] b/\b.M=s.M) (λb s2 h o=>⟨h.1.rely o,o.M.trans h.2⟩) (λ_ _ _ _=>trivial) ?_ (λb h=>bU.vn h.1.mem) ?_ 8 _ s ⟨A,rfl⟩ (QJ _ _ _ _ _ _ _)
  · rintro b es h w' ⟨rfl,rfl⟩
    exact⟨rfl,.inl (.quiet h.1)⟩
  · rintro g b ⟨i,B⟩ rfl
    rw[Ng];refine fu.toE (λ_ _ _ h=>h) ?_;refine(TN l ps d n x Y.C q (.pointer (aa ⟨Y.Wg,0,af⟩))).region (by kernel_rfl) (by simp[bW,baseD]) ⟨by simp[tW],⟨[],ar⟩,λt=>?_⟩ rfl i λs2 a y c z E st=>.stop ?_
    · rw[<-B]at p r m u v
      match t with
      | 0=>exact Rd.val rfl
      | 1=>exact p
      | 2=>exact r
      | 3=>exact m
      | 4=>exact u
      | 5=>exact v
      | t+6=>trivial
    · obtain⟨T,w⟩:=a
      obtain rfl:w=[]:=z;exact TP q f j e (c 12) (c 11)
end
end
section
open Go.Proofs Go.Conc Go.Conc.Lib
open Go.ConcN (WgLive PayAt Has RW AtR0)
open Go.ConcR (KK WgAt stA smA rd wr mk Payload DC0)
def vX:Code->Code|.seq a _=>a|c=>c
def kt:Code->Code|.seq _ a=>a|c=>c
def TQ:Code->Code|.block _ a=>a|c=>c
def Xc:Code->Code|.loop a=>a|c=>c
def QK:Code->Array aB|.region _ o _=>o|_=>#[]
noncomputable def DM:Code:=(Tryz.f96.body).getD .skip
noncomputable def im:Code:=Xc (TQ (kt (vX (kt (kt (kt DM))))))
noncomputable def YR:Code:=vX im
noncomputable def QL:Code:=TQ (vX (kt (kt im)))
noncomputable def YS:Code:=vX QL
noncomputable def zX:Array aB:=QK (vX (kt QL))
noncomputable def xr:Array aB:=QK (kt (kt QL))
noncomputable def LO:Code:=kt (kt (kt im))
noncomputable def mY:Code:=kt (kt (kt (kt DM)))
noncomputable def xt:Array aB:=QK (vX mY)
noncomputable def qh:Code:=kt mY
def BL:im=.seq YR (.seq (.cond (.tmp 21) .skip (.exit 0)) (.seq (.block 1 (.seq YS (.seq (.region 6 zX ae) (.region 7 xr ae)))) LO)):=by kernel_rfl
def JF:mY=.seq (.region 9 xt ae) qh:=by kernel_rfl
def NQ(j:Fr)(σ1:List bd):Post:=λe φ σ=>e=.normal/\rJ φ j/\σ=σ1
structure At(σ0:List bd)(s0:St)(φ:Fr)(σ:List bd)(a:Act)(s:St):Prop where
 fr:ck 45 σ s φ a
 hh:aD σ s
 st:cN σ0 s0 σ s
section
variable {σ0:List bd}{s0:St}{φ j:Fr}{σ σ1:List bd}{a:Act}{s:St}
def At.rely(h:At σ0 s0 φ σ a s){d:St}(c:bU s d):At σ0 s0 φ σ a d:=⟨h.fr.rely c h.hh,h.hh.rely c,h.st.trans c.stepW⟩
structure LP(b:Nat)(s:St):Prop where
 own:¬s.own b
 β:∀L∈s.β,b∉L.bs
 M:∀o,s.M b o=af
 lt:b<s.w.heap.size
def LP.step{b:Nat}(h:LP b s0)(st:cN σ0 s0 σ s):LP b s :=
 ⟨by rw[st.own];exact h.own,λL d hb=>by
  rcases st.ur L d b hb with h1|⟨c,e,h1⟩
  .have:=h.lt;omega
  .exact h.β c e h1,λo=>by rw[st.iI b h.lt h.β];exact h.M o,cx h.lt st.size⟩
def At.apart{Wg:Nat}(d:LP Wg s0):Apart Wg (At σ0 s0 φ σ a) :=
 ⟨λ_ _ h e=>h.rely e,λ_ h=>⟨σ,h.hh⟩,λ_ h=>let c:=d.step h.st;⟨c.own,c.β,c.M⟩⟩
variable {X:Cx ag}{S:aq->St->Prop}{b:aU}{k:List Item}{cs:List aU}
def At.ctl(h:At σ0 s0 φ σ a s){g g':aq}(e:g.status=.running)(d:∀w,aG ag X.main g w=.go g' w #[])(kk:∀c,At σ0 s0 φ σ a c->fu X S g' c):fu X S g s :=
 .ctl h.hh e d λc h1=>kk c (h.rely h1)
def At.code(h:At σ0 s0 φ σ a s)(hb:b.kind≠.early){c:Code}(i:AW X 45 c (NQ j σ1) φ σ)(kk:∀a1 s1,At σ0 s0 j σ1 a1 s1->fu X S (G (b.aT a1 k) cs) s1):fu X S (G (b.aT a (.code c::k)) cs) s:=by refine i s a h.fr h.hh b k cs S hb ?_;rintro e φ' σ' s' a' ⟨rfl,hl,rfl⟩ f g d;exact kk a' s' ⟨f.le hl,g,h.st.trans d⟩
end
def fu.live{Wg:Nat}{E:St->St->Array Event->Prop}{S:aq->St->Prop}{g:aq}{s:St}(h:fu (Cx.lead ag 164 Wg) S g s)(e:Clear (λb=>b=Wg) s)(hl:WgLive 164 Wg s.w):
  eg (Cx.lead ag 164 Wg) E (λg s=>S g s/\WgLive 164 Wg s.w) g s:=by
 induction h with
 |stop h=>exact⟨.leaf,h,hl⟩
 |@step g s q ns ne hr h1 h2 _ i =>
  refine .step hr λf c=>?_;have m:=c.2 hl;have d:Clear (λb=>b=Wg) f:=⟨λb hb=>by rw[c.1.own];exact e.own b hb,λb hb=>by rw[c.1.β];exact e.β b hb,λb hb o=>by rw[c.1.M];exact e.M b hb o,λb hb=>cx (e.lt b hb) c.1.size⟩
  obtain⟨⟨σ,σ',hh,l,st⟩,n⟩:=h2 f c;refine⟨_,_,_,h1 f c,.inl ⟨⟨σ,σ',hh,l,st⟩,n⟩,i f c (d.step st) ?_⟩;obtain⟨x,y,p⟩:=m;exact⟨x,y,by show(ns f).w.heap[Wg]?=_;rw[st.keep Wg (d.lt Wg rfl) (d.β Wg rfl)];exact p⟩
 |ghost hg _ i=>exact .ghost hg (i (e.ghost hg) (by rw[hg.w];exact hl))
 |forget hx _ _ _=>exact hx.elim
 |uO hj _ _=>exact hj.elim
def LP.clear{Wg:Nat}{s:St}(h:LP Wg s):Clear (λb=>b=Wg) s:=⟨λb e=>e▸h.own,λb e=>e▸h.β,λb e=>e▸h.M,λb e=>e▸h.lt⟩
section
variable (k:Int)(ps:List ba)(ns:List Int)(C Wg:Nat)
def mF(i:Nat):Fr:=[(3,.e (.one (.c (.rp [.int .i64 k])))),(4,.e (.one (.c (.rp [.sl ae 2 ps.length (cP.fn ps)])))),(8,.e (.one (.c (.rp [.val (.slice (aa ⟨C,0,af⟩) ns.length ns.length)])))),(9,.e (.one (.v (.pointer (aa ⟨Wg,0,af⟩))))),
 (18,cI.sl ns),(19,dI ns.length),(20,dI i)]
variable {k ps ns C Wg}{X:Cx ag}{σ:List bd}
def YT{i:Nat}(hi:i<=ns.length):AW X 45 YR (NQ ((21,dB (decide (i<ns.length)))::mF k ps ns C Wg i) σ) (mF k ps ns C Wg i) σ:=by
 refine AK.of_code ?_;by_cases h:i<ns.length
 .refine aW [(21,ab)] rfl ?_ ⟨rfl,dv rfl ?_,rfl⟩
  .simp;omega
  .simp[h]
 .refine aW [(21,ae)] rfl ?_ ⟨rfl,dv rfl ?_,rfl⟩
  .simp;omega
  .simp[h]
abbrev d5:List bd:=[.dead,.dead,.dead,.dead,.dead]
def pR5{i:Nat}(hi:i<ns.length):AW X 45 YS (NQ ((10,.e (.one (.ptr 5 0)))::(11,.e (.one (.ptr 6 0)))::mF k ps ns C Wg i) [.dead,.dead,.dead,.dead,.dead,.cells 3 [.c (.int .i64 i)],.cells 3 [.c (.int .i64 (ns.getD i 0))]]) (mF k ps ns C Wg i) d5:=by
 refine AK.of_code ?_;refine bx rfl ?_ ⟨rfl,dv rfl ?_,?_⟩
 .simp;omega
 .simp
 grind
def pR8{i:Nat}(hi:i<ns.length)(c:ns.length<=4000000):AW X 45 LO (NQ (mF k ps ns C Wg (i+1)) d5) (mF k ps ns C Wg i) d5:=by
 refine AK.of_code ?_;refine bx rfl ?_ ⟨rfl,dv rfl ?_,rfl⟩
 .simp[bw];omega
 .simp
variable {σ0:List bd}{s0:St}{S:aq->St->Prop}{b:aU}{kk:List Item}{cs:List aU}
abbrev d7:List bd:=[.dead,.dead,.dead,.dead,.dead,.dead,.dead]
variable (k ps ns C Wg)in
abbrev qE(i:Nat):Fr:=(11,.e (.one (.c (.rp [.int .i64 (ns.getD i 0)]))))::(10,.e (.one (.c (.rp [.int .i64 i]))))::mF k ps ns C Wg i
noncomputable abbrev sR(kk:List Item):List Item:=.code (.region 7 xr ae)::.inBlock 1::.code LO::.inLoop im::.inBlock 0::kk
def uF{P:aM}{main:Bool}{b:aU}{a:Act}{k:List Item}{cs:List aU}{w:aA}{c x y:Code}(h:c=.seq x y):aG P main (G (b.aT a (.code c::k)) cs) w=.go (G (b.aT a (.code x::.code y::k)) cs) w:=by grind[nw]
def toAdd{i:Nat}(hi:i<ns.length)(m:b.kind≠.early){a:Act}{s:St}(h:At σ0 s0 (mF k ps ns C Wg i) d5 a s)(K:∀n l,At σ0 s0 (qE k ps ns C Wg i) d7 n l->fu X S (G (b.aT n (.inRegion zX [0]::sR kk)) cs) l):
  fu X S (G (b.aT a (.code im::.inLoop im::.inBlock 0::kk)) cs) s:=by
 refine h.ctl rfl (λw=>uF BL) λs h=>?_;refine h.code m (YT (Nat.le_of_lt hi)) λa s h=>?_;refine h.ctl rfl (λw=>nw) λs h=>?_;have p:a.eval (.tmp 21)=.bool ab:=by have:=h.fr.slot 21;simp only[hi,lY]at this;exact rd_bool (fH this)
 refine h.ctl rfl (λw=>uu p) λs h=>?_;refine h.ctl rfl (λw=>Ex) λs h=>?_;refine h.ctl rfl (λw=>nw) λs h=>?_;refine h.ctl rfl (λw=>rm) λs h=>?_;refine h.ctl rfl (λw=>nw) λs h=>?_;have h:At σ0 s0 (mF k ps ns C Wg i) d5 a s:=⟨h.fr.le (dv rfl (by simp)),h.hh,h.st⟩
 refine h.code m (pR5 hi) λa s h=>?_;obtain⟨l,w1,q,d,g⟩:=ck.freeze 10 5 (E:=3) (cs:=[.c (.int .i64 i)]) (cc:=[.int .i64 i]) rfl rfl rfl h.fr h.hh;refine .ghost (.of h.hh d w1 (g.n3 h.hh)) ?_;obtain⟨s2,w2,o,f,e⟩:=ck.freeze 11 6 (E:=3) (cs:=[.c (.int .i64 (ns.getD i 0))]) (cc:=[.int .i64 (ns.getD i 0)]) rfl rfl rfl q d;refine .ghost (.of d f w2 (e.n3 d)) ?_;have h:At σ0 s0 (qE k ps ns C Wg i) d7 a s2:=⟨o.le (dv rfl (by simp)),f,h.st.trans ((g.n3 h.hh).trans (e.n3 d))⟩
 refine h.ctl rfl (λw=>nw) λs h=>?_;refine h.ctl rfl (λw=>pA) λs h=>?_;exact K a s h
def o6:aB:={dst:=aa 25,op:=.call {callee:=.value (.func 120),args:=#[.tmp 9,.const (.int .i64 1)],argTypes:=#[164,3]},type:=0,pos:= "l12_snap.go:79",after:=#[],guard:=af}
theorem Fs:zX=#[o6]:=by kernel_rfl
def JG{i:Nat}(l:b.kind≠.early){a:Act}{s:St}(h:At σ0 s0 (qE k ps ns C Wg i) d7 a s)(K:∀c,At σ0 s0 (qE k ps ns C Wg i) d7 a c->fu X S (G (Frame.enter ag 120 #[.pointer (aa ⟨Wg,0,af⟩),.int .i64 1] .normal) (b.aT a (.inRegion zX [0]::sR kk)::cs)) c):
  fu X S (G (b.aT a (.inRegion zX [0]::sR kk)) cs) s:=by
 refine .next rfl λc e=>?_;have d:=h.rely (X.hZ e);have m:a.eval (.tmp 9)=.pointer (aa ⟨Wg,0,af⟩):=Rd.fj (d.fr.slot 9);have g:(ak a.eval o6).run ag c.w=.ok (.enter 120 #[.pointer (aa ⟨Wg,0,af⟩),.int .i64 1]) c.w:=by have:=run_call_body (P:=ag) (a:=a) (w:=c.w) (o:=o6) (f:=120) (fn:=Tryz.f120) rfl Tryz.func120 (by kernel_rfl) (by kernel_rfl);rw[this,<-m];simp only[List.map_toArray,jl,List.map_nil];rfl
 have p:(ak a.eval o6).events ag c.w #[]=#[]:=events_call_body (P:=ag) (a:=a) (w:=c.w) (o:=o6) (f:=120) (fn:=Tryz.f120) rfl Tryz.func120 (by kernel_rfl) (by kernel_rfl) #[];have n:listed ag b.fn a o6 c.w=#[]:=by unfold listed;grind[seen_none]
 refine⟨_,c,#[],?_,.quiet d.hh,K c d⟩;have:=oB (P:=ag) (main:=X.main) (b:=b) (a:=a) (k:=sR kk) (cs:=cs) (w:=c.w) (ops:=zX) (i:=0) (rest:=[]) (o:=o6) (by grind[Fs]) rfl l g;grind
def TR:aB:={dst:=aa 26,op:=.makeFunc (.func 121) #[] #[.tmp 9,.tmp 3,.tmp 4,.tmp 11,.tmp 8,.tmp 10],type:=1,pos:= "l12_snap.go:80",after:=#[],guard:=af}
def Ni:aB:={dst:=af,op:=.go {callee:=.value (.tmp 26),args:=#[],argTypes:=#[]},type:=0,pos:= "l12_snap.go:80",after:=#[⟨0,.data⟩],guard:=af}
theorem Ft:xr=[TR,Ni].toArray:=by kernel_rfl
variable (k ps ns C Wg)in
abbrev DN(i:Nat):AM.C:=.fn (.func 121) [] [.val (.pointer (aa ⟨Wg,0,af⟩)),.rp [.int .i64 k],.rp [.sl ae 2 ps.length (cP.fn ps)],.rp [.int .i64 (ns.getD i 0)],.rp [.val (.slice (aa ⟨C,0,af⟩) ns.length ns.length)],.rp [.int .i64 i]]
def TS{i:Nat}:OA X 45 [TR,Ni] TR ((25,.any)::qE k ps ns C Wg i) d7 (.e (.one (.c (DN k ps ns C Wg i)))) d7:=by have h:tR tt [] [] [TR,Ni] ((25,.any)::qE k ps ns C Wg i) d7 TR=aa (.e (.one (.c (DN k ps ns C Wg i))),af,[]):=rfl;exact en tok bA.nil h ar
def Xd{i:Nat}(n:b.kind≠.early){a:Act}{s:St}(h:At σ0 s0 (qE k ps ns C Wg i) d7 a s)(K:∀v l c,At σ0 s0 (qE k ps ns C Wg i) d7 l c->Rd c.M v (DN k ps ns C Wg i)->l.tmps.getD 26 ah=v->fu X S (G (b.aT l (.inRegion xr [1]::.inBlock 1::.code LO::.inLoop im::.inBlock 0::kk)) cs) c):
  fu X S (G (b.aT (a.put (aa 25) (.tuple #[])) (.inRegion zX []::sR kk)) cs) s:=by
 have p:At σ0 s0 ((25,.any)::qE k ps ns C Wg i) d7 (a.put (aa 25) (.tuple #[])) s:=⟨h.fr.put (by decide) ar,h.hh,h.st⟩
 refine p.ctl rfl (λw=>iK) λs h=>?_;refine h.ctl rfl (λw=>pA) λs h=>?_;rw[Ft];refine TS s _ h.fr h.hh b _ cs S 0 [1] n rfl λv c g f e=>?_;have g:Rd c.M v (DN k ps ns C Wg i):=fH g;have o:=((h.fr.mono e h.hh.len).put (d:=26) (v:=v) (x:=.any) (by decide) ar)
 have m:26<(a.put (aa 25) (.tuple #[])).tmps.size:=by rw[h.fr.size];decide
 refine K v _ c ⟨o.le (dv rfl ?_),f,h.st.trans e⟩ g (IH m);simp
def QM{i:Nat}(hi:i<ns.length)(p:ns.length<=4000000)(d:b.kind≠.early)(c:σ0.length<=5){a:Act}{s:St}(h:At σ0 s0 (qE k ps ns C Wg i) d7 a s)(K:∀l m,At σ0 s0 (mF k ps ns C Wg (i+1)) d5 l m->fu X S (G (b.aT l (.code im::.inLoop im::.inBlock 0::kk)) cs) m):
  fu X S (G (b.aT a (.inRegion xr []::.inBlock 1::.code LO::.inLoop im::.inBlock 0::kk)) cs) s:=by
 have g:ck 45 (d5++[.dead,.dead]) s (mF k ps ns C Wg i) a:=h.fr.le (dv rfl (by simp));have e:aD (d5++[.dead,.dead]) s:=h.hh;have f:cN σ0 s0 (d5++[.dead,.dead]) s:=h.st;have q:eK s (s.cut d5.length):=⟨rfl,λ_ _ _ h=>h,λ_ _ _=>rfl,e.mem,λb d=>d.imp id λ⟨L,o,d⟩=>⟨L,ji o,d⟩⟩
 refine .ghost q ?_;have h:At σ0 s0 (mF k ps ns C Wg i) d5 a (s.cut d5.length):=⟨⟨g.size,g.defers.imp λ_ n=>n.drop rfl,λt=>(g.slot t).drop (pM rfl)⟩,e.drop rfl,f.drop c⟩
 refine h.ctl rfl (λw=>iK) λs h=>?_;refine h.ctl rfl (λw=>qq) λs h=>?_;refine h.code d (pR8 hi p) λa s h=>?_;exact h.ctl rfl (λw=>xM) λs h=>K a s h
end
theorem vY{b:aU}(c:b.roundOf=af)(a:Act)(t:List Item):b.aT a t=b.at ⟨a.tmps,a.defers++b.defers⟩ t:=by cases b;simp only at c;subst c;rfl
section
variable {k:Int}{ps:List ba}{ns:List Int}{Y:Lay}{val:Nat->Nat->ai}{σ0:List bd}{s0:St}{b:aU}{kk:List Item}{cs:List aU}
def OY{a:Act}{w:aA}{c c1 c2 c3 c4 c5:ai}(d:a.tmps.getD 26 ah=.func (.func 121) #[] #[c,c1,c2,c3,c4,c5]):(ak a.eval Ni).run ag w=.ok (.spawn (vW #[c,c1,c2,c3,c4,c5])) w/\(ak a.eval Ni).events ag w #[]=#[]:=by
 have e:a.eval (.tmp 26)=.func (.func 121) #[] #[c,c1,c2,c3,c4,c5]:=d;constructor
 .simp[ak,Ni,resolve,Deferred.ofValue,e,vW]
 .simp[ak,Ni,resolve,Deferred.ofValue,e]
def TT(t:dM (Cx.work ag) 123 (lJ k))(p:Y.kc=2)(e:b.roundOf=af)(z:b.kind≠.early){i:Nat}(hi:i<ns.length)(r:val i 0=.string ⟨((c6 k ps (ns.getD i 0)).getD []).toArray⟩)(l:val i 1=.bool (c6 k ps (ns.getD i 0)).isSome){v:ai}{a:Act}{s:St}(h:At σ0 s0 (qE k ps ns Y.C Y.Wg i) d7 a s)(B:WgLive 164 Y.Wg s.w)(y:Rd s.M v (DN k ps ns Y.C Y.Wg i))(x:a.tmps.getD 26 ah=v){Next:aq->St->Prop}(K:∀d,At σ0 s0 (qE k ps ns Y.C Y.Wg i) d7 a d->WgLive 164 Y.Wg d.w->Next (G (b.aT a (.inRegion xr []::.inBlock 1::.code LO::.inLoop im::.inBlock 0::kk)) cs) d):
  AtGo ag 164 Y (2*ns.length) val i Next (G (b.aT a (.inRegion xr [1]::.inBlock 1::.code LO::.inLoop im::.inBlock 0::kk)) cs) s:=by
 refine⟨rfl,λd c=>?_⟩;have u:=h.rely c.1;have q:Rd d.M v (DN k ps ns Y.C Y.Wg i):=by rw[c.1.M];exact y
 cases q with
 |fn fs cc S9 Tb f1 f2 g1 g2 r1 r2 =>
 have g:fs=[]:=jg S9;subst g;have n:cc=[f2 0,f2 1,f2 2,f2 3,f2 4,f2 5]:=by
  apply gK;intro j;have Tb:cc.length=6:=Tb
  match j with
  |0=>grind
  |1=>grind
  |2=>grind
  |3=>grind
  |4=>grind
  |5=>grind
  |j+6=>grind
 subst n;have A:f2 0=.pointer (aa ⟨Y.Wg,0,af⟩):=Rd.fj (r2 0 _ rfl);obtain⟨D,q2⟩:=OY (a:=a) (w:=d.w) x;have f:Go.Conc.listed ag b.fn ⟨a.tmps,a.defers++b.defers⟩ Ni d.w=#[]:=by unfold Go.Conc.listed;have:=(OY (a:=⟨a.tmps,a.defers++b.defers⟩) (w:=d.w) x).2;grind[seen_none]
 have m:=stepG_spawn (P:=ag) (main:=ab) (b:=b) (a:=⟨a.tmps,a.defers++b.defers⟩) (k:=.inBlock 1::.code LO::.inLoop im::.inBlock 0::kk) (cs:=cs) (w:=d.w) (ops:=xr) (i:=1) (rest:=[]) (o:=Ni) (by grind[Ft]) rfl z D rfl;refine⟨G (b.aT a (.inRegion xr []::.inBlock 1::.code LO::.inLoop im::.inBlock 0::kk)) cs,born ag (vW #[f2 0,f2 1,f2 2,f2 3,f2 4,f2 5]),?_,rfl,?_,K d u (c.2 B)⟩
 .rw[vY e,vY e,m,f];rfl
 .rw[A];exact worker t hi p r l (s:=d.child) ⟨u.hh.mem,rfl,by simp,by simp[St.child],by simp[St.child],by simp[St.child]⟩ rfl (r2 1 _ rfl) (r2 2 _ rfl) (r2 3 _ rfl) (r2 4 _ rfl) (r2 5 _ rfl)
def o9:aB:={dst:=aa 28,op:=.call {callee:=.value (.func 124),args:=#[.tmp 9],argTypes:=#[164]},type:=0,pos:= "l12_snap.go:85",after:=#[],guard:=af}
theorem Fu:xt=#[o9]:=by kernel_rfl
variable {X:Cx ag}{S:aq->St->Prop}
def QN(g:b.kind≠.early){C Wg:Nat}{a:Act}{s:St}(h:At σ0 s0 (mF k ps ns C Wg ns.length) d5 a s)(K:∀j c,At σ0 s0 (mF k ps ns C Wg ns.length) d5 j c->fu X S (G (Frame.enter ag 124 #[.pointer (aa ⟨Wg,0,af⟩)] .normal) (b.aT j (.inRegion xt [0]::.code qh::kk)::cs)) c):
  fu X S (G (b.aT a (.code im::.inLoop im::.inBlock 0::.code mY::kk)) cs) s:=by
 refine h.ctl rfl (λw=>uF BL) λs h=>?_;refine h.code g (YT (aZ _)) λa s h=>?_;refine h.ctl rfl (λw=>nw) λs h=>?_;have n:a.eval (.tmp 21)=.bool ae:=by have:=h.fr.slot 21;simp only[Nat.lt_irrefl,kS]at this;exact rd_bool (fH this)
 refine h.ctl rfl (λw=>uu n) λs h=>?_;refine h.ctl rfl (λw=>y4 (k':=.code mY::kk) rfl) λs h=>?_;refine h.ctl rfl (λw=>uF JF) λs h=>?_;refine h.ctl rfl (λw=>pA) λs h=>?_;have h:At σ0 s0 (mF k ps ns C Wg ns.length) d5 a s:=⟨h.fr.le (dv rfl (by simp)),h.hh,h.st⟩
 refine .next rfl λc e=>?_;have d:=h.rely (X.hZ e);have q:a.eval (.tmp 9)=.pointer (aa ⟨Wg,0,af⟩):=Rd.fj (d.fr.slot 9);have m:(ak a.eval o9).run ag c.w=.ok (.enter 124 #[.pointer (aa ⟨Wg,0,af⟩)]) c.w:=by have:=run_call_body (P:=ag) (a:=a) (w:=c.w) (o:=o9) (f:=124) (fn:=Tryz.f124) rfl Tryz.func124 (by kernel_rfl) (by kernel_rfl);grind
 have p:(ak a.eval o9).events ag c.w #[]=#[]:=events_call_body (P:=ag) (a:=a) (w:=c.w) (o:=o9) (f:=124) (fn:=Tryz.f124) rfl Tryz.func124 (by kernel_rfl) (by kernel_rfl) #[];have l:Go.Conc.listed ag b.fn a o9 c.w=#[]:=by unfold Go.Conc.listed;grind[seen_none]
 refine⟨_,c,#[],?_,.quiet d.hh,K a c d⟩;have:=oB (P:=ag) (main:=X.main) (b:=b) (a:=a) (k:=.code qh::kk) (cs:=cs) (w:=c.w) (ops:=xt) (i:=0) (rest:=[]) (o:=o9) (by grind[Fu]) rfl g m;rw[l]at this;exact this
section
variable (k ps ns Y σ0 s0 b kk cs)
def Vu(g:aq)(s:St):Prop:=∃a,Fh ag OW Y (At σ0 s0 (mF k ps ns Y.C Y.Wg ns.length) d5 a) (b.aT a (.inRegion xt [0]::.code qh::kk)) cs g s
def TF(g:aq)(s:St):Prop:=∃a,TW ag OW Y (At σ0 s0 (mF k ps ns Y.C Y.Wg ns.length) d5 a) (G (b.aT (a.put (aa 28) (.tuple #[])) (.inRegion xt []::.code qh::kk)) cs) g s
end
def anF(f:LP Y.Wg s0)(c:b.roundOf=af){g:aq}{s:St}(h:Vu k ps ns Y σ0 s0 b kk cs g s):
  eg (Cx.lead ag 164 Y.Wg) (Es Y.Wg) (AtW1 ag 164 Y (TF k ps ns Y σ0 s0 b kk cs) (Vu k ps ns Y σ0 s0 b kk cs)) g s:=by
 obtain⟨a,h⟩:=h;have e:(xt[0]?).bind (·.dst)=aa 28:=by rw[Fu];rfl
 rw[vY c]at h;refine Tu (P:=ag) (L:=OW) (b₀:=b) (a₀:=⟨a.tmps,a.defers++b.defers⟩) (ops₀:=xt) (i₀:=0) (rest₀:=[]) (k₀:=.code qh::kk) (cs:=cs) BK (At.apart f) (λg s d=>⟨a,?_⟩) (λg s i=>⟨a,?_⟩) h
 .rw[vY c];rw[e]at d;exact d
 grind[vY]
def GG{P:aM}{ty:aw}{N n:Nat}{a:aq->St->Prop}:∀(r:Nat){g:aq}{s:St},eg (Cx.lead P ty Y.Wg) (Es Y.Wg) (λg s=>Spawns P ty Y N val n a r g s) g s->Spawns P ty Y N val n a r g s
 |0,_,_,h=>eg.bind h λ_ _ x=>x
 |_+1,_,_,h=>eg.bind h λ_ _ x=>x
def Nj(A:dM (Cx.work ag) 123 (lJ k))(u:Y.kc=2)(m:LP Y.Wg s0)(e:b.roundOf=af)(l:b.kind≠.early)(n:σ0.length<=5)(H:ns.length<=4000000)(z:∀i,i<ns.length->val i 0=.string ⟨((c6 k ps (ns.getD i 0)).getD []).toArray⟩)(q:∀i,i<ns.length->val i 1=.bool (c6 k ps (ns.getD i 0)).isSome):
  ∀(r:Nat),r<=ns.length->∀(a:Act) (s:St),At σ0 s0 (mF k ps ns Y.C Y.Wg (ns.length-r)) d5 a s->WgLive 164 Y.Wg s.w ->
   Spawns ag 164 Y (2*ns.length) val ns.length (Vu k ps ns Y σ0 s0 b kk cs) r (G (b.aT a (.code im::.inLoop im::.inBlock 0::.code mY::kk)) cs) s:=by
 intro r;induction r with
 |zero =>
  intro _ a s h c;rw[j3]at h;have:=fu.live (E:=Es Y.Wg) (QN (X:=Cx.lead ag 164 Y.Wg) (kk:=kk) (cs:=cs) (S:=λg s=>∃a,g=G (Frame.enter ag 124 #[.pointer (aa ⟨Y.Wg,0,af⟩)] .normal) (b.aT a (.inRegion xt [0]::.code qh::kk)::cs)/\At σ0 s0 (mF k ps ns Y.C Y.Wg ns.length) d5 a s) l h λf o d=>.stop ⟨f,rfl,d⟩) (m.step h.st).clear c;refine eg.bind this ?_;rintro g s ⟨⟨a,rfl,h⟩,c⟩;exact Tw (P:=ag) (L:=OW) (Y:=Y) BK (At.apart m) (λg s D=>⟨a,D⟩) ⟨h,c⟩
 |succ r I =>
  intro J a s h c;have hi:ns.length-(r+1)<ns.length:=by omega
  generalize p:ns.length-(r+1)=i at h hi;have:=fu.live (E:=Es Y.Wg) (toAdd (X:=Cx.lead ag 164 Y.Wg) (kk:=.code mY::kk) (cs:=cs) (S:=λg s=>∃a,g=G (Frame.enter ag 120 #[.pointer (aa ⟨Y.Wg,0,af⟩),.int .i64 1] .normal) (b.aT a (.inRegion zX [0]::sR (.code mY::kk))::cs)/\At σ0 s0 (qE k ps ns Y.C Y.Wg i) d7 a s) hi l h λf o d=>JG l d λs2 h2=>.stop ⟨f,rfl,h2⟩) (m.step h.st).clear c;refine eg.bind this ?_;rintro g s ⟨⟨a,rfl,h⟩,c⟩;have B:(zX[0]?).bind (·.dst)=aa 25:=by rw[Fs];rfl
  rw[vY e];refine W4 (P:=ag) (L:=OW) (Y:=Y) (F:=At σ0 s0 (qE k ps ns Y.C Y.Wg i) d7 a) BK (At.apart m) (λs t=>?_) ⟨h,c⟩;rw[B];have:=fu.live (E:=Es Y.Wg) (Xd (X:=Cx.lead ag 164 Y.Wg) (kk:=.code mY::kk) (cs:=cs) (S:=λg s=>∃v a,g=G (b.aT a (.inRegion xr [1]::.inBlock 1::.code LO::.inLoop im::.inBlock 0::.code mY::kk)) cs/\At σ0 s0 (qE k ps ns Y.C Y.Wg i) d7 a s/\Rd s.M v (DN k ps ns Y.C Y.Wg i)/\a.tmps.getD 26 ah=v) l t.1 λv f o d x j=>.stop ⟨v,f,rfl,d,x,j⟩) (m.step t.1.st).clear t.2;rw[vY e]at this;refine eg.bind this ?_;rintro g s ⟨⟨v,a,rfl,h,x,j⟩,c⟩;rw[p];refine⟨.leaf,TT A u e l hi (z i hi) (q i hi) h c x j λo d y=>?_⟩;refine GG r ?_;have:=fu.live (E:=Es Y.Wg) (QM (X:=Cx.lead ag 164 Y.Wg) (kk:=.code mY::kk) (cs:=cs) (S:=λg s=>∃a,g=G (b.aT a (.code im::.inLoop im::.inBlock 0::.code mY::kk)) cs/\At σ0 s0 (mF k ps ns Y.C Y.Wg (i+1)) d5 a s) hi H l n d λf o d=>.stop ⟨f,rfl,d⟩) (m.step d.st).clear y;refine eg.bind this ?_;rintro g s ⟨⟨a,rfl,h⟩,c⟩;refine⟨.leaf,I (by omega) a s ?_ c⟩;grind
end
end
section
variable {X:Cx ag}[X.ic]
def Rt(t:List bz):∀i,i<t.length->(cF.fn t i).length=2/\∀c∈cF.fn t i,tO c=ab:=by intro i _;refine⟨rfl,λc a=>?_⟩;simp only[jY.fn,xb,cF,dK,nt,or_false]at a;rcases a with rfl|rfl<;>rfl
abbrev KI(t:List bz)(xs:List ai):Prop:=ig 2 t.length (cF.fn t) xs
abbrev bK(bf:tP)(n:Nat)(xs:List ai):bd:=.cf (iL 110 2 bf n xs)
abbrev tKB(bf:tP)(n:Nat)(b:Bool):D:=.fw [.one (.v (se bf n)),.one (.c (.bool b))]
def Cj(t:List bz)(p x:Bs):dL (ι:={q:tP×List ai // KI (ee t p x).1 q.2}) X 86 [cF.sl t,dS p,dS x] [] (λq=>tKB q.1.1 (ee t p x).1.length (ee t p x).2) (λq=>[bK q.1.1 (ee t p x).1.length q.1.2]) :=
 (tH t p x).thaw Tryz.func86 rfl (by simp[uC,oT,pR,l9,uR,tO]) (Rt _)
def ig.nil:ig k 0 es []:=⟨by simp,λi hi=>by omega,λi hi=>by omega⟩
def Hh{t:List bz}{p x:Bs}(h:(ee t p x).2=ab):(ee t p x).1.length<=6:=by
 unfold ee at h⊢;split at h
 .rename_i b;rw[bn b];split at h
  .rename_i a;rw[bn a];exact nR a
  grind
 grind
def UC(h:o.op=.call {callee:=.builtin .append,args:=#[x,y],argTypes:=#[69,69]}):lr ag o x y 110 i110 :=
 ⟨⟨69,69,i69,i69,h,(tok _ _ rfl),rfl,(tok _ _ rfl),rfl⟩,(tok _ _ rfl),by decide,by decide⟩
def KJ{p:Bs}(h:p.length<=9223372036854775807):Rd M (HI p) (.str p):=Rd.str rfl h
def KI.snoc{t:List bz}{xs:List ai}(h:KI t xs)(p x:Bs)(d:p.length<=9223372036854775807)(b:x.length<=9223372036854775807):KI (t++[(p,x)]) (xs++[HI p,HI x]):=by
 unfold KI;rw[cv];refine ig.snoc h (λi hi=>?_) rfl rfl λq c a=>?_
 .simp[jY.fn,xb,aj,jh hi]
 .have e:cF.fn (t++[(p,x)]) t.length=[.str p,.str x]:=by simp[jY.fn,xb,cF]
  rw[e]at a;rcases q with _|_|q
  .simp at a;subst a;exact⟨HI p,rfl,λM=>KJ d⟩
  .simp at a;subst a;exact⟨HI x,rfl,λM=>KJ b⟩
  grind
def KI.NX{t:List bz}{xs:List ai}(h:KI t xs)(i:Nat)(hi:i<t.length)(x:Bs)(d:nA vs [.c (.str x)]):KI (t.set i ((t.getD i cF.bR).1,x)) (xs.take (i*2+1)++vs++xs.drop (i*2+1+vs.length)):=by
 unfold KI;rw[List.length_set];refine ig.fe h i 1 hi d (aZ _) (λg f b=>?_) rfl λq c a=>?_
 .simp[jY.fn,xb,aj,Ne.symm b]
 .have e:cF.fn (t.set i ((t.getD i cF.bR).1,x)) i=[.str (t.getD i cF.bR).1,.str x]:=by simp[jY.fn,xb,cF,aj,hi]
  rw[e]at a;rcases q with _|_|q
  .right;simp at a;subst a;exact⟨by omega,rfl⟩
  .grind
  grind
structure UD(k c:Nat) where
 t:List bz
 bf:tP
 xs:List ai
 k1:Nat
 fl:KI t xs
 hl:t.length<=7
 h1:k<=k1
 h2:k1<=k+c
set_option maxRecDepth 20000 in
def Nw(m:Nat)(b:Nat->Int)(g:Bytes b)(k:Nat)(T:k<=50000)(o:m<=1048576):
  dL (ι:=UD k 400) X 103 [.e (.one (.ptr 0 0))] [ku m b k] (λq=>.e (.one (.v (se q.bf q.t.length)))) (λq=>[ku m b q.k1,bK q.bf q.t.length q.xs]):=by
 refine dL.oc Tryz.func103 rfl rfl rfl λL=>?_;refine DC [] 9 rfl ar ?_;refine AK.Md 3 110 2 rfl λB=>?_;refine bx rfl ar ?_;refine AK.cP (gA m b g k 6 (by omega) o (by omega)) [0] rfl (λ_=>rfl) ?_;rintro⟨v,v0,v1⟩;refine bx rfl ar ?_;refine AK.bY 2 (λs:Nat×List bz×tP×List ai×Nat=>s.1<=5/\KI s.2.1 s.2.2.2.1/\s.2.1.length<=6/\k<=s.2.2.2.2/\s.2.2.2.2+70*s.1<=k+351) (λs=>[(0,.e (.one (.ptr 0 0))),(4,dI s.1),(3,.e (.one (.v (se s.2.2.1 s.2.1.length))))]) (λs=>[ku m b s.2.2.2.2,bK s.2.2.1 s.2.1.length s.2.2.2.1]) (λs=>s.1) (v.toNat,[],B,[],k+1) rfl ?_ rfl ?_ rfl ⟨by omega,ig.nil,by simp,by simp,by grind⟩ ?_
 .simp;omega
 .simp
 rintro⟨n,t,bf,xs,k1⟩ ⟨I,f,G,P,Q⟩;simp only at I f G P Q;by_cases K:0<n
 .refine aW [(11,ab)] rfl (by simp[K]) ?_;refine AK.cP (uL m b g k1 (by omega) o) [0] rfl (λ_=>rfl) ?_;rintro⟨p,O⟩;refine bx rfl ar ?_;refine AK.cP (FK m b g (k1+1+1) (by omega) o) [0] rfl (λ_=>rfl) ?_;rintro⟨⟨x,E⟩,J,D,i⟩;simp only at J D i;refine bx rfl ar ?_;refine AK.IT (Cj t p x) 1 0 rfl rfl rfl rfl (iL.EF rfl (cF.fn t) f.rd) rfl ?_ rfl (λ_=>rfl) (λ_=>rfl) rfl ?_
  .simp
  rintro⟨⟨d,xs'⟩,r⟩;simp only at r⊢;cases C:(ee t p x).2 with
  |true =>
   have A:=Hh C;generalize(ee t p x).1=t' at r A⊢;refine DC [] 6 rfl ar ?_;refine AK.swap 1 2 (by decide) rfl rfl (λv N h=>h.1) (λv N h=>h.1) ?_;refine aW [(23,ab)] rfl ?_ (AK.aQ (n-1,t',d,xs',E) rfl ?_ ?_ ?_ ?_)
   .simp[bw];omega
   .simp;omega
   .simp
   .grind
   grind
  |false =>
   refine aW [(23,ae)] rfl ?_ (AK.aQ (n-1,t,bf,xs,E) rfl ?_ ?_ ?_ ?_)
   .simp[bw];omega
   .simp;omega
   .simp
   .grind
   grind
 .obtain rfl:n=0:=by omega
  refine aW [(11,ae)] rfl (by simp) (AK.leaveD rfl rfl ?_);refine bx rfl ar ?_;refine AK.cP (gA m b g k1 40 (by omega) o (by omega)) [0] rfl (λ_=>rfl) ?_;rintro⟨u,V,S⟩;by_cases F:u=0
  .refine aW [(27,ab)] rfl (by simp[F]) ?_;refine AK.cP (uL m b g (k1+1) (by omega) o) [0] rfl (λ_=>rfl) ?_;rintro⟨p,O⟩;refine bx rfl ar ?_;refine AK.qt (l:=1) (bf:=bf) (xs:=xs) (n:=t.length) (xv:=[HI p,HI [97]]) (UC rfl) rfl rfl rfl rfl rfl rfl rfl rfl (λM v j c R U=>?_) (by show _*32<=_;omega) λd=>?_
   .grind [str_val]
   refine bx rfl ar (AK.kK ⟨t++[(p,[97])],d,xs++[HI p,HI [97]],k1+1+1+1,f.snoc p [97] (by omega) (by decide),by grind,by omega,by omega⟩ (AK.dG [0,1] rfl ?_ ?_ rfl rfl ?_))
   .simp
   .simp;rfl
   grind
  by_cases a:u=1
  .by_cases y:0<t.length
   .refine AK.Ot (iL.len (l:=1) rfl) λz=>?_;obtain⟨H,cap,rfl⟩:=z.2.2.1 y;refine aW [(27,ae),(35,ab),(39,ab)] rfl ?_ ?_
    .simp[y,a];omega
    refine AK.CY tok 1 rfl rfl rfl rfl rfl rfl rfl ?_ rfl rfl λvs RV=>?_
    .grind
    have w:=f.NX 0 y [65] RV;refine bx rfl ar (AK.kK ⟨t.set 0 ((t.getD 0 cF.bR).1,[65]),.row H cap,_,k1+1,w,by grind,by omega,by omega⟩ (AK.dG [0,1] rfl ?_ ?_ rfl rfl ?_))
    .simp
    .simp;rfl
    grind
   .cases bf;all_goals
     refine aW [(27,ae),(35,ab),(39,ae)] rfl ?_ (AK.kK ⟨t,_,xs,k1+1,f,by omega,by omega,by omega⟩ (AK.dG [0,1] rfl ?_ rfl rfl rfl ?_))
     .simp[y,a]<;>omega
     .simp
     grind
  .refine aW [(27,ae),(35,ae)] rfl (by simp[F,a]) (AK.kK ⟨t,bf,xs,k1+1,f,by omega,by omega,by omega⟩ (AK.dG [0,1] rfl ?_ rfl rfl rfl ?_))
   .simp
   grind
end
end R1
abbrev N0(a b:Bs)(c:Bool):D:=.fw [.one (.c (.str a)),.one (.c (.str b)),.one (.c (.bool c))]
namespace R1
variable {X:Cx ag}
def xA(s:Bs)(c:Int)(h:0<=c/\c<=255):Ev X 231 [dS s,dU c] [] (dI (Lib.indexByte s (UInt8.ofNat (Int.toNat c)))) []:=by
 have e:c=((UInt8.ofNat c.toNat).toNat:Int):=by grind[UInt8.toNat_ofNat']
 grind[Ao]
def Rv:dy:=λargs σ=>match args,σ with
 |[.e (.one (.c (.str a))),.e (.one (.c (.int .u8 b)))],[]=>aa (dI (Lib.indexByte a (UInt8.ofNat (Int.toNat b))),[],[0<=b/\b<=255])
 |_,_=>af
def t231:dM X 231 Rv:=by
 intro args σ res σ' obs h ho;unfold Rv at h;split at h
 .cases h;exact(xA _ _ (ho)).args (λ_ _ r=>r)
 .cases h
def UE:List (Nat×dy):=(231,Rv)::Y7
def KM:bA X UE:=bA.cons t231 (XN)
def iq(s:Bs):Int:=Lib.indexByte s 47
theorem KN(s:Bs):Ev X 224 [dS s,dS [47]] [] (dI (iq s)) []:=by
 refine Ev.bQ Tryz.func224 rfl λa=>?_;by_cases h:s=[47]
 .subst h;refine aR KM [(18,ae),(22,ab)] rfl ?_ (AK.bo rfl ?_)
  .simp
  .simp[iq,Lib.indexByte.eq_def]
 .refine aR KM [(18,ae),(22,ae),(26,ab)] rfl ?_ (AK.bo rfl ?_)
  .simp[cz,cw];grind
  .simp[iq,iG]
def Rw:dy:=λargs σ=>match args,σ with
 |[.e (.one (.c (.str a))),.e (.one (.c (.str [47])))],[]=>aa (dI (iq a),[],[])
 |_,_=>af
def t224:dM X 224 Rw:=by intro args σ res σ' obs h ho;unfold Rw at h;grind[KN]
def UF:List (Nat×dy):=(224,Rw)::UE
def KO:bA X UF:=bA.cons t224 (KM)
def jc(s:Bs):Bs:=if 0<=iq s then s.take (iq s).toNat else s
def me(s:Bs):Bs:=if 0<=iq s then s.drop ((iq s).toNat+1)else[]
def jM(s:Bs):Bool:=decide (0<=iq s)
theorem KP(s:Bs):Ev X 212 [dS s,dS [47]] [] (N0 (jc s) (me s) (jM s)) []:=by
 refine Ev.bQ Tryz.func212 rfl λb=>?_;have d:=b.str 0 rfl;have a:=k8 s 47;change iq s<s.length∨iq s=-1 at a;by_cases h:0<=iq s
 .have c:(iq s+1).toNat=(iq s).toNat+1:=by omega
  refine aR KO [(12,ab)] rfl ?_ (AK.bo rfl ?_)
  .simp[h,bw];omega
  .simp[jc,me,jM,h,rB,c]
 .refine aR KO [(12,ae)] rfl ?_ (AK.bo rfl ?_)
  .simp;omega
  .simp[jc,me,jM,h]
def Rx:dy:=λargs σ=>match args,σ with
 |[.e (.one (.c (.str a))),.e (.one (.c (.str [47])))],[]=>aa (N0 (jc a) (me a) (jM a),[],[])
 |_,_=>af
def t212:dM X 212 Rx:=by intro args σ res σ' obs h ho;unfold Rx at h;grind[KP]
def UG:List (Nat×dy):=(212,Rx)::UF
def Pc:bA X UG:=bA.cons t212 (KO)
theorem Ry(s:Bs):Ev X 184 [dS s,dS [47]] [] (N0 (jc s) (me s) (jM s)) []:=by refine Ev.bQ Tryz.func184 rfl λa=>?_;exact bZ Pc rfl ar (AK.bo rfl)
def Rz:dy:=λargs σ=>match args,σ with
 |[.e (.one (.c (.str a))),.e (.one (.c (.str [47])))],[]=>aa (N0 (jc a) (me a) (jM a),[],[])
 |_,_=>af
def t184:dM X 184 Rz:=by intro args σ res σ' obs h ho;unfold Rz at h;grind[Ry]
def cu(s:Bs):Bool:=decide (s.length=1)&&decide (97<=cw s 0)&&decide (cw s 0<=101)
theorem uc(s:Bs):Ev X 185 [dS s] [] (dB (cu s)) []:=by
 refine Ev.bQ Tryz.func185 rfl λc=>?_;by_cases b:s.length=1
 .by_cases a:97<=cw s 0
  .refine aW [(5,ab),(9,ab)] rfl ?_ (AK.bo rfl ?_)
   .simp only[au,bl];grind[cz]
   .show decide (cw s 0<=101)=cu s;simp[cu,b,a]
  .refine aW [(5,ab),(9,ae)] rfl ?_ (AK.bo rfl ?_)
   .simp only[au,b7];grind[cz]
   .simp[cu,a]
 .refine aW [(5,ae)] rfl ?_ (AK.bo rfl ?_)
  .simp;omega
  .simp[cu,b]
def RA:dy:=λargs σ=>match args,σ with
 |[.e (.one (.c (.str a)))],[]=>aa (dB (cu a),[],[])
 |_,_=>af
def t185:dM X 185 RA:=by intro args σ res σ' obs h ho;unfold RA at h;grind[uc]
def UH:List (Nat×dy):=(184,Rz)::(185,RA)::UG
def FM:bA X UH:=bA.cons t184 (bA.cons t185 (Pc))
def eQ(s:Bs):Bool:=cu (jc s)&&(!jM s||cu (me s))
theorem Eh(s:Bs):Ev X 129 [dS s] [] (dB (eQ s)) []:=by
 refine Ev.bQ Tryz.func129 rfl λc=>?_;cases a:cu (jc s)with
 |false =>
  refine aR FM [(13,ae)] rfl ?_ (AK.bo rfl ?_)
  .simp[a]
  .simp[eQ,a]
 |true =>
  cases b:jM s with
  |false =>
   refine aR FM [(13,ab),(15,ae)] rfl ?_ (AK.bo rfl ?_)
   .simp[a,b]
   .simp[eQ,a,b]
  |true =>
   refine aR FM [(13,ab),(15,ab)] rfl ?_ (AK.bo rfl ?_)
   .simp[a,b]
   .simp[eQ,a,b]
def RB:dy:=λargs σ=>match args,σ with
 |[.e (.one (.c (.str a)))],[]=>aa (dB (eQ a),[],[])
 |_,_=>af
def t129:dM X 129 RB:=by intro args σ res σ' obs h ho;unfold RB at h;grind[Eh]
theorem Cm(s:Bs):Ev X 182 [dS s] [] (dB (b6 s)) []:=by
 refine Ev.bQ Tryz.func182 rfl λe=>?_;have g:=e.str 0 rfl;refine bx rfl ar ?_;refine AK.jA (λi=>i<=s.length/\∀j,j<i->eF (s.getD j 0)=ab) (λi:Nat=>[(0,dS s),(5,dI s.length),(6,dI i)]) (λ_=>[]) (λi=>s.length-i) 0 rfl ?_ rfl ar ⟨by omega,by omega⟩ ?_
 .simp
 rintro i ⟨hi,c⟩;by_cases h:i<s.length
 .generalize a:s.getD i 0=b;by_cases f:b.toNat<97
  .refine aW [(7,ab),(12,ab)] rfl ?_ (AK.gU (cd.zero rfl ?_))
   .simp only[au,j0,bl,a];omega
   .rw[au,j7 h (by rw[a];simp only[eF,qQ,b7];omega)]
  .by_cases k:b.toNat>122
   .refine aW [(7,ab),(12,ae),(17,ab)] rfl ?_ (AK.gU (cd.zero rfl ?_))
    .simp only[au,j0,bl,b7,a];omega
    .rw[au,j7 h (by rw[a];simp only[eF,qQ,b7];omega)]
   .refine aW [(7,ab),(12,ae),(17,ae)] rfl ?_ (AK.fK (i+1) rfl ?_ rfl ar ?_ ?_)
    .simp only[au,j0,bl,b7,a,bw];omega
    .simp
    .refine⟨by omega,λj d=>?_⟩;rcases yP.1 d with d|rfl
     .grind
     .rw[a];simp only[eF,bS,bl];omega
    .omega
 .refine aW [(7,ae)] rfl (by simp;omega) (AK.leave rfl rfl ?_);refine bx rfl ar (AK.bo rfl ?_);rw[au,rY (λj d=>c j (by omega))]
def RD:dy:=λargs σ=>match args,σ with
 |[.e (.one (.c (.str a)))],[]=>aa (dB (b6 a),[],[])
 |_,_=>af
def t182:dM X 182 RD:=by intro args σ res σ' obs h ho;unfold RD at h;grind[Cm]
def UI:List (Nat×dy):=(129,RB)::(182,RD)::UH
def KQ:bA X UI:=bA.cons t129 (bA.cons t182 (FM))
theorem vV(s:Bs):Ev X 126 [dS s] [] (dB (ef s)) []:=by
 refine Ev.bQ Tryz.func126 rfl λb=>?_;by_cases a:s.length<=40
 .refine aR KQ [(5,ab)] rfl ?_ (AK.bo rfl ?_)
  .simp;omega
  .simp[ef,a]
 .refine aR KQ [(5,ae)] rfl ?_ (AK.bo rfl ?_)
  .simp;omega
  .simp[ef,a]
def RE:dy:=λargs σ=>match args,σ with
 |[.e (.one (.c (.str a)))],[]=>aa (dB (ef a),[],[])
 |_,_=>af
def t126:dM X 126 RE:=by intro args σ res σ' obs h ho;unfold RE at h;grind[vV]
def kN(s p:Bs):Bool:=decide (p.length<=s.length)&&(s.take p.length==p)
theorem Cn(s p:Bs):Ev X 187 [dS s,dS p] [] (dB (kN s p)) []:=by
 refine Ev.bQ Tryz.func187 rfl λb=>?_;by_cases a:p.length<=s.length
 .refine aW [(9,ab)] rfl ?_ (AK.bo rfl ?_)
  .simp[a]
  .simp[kN,a,rB]
 .refine aW [(9,ae)] rfl ?_ (AK.bo rfl ?_)
  .simp;omega
  .simp[kN,a]
def RF:dy:=λargs σ=>match args,σ with
 |[.e (.one (.c (.str a))),.e (.one (.c (.str b)))],[]=>aa (dB (kN a b),[],[])
 |_,_=>af
def t187:dM X 187 RF:=by intro args σ res σ' obs h ho;unfold RF at h;grind[Cn]
def UJ:List (Nat×dy):=(126,RE)::(187,RF)::UI
def Pd:bA X UJ:=bA.cons t126 (bA.cons t187 (KQ))
theorem Hk(s p:Bs):Ev X 132 [dS s,dS p] [] (dB (kN s p)) []:=by refine Ev.bQ Tryz.func132 rfl λa=>?_;exact bZ Pd rfl ar (AK.bo rfl)
def RG:dy:=λargs σ=>match args,σ with
 |[.e (.one (.c (.str a))),.e (.one (.c (.str b)))],[]=>aa (dB (kN a b),[],[])
 |_,_=>af
def t132:dM X 132 RG:=by intro args σ res σ' obs h ho;unfold RG at h;grind[Hk]
def UK:List (Nat×dy):=(132,RG)::UJ
def Pe:bA X UK:=bA.cons t132 (Pd)
end R1
def jY.KR(c:jY α)(l:List α)(k n:Nat)(h:k+n<=l.length):c.list n (kX k (c.fn l))=(l.drop k).take n:=by
 apply uk
 .simp[jY.list];omega
 .intro i h1 h2;have hi:i<n:=by grind
  simp[jY.list,kX,jY.fn,xb,aj,bm (by omega:k+i<l.length),c.inv]
def jY.KS(c:jY α)(l:List α):c.fits n (kX k (c.fn l)):=λi _=>by simp[kX,jY.fn,xb,c.inv]
abbrev dR(p x:Bs):D:=.e (.one (.c (.rp [.str p,.str x])))
namespace R1
variable {X:Cx ag}
def under(p q:Bs):Bool:=kN p (q++[47])
def KT(a:bz)(p x:Bs)(h:a.1.length<=4000000):Ev X 131 [dP a,dR p x] [] (dB (under p a.1)) []:=by
 refine Ev.bQ Tryz.func131 rfl λb=>?_;refine bZ Pe rfl ?_ (AK.bo rfl ?_)
 .simp;omega
 .simp[under]
def RH:dy:=λargs σ=>match args,σ with
 |[.e (.agg [.c (.str a0),.c (.str a1)]),.e (.one (.c (.rp [.str p,.str x])))],[]=>aa (dB (under p a0),[],[a0.length<=4000000/\a1=a1/\x=x])
 |_,_=>af
def t131:dM X 131 RH:=by
 intro args σ res σ' obs h ho;unfold RH at h;split at h
 .rename_i a b p x;cases h;exact KT (a,b) p x ho.1
 grind
def UL:List (Nat×dy):=(131,RH)::UK
def yE:bA X UL:=bA.cons t131 (Pe)
abbrev KU(p x:Bs):D:=.e (.one (.c (.fn (.func 131) [] [.rp [.str p,.str x]])))
def ud(t:List bz)(p:Bs):Int:=match t.findIdx? (λf=>under p f.1)with|some i=>i|none=>-1
def N1{t:List bz}{p:Bs}(hi:i<t.length)(h:under p (eY t i)=ab)(a:∀j,j<i->under p (eY t j)=ae):ud t p=i:=by
 have:t.findIdx? (λf=>under p f.1)=aa i:=by grind[List.findIdx?_eq_some_iff_getElem,fileAt]
 rw[ud,this]
theorem yF{t:List bz}{p:Bs}(a:∀j,j<t.length->under p (eY t j)=ae):ud t p=-1:=by
 have:t.findIdx? (λf=>under p f.1)=af:=by grind[List.getElem_of_mem,fileAt]
 rw[ud,this]
def N2(t:List bz)(p x:Bs)(d:∀j,j<t.length->(eY t j).length<=4000000):Ev X 186 [cF.sl t,KU p x] [] (dI (ud t p)) []:=by
 refine Ev.bQ Tryz.func186 rfl λe=>?_;have c:=e.sl 0 rfl;refine bZ yE rfl ar ?_;refine AK.jA (λi=>i<=t.length/\∀j,j<i->under p (eY t j)=ae) (λi:Nat=>[(0,cF.sl t),(1,KU p x),(7,dI t.length),(8,dI i)]) (λ_=>[]) (λi=>t.length-i) 0 rfl ?_ rfl ar ⟨by omega,by omega⟩ ?_
 .simp
 rintro i ⟨hi,a⟩;by_cases h:i<t.length
 .have f:=d i h;cases b:under p (eY t i)with
  |true =>
   refine aR yE [(9,ab),(16,ab)] rfl ?_ (AK.gU (cd.zero rfl ?_))
   .simp[-aj,h,gk,b];omega
   .simp[N1 h b a]
  |false =>
   refine aR yE [(9,ab),(16,ae)] rfl ?_ (AK.fK (i+1) rfl ?_ rfl ar ?_ ?_)
   .simp[-aj,h,gk,b,bw];omega
   .simp
   .grind
   .omega
 .refine aR yE [(9,ae)] rfl (by simp;omega) (AK.leave rfl rfl ?_);refine bZ yE rfl ar (AK.bo rfl ?_);simp[yF (λj g=>a j (by omega))]
def Ap(t:List bz):Prop:=∀j,j<t.length->(eY t j).length<=4000000
def RI:dy:=λargs σ=>match args,σ with
 |[d,.e (.one (.c (.fn (.func 131) [] [.rp [.str p,.str x]])))],[]=>match kr 2 d with
  |none=>af
  |some (n,es)=>aa (dI (ud (cF.list n es) p),[],[cF.fits n es,Ap (cF.list n es),x=x])
 |_,_=>af
def t186:dM X 186 RI:=by
 intro args σ res σ' obs h ho;unfold RI at h;split at h
 .rename_i d p x;split at h
  .cases h
  rename_i n es hd;cases h;exact(N2 _ p x ho.2.1).args (λ_ vs=>cg.imp (λ_=>cF.jD hd ho.1) (cg.imp (λ_ r=>r) (λ_ r=>r)) vs)
 grind
def UM:List (Nat×dy):=(186,RI)::UL
def Pf:bA X UM:=bA.cons t186 (yE)
def N3(t:List bz)(p x:Bs)(a:Ap t):Ev X 130 [cF.sl t,KU p x] [] (dB (decide (0<=ud t p))) []:=by
 refine Ev.bQ Tryz.func130 rfl λb=>?_;refine bZ Pf rfl ?_ (AK.bo rfl ?_)
 .simp[cF.aO,cF.list_fn,a]
 .simp[cF.list_fn]
def RJ:dy:=λargs σ=>match args,σ with
 |[d,.e (.one (.c (.fn (.func 131) [] [.rp [.str p,.str x]])))],[]=>match kr 2 d with
  |none=>af
  |some (n,es)=>aa (dB (decide (0<=ud (cF.list n es) p)),[],[cF.fits n es,Ap (cF.list n es),x=x])
 |_,_=>af
def t130:dM X 130 RJ:=by
 intro args σ res σ' obs h ho;unfold RJ at h;split at h
 .rename_i d p x;split at h
  .cases h
  rename_i n es hd;cases h;exact(N3 _ p x ho.2.1).args (λ_ vs=>cg.imp (λ_=>cF.jD hd ho.1) (cg.imp (λ_ r=>r) (λ_ r=>r)) vs)
 grind
def XO:List (Nat×dy):=(130,RJ)::UM
def qj:bA X XO:=bA.cons t130 (Pf)
def iR(t:List bz)(i:Nat):Bool :=
 eQ (eY t i)&&ef (tZ t i)&&(i==0||!(bc (eY t i) (eY t (i-1))||eY t i==eY t (i-1)))&&(bh i).all λj=>!under (eY t i) (eY t j)
def nN(t:List bz):Bool:=(bh t.length).all (iR t)&&decide (t.length<=6)
def j8{t:List bz}(hi:i<t.length)(h:iR t i=ae):nN t=ae:=by
 cases a:nN t with
 |false=>rfl
 |true =>
  simp only[nN,bS]at a;grind
theorem tC{s:Bs}(h:eQ s=ab):s.length<=3:=by
 simp only[eQ,cu,bS,my,bl,iU]at h;obtain⟨⟨⟨d,_⟩,_⟩,a⟩:=h;have c:=k8 s 47;change iq s<s.length∨iq s=-1 at c;by_cases b:0<=iq s
 .simp only[jc,b,b5,List.length_take]at d;rcases a with a|a
  .simp[jM,b]at a
  .have:=a.1.1;simp only[me,b,b5,qW]at this;omega
 .simp only[jc,b,bM]at d;omega
def Ei{t:List bz}{p:Bs}(hi:i<=t.length):decide (0<=ud (t.take i) p)=!(bh i).all λj=>!under p (eY t j):=by
 have e:∀j,j<i->eY (t.take i) j=eY t j:=by intro j d;simp[eY,aj,d]
 cases h:(bh i).all λj=>!under p (eY t j)with
 |true =>
  grind[yF]
 |false =>
  have a:∃j,j<i/\under p (eY t j)=ab:=by grind
  have:∃k:Nat,ud (t.take i) p=k:=by
   unfold ud;cases c:(t.take i).findIdx? (λf=>under p f.1)with
   |some k=>grind
   |none =>
    obtain⟨j,d,g⟩:=a;rw[List.findIdx?_eq_none_iff]at c;have b:j<(t.take i).length:=by grind
    have:=c _ (qX b);grind[fileAt]
  grind
def DK(t:List bz):Ev X 98 [cF.sl t] [] (dB (nN t)) []:=by
 refine Ev.bQ Tryz.func98 rfl λx=>?_;have r:=x.sl 0 rfl;refine bZ qj rfl ar ?_;refine AK.bY 0 (λi=>i<=t.length/\∀j,j<i->iR t j=ab) (λi:Nat=>[(0,cF.sl t),(5,cF.sl t),(6,dI t.length),(7,dI i)]) (λ_=>[]) (λi=>t.length-i) 0 rfl ?_ rfl ar rfl ⟨by omega,by omega⟩ ?_
 .simp
 rintro i ⟨hi,g⟩;by_cases h:i<t.length
 .cases b:eQ (eY t i)with
  |false =>
   refine bq qj [(8,ab),(14,ae)] rfl ?_ (AK.eX (cd.zero rfl ?_))
   .simp[-aj,h,gk,b]
   .simp[au,j8 h (by simp[iR,b])]
  |true =>
   cases f:ef (tZ t i)with
   |false =>
    refine bq qj [(8,ab),(14,ab),(19,ae)] rfl ?_ (AK.eX (cd.zero rfl ?_))
    .simp[-aj,h,gk,pf,b,f]
    .simp[au,j8 h (by simp[iR,f])]
   |true =>
    have z:Ap (t.take i):=by
     intro j w;simp only[List.length_take]at w;have e:eY (t.take i) j=eY t j:=by simp[eY,aj,(by omega:j<i)]
     rw[e];have:=g j (by omega);simp only[iR,bS]at this;grind[tC]
    have y:cF.list ((i:Int).toNat-0) (kX 0 (cF.fn t))=t.take i:=by rw[cF.KR t 0 _ (by grind)];simp
    cases s:(i==0||!(bc (eY t i) (eY t (i-1))||eY t i==eY t (i-1)))with
    |false =>
     have a:iR t i=ae:=by simp only[iR,s];simp
     have n:i≠0:=by grind
     have l:(bc (eY t i) (eY t (i-1))||eY t i==eY t (i-1))=ab:=by grind
     have d:bw .i64 ((i:Int)-1):=by simp only[bw];omega
     have o:((i:Int)-1).toNat=i-1:=by omega
     refine bq qj [(8,ab),(14,ab),(19,ab),(24,ab),(34,ab)] rfl ?_ (AK.eX (cd.zero rfl ?_))
     .simp only[au,gk,pf,bL,o,l,b,f,bl,d];grind
     .simp[j8 h a]
    |true =>
     have a:iR t i=(bh i).all λj=>!under (eY t i) (eY t j):=by simp only[iR,s,b,f];simp
     apply AK.join [(0,cF.sl t),(3,dI i),(5,cF.sl t),(6,dI t.length),(7,dI i),(4,.e (.one (.ptr 0 0)))] [.cells 110 [.c (.str (eY t i)),.c (.str (tZ t i))]]
     .intro v;by_cases n:i=0
      .refine bq qj [(8,ab),(14,ab),(19,ab),(24,ae),(1000006,ab)] rfl ?_ (v _ _ rfl ?_)
       .simp only[au,gk,pf,bL,b,f,bl,b7];grind
       .simp
      .have l:(bc (eY t i) (eY t (i-1))||eY t i==eY t (i-1))=ae:=by grind
       have d:bw .i64 ((i:Int)-1):=by simp only[bw];omega
       have o:((i:Int)-1).toNat=i-1:=by omega
       refine bq qj [(8,ab),(14,ab),(19,ab),(24,ab),(34,ae),(1000006,ab)] rfl ?_ (v _ _ rfl ?_)
       .simp only[au,gk,pf,bL,o,l,b,f,bl,d];grind
       .simp
     .refine AK.freeze 4 0 rfl rfl rfl ?_;have q:=Ei (t:=t) (p:=eY t i) (i:=i) hi;have k:cF.fits ((i:Int).toNat-0) (kX 0 (cF.fn t)):=cF.KS t;cases u:(bh i).all λj=>!under (eY t i) (eY t j)with
      |false =>
       rw[u]at q a;refine bq qj [(41,ab)] rfl ?_ (AK.eX (cd.zero rfl ?_))
       .simp only[au,cq];grind
       .simp[j8 h a]
      |true =>
       rw[u]at q a;refine bq qj [(41,ae)] rfl ?_ (AK.aQ (i+1) rfl ?_ ?_ ?_ ?_)
       .simp only[au,cq];have m:decide (0<=ud (cF.list ((i:Int).toNat-0) (kX 0 (cF.fn t))) (eY t i))=ae:=by grind
        exact⟨by simp only[bw];omega,k,by grind,ar,m,by omega,by omega⟩
       .simp
       .trivial
       .grind
       .omega
 .have:i=t.length:=by omega
  subst this;refine aR qj [(8,ae)] rfl (by simp) (AK.leaveD rfl rfl ?_);refine bZ qj rfl ar (AK.bo rfl ?_);simp only[au,nN];grind
end R1
section
open Go.Conc
def aD.TU(hh:aD σ s){B:bd}{L:Loc}(k:σ[l]?=aa B)(j:s.β[l]?=aa L)(n:(∃E cs,B=.cells E cs)∨∃H,B=.cf H):
  aD (σ.set l .dead) {s with β:=s.β.set l ⟨L.v,[]⟩}/\Step σ s (σ.set l .dead) {s with β:=s.β.set l ⟨L.v,[]⟩}:=by
 have d:l<σ.length:=(b8.1 k).1;have f:l<s.β.length:=(b8.1 j).1;have c:∀l',(s.β.set l ⟨L.v,[]⟩)[l']?=if l=l' then aa ⟨L.v,[]⟩else s.β[l']?:=by grind
 have a:∀L'∈s.β.set l ⟨L.v,[]⟩,∀b∈L'.bs,L'∈s.β:=by grind
 have st:Step σ s (σ.set l .dead) {s with β:=s.β.set l ⟨L.v,[]⟩}:=by
  refine⟨aZ _,λ_ _ _=>rfl,λ_ _ _ h=>h,λ_ _ _ _=>rfl,λL' gm b hb=>.inr ⟨L',a L' gm b hb,hb⟩,?_,rfl,rfl,rfl,rfl⟩;intro l' B' L' lQ gm;by_cases e:l=l'
  .subst e;rw[k]at lQ;cases lQ;rw[j]at gm;cases gm;refine⟨.dead,⟨L.v,[]⟩,by grind,by grind,?_⟩;rcases n with⟨E,cs,rfl⟩|⟨H,rfl⟩<;>rfl
  .exact⟨B',L',by grind,by grind,.refl _ _⟩
 refine⟨⟨hh.mem,by simp[hh.len],?_,?_,λL' gm b hb=>hh.lt L' (a L' gm b hb) b hb,λb hb=>⟨(hh.own b hb).1,λL' gm nZ=>(hh.own b hb).2 L' (a L' gm b nZ) nZ⟩⟩,st⟩
 .intro l' B' L' lQ gm;by_cases e:l=l'
  .subst e;rw[fQ d]at lQ;cases lQ;trivial
  .rw[kF e]at lQ;rw[c,a9 e]at gm;exact(hh.box l' B' L' lQ gm).carry st.ext hh.len λb hb=>⟨rfl,λo=>rfl⟩
 .intro m p L1 L2 h1 h2 b i g;rw[c]at h1 h2;split at h1
  .grind
  .split at h2
   .grind
   .exact hh.eU m p L1 L2 h1 h2 b i g
def dk.closed(c:s'.M=s.M){d:D}(h:dk σ s v d)(a:uV 0 d=ab):dk σ' s' v d:=by have h1:=dk.drop (σ1:=[]) (rest:=σ) h a;refine dk.mono (σ:=[]) (s:=s.cut 0) ⟨λb o v hm=>by rw[c];exact hm,λl B L e _=>by grind⟩ (by simp[St.cut]) h1
end
namespace R1
section
variable {X:Cx ag}
def kZ(t:Bs):List Bs:=if ef t then pieces t else[]
def OV(t:Bs)(f:Nat)(acc:List Bs):Prop:=∃k,fg t t.length 0=acc++fg t k f/\t.length<=f+k/\acc.length<=f
def Fp:dM X 126 (kB aS (λs=>dB (ef s)) λ_=>[]):=.ox λs _=>vV s
def Jz:dy:=λargs σ=>match args,σ with
 |[.e (.one (.c (.str t)))],[]=>aa (.e (.one (.c (OU t))),[],[])
 |_,_=>af
def QH:dM X 183 Jz:=by intro args σ res σ' obs h ho;unfold Jz at h;grind[Na]
def GA(t:Bs):Ev X 128 [dS t] [] (cS.sl (kZ t)) []:=by
 refine(dL.zD (ι:=Unit) (σ':=λ_=>[]) (res:=λ_=>cS.sl (kZ t)) Tryz.func128 rfl rfl rfl λu=>?_).F3;have m:bA X [(126,kB aS (λs=>dB (ef s)) λ_=>[])]:=.cons Fp .nil;refine nH.seq (AW.top (AK.of_code ?_));refine bZ m rfl ar ?_;refine nH.seq (AW.top (AK.of_code ?_));cases d:ef t with
 |false =>
  refine aR m [(8,ab)] rfl ?_ (AK.ret ⟨(),cd.zero rfl ?_⟩)
  .simp[d]
  .simp[kZ,d]
 |true =>
  have g:=d;simp only[ef,bS,bl]at g;refine aR m [(8,ae)] rfl ?_ ?_
  .simp[d]
  refine nH.seq (AW.top (AK.of_code ?_));refine bZ m rfl ar ?_;refine nH.seq (nH.seq (AW.top (AK.of_code (AK.gf 1 0 9 1 (cS.fn []) rfl rfl ?_))));refine bZ (.cons QH .nil) rfl ar ?_;refine nH.block ?_;refine nH.rangeFunc (capD:=fC [.rp [.str t]]) (ck.callee rfl) (Gz (T:=List Bs) t g.2 (by omega) (λ_=>.cells 9 [.c (.str t)]) (λacc=>.cells 128 [.vec 2 1 acc.length (cS.fn acc)]) (λacc=>.vec 9 1 acc.length (cS.fn acc)) (OV t) [] ?_ (λt=>⟨by simp,by simp,by simp⟩) ?_) (λi=>⟨rfl,by simp⟩) λi=>⟨.normal,rfl,?_⟩
  .exact⟨t.length,by simp,by omega,by simp⟩
  .rintro f acc hf hR;have b:=mX t f hf;refine Yields.intro (j:=af) rfl rfl rfl rfl (AK.of_code ?_);refine bx rfl ar ?_;refine⟨rfl,rfl,AK.of_code ?_⟩;refine bx rfl ?_ ?_
   .obtain⟨k,_,_,o⟩:=hR;have q:=b.1;have q2:=b.2.1;refine⟨rfl,rfl,?_,Int.natCast_nonneg _,Int.ofNat_le.2 (Nat.le_of_lt q),Int.ofNat_le.2 q2⟩;show(acc.length+1)*16<=_;omega
   have n:OV t (cutAt t f) (acc++[(t.drop f).take (cutAt t f-f)]):=by
    obtain⟨k,l,r,o⟩:=hR;obtain⟨k',rfl⟩:∃k',k=k'+1:=⟨k-1,by omega⟩
    refine⟨k',?_,by omega,by grind⟩;rw[l];simp only[fg];grind
   refine⟨rfl,rfl,⟨_,n⟩,kY rfl ?_⟩;have e:rB t (aa (f:Int)) (aa (cutAt t f:Int))=(t.drop f).take (cutAt t f-f):=by simp[rB,List.drop_take]
   have p:cp (acc.length+1) (cy acc.length (cS.fn acc) λi=>[[C.str (rB t (aa (f:Int)) (aa (cutAt t f:Int)))]].getD i []) (cS.fn (acc++[(t.drop f).take (cutAt t f-f)])):=by rw[e];exact jY.cr cS acc _
   have a:acc.length+1=(acc++[(t.drop f).take (cutAt t f-f)]).length:=by simp
   refine au.cat.2 ⟨by simp,au.cat.2 ⟨au.cat.2 ⟨⟨a,p⟩,ar⟩,au.cat.2 ⟨⟨a,p⟩,au.cat.2 ⟨rfl,ar⟩⟩⟩⟩
  .obtain⟨acc,k,l,r,o⟩:=i;have h:fg t k t.length=[]:=by cases k<;>simp[fg]
   rw[h,jR]at l;have e:kZ t=acc:=by simp only[kZ,d,b5,pieces,l]
   rw[e];show nH X _ _ _ _ _;refine AW.top (AK.of_code ?_);refine bx rfl ar ?_;refine AK.ret ⟨(),cd.zero rfl ?_⟩;exact⟨rfl,cp.same⟩
def Nb:dM X 128 (kB aS (λs=>cS.sl (kZ s)) λ_=>[]):=.ox λs _=>GA s
def TK:dM X 125 (oa (aL cS) aS (λl _=>dS l.flatten) λl s=>[s=[],l.flatten.length<=140737488355328]):=.qC λl s h=>by obtain⟨rfl,h⟩:=h;exact M4 l h
def Nc:dy:=oa (aL cS) (aL cS) (λa b=>dB (a==b)) λ_ _=>[]
def Xa:dM X 127 Nc:=.qC λa b _=>Qy a b
def DJ(l:List Bs)(h:l.flatten.length<=140737488355328):Ev X 97 [cS.sl l] [] (zR (fZ l)) []:=by
 refine Ev.bQ Tryz.func97 rfl λd=>?_;have c:bA X [(125,oa (aL cS) aS (λl _=>dS l.flatten) λl s=>[s=[],l.flatten.length<=140737488355328]),(126,kB aS (λs=>dB (ef s)) λ_=>[]),(127,Nc),(128,kB aS (λs=>cS.sl (kZ s)) λ_=>[])]:=.cons TK (.cons Fp (.cons Xa (.cons Nb .nil)));have el:cS.list l.length (cS.fn l)=l:=cS.list_fn l;cases a:ef l.flatten with
 |false =>
  refine aR c [(8,ae),(9,ab),(16,ab)] rfl ?_ (AK.bo rfl ?_)
  .simp only[au,el,a,cS.aO,eq_self,aH,aE];grind
  .simp[fZ,a]
 |true =>
  cases b:(pieces l.flatten==l)with
  |false =>
   refine aR c [(8,ab),(9,ae),(14,ae),(16,ab)] rfl ?_ (AK.bo rfl ?_)
   .simp only[au,el,cS.list_fn,a,cS.aO];simp[h,kZ,a,b,-List.length_flatten]
   .simp[fZ,b]
  |true =>
   refine aR c [(8,ab),(9,ae),(14,ab),(16,ae)] rfl ?_ (AK.bo rfl ?_)
   .simp only[au,el,cS.list_fn,a,cS.aO];simp[h,kZ,a,b,-List.length_flatten]
   .simp[fZ,a,b,el]
end
section
open Go.Proofs Go.Conc Go.Conc.Lib
open Go.ConcN (WgLive PayAt Has RW AtR0)
open Go.ConcR (KK WgAt stA smA rd wr mk Payload DC0)
noncomputable def TV:Code:=vX (kt (kt (kt DM)))
noncomputable def YU:Code:=vX TV
noncomputable def Xe:Code:=kt (kt (kt DM))
def QO:Xe=.seq (.seq YU (.block 0 (.loop im))) mY:=by kernel_rfl
section
variable {σ0:List bd}{s0:St}{φ:Fr}{σ:List bd}{a:Act}{s:St}{S:aq->St->Prop}
def At.goes{Wg:Nat}{j:aq}:∀(m:Nat)(g:aq)(s:St),At σ0 s0 φ σ a s->WgLive 164 Wg s.w->Goes ag ab (fp 164 Wg) DC0 (λg _=>g=j) m g s.w ->
  (∀c,At σ0 s0 φ σ a c->fu (Cx.beside ag) S j c)->fu (Cx.beside ag) S g s
 |0,g,s,h,_,f,K=>by obtain rfl:g=j:=f s.w (.refl _);grind
 |m+1,g,s,h,hl,f,K=>by
  rcases f with f|⟨n,f⟩
  .obtain rfl:g=j:=f s.w (.refl _);grind
  .refine .next n λc b=>?_;have h1:=h.rely b.1;obtain⟨d,o⟩:=b.2;have i:WgLive 164 Wg c.w:=by rw[o];exact hl
   have h2:=f c.w (λ_=>i);cases e:aG ag ab g c.w with
   |go g' w' es =>
    rw[e,goes_go]at h2;obtain⟨⟨rfl,rfl⟩,l⟩:=h2;exact⟨g',c,#[],e,.quiet h1.hh,At.goes m g' c h1 i l K⟩
   |_=>rw[e]at h2;exact h2.elim
def kU{σ:List bd}{s:St}(b:∀B∈σ,B=.dead){ds:List Deferred}{ls:List Nat}(h:om σ s ds ls):ds=[]:=by
 cases ds with
 |nil=>rfl
 |cons d ds =>
  cases ls with
  |nil=>exact h.elim
  |cons l ls =>
   have:=b _ (bH h.1.1);cases this
end
section
variable {k:Int}{ps:List ba}{ns:List Int}{C:Nat}{xs:List ai}
variable (k ps ns C)in
def Nk:Fr:=[(2,cI.sl ns),(3,.e (.one (.ptr 0 0))),(4,.e (.one (.ptr 1 0))),(8,.e (.one (.ptr 3 0))),(9,.e (.one (.ptr 4 0)))]
variable (k ps ns C xs)in
def zY:List bd:=[.cells 3 [.c (.int .i64 k)],.cells 23 [.c (.sl ae 2 ps.length (cP.fn ps))],.cf (iL 166 2 (.row C ns.length) ns.length xs),.cells 154 [.c (.val (.slice (aa ⟨C,0,af⟩) ns.length ns.length))],.cells 164 [.c (.int .u64 0),.c (.int .u32 0)]]
variable (k ps ns)in
def Mc(x i:Nat):ai:=if i=0 then .string ⟨((c6 k ps (ns.getD x 0)).getD []).toArray⟩else .bool (c6 k ps (ns.getD x 0)).isSome
variable (k ps ns)in
def lK:List ai:=ns.flatMap λn=>[.string ⟨((c6 k ps n).getD []).toArray⟩,.bool (c6 k ps n).isSome]
variable (k ps ns C)in
def DO:List bd:=[.dead,.dead,.cf (iL 166 2 (.row C ns.length) ns.length (lK k ps ns)),.dead,.dead]
def pR3{X:Cx ag}:AW X 45 YU (NQ ((18,cI.sl ns)::(19,dI ns.length)::(20,dI 0)::Nk ns) (zY k ps ns C xs)) (Nk ns) (zY k ps ns C xs):=by refine AK.of_code ?_;refine bx rfl ar ⟨rfl,dv rfl ?_,rfl⟩;simp
theorem BM:(lK k ps ns).length=ns.length*2:=by
 unfold lK;induction ns with
 |nil=>rfl
 |cons n r b=>grind
def zZ:∀{ns:List Int}{x i:Nat},x<ns.length->i<2->(lK k ps ns)[2*x+i]?=aa (Mc k ps ns x i)
 |[],x,i,h,_=>by grind
 |n::r,0,i,_,hi=>by
  match i,hi with
  |0,_=>rfl
  |1,_=>rfl
 |n::r,x+1,i,h,hi=>by have:=zZ (ns:=r) (x:=x) (i:=i) (by grind) hi;unfold lK at this⊢;rw[oA,fx (by grind)];rw[show 2*(x+1)+i - [Value.string ⟨((c6 k ps n).getD []).toArray⟩,Value.bool (c6 k ps n).isSome].length=2*x+i by grind];rw[this];simp[Mc]
def _root_.Go.AM.ck.seen{N b:Nat}{d:D}{σ:List bd}{s:St}{φ:Fr}{a:Act}(f:ck N σ s φ a)(h:dk σ s (a.tmps.getD b ah) d):ck N σ s ((b,d)::φ) a:=by
 refine⟨f.size,f.defers,λt=>?_⟩;simp only[look];cases hb:av b t with
 |false=>exact f.slot t
 |true=>grind[Nat.eq_of_beq_eq_true]
abbrev JH(n C:Nat):Fr:=[(8,.e (.one (.c (.rp [.val (.slice (aa ⟨C,0,af⟩) n n)]))))]
variable (k ps ns C)in
abbrev TX:Fr:=(8,.e (.one (.c (.rp [.val (.slice (aa ⟨C,0,af⟩) ns.length ns.length)]))))::(4,.e (.one (.c (.rp [.sl ae 2 ps.length (cP.fn ps)]))))::(3,.e (.one (.c (.rp [.int .i64 k]))))::(18,cI.sl ns)::(19,dI ns.length)::(20,dI 0)::[(9,.e (.one (.ptr 4 0)))]
def TY(hfe:dM (Cx.work ag) 123 (lJ k)){Q:Post}(hn:ns.length<=4000000)(TZ:nH (Cx.beside ag) 45 qh Q (JH ns.length C) (DO k ps ns C)):nH (Cx.beside ag) 45 Xe Q (Nk ns) (zY k ps ns C xs):=by
 intro so ao hf hho b kk cs S hb LK hQ;have h:At (zY k ps ns C xs) so (Nk ns) (zY k ps ns C xs) ao so:=⟨hf,hho,.refl _ _⟩;refine h.ctl rfl (λw=>uF QO) λs h=>?_
 refine h.ctl rfl (λw=>nw) λs h=>?_;refine h.code hb pR3 λa s h=>?_;obtain⟨s1,w1,f1,A,PH⟩:=ck.freeze 3 0 (E:=3) (cs:=[.c (.int .i64 k)]) (cc:=[.int .i64 k]) rfl rfl rfl h.fr h.hh;refine .ghost (.of h.hh A w1 (PH.n3 h.hh)) ?_;obtain⟨s2,w2,f2,D,oe⟩:=ck.freeze 4 1 (E:=23) (cs:=[.c (.sl ae 2 ps.length (cP.fn ps))]) (cc:=[.sl ae 2 ps.length (cP.fn ps)]) rfl rfl rfl f1 A;refine .ghost (.of A D w2 (oe.n3 A)) ?_;obtain⟨s3,w3,f3,Sa,Tr⟩:=ck.freeze 8 3 (E:=154) (cs:=[.c (.val (.slice (aa ⟨C,0,af⟩) ns.length ns.length))]) (cc:=[.val (.slice (aa ⟨C,0,af⟩) ns.length ns.length)]) rfl rfl rfl f2 D;refine .ghost (.of D Sa w3 (Tr.n3 D)) ?_;have h:At (zY k ps ns C xs) so (TX k ps ns C)
   [.dead,.dead,.cf (iL 166 2 (.row C ns.length) ns.length xs),.dead,.cells 164 [.c (.int .u64 0),.c (.int .u32 0)]] a s3 :=
  ⟨f3.le (dv rfl (by simp)),Sa,h.st.trans ((PH.n3 h.hh).trans ((oe.n3 A).trans (Tr.n3 D)))⟩
 clear PH oe Tr f1 f2 f3 A D Sa;refine h.ctl rfl (λw=>rm) λs h=>?_;refine h.ctl rfl (λw=>Ey) λs h=>?_;have hlen:=h.hh.len;simp only[gb,jk]at hlen;obtain⟨F,y⟩:∃L,s.β[2]?=aa L:=⟨_,bm (by omega)⟩
 obtain⟨W,H⟩:∃L,s.β[4]?=aa L:=⟨_,bm (by omega)⟩
 obtain⟨ch,hH,T1,Sm,W2⟩:=h.hh.box 2 _ F rfl y;obtain⟨zs,VP,Pv,SA⟩:=iL.lookup hH;obtain⟨U7,_,ZQ,_,_,_⟩:=hH;have V:C∈F.bs:=(Sm C).2 (by grind);have T2:=T1 C _ Pv;obtain⟨Wg,vs,aby,I,RV,hM4⟩:=h.hh.box 4 _ W rfl H;have Xf:vs=[.int .u64 0,.int .u32 0]:=by
  match vs,RV with
  |[],r=>exact r.elim
  |[_],r=>exact r.2.elim
  |_::_::_::_,r=>exact r.2.2.elim
  |[u0,u1],r =>
   have r0:Rd s.M u0 (.int .u64 0):=r.1;have r1:Rd s.M u1 (.int .u32 0):=r.2.1;cases r0;cases r1;rfl
 subst Xf;have AE:C≠Wg:=by grind
 have hv9:a.tmps.getD 9 ah=.pointer (aa ⟨Wg,0,af⟩):=by obtain⟨_,L,bb,q1,q2,q3⟩:=h.fr.slot 9;grind
 obtain⟨g1,t1⟩:=h.hh.TU (l:=2) rfl y (.inr ⟨_,rfl⟩);have Xg:(s.β.set 2 ⟨F.v,[]⟩)[4]?=aa W:=by grind
 obtain⟨g2,t2⟩:=g1.TU (l:=4) (B:=.cells 164 [.c (.int .u64 0),.c (.int .u32 0)]) rfl Xg (.inl ⟨_,_,rfl⟩);generalize hsB:({s with β:=(s.β.set 2 ⟨F.v,[]⟩).set 4 ⟨W.v,[]⟩}:St)=sB at g2 t2;have eβ:sB.β=(s.β.set 2 ⟨F.v,[]⟩).set 4 ⟨W.v,[]⟩:=by grind
 have eM:sB.M=s.M:=by grind
 have ew:sB.w=s.w:=by grind
 have eo:sB.own=s.own:=by grind
 have YV:aD d5 sB:=g2;have LQ:=(t1.n3 h.hh).trans (t2.n3 g1);have Xh:sB.β[2]?=aa ⟨F.v,[]⟩:=by grind
 have p:∀L∈sB.β,∀x∈L.bs,∃l,l≠2/\l≠4/\s.β[l]?=aa L:=by grind[List.mem_iff_getElem?]
 have CJ:C<s.w.heap.size:=h.hh.lt F (bH y) C V;have AF:Wg<s.w.heap.size:=h.hh.lt W (bH H) Wg (by grind)
 have Xi:LP C sB:=⟨by rw[eo];exactλho=>(h.hh.own C ho).2 F (bH y) V,λL d f=>by obtain⟨l,n2,n4,hl⟩:=p L d C f;exact n2 (h.hh.eU l 2 L F hl y C f V),λo=>by rw[eM];grind,by grind⟩
 have J:LP Wg sB:=⟨by rw[eo];exactλho=>(h.hh.own Wg ho).2 W (bH H) (by grind),λL d f=>by obtain⟨l,n2,n4,hl⟩:=p L d Wg f;exact n4 (h.hh.eU l 4 L W hl H Wg f (by grind)),λo=>by rw[eM];grind,by grind⟩
 have fB:ck 45 d5 sB (mF k ps ns C Wg 0) a:=by have q:=h.fr.mono LQ h.hh.len;have q9:ck 45 d5 sB ((9,.e (.one (.v (.pointer (aa ⟨Wg,0,af⟩)))))::TX k ps ns C) a:=q.seen (by rw[hv9];exact Rd.val rfl);exact q9.le (dv rfl (by simp))
 have R:(xs++zs).toArray.size=2*ns.length:=by grind
 have MI:∀x,(s.own x∨∃L∈s.β,x∈L.bs)->x<s.w.heap.size:=λx f=>f.elim (λq=>(h.hh.own x q).1) λ⟨L,d,q⟩=>h.hh.lt L d x q;refine .uO (T:=λg' s'=>∃a4 m,At (zY k ps ns C xs) so (JH ns.length C) (DO k ps ns C) a4 s'/\WgLive 164 Wg s'.w/\Goes ag ab (fp 164 Wg) DC0 (λg _=>g=G (b.aT (a4.put (aa 28) (.tuple #[])) (.inRegion xt []::.code qh::kk)) cs) m g' s'.w)
  (AD.fork (n:=ns.length) (ty:=164) (val:=Mc k ps ns) (N:=2*ns.length) (s0:=sB) 2 (by omega) Wg C (by omega) AE (.of h.hh YV ew LQ) rfl ⟨F,bH y,V⟩ ⟨W,bH H,by grind⟩ MI ?_ I ⟨_,T2,R⟩ ?_) ?_
 .rintro x (rfl|rfl)
  .exact⟨Xi.own,Xi.β,Xi.M⟩
  .exact⟨J.own,J.β,J.M⟩
 .intro Y hYW hYC hYk;subst hYW hYC;refine⟨TF k ps ns Y d5 sB b kk cs,Vu k ps ns Y d5 sB b kk cs,λg s f=>anF J LK f,?_,?_⟩
  .refine Nj hfe hYk J LK hb (by decide) hn (λi hi=>rfl) (λi hi=>rfl) ns.length (aZ _) a sB ⟨by grind,YV,.refl _ _⟩ ⟨_,_,by rw[ew];exact I⟩
  .rintro g' s' ⟨a4,⟨j,JE⟩,m,hgo⟩ hm' T3 QP S7 EP;obtain⟨o1,o2,o3⟩:=EP Y.C (.inl rfl);obtain⟨lS,O,abD⟩:=T3;have S8:lS=(lK k ps ns).toArray:=by
    apply Array.ext_getElem?;intro o;have eo':(lK k ps ns).toArray[o]?=(lK k ps ns)[o]?:=by simp
    rw[eo'];rcases cA o (2*ns.length)with ho|ho
    .have q1:=QP (o / 2) (by omega) (o % 2) (by omega);have q2:=zZ (k:=k) (ps:=ps) (ns:=ns) (x:=o / 2) (i:=o % 2) (by omega) (by omega);rw[show 2*(o / 2)+o % 2=o by omega]at q1 q2;rw[q2];simpa[aV,O]using q1
    grind[BM]
   subst S8;have CG:s'.β.length=5:=j.hh.len;obtain⟨B2',YW,p1,p2,p3⟩:=j.st.box 2 .dead ⟨F.v,[]⟩ rfl Xh;have abF:YW.v=.nilFunc:=by cases p1;exact(show YW.v=F.v from p3).trans U7
   have P:∀(l:Nat) (B:bd),d5[l]?=aa B->B=.dead:=by
    intro l B u
    match l,u with
    |0,u|1,u|2,u|3,u|4,u=>cases u;rfl
   have X:∀l,(s'.β.set 2 ⟨.nilFunc,[Y.C]⟩)[l]?=if l=2 then aa ⟨.nilFunc,[Y.C]⟩else s'.β[l]?:=by grind
   have z:∀L∈s'.β.set 2 ⟨.nilFunc,[Y.C]⟩,L=⟨.nilFunc,[Y.C]⟩∨L∈s'.β:=λL d=>by grind
   have hh4:aD (DO k ps ns Y.C) {s' with β:=s'.β.set 2 ⟨.nilFunc,[Y.C]⟩}:=by
    refine⟨j.hh.mem,by simp[CG,DO],?_,?_,?_,λx f=>⟨(j.hh.own x f).1,λL d K=>?_⟩⟩
    .intro l B L u d;rw[X]at d;by_cases e:l=2
     .subst e;rw[bn rfl]at d;cases d;cases u;refine⟨λb'=>if b'=Y.C then aa (.cells (lK k ps ns++[]).toArray 166 (0,0))else af,⟨rfl,?_,BM,aZ _,by omega,[],by grind,rfl⟩,λb' ob nZ=>?_,λb'=>?_,λb' nZ o=>?_⟩
      .intro x f;simp only[lK,qV]at f;obtain⟨_,_,f⟩:=f;simp only[dK,nt,or_false]at f;rcases f with rfl|rfl<;>rfl
      .by_cases e:b'=Y.C
       .subst e;simp only[b5]at nZ;cases nZ;rw[jR];exact O
       grind
      .by_cases e:b'=Y.C<;>simp[e]
      grind
     .match l,u,e with
      |0,u,_|1,u,_|3,u,_|4,u,_=>cases u;trivial
      |2,_,e=>grind
    .intro l l' L L' d Z x f OH;rw[X]at d Z;by_cases e:l=2
     .grind
     .rw[a9 e]at d;by_cases e':l'=2
      .grind
      .rw[a9 e']at Z;exact j.hh.eU l l' L L' d Z x f OH
    .intro L d x f;rcases z L d with rfl|d
     .grind
     .exact j.hh.lt L d x f
    .rcases z L d with rfl|d
     .grind
     .exact(j.hh.own x f).2 L d K
   have Xj:cN [.dead,.dead,.cf (iL 166 2 (.row Y.C ns.length) ns.length xs),.dead,.cells 164 [.c (.int .u64 0),.c (.int .u32 0)]] s (DO k ps ns Y.C) {s' with β:=s'.β.set 2 ⟨.nilFunc,[Y.C]⟩}:=by
    have q:=j.st;refine⟨by have:=q.size;grind,λx f=>by have:=q.keep x (by grind);grind,λx o v f=>q.mem x o v (by grind),λx f XW o=>?_,λL d x f=>?_,?_,by rw[q.os,ew],by rw[q.tape,ew],by rw[q.output,ew],by rw[q.own,eo]⟩
    .rw[q.iI x (by grind) (λL d K=>by
      obtain⟨l,_,_,hl⟩:=p L d x K
      grind) o,eM]
    .rcases z L d with rfl|d
     .grind
     .rcases q.ur L d x f with r1|⟨L0,r1,r2⟩
      .grind
      .obtain⟨l,_,_,hl⟩:=p L0 r1 x r2;grind
    .intro l B L u d;obtain⟨B1,L1,r1,r2,r3⟩:=LQ.box l B L u d;obtain⟨B3,L3,u1,u2,u3⟩:=q.box l B1 L1 r1 r2;have eB1:=P l B1 r1;have eB3:=P l B3 u1;subst eB1 eB3;by_cases e:l=2
     .subst e;cases u;rw[y]at d;cases d;exact⟨_,⟨.nilFunc,[Y.C]⟩,rfl,by grind,U7.symm⟩
     .refine⟨.dead,L3,?_,by grind,r3.trans u3⟩
      match l,u1,e with
      |0,_,_|1,_,_|3,_,_|4,_,_=>rfl
      |2,_,e=>grind
   refine⟨{s' with β:=s'.β.set 2 ⟨.nilFunc,[Y.C]⟩},⟨a4,m,⟨⟨j.fr.size,⟨[],?_⟩,λt=>?_⟩,hh4,h.st.trans Xj⟩,JE,hgo⟩,rfl,hm',λSh U hnC=>⟨U.own,λx f L d K=>?_,U.M,U.lt⟩⟩
   .obtain⟨ls,Vr⟩:=j.fr.defers;rw[kU (λB u=>by grind) Vr];trivial
   .have fq:ck 45 d5 s' (JH ns.length Y.C) a4:=j.fr.le (dv rfl (by simp));exact dk.closed (s:=s') (s':={s' with β:=s'.β.set 2 ⟨.nilFunc,[Y.C]⟩}) rfl (fq.slot t) (pM rfl)
   .rcases z L d with rfl|d
    .grind
    .exact U.β x f L d K
 .rintro g' s' ⟨a4,m,h4,hl4,hgo⟩;refine At.goes m g' s' h4 hl4 hgo λs1 h1=>?_;have h2:At (zY k ps ns C xs) so ((28,.any)::JH ns.length C) (DO k ps ns C) (a4.put (aa 28) (.tuple #[])) s1:=⟨h1.fr.put (by decide) ar,h1.hh,h1.st⟩
  refine h2.ctl rfl (λw=>iK) λs2 h3=>?_;refine TZ s2 _ (h3.fr.le (dv rfl (by simp))) h3.hh b kk cs S hb LK λe φ' σ' s' a' q f' h' pY=>hQ e φ' σ' s' a' q f' h' (h3.st.trans pY)
end
end
abbrev Xk(a:List Bs)(b:Bool):D:=.fw [.one (.c (.sl ae 1 a.length (cS.fn a))),.one (.c (.bool b))]
def dD(k:Int)(ps:List ba)(ns:List Int):Option (List Bs):=if ns.all (λn=>(c6 k ps n).isSome)then aa (ns.map λn=>(c6 k ps n).getD [])else af
noncomputable def cR0:Code:=vX DM
noncomputable def cR1:Code:=vX (kt DM)
noncomputable def cR2:Code:=vX (kt (kt DM))
def Nl:Tryz.f96.body=aa (.seq cR0 (.seq cR1 (.seq cR2 Xe))):=by kernel_rfl
def QQ(k:Int)(ps:List ba)(ns:List Int)(i:Nat):List AM.C:=[.str ((c6 k ps (ns.getD i 0)).getD []),.bool (c6 k ps (ns.getD i 0)).isSome]
def tY(k:Int)(ps:List ba)(ns:List Int):List Bs:=ns.map λn=>(c6 k ps n).getD []
theorem BN{b p:Bs}(h:eO b=aa p):p.length<=8:=by
 unfold eO at h;split at h
 .rename_i a;cases h;simp only[bS,bG,bl]at a;omega
 grind
theorem GH{k:Int}{x:cn}{p:Bs}(h:chunk k x=aa p):p.length<=8:=by unfold chunk at h;grind[BN]
theorem yb{k:Int}{ps:List ba}{n:Int}:((c6 k ps n).getD []).length<=8:=by
 cases h:c6 k ps n with
 |none=>simp
 |some p =>
  obtain⟨q,_,a⟩:=List.exists_of_findSome?_eq_some h;unfold dt at a;grind[GH]
theorem QR{k:Int}{ps:List ba}{ns:List Int}(hi:i<ns.length){c:AM.C}{x:ai}(a:(QQ k ps ns i)[j]?=aa c)(b:(lK k ps ns)[i*2+j]?=aa x):Rd M x c:=by
 have d:j<2:=(b8.1 a).1;have:=zZ (k:=k) (ps:=ps) hi d;rw[Nat.mul_comm,this]at b;cases b
 match j,d with
 |0,_ =>
  cases a;have:=yb (k:=k) (ps:=ps) (n:=ns.getD i 0);exact .str rfl (by omega)
 |1,_=>cases a;exact .bool
def _root_.Go.AM.nH.le{P:aM}{X:Cx P}{N:Nat}{Q:Post}{φ φ':Fr}{σ:List bd}{c:Code}(h:nH X N c Q φ' σ)(hl:rJ φ φ'):nH X N c Q φ σ:=λs a f hh=>h s a (f.le hl) hh
def BJ{k:Int}(g:dM (Cx.work ag) 123 (lJ k))(ps:List ba)(ns:List Int)(p:ns.length<=4000000):
  Ev (Cx.beside ag) 96 [dI k,cP.sl ps,cI.sl ns] [] (Xk ((dD k ps ns).getD []) (dD k ps ns).isSome) []:=by
 refine dL.F3 (dL.zD (ι:=Unit) Tryz.func96 rfl Nl rfl λs=>?_);show nH _ 45 _ _ _ _;refine nH.seq (AW.top (AK.of_code ?_));refine bx rfl ar ?_;show nH _ 45 _ _ _ _;refine nH.seq (AW.top (AK.of_code ?_));refine bx rfl ar ?_;refine AK.HV (E:=166) (n:=ns.length) tok rfl rfl rfl rfl rfl rfl (by show _*24<=_;omega) (by omega) rfl rfl λC xs=>?_;refine bx rfl ar ?_;show nH _ 45 _ _ _ _;refine nH.seq (AW.top (AK.of_code ?_));refine bx rfl ar ?_;show nH _ 45 _ _ _ _;have a:nH (Cx.beside ag) 45 qh (λe φ σ1=>∃_:Unit,cd Tryz.f96 0 (Xk ((dD k ps ns).getD []) (dD k ps ns).isSome) [] e φ σ1) (JH ns.length C) (DO k ps ns C):=by
  refine AW.top (AW.mono (Q:=cd Tryz.f96 0 (Xk ((dD k ps ns).getD []) (dD k ps ns).isSome) []) (AK.of_code ?_) λ_ _ _ q=>⟨(),q⟩);refine bx rfl (show _<=_ by omega) ?_;refine AK.uS 29 2 (bf:=.row C ns.length) (n:=ns.length) (k:=2) (QQ k ps ns) rfl rfl (λi hi=>⟨rfl,λM j c x u t=>?_⟩) ?_
  .grind [QR]
  refine AK.ix 12 9 1 rfl rfl ?_;refine AK.bY 6 (λi=>i<=ns.length/\∀j,j<i->(c6 k ps (ns.getD j 0)).isSome=ab) (λi:Nat=>[(29,.e (.one (.c (.sl ae 2 ns.length (QQ k ps ns))))),(30,dI ns.length),(31,dI i),(12,.e (.one (.vec 5 1 (tY k ps (ns.take i)).length (cS.fn (tY k ps (ns.take i))))))]) (λi=>[.dead,.dead,.dead,.dead,.dead,.vec 9 1 (tY k ps (ns.take i)).length (cS.fn (tY k ps (ns.take i)))]) (λi=>ns.length-i) 0 rfl ?_ rfl ?_ rfl ⟨by omega,by omega⟩ ?_
  .simp[cp,tY]
  .simp[cp,tY]
  rintro i ⟨hi,o⟩;by_cases h:i<ns.length
  .cases m:(c6 k ps (ns.getD i 0)).isSome with
   |true =>
    have b:tY k ps (ns.take (i+1))=tY k ps (ns.take i)++[(c6 k ps (ns.getD i 0)).getD []]:=by unfold tY;grind[List.take_add_one]
    have r:(tY k ps (ns.take i)).length<=4000000:=by simp[tY];omega
    refine bF [(32,ab),(37,ae)] rfl ?_ (AK.aQ (i+1) rfl ?_ ?_ ?_ ?_)
    .simp[-aj,h,QQ,m,bw];have:i9.bytes=16:=rfl;grind
    .rw[b];simp[-aj,QQ];exact cS.cr _ _
    .rw[b];simp[-aj,QQ];exact cS.cr _ _
    .grind
    .omega
   |false =>
    refine bF [(32,ab),(37,ab)] rfl ?_ (AK.eX (cd.zero rfl ?_))
    .simp[-aj,h,QQ,m]
    .have l:dD k ps ns=af:=by unfold dD;rw[a9];grind
     simp[l]
  .have f:i=ns.length:=by omega
   subst f;refine bF [(32,ae)] rfl (by simp) (AK.leaveD rfl rfl ?_);refine c9 rfl ar (AK.bo rfl ?_);have d:dD k ps ns=aa (tY k ps ns):=by
    unfold dD;rw[bn]
    .rfl
    grind[List.mem_iff_getElem]
   simp[d]
 exact nH.le (σ:=zY k ps ns C xs) (TY (xs:=xs) g p a) (dv rfl (by simp))
end R1
end Go.AM
