/- Part 4. No condition. -/
import Derived.Test.YtpddeenenibhjaaGreatDoorA3
import Derived.ProofKit
import Derived.OpenShut
import Derived.OpenVars
import Derived.LaidMore
import Derived.Lay
import Derived.SevenTiedAt
import Derived.Below
import Derived.Lib.Bytealg
import Derived.Sort.AssemblyPlain
import Derived.Sort.LotD5
import Derived.Sort.Walk13a
import Derived.Conc.DeferLaws
set_option linter.all false
set_option maxHeartbeats 8000000
open Go.Proofs
open Go renaming Value → aj, TypeId → aw, Frame → aV, FuncId → aK, execOp → ak, undef → ah, Operand → aC, World → aA, Program → aO, Oper → aB, Goroutine → aq, stepG → aH
open Option renaming some → aa, none → af
open Bool renaming true → ab, false → ae
open Go.World renaming cell? → aW
open List renaming getD_eq_getElem?_getD → ai, range → bk
open Go.Sem renaming events_bind → aP
open Go.Result renaming evThen_ok → aU
open Nat renaming beq → av, ble → bz
open Go.Op renaming bytesLess → bd
open Go.Proofs.Tryz renaming prog → ag, underlying22 → aM
open Go.Conc renaming stepG_seq → az, stepG_region_end → ay
namespace Go.AM
variable {n k l b i j:Nat}{E:aw}{H:aj->(Nat->Option Obj)->Prop}{L:Array Bool}{M:Mem}{N:Nat}{P:aO}{S:aq->St->Prop}{c:Code}{g:aq}{o:aB}{s:St}{t:aw}{v:aj}{w:aA}{x y:aC}{α:Type}{η:aC->D}{ι:Type}{σ:List bm}{φ:Fr}{all:List aB}{jP:Array aw}{cap:List C}{cu:List D}{cs:List aV}{ds:List (Nat×Bool)}{es:Nat->List C}{fo:aC}{gs:Array aq}{obs:List Prop}{off:Nat}{op:BinOp}{ops:Array aB}{ps:List Prop}{rest:List aB}{s':St}{ty:aw}{val:Nat->Nat->aj}{vs:List aj}{w':aA}{xs:Array aC}{σ' σs:List bm}{res:ι->D}{σ1:ι->List bm}
variable {CT:List (Nat×dz)}{K:List It}{Qf:Post}{T:List (Nat×TI)}{ie:TI}
section
open Go.ChangeShapes Go.WideShapes Go.ChangeAt Go.RowKit
def A5{H:Type}{enc:aw×aj->H}{a:Assume}{C:Checked}{os:Os}{f:aK}{fn:Func}{s:ChangeSpec}{h:List PathCond}{apart fresh handsOn again:Bool}{X:aA->Array aj->Prop}(I:∀(w w':aA) (args:Array aj),w.heap=w'.heap->X w args->X w' args)(own:ownKnob C.prog.godebug=af)(d:os.Started)(u:C.prog.funcs[f]?=aa fn)(g:∃(w:aA) (b:Tape) (i:Input),w.os=os/\(w.forCall b i).Shaped C.prog/\i.vars=[]/\Input.okWide C.prog (w.forCall b i) .any w.heap.size f i /\
   ((s.pre enc C.prog fn h apart (w.forCall b i).memory i.args/\X (w.forCall b i).memory i.args)/\sizedMet enc C.prog fn (OpenSpec.ofChange s) apart (w.forCall b i).memory i.args)/\a.holds C.prog (lone (Frame.enter C.prog f i.args .normal) [] (w.forCall b i)))(k:∀(W:aA) (base:Nat) (args:Array aj) (ds gs:List (DataW H)) (c:List MemPlace),
   (∀(j:Nat) t v,fn.params[j]?=aa t->args[j]?=aa v->Value.okWide C.prog W .any base t v) ->
   DataW.Whole enc C.prog fn.params.toList s.vars apart W args.toList ds gs c->W.ShapedOpen C.prog->X W args ->
   ∃M last o w' t',runNT C.prog (M+1) (Conc.solo (Conc.G (Frame.enter C.prog f args .normal) []) W) #[]=(.ended o w',t')/\runN C.prog M (Conc.solo (Conc.G (Frame.enter C.prog f args .normal) []) W)=.next last /\
    step C.prog last=.ended o w'/\Conc.Good C.prog (λv z=>s.post enc C.prog fn apart fresh handsOn again W args v z) last o w' t'):
  ReturnsInLeavingWide a C os f .any (λw args=>(s.pre enc C.prog fn h apart w args/\X w args)/\sizedMet enc C.prog fn (OpenSpec.ofChange s) apart w args) (s.post enc C.prog fn apart fresh handsOn again):=by refine returnsInLeavingWide_of_good own d g ?_;intro w b i _ y _ q m p;obtain⟨_,_,_,x,l,_,_,_,_,n⟩:=q;have e:x=fn:=kV (l.symm.trans u);subst e;obtain⟨⟨⟨ds,gs,c,F,L⟩,D⟩,N⟩:=m;have r:=DataW.Whole.of_heap (w':=w.forCall b i) (by rfl) F;obtain⟨M,last,o,w',t',E,K,A,B⟩:=k (w.forCall b i) w.heap.size i.args ds gs c n r y (I (w.forCall b i).memory (w.forCall b i) i.args rfl D);exact⟨M,last,o,w',t',E,K,A,B.mono λv J=>ChangeSpec.post_blind J⟩
def pA{H:Type}{enc:aw×aj->H}{a:Assume}{C:Checked}{os:Os}{f:aK}{fn:Func}{s:ChangeSpec}{g:List PathCond}{apart fresh handsOn again:Bool}{X:aA->Array aj->Prop}(n:∀(w w':aA) (args:Array aj),w.heap=w'.heap->X w args->X w' args)(own:ownKnob C.prog.godebug=af)(d:os.Started)(k:C.prog.funcs[f]?=aa fn)(e:∃(w:aA) (b:Tape) (i:Input),w.os=os/\(w.forCall b i).Shaped C.prog/\i.vars=[]/\Input.okWide C.prog (w.forCall b i) .any w.heap.size f i /\
   ((s.pre enc C.prog fn g apart (w.forCall b i).memory i.args/\X (w.forCall b i).memory i.args)/\sizedMet enc C.prog fn (OpenSpec.ofChange s) apart (w.forCall b i).memory i.args)/\a.holds C.prog (lone (Frame.enter C.prog f i.args .normal) [] (w.forCall b i)))(h:∀(W:aA) (base:Nat) (args:Array aj) (ds gs:List (DataW H)) (c:List MemPlace),
   (∀(j:Nat) t v,fn.params[j]?=aa t->args[j]?=aa v->Value.okWide C.prog W .any base t v) ->
   DataW.Whole enc C.prog fn.params.toList s.vars apart W args.toList ds gs c ->
   ∃M last o w' t',runNT C.prog (M+1) (Conc.solo (Conc.G (Frame.enter C.prog f args .normal) []) W) #[]=(.ended o w',t')/\runN C.prog M (Conc.solo (Conc.G (Frame.enter C.prog f args .normal) []) W)=.next last /\
    step C.prog last=.ended o w'/\Conc.Good C.prog (λv l=>s.post enc C.prog fn apart fresh handsOn again W args v l) last o w' t'):
  ReturnsInLeavingWide a C os f .any (λw args=>(s.pre enc C.prog fn g apart w args/\X w args)/\sizedMet enc C.prog fn (OpenSpec.ofChange s) apart w args) (s.post enc C.prog fn apart fresh handsOn again) :=
 A5 n own d k e λW base args ds gs c p m _ _=>h W base args ds gs c p m
def tC(k:Looks){p:Pinned}{s:OpenSpec}{c:OpenClaim}(l:List (List PathCond))(kinds:List LaidKind)(a:Bool)(b:Bool×String)(lk:Bool)(x:c.holds p s)(m:∀D∈l,(c.withDomain D).holds p s)(v:c.wfByText s=ab)(g:∀D∈l,(c.withDomain D).wfByText s=ab)(i:c.laidByTextAt k p kinds a)(d:c.start=.entering)(e:c.noBlocks=ae/\c.again=ae)(o:p.checked.prog.mainIs=aa (b.1,b.2.toList))(y:(!b.1&&b.2.isEmpty&&!lk)=ae)(q:∀f fn,p.checked.prog.funcNamed c.func=aa f->p.checked.prog.funcs[f]?=aa fn->lk=p.checked.prog.looks []/\∀(j:Nat) t,fn.params[j]?=aa t->p.checked.prog.wantsStandIn t=ae)(w:ab=c.goesBy p.checked.prog):
  Claim7.holds p (.plain s) {stood:={row:=c,standIns:=[],harness:=b,looks:=lk},kinds:=[],alts:=l,goes:=ab,laidByText:=ab,laidKinds:=kinds,laidTests:=a,laidLooks:=k}:=by
 have n:∀r:OpenClaim,Claim7.isSixth {stood:={row:=r,standIns:=[],harness:=b,looks:=lk},kinds:=[]}=ae:=λr=>by simpa[Claim7.isSixth]using y
 refine⟨Claim7.tied_new_at k kinds a (Claim7.new_of_sixth x b lk d e o (n c) q) v,λD u=>?_,i,(λh=>by cases h),w⟩;exact Claim7.tied_new_at k kinds a (Claim7.new_of_sixth (m D u) b lk d e o (n _) q) (g D u)
end
namespace R1
def dl(s:Bs)(i:Nat):Int:=(cz s i-97) % 256
def iJ(t:Bs)(e:Nat):Bool:=(dl t (e-1)+2*dl t (e-2)+3*dl t (e-3)) % 5==0
def tr(t:Bs)(f:Nat):Nat->Nat
 |0=>min (f+8) t.length
 |k+1=>if t.length<=f+(7-k)then t.length else if iJ t (f+(7-k))then f+(7-k)else tr t f k
def cutAt(t:Bs)(f:Nat):Nat:=tr t f 5
def Gs(t:Bs)(f:Nat)(a:f<t.length):∀k,k<=5->f<tr t f k/\tr t f k<=t.length/\tr t f k<=f+8
 |0,_=>by simp only[tr];omega
 |k+1,b=>by
  simp only[tr];split
  .omega
  .split
   .omega
   .exact Gs t f a k (by omega)
theorem nb(t:Bs)(f:Nat)(a:f<t.length):f<cutAt t f/\cutAt t f<=t.length/\cutAt t f<=f+8:=Gs t f a 5 (by omega)
def mr(t:Bs):Nat->Nat->List Nat
 |0,_=>[]
 |k+1,f=>if f<t.length then cutAt t f::mr t k (cutAt t f)else[]
def AO(t:Bs):List Nat:=mr t t.length 0
def fj(t:Bs):Nat->Nat->List Bs
 |0,_=>[]
 |k+1,f=>if f<t.length then(t.drop f).take (cutAt t f-f)::fj t k (cutAt t f)else[]
def pieces(t:Bs):List Bs:=fj t t.length 0
def fZ(l:List Bs):Option Bs:=if eh l.flatten&&(pieces l.flatten==l)then aa l.flatten else af
def bJ(p:Bs):Bool:=decide (1<=p.length)&&decide (p.length<=8)&&b9 p
def codeOf(p:Bs):Int:=p.foldl (λn b=>27*n+((b.toNat:Int)-97) % 256+1) 0
def cJ(k:Int):Bool:=decide (1<=k)&&decide (k<=99)
def gp(k:Int)(p:Bs):Int:=(codeOf p*(2*k+1)+k*7919) % 999999999989
def cM(n:Nat):Nat:=if n<1∨8<n then 0 else if n<=2 then 2 else if n<=4 then 4 else 8
def gq(p:Bs):Bs:=if bJ p then p++List.replicate (cM p.length-p.length) 46 else[]
def strip(b:Bs):Bs:=(b.reverse.dropWhile (·==46)).reverse
def eQ(b:Bs):Option Bs:=if bJ (strip b)&&(gq (strip b)==b)then aa (strip b)else af
abbrev cv:=Int×Bs
abbrev bc:=Int×List cv
def right(k:Int)(x:cv):Bool:=match eQ x.2 with|some p=>gp k p==x.1|none=>ae
def AG(l:List Int):Bool:=(bk l.length).all λi=>i==0||decide (l.getD (i-1) 0<l.getD i 0)
def jd(k:Int)(p:bc):Bool :=
 decide (1<=p.1)&&decide (p.1<=99)&&cJ k&&decide (1<=p.2.length)&&decide (p.2.length<=4)&&p.2.all (right k)&&AG (p.2.map (·.1))
def chunk(k:Int)(x:cv):Option Bs:=match eQ x.2 with|some p=>if cJ k&&(gp k p==x.1)then aa p else af|none=>af
def dv(k:Int)(p:bc)(n:Int):Option Bs:=match p.2.find? (λx=>x.1==n)with|some x=>chunk k x|none=>af
def cA(p:bc)(ns:List Int):bc:=(p.1,p.2.filter λx=>ns.contains x.1)
def l4(l:List cv)(x:cv):List cv:=match l with
 |[]=>[x]
 |y::r=>if x.1<y.1 then x::y::r else y::l4 r x
def py(no k:Int)(ps:List Bs):bc:=(no,ps.foldl (λl p=>l4 l (gp k p,gq p)) [])
abbrev dA:=Int×Int
def kQ(s:dA):Bool:=decide (0<=s.1)&&decide (s.1<999999999989)&&decide (1<=s.2)&&decide (s.2<=99)
def rm(l:List dA)(s:dA):List dA:=match l with
 |[]=>[s]
 |y::r=>if y.1<s.1 then y::rm r s else s::(y::r).filter (λz=>!(z.1==s.1))
def ue(l:List dA)(n:Int):Int:=match l.find? (λs=>s.1==n)with|some s=>s.2|none=>0
def eT(l:List bc):List dA:=l.flatMap λp=>p.2.map λx=>(x.1,p.1)
def indexOf(l:List bc):List dA:=if(eT l).all kQ then(eT l).foldl rm []else[]
abbrev gC:=Bs×List Int
abbrev cg:=Int×List gC
def w5(k:Int)(f:bC):gC:=(f.1,(pieces f.2).map (gp k))
def kR(no k:Int)(t:List bC):cg:=(no,t.map (w5 k))
def nj(k:Int)(l:List dA)(out:List Bs)(p:Bs):List Bs:=if ue l (gp k p)==0&&!out.contains p then out++[p]else out
def jL(k:Int)(t:List bC)(l:List dA):List Bs:=(t.flatMap λf=>pieces f.2).foldl (nj k l) []
def cY(k:Int)(ps:List bc)(n:Int):Option Bs:=ps.findSome? λp=>dv k p n
def kC{p:Bs}(h:b9 p=ab):∀b∈p,97<=b.toNat/\b.toNat<=122:=by intro b a;have:=List.all_eq_true.1 h b a;simpa[eH]using this
def wH:∀(p:Bs) (n m:Int)(k:Nat),(∀b∈p,97<=b.toNat/\b.toNat<=122)->0<=n->n<m->1<=m ->
  0<=p.foldl (λn b=>27*n+((b.toNat:Int)-97) % 256+1) n/\p.foldl (λn b=>27*n+((b.toNat:Int)-97) % 256+1) n<m*27 ^ p.length
 |[],n,m,_,_,d,c,_=>by grind
 |b::p,n,m,k,a,d,c,e=>by obtain⟨f,q2⟩:=a b (by simp);have:=wH p (27*n+((b.toNat:Int)-97) % 256+1) (m*27) k (λx g=>a x (by grind)) (by omega) (by omega) (by omega);grind[Int.mul_assoc]
def PI:∀{n:Nat},n<=8->(27:Int) ^ n<=282429536481:=by
 intro n a
 match n,a with
 |0,_|1,_|2,_|3,_|4,_|5,_|6,_|7,_|8,_=>decide
def yK{p:Bs}(h:bJ p=ab):0<=codeOf p/\codeOf p<282429536481:=by simp only[bJ,bR,bq]at h;obtain⟨a,q2⟩:=wH p 0 1 0 (kC h.2) (by omega) (by omega) (by omega);have:=PI h.1.2;rw[Int.one_mul]at q2;exact⟨a,Int.lt_of_lt_of_le q2 this⟩
def qN{α:Type}[BEq α][LawfulBEq α]:∀(L l:List α),L.Nodup->(∀q∈L,q∈l)->L.length<=l.length
 |[],l,_,_=>iT _
 |a::L,l,h,c=>by
  obtain⟨g,f⟩:=List.nodup_cons.1 h;have b:=c a iG;have:=qN L (l.erase a) f λq d=>by have:q≠a:=λe=>g (e▸d);exact(List.mem_erase_of_ne this).2 (c q (kI _ d))
  have e:=List.length_erase_of_mem b;have:=List.length_pos_of_mem b;simp only[fQ];omega
def Gr:∀{p q:List Int},p.Pairwise (· < ·)->q.Pairwise (· < ·)->(∀n,n∈p↔n∈q)->p=q
 |[],[],_,_,_=>rfl
 |[],b::q,_,_,h=>by have:=(h b).2 iG;cases this
 |a::p,[],_,_,h=>by have:=(h a).1 iG;cases this
 |a::p,b::q,l,m,h=>by
  obtain⟨k,p2⟩:=lz.1 l;obtain⟨j,q2⟩:=lz.1 m;have d:=(h a).1 iG;have c:=(h b).2 iG;simp only[dC]at d c;have e:a=b:=by
   rcases d with d|d
   .exact d
   rcases c with c|c
   .exact c.symm
   have:=k b c;have:=j a d;omega
  subst e;rw[Gr p2 q2 λn=>?_];have i:=h n;simp only[dC]at i;constructor
  .intro g;have:=k n g;rcases i.1 (.inr g)with f|f
   .omega
   .exact f
  .intro g;have:=j n g;rcases i.2 (.inr g)with f|f
   .omega
   .exact f
section
variable {X:Cx ag}
def Sb:dz:=λargs σ=>match args,σ with
 |[.e (.one (.c (.str b)))],[]=>aa (dB (dF b),[],[])
 |_,_=>af
def t110:dK X 110 Sb:=by intro args σ res σ' obs h _;unfold Sb at h;grind[HX]
def OC:dz:=λargs σ=>match args,σ with
 |[.e (.one (.c (.str b)))],[]=>aa (dB (eh b),[],[])
 |_,_=>af
def t111:dK X 111 OC:=by intro args σ res σ' obs h _;unfold OC at h;grind[HY]
def Sc:dz:=λargs σ=>match args,σ with
 |[.e (.one (.c (.str a))),.e (.one (.c (.str b)))],[]=>aa (dB (clash a b),[],[a≠[],b≠[]])
 |_,_=>af
def t146:dK X 146 Sc:=by
 intro args σ res σ' obs h ho;unfold Sc at h;split at h
 .cases h;exact Lo _ _ ho.1 ho.2
 grind
def Zn:List (Nat×dz):=(110,Sb)::(111,OC)::(146,Sc)::Zm
def tJ:bG X Zn:=bG.cons t110 (bG.cons t111 (bG.cons t146 C6))
def fa(t:List bC)(i:Nat):Bs:=(t.getD i ([],[])).1
def uH(t:List bC)(i:Nat):Bs:=(t.getD i ([],[])).2
def gk(t:List bC)(i:Nat):(t.getD i cF.bP).1=fa t i:=rfl
def pH(t:List bC)(i:Nat):(t.getD i cF.bP).2=uH t i:=rfl
def gi(t:List bC)(i:Nat):Bool:=dF (fa t i)&&eh (uH t i)&&(i==0||bd (fa t (i-1)) (fa t i))&&(bk i).all λj=>!clash (fa t j) (fa t i)
def du(t:List bC):Bool:=(bk t.length).all (gi t)&&decide (t.length<=6)
def di{p:Nat->Bool}:(bk n).all p=ab↔∀i,i<n->p i=ab:=by grind
def qy{s:Bs}(h:dF s=ab):s≠[]:=by rintro rfl;simp[dF]at h
def lh{t:List bC}(hi:i<t.length)(h:gi t i=ae):du t=ae:=by
 cases a:du t with
 |false=>rfl
 |true =>
  simp only[du,bR]at a;grind
def yS(t:List bC):Ev X 104 [cF.sl t] [] (dB (du t)) []:=by
 refine Ev.bQ Tryz.func104 rfl λu=>?_;have o:=u.sl 0 rfl;refine bZ tJ rfl ar ?_;refine AK.we (λi=>i<=t.length/\∀j,j<i->gi t j=ab) (λi:Nat=>[(0,cF.sl t),(3,dI i)]) (λ_=>[]) (λi=>t.length-i) 0 rfl (by simp[cw]) ⟨by omega,by omega⟩ rfl ?_;rintro i ⟨hi,l⟩;by_cases h:i<t.length
 .by_cases b:dF (fa t i)=ab
  .by_cases c:eh (uH t i)=ab
   .by_cases m:i=0∨bd (fa t (i-1)) (fa t i)=ab
    .apply AK.join [(0,cF.sl t),(3,dI i),(4,dI 0)] []
     .intro p;by_cases d:i=0
      .refine aR tJ [(8,ab),(16,ab),(24,ab),(29,ae)] rfl ?_ (p _ _ rfl ?_)
       .simp[-ai,h,gk,pH,b,c];omega
       .simp[cw]
      .have g:=m.resolve_left d;have f:bx .i64 ((i:Int)-1):=by simp only[bx];omega
       have n:((i:Int)-1).toNat=i-1:=by omega
       refine aR tJ [(8,ab),(16,ab),(24,ab),(29,ab),(42,ae)] rfl ?_ (p _ _ rfl ?_)
       .simp[-ai,h,gk,pH,b,c,g,f,n];omega
       .simp[cw]
     ·
      have q:gi t i=(bk i).all (λj=>!clash (fa t j) (fa t i)):=by
       rcases m with rfl|g
       .simp[gi,b,c]
       .simp[gi,b,c,g]
      refine AK.we (λj=>j<=i/\∀s,s<j->clash (fa t s) (fa t i)=ae) (λj:Nat=>[(0,cF.sl t),(3,dI i),(4,dI j)]) (λ_=>[]) (λj=>i-j) 0 rfl (by simp[cw]) ⟨by omega,by omega⟩ rfl ?_;rintro j ⟨w,v⟩;by_cases a:j<i
      .have k:dF (fa t j)=ab:=by have:=l j a;simp only[gi,bR]at this;exact this.1.1.1
       cases r:clash (fa t j) (fa t i)with
       |true =>
        refine aR tJ [(47,ab),(60,ab)] rfl ?_ (AK.gI (AK.sd (ck.zero rfl ?_)))
        .simp[-ai,h,a,gk,r,qy b,qy k];omega
        .have:gi t i=ae:=by grind
         simp[lh h this]
       |false =>
        refine aR tJ [(47,ab),(60,ae)] rfl ?_ (AK.again (j+1) rfl ?_ ?_ ?_ rfl)
        .simp[-ai,h,a,gk,r,qy b,qy k,bx];omega
        .simp[cw]
        .grind
        .omega
      .have a:j=i:=by omega
       subst a;refine aR tJ [(47,ae)] rfl (by simp) (AK.leave rfl rfl ?_);refine bZ tJ rfl ?_ (AK.again (j+1) rfl ?_ ?_ ?_ rfl)
       .simp[bx];omega
       .simp[cw]
       .grind
       .omega
    .have d:i≠0:=λe=>m (.inl e);have g:bd (fa t (i-1)) (fa t i)=ae:=by grind
     have f:bx .i64 ((i:Int)-1):=by simp only[bx];omega
     have n:((i:Int)-1).toNat=i-1:=by omega
     refine aR tJ [(8,ab),(16,ab),(24,ab),(29,ab),(42,ab)] rfl ?_ (AK.gI (ck.zero rfl ?_))
     .simp[-ai,h,gk,pH,b,c,g,f,n];omega
     .simp[au,lh h (by simp[gi,d,g])]
   .refine aR tJ [(8,ab),(16,ab),(24,ae)] rfl ?_ (AK.gI (ck.zero rfl ?_))
    .simp[-ai,h,gk,pH,b,c]
    .simp[au,lh h (by simp[gi,c])]
  .refine aR tJ [(8,ab),(16,ae)] rfl ?_ (AK.gI (ck.zero rfl ?_))
   .simp[-ai,h,gk,b]
   .simp[au,lh h (by simp[gi,b])]
 .refine aR tJ [(8,ae)] rfl (by simp;omega) (AK.leave rfl rfl ?_);refine bZ tJ rfl ar (AK.bn rfl ?_);simp only[au,du];grind
end
section
open Go.Proofs Go.Conc.Lib
def PO:WgLink:={add:=120,done:=122,wait:=124,relMerge:=160,disable:=161,enable:=162,inBubble:=163,associate:=164,fatal:=165,uOr:=166,uAdd:=167,raceRead:=168,uLoad:=169,uStore:=170,disassociate:=171,semrelease:=172,acquire:=174,isAssociated:=175,uCas:=176,raceWrite:=177,semacquire:=178,orU64:=201,addU64:=202,loadU64:=203,storeU64:=204,casU64:=207,tWgP:=197,tUP:=199,tAssoc:=201,tWg:=164,tAU:=161,tU64:=159,tUint:=136,tU32:=162,tPU32:=205,tPAU:=237,tPU64:=239,tNoCopy:=156,tANoCopy:=157,tAlign64:=158}
def Co:WgLib ag PO where
 f_add:=Tryz.func120.trans (dy aa (by kernel_rfl))
 f_done:=Tryz.func122.trans (dy aa (by kernel_rfl))
 f_wait:=Tryz.func124.trans (dy aa (by kernel_rfl))
 f_relMerge:=Tryz.func160.trans (dy aa (by kernel_rfl))
 f_disable:=Tryz.func161.trans (dy aa (by kernel_rfl))
 f_enable:=Tryz.func162.trans (dy aa (by kernel_rfl))
 f_inBubble:=Tryz.func163.trans (dy aa (by kernel_rfl))
 f_associate:=Tryz.func164.trans (dy aa (by kernel_rfl))
 f_fatal:=Tryz.func165.trans (dy aa (by kernel_rfl))
 f_uOr:=Tryz.func166.trans (dy aa (by kernel_rfl))
 f_uAdd:=Tryz.func167.trans (dy aa (by kernel_rfl))
 f_raceRead:=Tryz.func168.trans (dy aa (by kernel_rfl))
 f_uLoad:=Tryz.func169.trans (dy aa (by kernel_rfl))
 f_uStore:=Tryz.func170.trans (dy aa (by kernel_rfl))
 f_disassociate:=Tryz.func171.trans (dy aa (by kernel_rfl))
 f_semrelease:=Tryz.func172.trans (dy aa (by kernel_rfl))
 f_acquire:=Tryz.func174.trans (dy aa (by kernel_rfl))
 f_isAssociated:=Tryz.func175.trans (dy aa (by kernel_rfl))
 f_uCas:=Tryz.func176.trans (dy aa (by kernel_rfl))
 f_raceWrite:=Tryz.func177.trans (dy aa (by kernel_rfl))
 f_semacquire:=Tryz.func178.trans (dy aa (by kernel_rfl))
 f_orU64:=Tryz.func201.trans (dy aa (by kernel_rfl))
 f_addU64:=Tryz.func202.trans (dy aa (by kernel_rfl))
 f_loadU64:=Tryz.func203.trans (dy aa (by kernel_rfl))
 f_storeU64:=Tryz.func204.trans (dy aa (by kernel_rfl))
 f_casU64:=Tryz.func207.trans (dy aa (by kernel_rfl))
 underlying_tWgP:=Tryz.underlying197
 runUnderlying_tWgP:=Tryz.runUnderlying197
 sizeOf_tWgP:=Tryz.sizeOf197
 isAgg_tWgP:=Tryz.isAgg197
 zeroValue_tWgP:=Tryz.zeroValue197
 underlying_tUP:=Tryz.underlying199
 runUnderlying_tUP:=Tryz.runUnderlying199
 sizeOf_tUP:=Tryz.sizeOf199
 isAgg_tUP:=Tryz.isAgg199
 zeroValue_tUP:=Tryz.zeroValue199
 underlying_tI32:=Tryz.underlying201
 runUnderlying_tI32:=Tryz.runUnderlying201
 sizeOf_tI32:=Tryz.sizeOf201
 isAgg_tI32:=Tryz.isAgg201
 zeroValue_tI32:=Tryz.zeroValue201
 underlying_tWg:=Tryz.underlying164
 runUnderlying_tWg:=Tryz.runUnderlying164
 sizeOf_tWg:=Tryz.sizeOf164
 isAgg_tWg:=Tryz.isAgg164
 zeroValue_tWg:=Tryz.zeroValue164
 underlying_tAU:=Tryz.underlying161
 runUnderlying_tAU:=Tryz.runUnderlying161
 sizeOf_tAU:=Tryz.sizeOf161
 isAgg_tAU:=Tryz.isAgg161
 zeroValue_tAU:=Tryz.zeroValue161
 underlying_tU64:=Tryz.underlying159
 runUnderlying_tU64:=Tryz.runUnderlying159
 sizeOf_tU64:=Tryz.sizeOf159
 isAgg_tU64:=Tryz.isAgg159
 zeroValue_tU64:=Tryz.zeroValue159
 underlying_tSh:=Tryz.underlying136
 runUnderlying_tSh:=Tryz.runUnderlying136
 sizeOf_tSh:=Tryz.sizeOf136
 isAgg_tSh:=Tryz.isAgg136
 zeroValue_tSh:=Tryz.zeroValue136
 underlying_tU32:=Tryz.underlying162
 runUnderlying_tU32:=Tryz.runUnderlying162
 sizeOf_tU32:=Tryz.sizeOf162
 isAgg_tU32:=Tryz.isAgg162
 zeroValue_tU32:=Tryz.zeroValue162
 underlying_tPU32:=Tryz.underlying205
 runUnderlying_tPU32:=Tryz.runUnderlying205
 sizeOf_tPU32:=Tryz.sizeOf205
 isAgg_tPU32:=Tryz.isAgg205
 zeroValue_tPU32:=Tryz.zeroValue205
 underlying_tPAU:=Tryz.underlying237
 runUnderlying_tPAU:=Tryz.runUnderlying237
 sizeOf_tPAU:=Tryz.sizeOf237
 isAgg_tPAU:=Tryz.isAgg237
 zeroValue_tPAU:=Tryz.zeroValue237
 underlying_tPU64:=Tryz.underlying239
 runUnderlying_tPU64:=Tryz.runUnderlying239
 sizeOf_tPU64:=Tryz.sizeOf239
 isAgg_tPU64:=Tryz.isAgg239
 zeroValue_tPU64:=Tryz.zeroValue239
 underlying_t0:=Tryz.underlying0
 runUnderlying_t0:=Tryz.runUnderlying0
 sizeOf_t0:=Tryz.sizeOf0
 isAgg_t0:=Tryz.isAgg0
 zeroValue_t0:=Tryz.zeroValue0
 underlying_t3:=Tryz.underlying3
 runUnderlying_t3:=Tryz.runUnderlying3
 sizeOf_t3:=Tryz.sizeOf3
 isAgg_t3:=Tryz.isAgg3
 zeroValue_t3:=Tryz.zeroValue3
 underlying_t4:=Tryz.underlying4
 runUnderlying_t4:=Tryz.runUnderlying4
 sizeOf_t4:=Tryz.sizeOf4
 isAgg_t4:=Tryz.isAgg4
 zeroValue_t4:=Tryz.zeroValue4
 underlying_t9:=Tryz.underlying9
 runUnderlying_t9:=Tryz.runUnderlying9
 sizeOf_t9:=Tryz.sizeOf9
 isAgg_t9:=Tryz.isAgg9
 zeroValue_t9:=Tryz.zeroValue9
 underlying_t20:=Tryz.underlying20
 runUnderlying_t20:=Tryz.runUnderlying20
 sizeOf_t20:=Tryz.sizeOf20
 isAgg_t20:=Tryz.isAgg20
 zeroValue_t20:=Tryz.zeroValue20
 underlying_t21:=Tryz.underlying21
 runUnderlying_t21:=Tryz.runUnderlying21
 sizeOf_t21:=Tryz.sizeOf21
 isAgg_t21:=Tryz.isAgg21
 zeroValue_t21:=Tryz.zeroValue21
 room_tWg:=by kernel_rfl
 room_tU32:=by kernel_rfl
end
end R1
def cn.imp{d a:D}{ds Fw:List D}(h:∀v,dm σ s v d->dm σ s v a)(k:∀vs,cn σ s vs ds->cn σ s vs Fw):∀vs,cn σ s vs (d::ds)->cn σ s vs (a::Fw)
 |[],r=>r.elim
 |v::vs,r=>⟨h v r.1,k vs r.2⟩
abbrev dP(f:bC):D:=.e (.agg [.c (.str f.1),.c (.str f.2)])
abbrev N1(a:List bC)(b:Bool):D:=.fz [.one (.c (.sl ae 2 a.length (cF.fn a))),.one (.c (.bool b))]
namespace R1
variable {X:Cx ag}
def OE:dz:=λargs σ=>match args,σ with
 |[c],[]=>match jS 2 c with
  |none=>af
  |some (b,a)=>aa (dB (du (cF.list b a)),[],[cF.fits b a])
 |_,_=>af
def t104:dK X 104 OE:=by
 intro args σ res σ' obs h ho;unfold OE at h;split at h
 .split at h
  .cases h
  rename_i c b a;cases h;exact(yS _ ).args (λ_ vs=>cn.imp (λ_=>cF.jc a ho) (λ_ r=>r) vs)
 grind
def Zo:List (Nat×dz):=(104,OE)::Zn
def X1:bG X Zo:=bG.cons t104 tJ
end R1
def kh.cp(c:kh α)(l:List α)(x:α):cw (l.length+1) (cT l.length (c.fn l) (λi=>[c.enc x].getD i [])) (c.fn (l++[x])):=by intro i hi;unfold cT kh.fn x8;grind
@[simp] theorem cw.same{f:Nat->List C}:cw n f f:=λ_ _=>rfl
@[simp] theorem cw.nil{f g:Nat->List C}:cw 0 f g:=λi h=>by omega
namespace R1
variable {X:Cx ag}
def lU(t:List bC)(p:Bs):List bC:=t.filter λf=>!(f.1==p)
def E4{t:List bC}{p:Bs}(h:i<t.length):lU (t.take (i+1)) p=lU (t.take i) p++(if fa t i=p then[]else[(fa t i,uH t i)]):=by
 have e:t.getD i ([],[])=t[i]:=by grind
 have a:(fa t i,uH t i)=t[i]:=by simp only[fa,uH,e]
 rw[jU,bg h,a];simp only[lU,List.filter_append,Option.toList_some];grind
theorem H0(t:List bC)(p:Bs):(lU t p).length<=t.length:=kH _ _
def Gw(t:List bC)(p:Bs)(d:t.length<=4000000):Ev X 89 [cF.sl t,dS p] [] (cF.sl (lU t p)) []:=by
 refine Ev.bQ Tryz.func89 rfl λc=>?_;refine bw rfl ar ?_;refine AK.g6 5 110 2 rfl rfl ?_;refine AK.ji (λi=>i<=t.length) (λi:Nat=>[(0,cF.sl t),(1,dS p),(6,dI i),(5,.e (.one (.vec 0 2 (lU (t.take i) p).length (cF.fn (lU (t.take i) p)))))]) (λi=>[.vec 110 2 (lU (t.take i) p).length (cF.fn (lU (t.take i) p))]) (λi=>t.length-i) 0 rfl ?_ rfl ?_ (by omega) ?_
 .simp[cw,lU]
 .simp[cw,lU]
 intro i hi;by_cases h:i<t.length
 .have a:=E4 (p:=p) h;have f:(lU (t.take i) p).length<=4000000:=by grind[H0]
  by_cases b:fa t i=p
  .rw[br b,kK]at a;refine aX [(11,ab),(20,ae)] rfl ?_ (AK.fG (i+1) rfl ?_ rfl ?_ ?_ ?_)
   .simp[-ai,h,gk,b,bx];omega
   .rw[a];simp[cw]
   .rw[a];simp[cw]
   .omega
   .omega
  .rw[a9 b]at a;refine aX [(11,ab),(20,ab)] rfl ?_ (AK.fG (i+1) rfl ?_ rfl ?_ ?_ ?_)
   .simp[-ai,h,gk,b,bx,i110];omega
   .rw[a];simp[-ai];exact cF.cp _ (fa t i,uH t i)
   .rw[a];simp[-ai];exact cF.cp _ (fa t i,uH t i)
   .omega
   .omega
 .have:i=t.length:=by omega
  subst this;refine aX [(11,ae)] rfl (by simp) (AK.leave rfl rfl ?_);refine bw rfl ar (AK.bn rfl ?_);simp[cw]
def X3:dz:=λargs σ=>match args,σ with
 |[f,.e (.one (.c (.str b)))],[]=>match jS 2 f with
  |none=>af
  |some (d,a)=>aa (cF.sl (lU (cF.list d a) b),[],[cF.fits d a,((cF.list d a)).length<=4000000])
 |_,_=>af
def t89:dK X 89 X3:=by
 intro args σ res σ' obs h ho;unfold X3 at h;split at h
 .split at h
  .cases h
  rename_i c b a;cases h;exact(Gw _ _ (ho.2)).args (λ_ vs=>cn.imp (λ_=>cF.jc a ho.1) (cn.imp (λ_ r=>r) (λ_ r=>r)) vs)
 grind
def Zp:List (Nat×dz):=(89,X3)::Zo
def X4:bG X Zp:=bG.cons t89 X1
end R1
def Fits.P0{args:List D}(h:Fits args σ)(k:Nat){cs:List A}(d:args[k]?=aa (.e (.agg cs)))(j:Nat){t:Bool}{q:Nat}(hj:cs[j]?=aa (A.c (.sl t q n es))):n<=9223372036854775807:=by obtain⟨s,v,b⟩:=h.at d;obtain⟨vs,_,h2⟩:=b;obtain⟨u,_,a⟩:=eb.get h2 hj;cases a<;>omega
namespace R1
def fV{p:Nat->Bool}(hi:i<n)(h:p i=ae):(bk n).all p=ae:=by grind
def g8{p:Nat->Bool}(a:∀j,j<i->p j=ab)(h:p i=ab):∀j,j<i+1->p j=ab:=λj b=>by grind
end R1
namespace R1
section
variable {X:Cx ag}
def ry(f:bC)(acc:List bC×Bool)(g:Bs):List bC×Bool:=if acc.2=ab then acc else if bd g f.1=ab then acc else(acc.1++[f],ab)
def ON(f:bC)(a:List bC×Bool)(g:bC):List bC×Bool:=if g.1=f.1 then a else(a.1++[g],a.2)
def om(f:bC)(acc:List bC×Bool)(g:bC):List bC×Bool:=ON f (ry f acc g.1) g
def kT(f:bC)(t:List bC):List bC×Bool:=t.foldl (om f) ([],ae)
def sK(t:List bC)(f:bC):List bC:=if(kT f t).2=ab then(kT f t).1 else(kT f t).1++[f]
theorem fileAt{t:List bC}(h:i<t.length):t[i]=(fa t i,uH t i):=by
 have e:t.getD i ([],[])=t[i]:=by grind
 simp only[fa,uH,e]
def C9{f:bC}{t:List bC}(h:i<t.length):kT f (t.take (i+1))=om f (kT f (t.take i)) (fa t i,uH t i):=by rw[jU,bg h,fileAt h];simp[kT]
def Da(f:bC)(acc:List bC×Bool)(g:Bs):(ry f acc g).1.length<=acc.1.length+1:=by unfold ry;grind
def Lu(f:bC)(acc:List bC×Bool)(g:bC):(ON f acc g).1.length<=acc.1.length+1:=by unfold ON;grind
def xC(f:bC):∀(t:List bC)(acc:List bC×Bool),(t.foldl (om f) acc).1.length<=acc.1.length+2*t.length
 |[],acc=>by simp
 |g::r,acc=>by
  have a:=xC f r (om f acc g);have b:=Da f acc g.1;have c:=Lu f (ry f acc g.1) g;simp only[iH,fQ];have:(om f acc g).1.length<=acc.1.length+2:=by unfold om;omega
  omega
abbrev dV(l:Nat)(t:List bC):D:=.e (.one (.vec l 2 t.length (cF.fn t)))
abbrev bV(t:List bC):bm:=.vec 110 2 t.length (cF.fn t)
def OO(t:List bC)(f:bC)(u:t.length<=4000000):Ev X 112 [cF.sl t,dP f] [] (dV 0 (sK t f)) [bV (sK t f)]:=by
 refine Ev.bQ Tryz.func112 rfl λs=>?_;refine bw rfl ar ?_;refine AK.g6 5 110 2 rfl rfl ?_;let A:Nat->List bC×Bool:=λi=>kT f (t.take i);have d:∀i,i<=t.length->(A i).1.length<=8000000:=by intro i hi;have:=xC f (t.take i) ([],ae);simp at this;show(kT f (t.take i)).1.length<=_;unfold kT;omega
 refine AK.ji (λi=>i<=t.length) (λi:Nat=>[(0,cF.sl t),(3,.e (.one (.ptr 0 0))),(7,dI i),(5,dV 1 (A i).1),(6,dB (A i).2)]) (λi=>[.cells 110 [.c (.str f.1),.c (.str f.2)],bV (A i).1]) (λi=>t.length-i) 0 rfl ?_ rfl ?_ (by omega) ?_
 .simp[cw,A,kT]
 .simp[cw,A,kT]
 intro i hi;by_cases h:i<t.length
 .have p:A (i+1)=om f (A i) (fa t i,uH t i):=C9 h;have q:=d i hi;generalize A i=acc at *;have r:=Da f acc (fa t i);apply AK.join [(0,cF.sl t),(3,.e (.one (.ptr 0 0))),(7,dI i),(5,dV 1 (ry f acc (fa t i)).1),(6,dB (ry f acc (fa t i)).2)] [.cells 110 [.c (.str f.1),.c (.str f.2)],bV (ry f acc (fa t i)).1]
  .intro g;cases b:acc.2 with
   |true =>
    have m:ry f acc (fa t i)=acc:=by unfold ry;grind
    rw[m]at g;refine bF [(12,ab),(15,ab),(1000009,ab)] rfl ?_ (g _ _ rfl ?_)
    .simp[h]
    .simp[b]
   |false =>
    cases k:bd (fa t i) f.1 with
    |true =>
     have m:ry f acc (fa t i)=acc:=by unfold ry;grind
     rw[m]at g;refine bF [(12,ab),(15,ae),(25,ae),(1000009,ab)] rfl ?_ (g _ _ rfl ?_)
     .simp[-ai,h,gk,k]
     .simp[b]
    |false =>
     have m:ry f acc (fa t i)=(acc.1++[f],ab):=by unfold ry;grind
     rw[m]at g;refine bF [(12,ab),(15,ae),(25,ab),(1000009,ab)] rfl ?_ (AK.norm _ rfl ?_ (g _ _ rfl ?_))
     .simp[-ai,h,gk,k,i110];omega
     .simp[-ai];exact cF.cp _ f
     .simp[-ai];exact cF.cp _ f
  .have l:A (i+1)=ON f (ry f acc (fa t i)) (fa t i,uH t i):=p;generalize ry f acc (fa t i)=a1 at *;by_cases n:fa t i=f.1
   .have a:A (i+1)=a1:=by rw[l];exact br n
    refine bF [(38,ae)] rfl ?_ (AK.fG (i+1) rfl ?_ rfl ?_ ?_ ?_)
    .simp[-ai,h,gk,n,bx];omega
    .rw[a];simp
    .rw[a];simp
    .omega
    .omega
   .have a:A (i+1)=(a1.1++[(fa t i,uH t i)],a1.2):=by rw[l];exact a9 n
    refine bF [(38,ab)] rfl ?_ (AK.fG (i+1) rfl ?_ rfl ?_ ?_ ?_)
    .simp[-ai,h,gk,n,bx,i110];omega
    .rw[a];simp[-ai];exact cF.cp _ (fa t i,uH t i)
    .rw[a];simp[-ai];exact cF.cp _ (fa t i,uH t i)
    .omega
    .omega
 .have:i=t.length:=by omega
  subst this;have o:A t.length=kT f t:=by grind
  have q:=d t.length (ba _);refine aX [(12,ae)] rfl (by simp) (AK.leave rfl rfl ?_);have j:sK t f=if(A t.length).2=ab then(A t.length).1 else(A t.length).1++[f]:=by rw[o];rfl
  cases b:(A t.length).2 with
  |true =>
   rw[b,br rfl]at j;refine aX [(46,ab)] rfl ?_ (AK.norm [.cells 110 [.c (.str f.1),.c (.str f.2)],bV (sK t f)] rfl ?_ (AK.dJ [1] rfl ?_ rfl rfl rfl ?_))
   .simp
   .rw[j];simp
   .rw[j];simp
   grind
  |false =>
   rw[b,a9 (by simp)]at j;refine aX [(46,ae)] rfl ?_ (AK.norm [.cells 110 [.c (.str f.1),.c (.str f.2)],bV (sK t f)] rfl ?_ (AK.dJ [1] rfl ?_ rfl rfl rfl ?_))
   .simp[i110];omega
   .rw[j];simp[-ai];exact cF.cp _ f
   .rw[j];simp[-ai];exact cF.cp _ f
   grind
end
end R1
def cw.app0{f g:Nat->List C}:cw n (cT 0 f g) g:=λi _=>by simp[cT]
namespace R1
variable {X:Cx ag}
def Sf:dz:=λargs σ=>match args,σ with
 |[d,.e (.agg [.c (.str b0),.c (.str b1)])],[]=>match jS 2 d with
  |none=>af
  |some (b,a)=>aa (dV 0 (sK (cF.list b a) (b0,b1)) ,[ bV (sK (cF.list b a) (b0,b1))],[cF.fits b a,((cF.list b a)).length<=4000000])
 |_,_=>af
def t112:dK X 112 Sf:=by
 intro args σ res σ' obs h ho;unfold Sf at h;split at h
 .split at h
  .cases h
  rename_i c b a;cases h;exact(OO _ _ (ho.2)).args (λ_ vs=>cn.imp (λ_=>cF.jc a ho.1) (cn.imp (λ_ r=>r) (λ_ r=>r)) vs)
 .cases h
def Zq:List (Nat×dz):=(112,Sf)::Zp
def H3:bG X Zq:=bG.cons t112 (X4)
def eg(t:List bC)(p x:Bs):List bC×Bool :=
 if du t=ab/\dF p=ab/\eh x=ab then(if du (sK t (p,x))=ab then(sK t (p,x),ab)else(t,ae))else([],ae)
abbrev tVB(l:Nat)(t:List bC)(b:Bool):D:=.fz [.one (.vec l 2 t.length (cF.fn t)),.one (.c (.bool b))]
def oe{t:List bC}(h:du t=ab):t.length<=6:=by simp only[du,bR,bq]at h;exact h.2
def uq(t:List bC)(p x:Bs):Ev X 86 [cF.sl t,dS p,dS x] [] (tVB 0 (eg t p x).1 (eg t p x).2) [bV (eg t p x).1]:=by
 refine Ev.bQ Tryz.func86 rfl λg=>?_;have a:¬(du t=ab/\dF p=ab/\eh x=ab)->eg t p x=([],ae):=λh=>a9 h;cases b:du t with
 |false =>
  rw[a (by grind)];refine aR H3 [(10,ae)] rfl ?_ ?_
  .simp[cF.list_fn,cF.aJ,b]
  .refine AK.g6 6 110 2 rfl rfl (AK.norm [bV []] rfl ?_ (AK.dJ [0] rfl ?_ rfl rfl rfl ?_))
   .simp[cw]
   .simp[cw]
   grind
 |true =>
  have i:=oe b;cases c:dF p with
  |false =>
   rw[a (by grind)];refine aR H3 [(10,ab),(14,ae)] rfl ?_ ?_
   .simp[cF.list_fn,cF.aJ,b,c]
   .refine AK.g6 6 110 2 rfl rfl (AK.norm [bV []] rfl ?_ (AK.dJ [0] rfl ?_ rfl rfl rfl ?_))
    .simp[cw]
    .simp[cw]
    grind
  |true =>
   cases d:eh x with
   |false =>
    rw[a (by grind)];refine aR H3 [(10,ab),(14,ab),(19,ae)] rfl ?_ ?_
    .simp[cF.list_fn,cF.aJ,b,c,d]
    .refine AK.g6 6 110 2 rfl rfl (AK.norm [bV []] rfl ?_ (AK.dJ [0] rfl ?_ rfl rfl rfl ?_))
     .simp[cw]
     .simp[cw]
     grind
   |true =>
    have f:eg t p x=if du (sK t (p,x))=ab then(sK t (p,x),ab)else(t,ae):=br ⟨b,c,d⟩;cases e:du (sK t (p,x))with
    |true =>
     rw[e,br rfl]at f;rw[f];refine aR H3 [(10,ab),(14,ab),(19,ab),(29,ab)] rfl ?_ (AK.norm [bV (sK t (p,x))] rfl ?_ (AK.dJ [0] rfl ?_ rfl rfl rfl ?_))
     .simp[cF.list_fn,cF.aJ,b,c,d,e];omega
     .simp[cF.list_fn]
     .simp[cF.list_fn]
     grind
    |false =>
     rw[e,a9 (by simp)]at f;rw[f];refine aR H3 [(10,ab),(14,ab),(19,ab),(29,ae)] rfl ?_ (AK.norm [bV (sK t (p,x)),bV t] rfl ?_ (AK.dJ [1] rfl ?_ rfl rfl rfl ?_))
     .simp[cF.list_fn,cF.aJ,b,c,d,e,i110];omega
     .simp[cF.list_fn,cw.app0]
     .simp[cw.app0]
     grind
def xE(t:List bC)(p x:Bs):Ev X 86 [cF.sl t,dS p,dS x] [] (N1 (eg t p x).1 (eg t p x).2) [] :=
 (uq t p x).forget rfl (by simp) rfl
def X5:dz:=λargs σ=>match args,σ with
 |[f,.e (.one (.c (.str b))),.e (.one (.c (.str c)))],[]=>match jS 2 f with
  |none=>af
  |some (d,a)=>aa (N1 (eg (cF.list d a) b c).1 (eg (cF.list d a) b c).2,[],[cF.fits d a])
 |_,_=>af
def t86:dK X 86 X5:=by
 intro args σ res σ' obs h ho;unfold X5 at h;split at h
 .split at h
  .cases h
  rename_i c b a;cases h;exact(xE _ _ _ ).args (λ_ vs=>cn.imp (λ_=>cF.jc a ho) (cn.imp (λ_ r=>r) (cn.imp (λ_ r=>r) (λ_ r=>r))) vs)
 .cases h
def Zr:List (Nat×dz):=(86,X5)::Zq
def X6:bG X Zr:=bG.cons t86 (H3)
end R1
def Hi(cs:List C)(j:Nat):Nat×(Nat->List C):=match eD j cs with|some (.sl _ _ n es)=>(n,es)|_=>(0,λ_=>[])
def cI:kh Int:={k:=1,enc:=λn=>[.int .i64 n],dec:=λcs=>wK cs 0,bP:=0,inv:=λ_=>rfl,len:=λ_=>rfl}
def cS:kh Bs:={k:=1,enc:=λs=>[.str s],dec:=λcs=>Cj cs 0,bP:=[],inv:=λ_=>rfl,len:=λ_=>rfl}
namespace R1
def et:kh cv:={k:=2,enc:=λx=>[.int .i64 x.1,.str x.2],dec:=λcs=>(wK cs 0,Cj cs 1),bP:=(0,[]),inv:=λ_=>rfl,len:=λ_=>rfl}
def oM:kh dA:={k:=2,enc:=λx=>[.int .i64 x.1,.int .i64 x.2],dec:=λcs=>(wK cs 0,wK cs 1),bP:=(0,0),inv:=λ_=>rfl,len:=λ_=>rfl}
abbrev sP(p:bc):C:=.sl ae 2 p.2.length (et.fn p.2)
def cP:kh bc:={k:=2,enc:=λp=>[.int .i64 p.1,sP p],dec:=λcs=>(wK cs 0,et.list (Hi cs 1).1 (Hi cs 1).2),bP:=(0,[]),inv:=λp=>by show(p.1,et.list p.2.length (et.fn p.2))=p;rw[et.list_fn],len:=λ_=>rfl}
def cL:kh gC:={k:=2,enc:=λx=>[.str x.1,.sl ae 1 x.2.length (cI.fn x.2)],dec:=λcs=>(Cj cs 0,cI.list (Hi cs 1).1 (Hi cs 1).2),bP:=([],[]),inv:=λp=>by show(p.1,cI.list p.2.length (cI.fn p.2))=p;rw[cI.list_fn],len:=λ_=>rfl}
def ee:kh cg:={k:=2,enc:=λx=>[.int .i64 x.1,.sl ae 2 x.2.length (cL.fn x.2)],dec:=λcs=>(wK cs 0,cL.list (Hi cs 1).1 (Hi cs 1).2),bP:=(0,[]),inv:=λp=>by show(p.1,cL.list p.2.length (cL.fn p.2))=p;rw[cL.list_fn],len:=λ_=>rfl}
def cH:kh (Int×Int):=oM
abbrev xP(p:bc):D:=.e (.agg [.c (.int .i64 p.1),.c (sP p)])
abbrev VO(r:Option Bs):D:=.e (.agg [.c (.str (r.getD [])),.c (.bool r.isSome)])
end R1
structure Arg(α:Type) where
 enc:α->D
 arg:D->Option (α×List Prop)
 ok:∀{d a o},arg d=aa (a,o)->au o->∀{σ:List bm} {s:St} {v:aj},dm σ s v d->dm σ s v (enc a)
def aI:Arg Int:=⟨dI,λd=>match d with|.e (.one (.c (.int .i64 n)))=>aa (n,[])|_=>af,λ{d a o} h _ _ _ _ r=>by grind⟩
def aS:Arg Bs:=⟨dS,λd=>match d with|.e (.one (.c (.str n)))=>aa (n,[])|_=>af,λ{d a o} h _ _ _ _ r=>by grind⟩
def aL(c:kh α):Arg (List α):=⟨c.sl,λd=>match jS c.k d with|some (n,es)=>aa (c.list n es,[c.fits n es])|none=>af,λ{d a o} h ho _ _ _ r=>by
 split at h
 .rename_i n es he;cases h;exact c.jc he ho r
 .cases h⟩
def SX:Arg (Int×Bs):=⟨λx=>.e (.agg [.c (.int .i64 x.1),.c (.str x.2)]),λd=>match d with|.e (.agg [.c (.int .i64 a),.c (.str b)])=>aa ((a,b),[])|_=>af,λ{d a o} h _ _ _ _ r=>by grind⟩
def VP:Arg (Int×Int):=⟨λx=>.e (.agg [.c (.int .i64 x.1),.c (.int .i64 x.2)]),λd=>match d with|.e (.agg [.c (.int .i64 a),.c (.int .i64 b)])=>aa ((a,b),[])|_=>af,λ{d a o} h _ _ _ _ r=>by grind⟩
def Dv(c:kh α):Arg (Int×List α):=⟨λx=>.e (.agg [.c (.int .i64 x.1),.c (.sl ae c.k x.2.length (c.fn x.2))]),λd=>match d with
 |.e (.agg [.c (.int .i64 a),.c b])=>match jS c.k (.e (.one (.c b)))with|some (n,es)=>aa ((a,c.list n es),[c.fits n es])|none=>af
 |_=>af,λ{d a o} h ho _ s _ r=>by
 split at h
 .split at h
  .rename_i n es he;cases h;obtain⟨vs,l,g⟩:=r
   match vs,g with
   |[],g=>exact g.elim
   |[_],g=>exact g.2.elim
   |_::_::_::_,g=>exact g.2.2.elim
   |[p,m],g=>exact⟨_,l,g.1,c.jc (σ:=[]) (s:=s) (v:=m) he ho g.2.1,ar⟩
  .cases h
 .cases h⟩
def kB(A:Arg α)(res:α->D)(pre:α->List Prop):dz:=λargs σ=>match args,σ with
 |[d],[]=>match A.arg d with
  |some (a,o)=>aa (res a,[],j0 o (pre a))
  |none=>af
 |_,_=>af
def n6{i:Type}(A:Arg α)(B:Arg i)(res:α->i->D)(pre:α->i->List Prop):dz:=λargs σ=>match args,σ with
 |[d,e],[]=>match A.arg d with
  |some (a,o)=>match B.arg e with
   |some (b,p)=>aa (res a b,[],j0 o (j0 p (pre a b)))
   |none=>af
  |none=>af
 |_,_=>af
def Ek{i j:Type}(A:Arg α)(B:Arg i)(C:Arg j)(res:α->i->j->D)(pre:α->i->j->List Prop):dz:=λargs σ=>match args,σ with
 |[d,e,f],[]=>match A.arg d with
  |some (a,o)=>match B.arg e with
   |some (b,p)=>match C.arg f with
    |some (c,q)=>aa (res a b c,[],j0 o (j0 p (j0 q (pre a b c))))
    |none=>af
   |none=>af
  |none=>af
 |_,_=>af
section
variable {X:Cx P}{f:aK}{i j:Type}{A:Arg α}{B:Arg i}{C:Arg j}
def dK.oL{res:α->D}{pre:α->List Prop}(h:∀a,au (pre a)->Ev X f [A.enc a] [] (res a) []):dK X f (kB A res pre):=by
 intro args σ r σ' obs h1 ho;unfold kB at h1;split at h1
 .split at h1
  .rename_i d a o b;cases h1;rw[au.cat]at ho;exact(h a ho.2).args λs vs=>cn.imp (λ_ r=>A.ok b ho.1 r) (λ_ r=>r) vs
  .cases h1
 .cases h1
def dK.qK{res:α->i->D}{pre:α->i->List Prop}(h:∀a b,au (pre a b)->Ev X f [A.enc a,B.enc b] [] (res a b) []):dK X f (n6 A B res pre):=by
 intro args σ r σ' obs h1 ho;unfold n6 at h1;split at h1
 .split at h1
  .rename_i d e a o c;split at h1
   .rename_i b p hb;cases h1;rw[au.cat,au.cat]at ho;exact(h a b ho.2.2).args λs vs=>cn.imp (λ_ r=>A.ok c ho.1 r) (cn.imp (λ_ r=>B.ok hb ho.2.1 r) (λ_ r=>r)) vs
   .cases h1
  .cases h1
 .cases h1
def dK.J7{res:α->i->j->D}{pre:α->i->j->List Prop}(h:∀a b c,au (pre a b c)->Ev X f [A.enc a,B.enc b,C.enc c] [] (res a b c) []):dK X f (Ek A B C res pre):=by
 intro args σ r σ' obs h1 ho;unfold Ek at h1;split at h1
 .split at h1
  .rename_i d e g a o k;split at h1
   .rename_i b p hb;split at h1
    .rename_i c q l;cases h1;rw[au.cat,au.cat,au.cat]at ho;exact(h a b c ho.2.2.2).args λs vs=>cn.imp (λ_ r=>A.ok k ho.1 r) (cn.imp (λ_ r=>B.ok hb ho.2.1 r) (cn.imp (λ_ r=>C.ok l ho.2.2.1 r) (λ_ r=>r))) vs
    .cases h1
   .cases h1
  .cases h1
 .cases h1
end
namespace R1
def pt(a:List D)(res:D):dz:=λargs σ=>match σ with|[]=>aa (res,[],[args=a])|_=>af
def rh{X:Cx ag}{f:aK}{a:List D}{res:D}(h:Ev X f a [] res []):dK X f (pt a res):=by
 intro args σ r σ' obs he ho;unfold pt at he;split at he
 .cases he;have:args=a:=ho;subst this;exact h
 .cases he
def Kf(a:List D)(σ0:List bm)(res:D)(σ1:List bm):dz:=λargs σ=>aa (res,σ1,[args=a,σ=σ0])
def PK{X:Cx ag}{f:aK}{a:List D}{σ0 σ1:List bm}{res:D}(h:Ev X f a σ0 res σ1):dK X f (Kf a σ0 res σ1):=by intro args σ r σ' obs he ho;cases he;obtain⟨b,c⟩:args=a/\σ=σ0:=ho;subst b c;exact h
end R1
def Ht(M:Mem):List aj->List C->Prop
 |[],[]=>True
 |v::vs,c::cs=>Rd M v c/\Ht M vs cs
 |_,_=>False
structure FA(α:Type) where
 enc:α->List C
 dec:List C->Option (α×List Prop×List C)
 ok:∀{cs a o r},dec cs=aa (a,o,r)->au o->∀{M:Mem} {vs:List aj},Ht M vs cs->∃v1 v2,vs=v1++v2/\Ht M v1 (enc a)/\Ht M v2 r
def Ht.app{M:Mem}:∀{v1 v2:List aj}{c1 c2:List C},Ht M v1 c1->Ht M v2 c2->Ht M (v1++v2) (c1++c2)
 |[],_,[],_,_,h=>h
 |_::_,_,_::_,_,h1,h2=>⟨h1.1,h1.2.app h2⟩
 |[],_,_::_,_,h,_=>h.elim
 |_::_,_,[],_,h,_=>h.elim
def Ht.one{c:C}{r:List C}(h:Ht M vs (c::r)):∃v a,vs=v::a/\Rd M v c/\Ht M a r:=by
 cases vs with
 |nil=>exact h.elim
 |cons v vs=>exact⟨v,vs,rfl,h⟩
def fL(c:kh α):FA (List α):=⟨λl=>[.sl ae c.k l.length (c.fn l)],λcs=>match cs with
 |d::r=>match jS c.k (.e (.one (.c d)))with|some (n,es)=>aa (c.list n es,[c.fits n es],r)|none=>af
 |_=>af,λ{cs a o r} h ho M vs hr=>by
 split at h
 .split at h
  .rename_i n es he;cases h;obtain⟨v,b,rfl,f,g⟩:=hr.one;exact⟨[v],b,rfl,⟨c.jc (σ:=[]) (s:=⟨[],M,default,λ_=>True⟩) (v:=v) he ho f,ar⟩,g⟩
  .cases h
 .cases h⟩
def fP{c:Type}(A:FA α)(B:FA c):FA (α×c):=⟨λx=>A.enc x.1++B.enc x.2,λcs=>match A.dec cs with
 |some (a,o,r)=>match B.dec r with|some (b,p,q)=>aa ((a,b),j0 o p,q)|none=>af
 |none=>af,λ{cs a o r} h ho M vs hr=>by
 split at h
 .rename_i j;split at h
  .rename_i d;cases h;rw[au.cat]at ho;obtain⟨v1,k,rfl,g,g2⟩:=A.ok j ho.1 hr;obtain⟨i,v4,rfl,e,f⟩:=B.ok d ho.2 g2;exact⟨v1++i,v4,(jV _ _ _).symm,g.app e,f⟩
  .cases h
 .cases h⟩
def VR:List A->Option (List C)
 |[]=>aa []
 |.c x::r=>match VR r with|some q=>aa (x::q)|none=>af
 |_=>af
def XE:List C->List A
 |[]=>[]
 |x::r=>.c x::XE r
def Kr{σ:List bm}{s:St}:∀{cs:List A}{q:List C}{vs:List aj},VR cs=aa q->eb σ s vs cs->Ht s.M vs q
 |[],q,vs,h,a=>by cases h;cases vs with|nil=>trivial|cons=>exact a.elim
 |.c x::r,q,vs,h,a=>by
  simp only[VR]at h;split at h
  .rename_i b;cases h;cases vs with
   |nil=>exact a.elim
   |cons v vs=>exact⟨a.1,Kr b a.2⟩
  .cases h
 |.ptr ..::_,_,_,h,_=>by cases h
 |.vec ..::_,_,_,h,_=>by cases h
 |.ref ..::_,_,_,h,_=>by cases h
 |.bp ..::_,_,_,h,_=>by cases h
 |.any::_,_,_,h,_=>by cases h
def Ks{σ:List bm}{s:St}:∀{q:List C}{vs:List aj},Ht s.M vs q->eb σ s vs (XE q)
 |[],[],_=>trivial
 |_::_,_::_,h=>⟨h.1,Ks h.2⟩
 |[],_::_,h=>h.elim
 |_::_,[],h=>h.elim
def aAg(F:FA α):Arg α:=⟨λa=>.e (.agg (XE (F.enc a))),λd=>match d with
 |.e (.agg xs)=>match VR xs with
  |some cs=>match F.dec cs with|some (a,o,[])=>aa (a,o)|_=>af
  |none=>af
 |_=>af,λ{d a o} h ho σ s v r=>by
 split at h
 .split at h
  .rename_i i;split at h
   .rename_i b;cases h;obtain⟨vs,rfl,c⟩:=r;obtain⟨v1,g,rfl,f,g2⟩:=F.ok b ho (Kr i c);cases g with
    |nil=>exact⟨v1,by rw[kK],Ks f⟩
    |cons=>exact g2.elim
   .cases h
  .cases h
 .cases h⟩
namespace R1
section
variable {X:Cx ag}
def J3(k:Int):Ev X 49 [dI k] [] (dB (cJ k)) []:=by
 refine Ev.bQ Tryz.func49 rfl λc=>?_;by_cases a:1<=k
 .by_cases b:k<=99
  .refine aX [(4,ab),(7,ab)] rfl ?_ (AK.bn rfl ?_)
   .simp[a,b]
   .simp[cJ,a,b]
  .refine aX [(4,ab),(7,ae)] rfl ?_ (AK.bn rfl ?_)
   .simp[a];omega
   .simp[cJ,a,b]
 .refine aX [(4,ae)] rfl ?_ (AK.bn rfl ?_)
  .simp;omega
  .simp[cJ,a]
def t49:dK X 49 (kB aI (λk=>dB (cJ k)) λ_=>[]):=.oL λk _=>J3 k
def AA{s:Bs}(h:i<s.length):b9 (s.take (i+1))=(b9 (s.take i)&&eH (s.getD i 0)):=by unfold b9;grind[List.take_add_one]
def pr{b:UInt8}:eH b=ab↔97<=(b.toNat:Int)/\(b.toNat:Int)<=122:=by simp[eH];omega
def wF{s:Bs}(h:i<s.length)(b:eH (s.getD i 0)=ae):b9 s=ae:=by
 cases a:b9 s with
 |false=>rfl
 |true =>
  have:=List.all_eq_true.1 a (s.getD i 0) (by grind);grind
def Ce(s:Bs):Ev X 182 [dS s] [] (dB (b9 s)) []:=by
 refine Ev.bQ Tryz.func182 rfl λg=>?_;have f:=g.str 0 rfl;refine bw rfl ar ?_;refine AK.we (λi=>i<=s.length/\b9 (s.take i)=ab) (λi:Nat=>[(0,dS s),(5,dI s.length),(6,dI i)]) (λ_=>[]) (λi=>s.length-i) 0 rfl (by simp) ⟨by omega,by simp[b9]⟩ rfl ?_;rintro i ⟨hi,a⟩;by_cases h:i<s.length
 .by_cases b:cz s i<97
  .refine aX [(7,ab),(12,ab)] rfl ?_ (AK.gI (ck.zero rfl ?_))
   .simp[-ai,h,cE,b]
   .have:eH (s.getD i 0)=ae:=by
     cases d:eH (s.getD i 0)with
     |false=>rfl
     |true=>have:=pr.1 d;unfold cz at b;omega
    simp[wF h this]
  .by_cases c:cz s i<=122
   .refine aX [(7,ab),(12,ae),(17,ae)] rfl ?_ (AK.again (i+1) rfl ?_ ?_ ?_ rfl)
    .simp[-ai,h,cE,b,c,bx];grind
    .simp
    .refine⟨by omega,?_⟩;rw[AA h,a,fC];exact pr.2 (by unfold cz at b c;omega)
    .omega
   .refine aX [(7,ab),(12,ae),(17,ab)] rfl ?_ (AK.gI (ck.zero rfl ?_))
    .simp[-ai,h,cE,b];grind
    .have:eH (s.getD i 0)=ae:=by
      cases d:eH (s.getD i 0)with
      |false=>rfl
      |true=>have:=pr.1 d;unfold cz at c;omega
     simp[wF h this]
 .have e:i=s.length:=by omega
  subst e;refine aX [(7,ae)] rfl (by simp) (AK.leave rfl rfl ?_);refine bw rfl ar (AK.bn rfl ?_);rw[cC]at a;simp[a]
def Ul:dK X 182 (kB aS (λs=>dB (b9 s)) λ_=>[]):=.oL λk _=>Ce k
abbrev tb1:List (Nat×dz):=[(49,kB aI (λk=>dB (cJ k)) λ_=>[]),(182,kB aS (λs=>dB (b9 s)) λ_=>[])]
def Xp:bG X tb1:=.cons t49 (.cons Ul .nil)
def Cf(p:Bs):Ev X 195 [dS p] [] (dB (bJ p)) []:=by
 refine Ev.bQ Tryz.func195 rfl λc=>?_;by_cases a:1<=p.length
 .by_cases b:p.length<=8
  .refine aR Xp [(5,ab),(9,ab),(11,ab)] rfl ?_ (AK.bn rfl ?_)
   .simp;omega
   .simp[bJ,a,b]
  .refine aR Xp [(5,ab),(9,ae),(11,ae)] rfl ?_ (AK.bn rfl ?_)
   .simp;omega
   .simp[bJ,a,b]
 .refine aR Xp [(5,ae),(11,ae)] rfl ?_ (AK.bn rfl ?_)
  .simp;omega
  .simp[bJ,a]
def t195:dK X 195 (kB aS (λs=>dB (bJ s)) λ_=>[]):=.oL λk _=>Cf k
def Cg(n:Nat)(h:n<=4000000):Ev X 219 [dI n] [] (dI (cM n)) []:=by
 refine Ev.bQ Tryz.func219 rfl λd=>?_;by_cases c:n<1
 .refine aX [(5,ab),(9,ab)] rfl ?_ (AK.bn rfl ?_)
  .simp;omega
  .simp[cM,c]
 .by_cases b:8<n
  .refine aX [(5,ae),(8,ab)] rfl ?_ (AK.bn rfl ?_)
   .simp;omega
   .simp[cM,b]
  .refine aX [(5,ae),(8,ae)] rfl ?_ ?_
   .simp;omega
   have e:cM n=2∨cM n=4∨cM n=8:=by unfold cM;grind
   refine AK.we (λi:Nat=>(i=2∨i=4∨i=8)/\i<=cM n) (λi:Nat=>[(0,dI n),(3,dI i)]) (λ_=>[]) (λi=>8-i) 2 rfl (by simp) ⟨by simp,by omega⟩ rfl ?_;rintro i ⟨hi,a⟩;by_cases h:i<n
   .refine aX [(12,ab)] rfl ?_ (AK.again (2*i) rfl ?_ ?_ ?_ rfl)
    .simp[bx];omega
    .simp;omega
    .unfold cM at a⊢;grind
    .omega
   .refine aX [(12,ae)] rfl (by simp;omega) (AK.leave rfl rfl ?_);refine bw rfl ar (AK.bn rfl ?_);have:i=cM n:=by unfold cM at a⊢;grind
    simp[this]
theorem Ei(s:Bs)(b:UInt8):strip (s++[b])=if b=46 then strip s else s++[b]:=by unfold strip;grind[List.dropWhile_cons]
def wG{s:Bs}(h:n<s.length):strip (s.take (n+1))=if s.getD n 0=46 then strip (s.take n)else s.take (n+1):=by grind[List.take_add_one,Ei]
theorem Ch(s:Bs):Ev X 214 [dS s,dU 46] [] (dS (strip s)) []:=by
 refine Ev.bQ Tryz.func214 rfl λj=>?_;have f:=j.str 0 rfl;refine bw rfl ar ?_;refine AK.we (λn=>n<=s.length/\strip (s.take n)=strip s) (λn:Nat=>[(0,dS (s.take n)),(1,dU 46)]) (λ_=>[]) (λn=>n) s.length rfl (by simp) ⟨by omega,by simp⟩ rfl ?_;rintro n ⟨k,a⟩;cases n with
 |zero =>
  refine aX [(7,ae),(16,ae)] rfl ?_ (AK.leave rfl rfl ?_)
  .simp
  refine bw rfl ar (AK.bn rfl ?_);have:strip s=[]:=by rw[<-a];rfl
  simp[this]
 |succ n =>
  have h:(s.take (n+1)).length=n+1:=by grind
  have g:cz (s.take (n+1)) n=cz s n:=by simp[cz,ai,eX]
  have i:=wG (s:=s) (n:=n) (by omega);have b:((n:Int)+1-1).toNat=n:=by omega
  by_cases d:s.getD n 0=46
  .refine aX [(7,ab),(15,ab),(16,ab)] rfl ?_ (AK.again n rfl ?_ ?_ ?_ rfl)
   .have c:cz s n=46:=by unfold cz;rw[d];rfl
    simp[-ai,-List.length_take,h,cE,b,g,c,bx];omega
   .simp;show(s.take (n+1)).take _=_;grind
   .grind
   .omega
  .refine aX [(7,ab),(15,ae),(16,ae)] rfl ?_ (AK.leave rfl rfl ?_)
   .have c:cz s n≠46:=by unfold cz;intro e;exact d (pW.1 (by grind))
    simp[-ai,-List.length_take,h,cE,b,g,c,bx];omega
   refine bw rfl ar (AK.bn rfl ?_);rw[i,a9 d]at a;simp[a]
def Um:dz:=λargs σ=>match args,σ with
 |[.e (.one (.c (.str s))),.e (.one (.c (.int .u8 46)))],[]=>aa (dS (strip s),[],[])
 |_,_=>af
def t214:dK X 214 Um:=by intro args σ res σ' obs h _;unfold Um at h;grind[Ch]
theorem NS(s:Bs):Ev X 194 [dS s,dS [46]] [] (dS (strip s)) []:=by
 refine Ev.bQ Tryz.func194 rfl λb=>?_;by_cases h:s=[]
 .subst h;refine aR (bG.cons t214 .nil) [(8,ab),(12,ab)] rfl ?_ (AK.bn rfl ?_)
  .simp
  .simp[strip]
 .refine aR (bG.cons t214 .nil) [(8,ae),(11,ae),(12,ae),(16,ab),(20,ab),(21,ab)] rfl ?_ (AK.bn rfl)
  .cases s with
   |nil=>grind
   |cons a r=>simp;decide
def Rp:dz:=λargs σ=>match args,σ with
 |[.e (.one (.c (.str s))),.e (.one (.c (.str [46])))],[]=>aa (dS (strip s),[],[])
 |_,_=>af
def t194:dK X 194 Rp:=by intro args σ res σ' obs h _;unfold Rp at h;grind[NS]
def ud{p:Bs}(h:i<p.length):codeOf (p.take (i+1))=27*codeOf (p.take i)+(cz p i-97) % 256+1:=by unfold codeOf;rw[jU,bg h];simp only[uQ,Option.toList_some,iH,List.foldl_nil,cz,ai,bg h,ga]
def jK{p:Bs}(h:bJ p=ab)(hi:i<=p.length):0<=codeOf (p.take i)/\codeOf (p.take i)<282429536481:=by simp only[bJ,bR,bq]at h;obtain⟨a,q2⟩:=wH (p.take i) 0 1 0 (λb c=>kC h.2 b (jy c)) (by omega) (by omega) (by omega);have:=PI (n:=(p.take i).length) (by grind);rw[Int.one_mul]at q2;exact⟨a,Int.lt_of_lt_of_le q2 this⟩
def wI{p:Bs}(h:i<p.length):p.getD i 0∈p:=by grind
abbrev tb2:List (Nat×dz):=[(49,kB aI (λk=>dB (cJ k)) λ_=>[]),(195,kB aS (λs=>dB (bJ s)) λ_=>[])]
def qu:bG X tb2:=.cons t49 (.cons t195 .nil)
abbrev Y8(n:Int):D:=.fz [.one (.c (.int .i64 n)),.one (.c .o0)]
def J6(k:Int)(p:Bs)(g:cJ k=ab)(b:bJ p=ab):Ev X 197 [dI k,dS p] [] (Y8 (gp k p)) []:=by
 refine Ev.bQ Tryz.func197 rfl λr=>?_;have a:=b;simp only[bJ,bR,bq]at a;have c:=g;simp only[cJ,bR,bq]at c;refine aR qu [(8,ae),(13,ae)] rfl (by simp[g,b]) ?_;refine AK.we (λi=>i<=p.length) (λi:Nat=>[(0,dI k),(1,dS p),(6,dI (codeOf (p.take i))),(19,dI p.length),(20,dI i)]) (λ_=>[]) (λi=>p.length-i) 0 rfl (by simp[codeOf]) (by omega) rfl ?_;intro i hi;by_cases h:i<p.length
 .have f:=jK b hi;have q:=jK b (i:=i+1) (by omega);have e:=ud h;refine aX [(21,ab)] rfl ?_ (AK.again (i+1) rfl ?_ ?_ ?_ rfl)
  .simp only[au,cE,bx];simp[-ai,h,cE];have n:=kC a.2 (p.getD i 0) (wI h);have d:97<=cz p i/\cz p i<=122:=by unfold cz;omega
   omega
  .have n:=kC a.2 (p.getD i 0) (wI h);have d:97<=cz p i/\cz p i<=122:=by unfold cz;omega
   have o:(cz p i-97) % 256=cz p i-97:=Int.emod_eq_of_lt (by omega) (by omega);rw[o]at e;simp[-ai,cE,e]
  .grind
  grind
 .have e:i=p.length:=by omega
  subst e;have f:=yK b;refine aX [(21,ae)] rfl (by simp) (AK.leave rfl rfl ?_);refine bw rfl ?_ (AK.bn rfl ?_)
  .rw[cC];have l:0<=codeOf p*(2*k+1):=Int.mul_nonneg f.1 (by omega);have j:codeOf p*(2*k+1)<=282429536481*199:=Int.mul_le_mul (by omega) (by omega) (by omega) (by omega);generalize codeOf p*(2*k+1)=m at l j;simp only[au,bx];simp;omega
  .rw[cC];refine au.cat.2 ⟨?_,au.cat.2 ⟨rfl,ar⟩⟩;show(_:Int)=_;rw[Int.mul_comm 7919 k];rfl
def t197:dK X 197 (n6 aI aS (λk p=>Y8 (gp k p)) λk p=>[cJ k=ab,bJ p=ab]):=.qK λk p h=>J6 k p h.1 h.2
def Rr(h:o.op=.binOp op t x (.const .nilIface) ty){c:Bool}{ms:Array (String×aw)}(m:P.underlying t=aa (.interface ms))(n:η x=.e (.one (.c .o0)))(p:η (.const .nilIface)=.e (.one (.c .o0)))(j:lH op ab=aa c):bE P o η σ (.e (.one (.c (.bool c)))) σ:=by
 refine .quiet λs l q k=>?_;have g:=k x;have d:=k (.const .nilIface);rw[n]at g;rw[p]at d;replace g:=fI g;replace d:=fI d;generalize b:l x=vx at g;generalize a:l (.const .nilIface)=vy at d;cases g;cases d;have i:(Op.equal t .nilIface .nilIface).run P s.w=.ok ab s.w:=by show(Op.equalIn (9999+1) t _ _).run P s.w=_;unfold Op.equalIn;simp[underlying,m]
 have f:∀es,(Op.equal t .nilIface .nilIface).events P s.w es=es:=λes=>by show(Op.equalIn (9999+1) t _ _).events P s.w es=es;unfold Op.equalIn;simp[underlying,m]
 cases op<;>simp only[lH,reduceCtorEq,dq]at j
 .subst j;exact⟨.bool ab,by simp[ak,h,b,a,eqGuard,binOp,i],Rd.bool,by simp[ak,h,b,a,eqGuard,binOp,i,f]⟩
 .subst j;exact⟨.bool ae,by simp[ak,h,b,a,eqGuard,binOp,i],Rd.bool,by simp[ak,h,b,a,eqGuard,binOp,i,f]⟩
def Hg(k:Int)(p:Bs)(n:Int)(b:cJ k=ab)(a:bJ p=ab):Ev X 145 [dI k,dS p,dI n] [] (dB (gp k p==n)) []:=by
 refine Ev.bQ Tryz.func145 rfl λc=>?_;refine aR (bG.cons t197 .nil) [(17,ab)] rfl ?_ ?_
 .simp[b,a]
 refine AK.law (Rr rfl Tryz.underlying217 rfl rfl rfl) rfl rfl ?_;refine aR (bG.cons t197 .nil) [(17,ab)] rfl ?_ (AK.bn rfl ?_)
 .rfl
 .rfl
def t145:dK X 145 (Ek aI aS aI (λk p n=>dB (gp k p==n)) λk p _=>[cJ k=ab,bJ p=ab]):=.J7 λk p n h=>Hg k p n h.1 h.2
abbrev dQ(n:Int):D:=.e (.one (.c (.int .u64 n)))
def _root_.Go.AM.AW.Ga{X:Cx P}{Q:Post}{x y:Code}(h:AW X N y Q φ σ):AW X N (.cond (.const (.bool ae)) x y) Q φ σ:=by intro s a f hh b k cs S hb hQ;refine .ctl hh rfl (λ_=>uX (t:=ae) rfl) λg h1=>?_;exact h g a (f.rely h1 hh) (hh.rely h1) b k cs S hb λe φ' σ' s' a' q d c st=>hQ e φ' σ' s' a' q d c (h1.stepW.trans st)
def _root_.Go.AM.AK.Ga{P:aO}{X:Cx P}{N:Nat}{Qf:Post}{K:List It}{φ:Fr}{σ:List bm}{x y:Code}(h:AK X N Qf (.code y::K) .normal φ σ):AK X N Qf (.code (.cond (.const (.bool ae)) x y)::K) .normal φ σ:=AW.Ga h
def JV{k l:IntKind}{a b:Int}(c:Int)(h:o.op=.binOp op t x y ty)(r:η x=.e (.one (.c (.int k a))))(u:η y=.e (.one (.c (.int l b))))(n:bx k c)(d:∀w,(binOp op t (.int k a) (.int l b)).run P w=.ok (.int k c) w)(m:∀w,(binOp op t (.int k a) (.int l b)).events P w #[]=#[]):
  bE P o η σ (.e (.one (.c (.int k c)))) σ:=by refine .quiet λs p v q=>?_;have g:=q x;have f:=q y;rw[r]at g;rw[u]at f;replace g:=fI g;replace f:=fI f;generalize j:p x=vx at g;generalize i:p y=vy at f;cases g;cases f;exact⟨.int k c,by simp only[ak,h,bT,j,i,gn,cm,d,cV],.int n,by simp[ak,h,j,i,gn,jE,d,m]⟩
def Er:Ev X 239 [dQ 1,dQ 2] [] (.fz [.one (.c (.int .u64 0)),.one (.c (.int .u64 2))]) []:=by refine Ev.bQ Tryz.func239 rfl λa=>?_;exact c9 rfl (by simp[bx]) (AK.bn rfl)
def Et:Ev X 239 [dQ 1,dQ 3] [] (.fz [.one (.c (.int .u64 0)),.one (.c (.int .u64 3))]) []:=by refine Ev.bQ Tryz.func239 rfl λa=>?_;exact c9 rfl (by simp[bx]) (AK.bn rfl)
def Uo:dz:=λargs σ=>match args,σ with
 |[.e (.one (.c (.int .u64 1))),.e (.one (.c (.int .u64 c)))],[]=>aa (.fz [.one (.c (.int .u64 0)),.one (.c (.int .u64 c))],[],[c=2∨c=3])
 |_,_=>af
def t239:dK X 239 Uo:=by
 intro args σ res σ' obs h ho;unfold Uo at h;split at h
 .cases h;rcases ho with rfl|rfl
  .exact Er
  .exact Et
 grind
def Rx(c:Int)(a:c=2∨c=3):Ev X 228 [dQ 1,dQ c] [] (.fz [.one (.c (.int .u64 0)),.one (.c (.int .u64 c))]) []:=by
 refine Ev.bQ Tryz.func228 rfl λb=>?_;refine bZ (bG.cons t239 .nil) rfl ar ?_;refine AK.Ga ?_;refine bZ (bG.cons t239 .nil) rfl ?_ (AK.bn rfl)
 .simp[a]
def Ro:dz:=λargs σ=>match args,σ with
 |[.e (.one (.c (.int .u64 1))),.e (.one (.c (.int .u64 c)))],[]=>aa (.fz [.one (.c (.int .u64 0)),.one (.c (.int .u64 c))],[],[c=2∨c=3])
 |_,_=>af
def t228:dK X 228 Ro:=by
 intro args σ res σ' obs h ho;unfold Ro at h;split at h
 .cases h;exact Rx _ ho
 grind
abbrev pq:dz:=kB aS (λp=>dS (gq p)) λ_=>[]
abbrev AB(r:Option Bs):D:=.fz [.one (.c (.str (r.getD []))),.one (.c (.bool r.isSome))]
def El(c:dK X 196 pq)(b:Bs):Ev X 144 [dS b] [] (AB (eQ b)) []:=by
 refine Ev.bQ Tryz.func144 rfl λf=>?_;have e:bG X [(194,Rp),(195,kB aS (λs=>dB (bJ s)) λ_=>[]),(196,pq)]:=.cons t194 (.cons t195 (.cons c .nil));by_cases a:bJ (strip b)=ab
 .by_cases d:gq (strip b)=b
  .refine aR e [(10,ae),(15,ae)] rfl ?_ (AK.bn rfl ?_)
   .simp[a,d]
   .simp[eQ,a,d]
  .refine aR e [(10,ae),(15,ab)] rfl ?_ (AK.bn rfl ?_)
   .simp[a,d]
   .simp[eQ,a,d]
 .refine aR e [(10,ab),(15,ab)] rfl ?_ (AK.bn rfl ?_)
  .simp[a]
  .simp[eQ,a]
def Un(a:dK X 196 pq):dK X 144 (kB aS (λb=>AB (eQ b)) λ_=>[]):=.oL λb _=>El a b
def wJ{b p:Bs}(h:eQ b=aa p):bJ p=ab:=by unfold eQ at h;grind
abbrev Xs(x:cv):D:=SX.enc x
def J8(c:dK X 196 pq)(x:cv)(k:Int)(e:cJ k=ab):Ev X 101 [Xs x,dI k] [] (AB (chunk k x)) []:=by
 refine Ev.bQ Tryz.func101 rfl λh=>?_;have f:bG X [(144,kB aS (λb=>AB (eQ b)) λ_=>[]),(145,Ek aI aS aI (λk p n=>dB (gp k p==n)) λk p _=>[cJ k=ab,bJ p=ab])]:=.cons (Un c) (.cons t145 .nil);cases a:eQ x.2 with
 |none =>
  refine aR f [(16,ab),(23,ab)] rfl ?_ (AK.bn rfl ?_)
  .simp[a]
  .simp[chunk,a]
 |some p =>
  have g:=wJ a;by_cases d:gp k p=x.1
  .refine aR f [(16,ae),(23,ae)] rfl ?_ (AK.bn rfl ?_)
   .simp[a,d,e,g]
   .simp[chunk,a,d,e]
  .refine aR f [(16,ae),(23,ab)] rfl ?_ (AK.bn rfl ?_)
   .simp[a,d,e,g]
   .simp[chunk,a,d,e]
def J9(a:dK X 196 pq):dK X 101 (n6 SX aI (λx k=>AB (chunk k x)) λ_ k=>[cJ k=ab]):=.qK λx k h=>J8 a x k h
def Rs(x:cv)(n:Int):Ev X 206 [Xs x,.e (.one (.c (.rp [.int .i64 n])))] [] (dB (x.1==n)) []:=by refine Ev.bQ Tryz.func206 rfl λa=>?_;exact bw rfl ar (AK.bn rfl)
def Rt:dz:=λargs σ=>match args,σ with
 |[.e (.agg [.c (.int .i64 a0),.c (.str a1)]),.e (.one (.c (.rp [.int .i64 n])))],[]=>aa (dB (a0==n),[],[a1=a1])
 |_,_=>af
def t206:dK X 206 Rt:=by
 intro args σ res σ' obs h ho;unfold Rt at h;split at h
 .rename_i b a n;cases h;exact Rs (b,a) n
 grind
abbrev Ka(n:Int):D:=.e (.one (.c (.fn (.func 206) [] [.rp [.int .i64 n]])))
def AD(l:List cv)(n:Int):Int:=match l.findIdx? (λx=>x.1==n)with|some i=>i|none=>-1
def NU{t:List cv}{n:Int}(hi:i<t.length)(h:(t.getD i (0,[])).1=n)(a:∀j,j<i->(t.getD j (0,[])).1≠n):AD t n=i:=by
 have:t.findIdx? (λf=>f.1==n)=aa i:=by
  rw[oP];refine⟨hi,?_,λj b=>?_⟩
  .grind
  grind
 rw[AD,this]
def Hh{t:List cv}{n:Int}(a:∀j,j<t.length->(t.getD j (0,[])).1≠n):AD t n=-1:=by
 have:t.findIdx? (λf=>f.1==n)=af:=by grind[List.getElem_of_mem]
 rw[AD,this]
def NV(t:List cv)(n:Int):Ev X 205 [et.sl t,Ka n] [] (dI (AD t n)) []:=by
 refine Ev.bQ Tryz.func205 rfl λe=>?_;have c:=e.sl 0 rfl;have b:bG X [(206,Rt)]:=.cons t206 .nil;refine bZ b rfl ar ?_;refine AK.ji (λi=>i<=t.length/\∀j,j<i->(t.getD j (0,[])).1≠n) (λi:Nat=>[(0,et.sl t),(1,Ka n),(7,dI t.length),(8,dI i)]) (λ_=>[]) (λi=>t.length-i) 0 rfl ?_ rfl ar ⟨by omega,by omega⟩ ?_
 .simp
 rintro i ⟨hi,a⟩;by_cases h:i<t.length
 .by_cases d:(t.getD i (0,[])).1=n
  .refine aR b [(9,ab),(16,ab)] rfl ?_ (AK.gI (ck.zero rfl ?_))
   .simp only[au,bM];grind
   .simp[NU h d a]
  .refine aR b [(9,ab),(16,ae)] rfl ?_ (AK.fG (i+1) rfl ?_ rfl ar ?_ ?_)
   .simp only[au,bM];exact⟨by simp only[bx];omega,ar,eW.2 d,by omega,by omega,dc (by omega)⟩
   .simp
   .grind
   .omega
 .refine aR b [(9,ae)] rfl (by simp;omega) (AK.leave rfl rfl ?_);refine bZ b rfl ar (AK.bn rfl ?_);simp[Hh (λj f=>a j (by omega))]
def Ru:dz:=λargs σ=>match args,σ with
 |[d,.e (.one (.c (.fn (.func 206) [] [.rp [.int .i64 n]])))],[]=>match jS 2 d with
  |none=>af
  |some (m,es)=>aa (dI (AD (et.list m es) n),[],[et.fits m es])
 |_,_=>af
def t205:dK X 205 Ru:=by
 intro args σ res σ' obs h ho;unfold Ru at h;split at h
 .rename_i d n;split at h
  .cases h
  rename_i m es hd;cases h;exact(NV _ n).args (λ_ vs=>cn.imp (λ_=>et.jc hd ho) (cn.imp (λ_ r=>r) (λ_ r=>r)) vs)
 grind
def Em(t:List cv)(n:Int):(AD t n=-1/\t.find? (λx=>x.1==n)=af)∨∃i:Nat,i<t.length/\AD t n=i/\t.find? (λx=>x.1==n)=aa (t.getD i (0,[])):=by unfold AD;grind[List.findIdx?_eq_some_iff_getElem,List.find?_eq_some_iff_getElem]
def En(a:dK X 196 pq)(k:Int)(p:bc)(n:Int)(g:cJ k=ab):Ev X 173 [dI k,xP p,dI n] [] (AB (dv k p n)) []:=by
 refine Ev.bQ Tryz.func173 rfl λh=>?_;have f:bG X [(205,Ru),(101,n6 SX aI (λx k=>AB (chunk k x)) λ_ k=>[cJ k=ab])]:=.cons t205 (.cons (J9 a) .nil);have d:et.list p.2.length (et.fn p.2)=p.2:=et.list_fn _;refine Eo [] 7 rfl ar ?_;refine AK.freeze 5 1 rfl rfl rfl ?_;rcases Em p.2 n with⟨b,c⟩|⟨i,hi,b,c⟩
 .refine aR f [(14,ab)] rfl ?_ (AK.bn rfl ?_)
  .simp only[au,d,b];exact⟨rfl,et.aJ _⟩
  .simp[dv,c]
 .refine aR f [(14,ae)] rfl ?_ (AK.bn rfl ?_)
  .simp only[au,d,b];exact⟨g,by omega,by omega,gx (by omega),et.aJ _⟩
  .have e:dv k p n=chunk k (p.2.getD i (0,[])):=by simp only[dv,c]
   rw[e,d,b];simp only[bM];exact au.cat.2 ⟨rfl,au.cat.2 ⟨rfl,ar⟩⟩
def Rv(a:dK X 196 pq):dK X 173 (Ek aI (Dv et) aI (λk p n=>AB (dv k p n)) λk _ _=>[cJ k=ab]):=.J7 λk p n h=>En a k p n h
def lj:∀(l:List UInt8)(c:UInt8),Lib.indexByte l c<l.length∨Lib.indexByte l c=-1
 |[],c=>.inr (by rw[Lib.indexByte.eq_def])
 |b::l,c=>by have a:=lj l c;grind[Lib.indexByte.eq_def]
set_option maxRecDepth 20000 in
theorem A3(s:Bs)(c:UInt8):Ev X 231 [dS s,dU c.toNat] [] (dI (Lib.indexByte s c)) []:=by
 refine Ev.bQ Tryz.func231 rfl λq=>?_;have A:=q.str 0 rfl;refine bw rfl ar ?_;refine AK.one (x:=dI (Lib.indexByte s c)) (σ':=[]) ?_ rfl ?_
 .refine OA.mT (λ_ _ _ _=>dx (by rfl)) ?_;refine bE.nP λst ρ z l=>?_;have p:=fI (l (.tmp 5));have n:=fI (l (.tmp 6));generalize i:ρ (.tmp 5)=v1 at p;generalize h:ρ (.tmp 6)=v2 at n;cases p with
  |str e1 l1 =>
  cases n with
  |int l2 =>
  have g:ρ (.func 240)=.func (.func 240) #[] #[]:=by
   have:=fI (l (.func 240));generalize ρ (.func 240)=v at this;cases this with
   |fn fs cs a b B r c1 c2 d1 d2 =>
    grind
  have f:(callFunc 240 #[.string ‹ByteArray›,.int .u8 c.toNat]).run ag st.w=.ok (.value (.int .i64 (Lib.indexByte s c))) st.w:=by rw[run_callFunc_extern Tryz.func240 (by kernel_rfl) (by kernel_rfl) (by kernel_rfl) (e:=Extern.BytealgIndexByte.indexByte) (by kernel_rfl),Lib.run_indexByteString];subst e1;simp
  have k:cX ag (Extern.BytealgIndexByte.indexByte #[.string ‹ByteArray›,.int .u8 c.toNat]):=by
   refine cX.bind (m:=Extern.Bytes.bytesOf (.string ‹ByteArray›)) (λ_ _=>rfl) λb=>cX.bind (m:=Extern.Bytes.asByte (.int .u8 c.toNat)) (λ_ _=>?_) λd=>?_
   .simp[Extern.Bytes.asByte]
   .skip
    split<;>exact .pure
  have j:=lF Tryz.func240 (by kernel_rfl) (by kernel_rfl) (by kernel_rfl) (e:=Extern.BytealgIndexByte.indexByte) (by kernel_rfl) _ k st.w #[];refine⟨.int .i64 (Lib.indexByte s c),?_,Rd.int ?_,?_⟩
  rotate_left 2
  .intro u o;simp[ak,resolve,Deferred.ofValue,invoke,i,h,g,j]at o;subst o;exact .inr ⟨_,rfl⟩
  .simp[ak,resolve,Deferred.ofValue,invoke,i,h,g,f]
  .have t:=Lib.indexByte_ge s c;have y:=lj s c;simp only[bx];omega
 .exact bw rfl ar (AK.bn rfl)
def NT(a:Int)(b:C)(n:Int):Ev X 69 [.e (.agg [.c (.int .i64 a),.c b]),.e (.one (.c (.rp [.int .i64 n])))] [] (dB (a==n)) []:=by refine Ev.bQ Tryz.func69 rfl λd=>?_;exact bw rfl ar (AK.bn rfl)
def Xq:dz:=λargs σ=>match args,σ with
 |[.e (.agg [.c (.int .i64 a0),.c b]),.e (.one (.c (.rp [.int .i64 n])))],[]=>aa (dB (a0==n),[],[])
 |_,_=>af
def t69:dK X 69 Xq:=by
 intro args σ res σ' obs h ho;unfold Xq at h;split at h
 .cases h;exact NT _ _ _
 .cases h
abbrev PH(n:Int):D:=.e (.one (.c (.fn (.func 69) [] [.rp [.int .i64 n]])))
def qJ(l:List cg)(n:Int):Int:=match l.findIdx? (λx=>x.1==n)with|some i=>i|none=>-1
def J4{t:List cg}{n:Int}(hi:i<t.length)(h:(t.getD i (0,[])).1=n)(a:∀j,j<i->(t.getD j (0,[])).1≠n):qJ t n=i:=by
 have:t.findIdx? (λf=>f.1==n)=aa i:=by
  rw[oP];refine⟨hi,?_,λj c=>?_⟩
  .simpa[ai,bg hi]using h
  .have b:j<t.length:=by omega
   simpa[ai,bg b]using a j c
 rw[qJ,this]
def Ej{t:List cg}{n:Int}(a:∀j,j<t.length->(t.getD j (0,[])).1≠n):qJ t n=-1:=by
 have:t.findIdx? (λf=>f.1==n)=af:=by rw[zo];intro f c;obtain⟨j,b,rfl⟩:=dH c;simpa[ai,bg b]using a j b
 rw[qJ,this]
def J5(t:List cg)(n:Int):Ev X 65 [ee.sl t,PH n] [] (dI (qJ t n)) []:=by
 refine Ev.bQ Tryz.func65 rfl λf=>?_;have e:=f.sl 0 rfl;have b:bG X [(69,Xq)]:=.cons t69 .nil;refine bZ b rfl ar ?_;refine AK.ji (λi=>i<=t.length/\∀j,j<i->(t.getD j (0,[])).1≠n) (λi:Nat=>[(0,ee.sl t),(1,PH n),(7,dI t.length),(8,dI i)]) (λ_=>[]) (λi=>t.length-i) 0 rfl ?_ rfl ar ⟨by omega,by omega⟩ ?_
 .simp
 rintro i ⟨hi,a⟩;by_cases h:i<t.length
 .by_cases d:(t.getD i (0,[])).1=n
  .refine aR b [(9,ab),(16,ab)] rfl ?_ (AK.gI (ck.zero rfl ?_))
   .simp only[au,bM];exact⟨gy.2 d,by omega,by omega,dc (by omega)⟩
   .simp[J4 h d a]
  .refine aR b [(9,ab),(16,ae)] rfl ?_ (AK.fG (i+1) rfl ?_ rfl ar ?_ ?_)
   .simp only[au,bM];exact⟨by simp only[bx];omega,eW.2 d,by omega,by omega,dc (by omega)⟩
   .simp
   .refine⟨by omega,λj c=>?_⟩;rcases uN.1 c with c|rfl
    .exact a j c
    .exact d
   .omega
 .refine aR b [(9,ae)] rfl (by simp;omega) (AK.leave rfl rfl ?_);refine bZ b rfl ar (AK.bn rfl ?_);simp[Ej (λj c=>a j (by omega))]
def Xr:dz:=λargs σ=>match args,σ with
 |[d,.e (.one (.c (.fn (.func 69) [] [.rp [.int .i64 n]])))],[]=>match jS 2 d with
  |none=>af
  |some (m,es)=>aa (dI (qJ (ee.list m es) n),[],[ee.fits m es])
 |_,_=>af
def t65:dK X 65 Xr:=by
 intro args σ res σ' obs h ho;unfold Xr at h;split at h
 .rename_i d n;split at h
  .cases h
  rename_i m es hd;cases h;exact(J5 _ n).args (λ_ vs=>cn.imp (λ_=>ee.jc hd ho) (cn.imp (λ_ r=>r) (λ_ r=>r)) vs)
 .cases h
def Ci(t:List cg)(n:Int):(qJ t n=-1/\t.find? (λx=>x.1==n)=af)∨∃i:Nat,i<t.length/\qJ t n=i/\t.find? (λx=>x.1==n)=aa (t.getD i (0,[])):=by
 unfold qJ;cases h:t.findIdx? (λx=>x.1==n)with
 |none =>
  refine .inl ⟨rfl,?_⟩;rw[zo]at h;exact List.find?_eq_none.2 λx d=>by simp[h x d]
 |some i =>
  rw[oP]at h;obtain⟨hi,a,c⟩:=h;refine .inr ⟨i,hi,rfl,?_⟩;rw[zm];refine⟨?_,i,hi,?_,λj b=>?_⟩
  .simpa[ai,bg hi]using a
  .simp[ai,bg hi]
  .have:=c j b;simpa using this
def yY(b:Nat->Int):Nat->List C:=λi=>[.int .u8 (b i)]
def Bytes(b:Nat->Int):Prop:=∀i,0<=b i/\b i<=255
abbrev kE(m:Nat)(b:Nat->Int)(k:Int):bm:=.cells 89 [.c (.sl ae 1 m (yY b)),.c (.int .i64 k)]
def dO.oC{f:aK}{fn:Func}{args:List D}{σ':ι->List bm}(d:Tryz.prog.funcs[f]?=aa fn)(b:(fn.name== "runtime.NumGoroutine")=ae)(hb:fn.body=aa c)(a:bz args.length fn.ntmps=ab)(h:Fits args σ->AK X fn.ntmps (λe φ σ1=>∃j,ck fn σ.length (res j) (σ' j) e φ σ1) [.code c] .normal (jh 0 args) σ):dO X f args σ res σ' :=
 dO.Al d b hb a λg=>AW.top (AK.of_code (h g))
def AK.kP{fn:Func}{a:Nat}{σ':ι->List bm}(i:ι)(k:AK X N (ck fn a (res i) (σ' i)) K .normal φ σ):AK X N (λe φ σ1=>∃j,ck fn a (res j) (σ' j) e φ σ1) K .normal φ σ :=
 AK.iv (λ_ _ _ q=>⟨i,q⟩) k
def lV(m:Nat)(b:Nat->Int)(k:Nat)(n:Int):Int :=
 if m=0 then 0 else if k<m then b k % n else
  ((b ((k:Int) % m).toNat*131+b (((k:Int)*7+3) % m).toNat*1117+k*29+(k:Int) / m*53).toNat ^^^ ((b ((k:Int) % m).toNat*131+b (((k:Int)*7+3) % m).toNat*1117+k*29+(k:Int) / m*53) / 64).toNat:Nat) % n
set_option maxRecDepth 20000 in
def C7(m:Nat)(b:Nat->Int)(f:Bytes b)(k:Nat)(n:Int)(s:k<=4000000)(r:m<=1048576)(z:1<=n/\n<=4000000):
  Ev X 54 [.e (.one (.ptr 0 0)),dI n] [kE m b k] (dI (lV m b k n)) [kE m b (k+1)]:=by
 refine Ev.bQ Tryz.func54 rfl λh=>?_;have g:∀j,j<([kE m b k]:List bm).length->([0]:List Nat)[j]?=aa j:=λj o=>by grind
 by_cases c:m=0
 .subst c;refine aX [(17,ae),(24,ab)] rfl ?_ (AK.dJ [0] rfl ?_ rfl rfl rfl g)
  .simp[bx];omega
  .simp[lV]
 have d:((k:Int)+1-1)=k:=by omega
 have i:((k:Int)+1-1).toNat=k:=by omega
 have l:=f k;by_cases q:(k:Int)<m
 .refine aX [(17,ae),(24,ae),(36,ab)] rfl ?_ (AK.dJ [0] rfl ?_ rfl rfl rfl g)
  .simp only[au,d,bM,bq,cd,eW,bx];omega
  .have:k<m:=by omega
   simp[lV,c,this]
 .refine bF [(17,ae),(24,ae),(36,ae)] rfl ?_ (AK.dJ [0] rfl ?_ rfl rfl rfl g)
  .simp only[au,d,cd,eW,bx];have a:(0:Int)<m:=by omega
   have t:=rG (k:Int) (by omega:(m:Int)≠0);have p:=rC (k:Int) a;have v1:=rG ((k:Int)*7+3) (by omega:(m:Int)≠0);have y:=rC ((k:Int)*7+3) a;have w1:0<=(k:Int) / m:=Int.ediv_nonneg (by omega) (by omega);have w2:(k:Int) / m<=k:=Int.ediv_le_self _ (by omega);generalize(k:Int) % m=u at *;generalize((k:Int)*7+3) % m=v at *;generalize(k:Int) / m=w at *;have x:=f u.toNat;have A:=f v.toNat;grind
  .have:¬k<m:=by omega
   simp[lV,c,this,d]
def uo(m:Nat)(b:Nat->Int)(k:Nat)(n:Int)(a:1<=n):0<=lV m b k n/\lV m b k n<n:=by
 unfold lV;split
 .omega
 .split
  .exact⟨rG _ (by omega),rC _ (by omega)⟩
  .exact⟨rG _ (by omega),rC _ (by omega)⟩
def gD(m:Nat)(b:Nat->Int)(c:Bytes b)(k:Nat)(n:Int)(f:k<=4000000)(d:m<=1048576)(a:1<=n/\n<=4000000):
  dO (ι:={v:Int // 0<=v/\v<n}) X 54 [.e (.one (.ptr 0 0)),dI n] [kE m b k] (λv=>dI v.1) (λ_=>[kE m b (k+1)]):=by have h:=C7 (X:=X) m b c k n f d a;exact⟨h.1,λs vs hr hh S cs hS=>h.2 s vs hr hh S cs (hS ⟨_,uo m b k n a.1⟩)⟩
def Sd(es:Nat->List C):Nat->Int:=λi=>wK (es i) 0
def X2:dz:=λargs σ=>match args,σ with
 |[.e (.one (.ptr 0 0)),.e (.one (.c (.int .i64 n)))],[.cells 89 [.c (.sl ae 1 m es),.c (.int .i64 k)]] =>
  aa (dI (lV m (Sd es) k.toNat n),[kE m (Sd es) (k+1)],[k=k.toNat,es=yY (Sd es),Bytes (Sd es),k<=4000000,m<=1048576,1<=n,n<=4000000])
 |_,_=>af
def t54:dK X 54 X2:=by
 intro args σ res σ' obs h ho;unfold X2 at h;split at h
 .rename_i n m es k;cases h;obtain⟨g,e,b,f,c,a,d⟩:=ho;have:=C7 (X:=X) m (Sd es) b k.toNat n (by omega) c ⟨a,d⟩;grind
 grind
def yd:∀j,j<1->([0]:List Nat)[j]?=aa j:=λj a=>by grind
set_option maxRecDepth 20000 in
def Lp(m:Nat)(b:Nat->Int)(d:Bytes b)(k:Nat)(g:k<=4000000)(f:m<=1048576)(l:List Bs)(h:1<=l.length/\l.length<=1000):
  dO (ι:={p:Bs // p∈l}) X 113 [.e (.one (.ptr 0 0)),cS.sl l] [kE m b k] (λp=>dS p.1) (λ_=>[kE m b (k+1)]):=by
 refine dO.oC Tryz.func113 rfl rfl rfl λc=>?_;refine bw rfl ar ?_;refine AK.cP (gD m b d k l.length g f (by omega)) [0] rfl (λ_=>rfl) ?_;rintro⟨v,v0,v1⟩;refine bw rfl ?_ ?_
 .simp;omega
 have a:l.getD v.toNat cS.bP∈l:=by grind
 refine AK.kP ⟨l.getD v.toNat cS.bP,a⟩ (AK.dJ [0] rfl ?_ rfl rfl rfl yd);simp
def Lq:List Bs:=[[],[102],[97,47],[97,98],[97,47,98,47,99],[47,97]]
def Lr:List Bs:=[[97],[98],[99,47,97],[99,47,98],[100,47,97],[101],[97,47,98],[100]]
set_option maxRecDepth 20000 in
def vk(m:Nat)(b:Nat->Int)(a:Bytes b)(k:Nat)(g:k<=100000)(c:m<=1048576):
  dO (ι:={p:Bs // p.length<=8}) X 87 [.e (.one (.ptr 0 0))] [kE m b k] (λp=>dS p.1) (λ_=>[kE m b (k+1+1)]):=by
 refine dO.oC Tryz.func87 rfl rfl rfl λf=>?_;refine bw rfl ar ?_;refine AK.cP (gD m b a k 40 (by omega) c (by omega)) [0] rfl (λ_=>rfl) ?_;rintro⟨v,v0,v1⟩;by_cases h:v=0
 .refine aX [(5,ab)] rfl ?_ ?_
  .simp[h]
  have:=Lp (X:=X) m b a (k+1) (by omega) c Lq (by decide);refine AK.nT this [0] rfl rfl rfl rfl ?_ rfl rfl rfl (λ_=>rfl) rfl (λ_=>rfl) rfl ?_
  .refine⟨rfl,λi hi=>?_⟩;rcases i with _|_|_|_|_|_|i<;>first|rfl|omega
  rintro⟨p,d⟩;refine bw rfl ar (AK.kP ⟨p,(by decide:∀p∈Lq,p.length<=8) p d⟩ (AK.dJ [0] rfl ?_ rfl rfl rfl yd));simp
 .refine aX [(5,ae)] rfl ?_ ?_
  .simp[h]
  have:=Lp (X:=X) m b a (k+1) (by omega) c Lr (by decide);refine AK.nT this [0] rfl rfl rfl rfl ?_ rfl rfl rfl (λ_=>rfl) rfl (λ_=>rfl) rfl ?_
  .refine⟨rfl,λi hi=>?_⟩;rcases i with _|_|_|_|_|_|_|_|i<;>first|rfl|omega
  rintro⟨p,d⟩;refine bw rfl ar (AK.kP ⟨p,(by decide:∀p∈Lr,p.length<=8) p d⟩ (AK.dJ [0] rfl ?_ rfl rfl rfl yd));simp
def words:List Bs:=[[97,98,99],[104,101,108,108,111],[119,111,114,108,100],[97,97,97,97],[107,101,101,112],[122,122],[98,97,99,107,117,112],[113]]
abbrev U3(k:Nat):={q:Bs×Nat // q.1.length<=100000/\k<=q.2/\q.2<=k+60}
def Gu(s:Bs)(n:Int)(f:s.length<=10)(l:0<=n/\n<=100):dO (ι:={p:Bs // p.length<=100000}) X 114 [dS s,dI n] [] (λp=>dS p.1) (λ_=>[]):=by
 refine dO.oC Tryz.func114 rfl rfl rfl λb=>?_;refine bw rfl ar ?_;refine AK.ji (λx:Nat×Bs×Bs=>x.1<=100/\x.2.2.length+x.2.1.length*x.1<=1010) (λx=>[(0,dS x.2.1),(1,dI x.1),(5,dS x.2.2)]) (λ_=>[]) (λx=>x.1) (n.toNat,s,[]) rfl ?_ rfl ar ⟨by grind,?_⟩ ?_
 .simp;omega
 .have:s.length*n.toNat<=10*100:=Nat.mul_le_mul f (by omega);grind
 rintro⟨k,t,out⟩ ⟨g,c⟩;simp only at g c;by_cases a:0<k
 .have h:t.length<=t.length*k:=uO _ a;have j:((k:Int) / 2)=((k / 2:Nat):Int):=by omega
  by_cases i:k % 2=1
  .have d:(t++t).length*(k / 2)+t.length=t.length*k:=by
    have e:k=2*(k / 2)+1:=by omega
    grind
   refine aX [(7,ab),(10,ab)] rfl ?_ (AK.fG (k / 2,t++t,out++t) rfl ?_ rfl ar ?_ ?_)
   .simp[a];omega
   .simp
   .grind
   grind
  .have d:(t++t).length*(k / 2)=t.length*k:=by
    have e:k=2*(k / 2):=by omega
    grind
   refine aX [(7,ab),(10,ae)] rfl ?_ (AK.fG (k / 2,t++t,out) rfl ?_ rfl ar ?_ ?_)
   .simp[a];omega
   .simp
   .grind
   grind
 .obtain rfl:k=0:=by omega
  refine aX [(7,ae)] rfl (by simp) (AK.leave rfl rfl ?_);exact bw rfl ar (AK.kP ⟨out,by omega⟩ (AK.bn rfl))
set_option maxRecDepth 20000 in
def Gv(m:Nat)(b:Nat->Int)(c:Bytes b)(k:Nat)(H:k<=100000)(d:m<=1048576):
  dO (ι:=U3 k) X 88 [.e (.one (.ptr 0 0))] [kE m b k] (λq=>dS q.1.1) (λq=>[kE m b q.1.2]):=by
 refine dO.oC Tryz.func88 rfl rfl rfl λt=>?_;refine bw rfl ar ?_;refine AK.cP (gD m b c k 5 (by omega) d (by omega)) [0] rfl (λ_=>rfl) ?_;rintro⟨v,v0,v1⟩;refine bw rfl ar ?_;refine AK.bX 1 (λs:Nat×Bs×Nat=>s.1<=4/\s.2.1.length+6*s.1<=24/\k<=s.2.2/\s.2.2+s.1<=k+5) (λs=>[(0,.e (.one (.ptr 0 0))),(4,dI s.1),(3,dS s.2.1)]) (λs=>[kE m b s.2.2]) (λs=>s.1) (v.toNat,[],k+1) rfl ?_ rfl ?_ rfl ⟨by omega,by grind,by simp,by grind⟩ ?_
 .simp;omega
 .simp
 rintro⟨n,s,k1⟩ ⟨z,E,o,r⟩;simp only at z E o r;by_cases j:0<n
 .refine aX [(9,ab)] rfl ?_ ?_
  .simp[j]
  have:=Lp (X:=X) m b c k1 (by omega) d words (by decide);refine AK.nT this [0] rfl rfl rfl rfl ?_ rfl rfl rfl (λ_=>rfl) rfl (λ_=>rfl) rfl ?_
  .refine⟨rfl,λi hi=>?_⟩;rcases i with _|_|_|_|_|_|_|_|i<;>first|rfl|omega
  rintro⟨p,g⟩;have D:p.length<=6:=(by decide:∀p∈words,p.length<=6) p g;refine bw rfl ?_ (AK.aQ (n-1,s++p,k1+1) rfl ?_ ?_ ?_ ?_)
  .simp[bx];omega
  .simp;omega
  .simp
  .grind
  grind
 .obtain rfl:n=0:=by omega
  refine aX [(9,ae)] rfl (by simp) (AK.leaveD rfl rfl ?_);refine bw rfl ar ?_;refine AK.cP (gD m b c k1 4 (by omega) d (by omega)) [0] rfl (λ_=>rfl) ?_;rintro⟨u,I,L⟩;by_cases l:u=0
  .refine aX [(19,ab)] rfl (by simp[l]) ?_;refine AK.cP (gD m b c (k1+1) 12 (by omega) d (by omega)) [0] rfl (λ_=>rfl) ?_;rintro⟨w,K,w1⟩;refine bw rfl ar ?_;refine AK.bX 1 (λs:Nat×Bs×Nat=>s.1<=11/\s.2.1.length+s.1<=36/\k<=s.2.2/\s.2.2+s.1<=k+20) (λs=>[(0,.e (.one (.ptr 0 0))),(5,dI s.1),(3,dS s.2.1)]) (λs=>[kE m b s.2.2]) (λs=>s.1) (w.toNat,s,k1+2) rfl ?_ rfl ?_ rfl ⟨by omega,by grind,by grind,by grind⟩ ?_
   .simp;omega
   .simp;omega
   rintro⟨n,s2,f⟩ ⟨G,g2,B,F⟩;simp only at G g2 B F;by_cases j:0<n
   .refine aX [(23,ab)] rfl ?_ ?_
    .simp[j]
    refine AK.cP (gD m b c f 26 (by omega) d (by omega)) [0] rfl (λ_=>rfl) ?_;rintro⟨x,M,J⟩;refine bw rfl ?_ (AK.aQ (n-1,s2++[UInt8.ofNat (97+x).toNat],f+1) rfl ?_ ?_ ?_ ?_)
    .simp[bx];omega
    .simp;omega
    .simp
    .grind
    grind
   .obtain rfl:n=0:=by omega
    refine aX [(23,ae)] rfl (by simp) (AK.leaveD rfl rfl ?_);refine aX [(36,ae)] rfl ?_ ?_
    .simp;omega
    refine AK.cP (gD m b c f 60 (by omega) d (by omega)) [0] rfl (λ_=>rfl) ?_;rintro⟨y,A,C⟩;by_cases h:y=0
    .refine aX [(41,ab)] rfl ?_ (AK.kP ⟨(s2++[65],f+1),by grind,by grind,by grind⟩ (AK.dJ [0] rfl ?_ rfl rfl rfl yd))
     .simp[h];omega
     .simp
    by_cases a:y=1
    .refine aX [(41,ae),(45,ab)] rfl ?_ ?_
     .simp[a]
     refine AK.cP (Gu [97,98,99,100,101] 9 (by decide) (by decide)) [] rfl (λ_=>rfl) ?_;rintro⟨p,g⟩;refine bw rfl ar (AK.kP ⟨(p,f+1),g,by grind,by grind⟩ (AK.dJ [0] rfl ?_ rfl rfl rfl yd));simp
    .refine aX [(41,ae),(45,ae)] rfl ?_ (AK.kP ⟨(s2,f+1),by grind,by grind,by grind⟩ (AK.dJ [0] rfl ?_ rfl rfl rfl yd))
     .simp[h,a]
     .simp
  .refine Eo [(19,ae)] 2 rfl (by simp[l]) ?_;refine aX [(36,ae)] rfl ?_ ?_
   .simp;omega
   refine AK.cP (gD m b c (k1+1) 60 (by omega) d (by omega)) [0] rfl (λ_=>rfl) ?_;rintro⟨y,A,C⟩;by_cases h:y=0
   .refine aX [(41,ab)] rfl ?_ (AK.kP ⟨(s++[65],(k1+1)+1),by grind,by grind,by grind⟩ (AK.dJ [0] rfl ?_ rfl rfl rfl yd))
    .simp[h];omega
    .simp
   by_cases a:y=1
   .refine aX [(41,ae),(45,ab)] rfl ?_ ?_
    .simp[a]
    refine AK.cP (Gu [97,98,99,100,101] 9 (by decide) (by decide)) [] rfl (λ_=>rfl) ?_;rintro⟨p,g⟩;refine bw rfl ar (AK.kP ⟨(p,(k1+1)+1),g,by grind,by grind⟩ (AK.dJ [0] rfl ?_ rfl rfl rfl yd));simp
   .refine aX [(41,ae),(45,ae)] rfl ?_ (AK.kP ⟨(s,(k1+1)+1),by grind,by grind,by grind⟩ (AK.dJ [0] rfl ?_ rfl rfl rfl yd))
    .simp[h,a]
    .simp
def OL(m:Nat)(b:Nat->Int)(d:m<=1048576):dO (ι:={n:Nat // n<=1048576}) X 21 [.e (.one (.c (.sl ae 1 m (yY b))))] [] (λ_=>.e (.one (.ptr 0 0))) (λn=>[kE n.1 b 0]):=by
 refine dO.oC Tryz.func21 rfl rfl rfl λf=>?_;by_cases h:2000<m
 .refine aX [(5,ab)] rfl ?_ (AK.norm [kE 2000 b 0] rfl ?_ (AK.kP ⟨2000,by decide⟩ (AK.dJ [0] rfl ?_ rfl rfl rfl (λj a=>by grind))))
  .simp;omega
  .simp[cw,mN,cD]
  .simp
 .refine aX [(5,ae)] rfl ?_ (AK.kP ⟨m,d⟩ (AK.dJ [0] rfl ?_ rfl rfl rfl (λj a=>by grind)))
  .simp;omega
  .simp
end
section
open Go.Sort (swp insInner insOuter ltInt)
variable {X:Cx ag}
def LF(n:Int):Ev X 193 [dI n] [] (dB ae) []:=by refine Ev.bQ Tryz.func193 rfl λa=>?_;exact aX [(5,ae)] rfl (by simp) (AK.bn rfl)
abbrev Vg:dz:=kB aI (λ_=>dB ae) λ_=>[]
def X8:dK X 193 Vg:=.oL λn _=>LF n
def OT(x y:Int):Ev X 139 [dI x,dI y] [] (dB (ltInt x y)) []:=by have a:bG X [(193,Vg)]:=.cons X8 .nil;refine Ev.bQ Tryz.func139 rfl λb=>?_;refine bZ a rfl (by simp) (AK.bn rfl ?_);simp[ltInt]
abbrev ur:dz:=n6 aI aI (λx y=>dB (ltInt x y)) λ_ _=>[]
def xF:dK X 139 ur:=.qK λx y _=>OT x y
def eI(d:Array Int)(j:Nat):List C:=[.int .i64 d[j]!]
abbrev ki(n:Nat):D:=.e (.one (.bp 0 (.sl n 1 0 n)))
abbrev bI(n:Nat)(d:Array Int):bm:=.buf 3 1 n (eI d)
def hU:∀j,j<1->([0]:List Nat)[j]?=aa j:=λj a=>by grind
end
section
open Go.Sort (swp insInner insOuter insertionSort ltInt)
variable {X:Cx ag}
def gX{d:Array Int}(g:d.size=n)(hi:i<n)(e:j<n){f:Nat->List C}(b:cw n f (eI d)):cw n (oA j [.int .i64 d[i]!] (oA i [.int .i64 d[j]!] f)) (eI (swp d i j)):=by
 intro k c;have h:(swp d i j)[k]! = if k=j then d[i]! else if k=i then d[j]! else d[k]! := by unfold swp;grind
 have a:=b k c;simp only[eI,oA]at a⊢;grind
theorem size_swp(d:Array Int)(i j:Nat):(swp d i j).size=d.size:=by simp[swp]
theorem A6{a:Nat}{d:Array Int}(h:a<j)(b:ltInt d[j]! d[j-1]! = ab):insInner ltInt a j d=insInner ltInt a (j-1) (swp d j (j-1)):=by
 cases j with
 |zero=>omega
 |succ j =>
  simp only[pR]at b⊢;rw[insInner,br];grind
def sL{a:Nat}{d:Array Int}(h:a<j->ltInt d[j]! d[j-1]! = ae):insInner ltInt a j d=d:=by
 cases j with
 |zero=>rfl
 |succ j =>
  simp only[pR]at h;rw[insInner,a9];grind
theorem Sw(n:Nat)(d:Array Int)(a b:Nat)(q:d.size=n)(v:b<=n)(t:a<=n)(w:n<=4000000):
  Ev X 133 [ki n,dI a,dI b] [bI n d] (.fz []) [bI n (insertionSort ltInt d a b)]:=by
 have l:bG X [(139,ur)]:=.cons xF .nil;refine Ev.bQ Tryz.func133 rfl λu=>?_;refine bw rfl (by simp[bx];omega) ?_;refine AK.bX 1 (λs:Nat×Array Int=>s.2.size=n/\a+1<=s.1/\s.1<=n+1/\insOuter ltInt a b s.1 s.2=insertionSort ltInt d a b) (λs=>[(0,ki n),(1,dI a),(2,dI b),(6,dI s.1)]) (λs=>[bI n s.2]) (λs=>b-s.1) (a+1,d) rfl ?_ rfl ?_ rfl ⟨q,by omega,by grind,rfl⟩ ?_
 .simp[cw]
 .simp[cw]
 rintro⟨i,d1⟩ ⟨o,hi,k,e⟩;simp only at o hi k e;by_cases h:i<b
 .refine aX [(12,ab)] rfl (by simp;omega) ?_;refine AK.bX 1 (λs:Nat×Array Int=>s.2.size=n/\s.1<=i/\insInner ltInt a s.1 s.2=insInner ltInt a i d1) (λs=>[(0,ki n),(1,dI a),(2,dI b),(6,dI i),(7,dI s.1)]) (λs=>[bI n s.2]) (λs=>s.1) (i,d1) rfl ?_ rfl ?_ rfl ⟨o,by simp,rfl⟩ ?_
  .simp[cw]
  .simp[cw]
  rintro⟨j,d2⟩ ⟨f,p,c⟩;simp only at f p c;by_cases r:a<j
  .have g:((j:Int)-1).toNat=j-1:=by omega
   by_cases m:ltInt d2[j]! d2[j-1]! = ab
   .refine aR l [(18,ab),(29,ab)] rfl ?_ ?_
    .simp[bx,g,m];omega
    refine AK.aQ (j-1,swp d2 j (j-1)) rfl ?_ ?_ ?_ ?_
    .simp;omega
    .simp only[au.cat,au,g,bA,bM,aE,aF];exact gX f (by omega) (by omega) (λ_ _=>rfl)
    .refine⟨by grind[size_swp],by omega,?_⟩;grind[A6]
    .simp;omega
   .refine aR l [(18,ab),(29,ae)] rfl ?_ (AK.leaveD rfl rfl ?_)
    .simp[bx,g,m];omega
    refine bw rfl ?_ (AK.aQ (i+1,d2) rfl ?_ ?_ ?_ ?_)
    .simp[bx];omega
    .simp
    .simp[cw]
    .refine⟨f,by omega,by grind,?_⟩;simp only;rw[<-e,insOuter.eq_1 ltInt a b i,br h,<-c,sL λ_=>by grind]
    .simp;omega
  .refine aR l [(18,ae)] rfl ?_ (AK.leaveD rfl rfl ?_)
   .simp[bx];omega
   refine bw rfl ?_ (AK.aQ (i+1,d2) rfl ?_ ?_ ?_ ?_)
   .simp[bx];omega
   .simp
   .simp[cw]
   .refine⟨f,by omega,by grind,?_⟩;simp only;rw[<-e,insOuter.eq_1 ltInt a b i,br h,<-c,sL λx=>absurd x r]
   .simp;omega
 .refine aX [(12,ae)] rfl (by simp;omega) (AK.leaveD rfl rfl ?_);have:insertionSort ltInt d a b=d1:=by rw[<-e,insOuter,a9 h]
  rw[this];exact ck.tk [0] rfl ar rfl rfl rfl hU
end
section
open Go.Sort (swp siftDown ltInt)
variable {X:Cx ag}
def LO{hi first root:Nat}{d:Array Int}(h:¬2*root+1<hi):siftDown ltInt hi first root d=d:=by rw[siftDown,dif_pos (by omega)]
theorem LP{hi first root:Nat}{d:Array Int}(h:2*root+1<hi)(a:2*root+1+1<hi->ltInt d[first+(2*root+1)]! d[first+(2*root+1)+1]! = ae)(b:ltInt d[first+root]! d[first+(2*root+1)]! = ab):
  siftDown ltInt hi first root d=siftDown ltInt hi first (2*root+1) (swp d (first+root) (first+(2*root+1))):=by rw[siftDown.eq_1 ltInt hi first root d,dif_neg (by omega),a9 (by grind),a9 (by grind)]
theorem Gy{hi first root:Nat}{d:Array Int}(h:2*root+1<hi)(a:2*root+1+1<hi->ltInt d[first+(2*root+1)]! d[first+(2*root+1)+1]! = ae)(b:ltInt d[first+root]! d[first+(2*root+1)]! = ae):
  siftDown ltInt hi first root d=d:=by rw[siftDown.eq_1 ltInt hi first root d,dif_neg (by omega),a9 (by grind),br (by grind)]
theorem Sz{hi first root:Nat}{d:Array Int}(h:2*root+1+1<hi)(a:ltInt d[first+(2*root+1)]! d[first+(2*root+1+1)]! = ab)(b:ltInt d[first+root]! d[first+(2*root+1+1)]! = ab):
  siftDown ltInt hi first root d=siftDown ltInt hi first (2*root+1+1) (swp d (first+root) (first+(2*root+1+1))):=by rw[siftDown.eq_1 ltInt hi first root d,dif_neg (by omega),br (by grind),a9 (by grind),dif_pos (by omega)]
theorem OY{hi first root:Nat}{d:Array Int}(h:2*root+1+1<hi)(a:ltInt d[first+(2*root+1)]! d[first+(2*root+1+1)]! = ab)(b:ltInt d[first+root]! d[first+(2*root+1+1)]! = ae):
  siftDown ltInt hi first root d=d:=by rw[siftDown.eq_1 ltInt hi first root d,dif_neg (by omega),br (by grind),br (by grind)]
theorem OZ(n:Nat)(d:Array Int)(lo hi first:Nat)(l:d.size=n)(r:first+hi<=n)(m:lo<=n)(t:n<=4000000):
  Ev X 188 [ki n,dI lo,dI hi,dI first] [bI n d] (.fz []) [bI n (siftDown ltInt hi first lo d)]:=by
 have i:bG X [(139,ur)]:=.cons xF .nil;refine Ev.bQ Tryz.func188 rfl λp=>?_;refine bw rfl ar ?_;refine AK.bX 1 (λs:Nat×Array Int=>s.2.size=n/\s.1<=n/\siftDown ltInt hi first s.1 s.2=siftDown ltInt hi first lo d) (λs=>[(0,ki n),(1,dI lo),(2,dI hi),(3,dI first),(8,dI s.1)]) (λs=>[bI n s.2]) (λs=>hi-s.1) (lo,d) rfl ?_ rfl ?_ rfl ⟨l,m,rfl⟩ ?_
 .simp[cw]
 .simp[cw]
 rintro⟨root,d1⟩ ⟨j,o,f⟩;simp only at j o f;by_cases h:2*root+1<hi
 .have c:((first:Int)+(2*(root:Int)+1)).toNat=first+(2*root+1):=by omega
  have e:((first:Int)+(2*(root:Int)+1)+1).toNat=first+(2*root+1+1):=by omega
  by_cases q:2*root+1+1<hi
  .by_cases g:ltInt d1[first+(2*root+1)]! d1[first+(2*root+1+1)]! = ab
   .have k:((first:Int)+(2*(root:Int)+1+1)).toNat=first+(2*root+1+1):=by omega
    have b:((first:Int)+(root:Int)).toNat=first+root:=by omega
    by_cases a:ltInt d1[first+root]! d1[first+(2*root+1+1)]! = ab
    .refine bt i [(16,ae),(20,ab),(35,ab),(51,ab)] rfl ?_ (AK.aQ (2*root+1+1,swp d1 (first+root) (first+(2*root+1+1))) rfl ?_ ?_ ?_ ?_)
     .simp only[au,bA,c,e,b,k,g,a,bx,bq,cd,aF,aE];and_intros<;>omega
     .simp only[au.cat,au,aF,aE];grind
     .simp only[au.cat,au,bA,c,e,b,k,aE,aF];exact gX j (by omega) (by omega) (λ_ _=>rfl)
     .grind [size_swp,Sz]
     grind
    .rw[l8]at a;rw[show siftDown ltInt hi first lo d=d1 by grind[OY]];refine bt i [(16,ae),(20,ab),(35,ab),(51,ae)] rfl ?_ (AK.eY (ck.mk [0] rfl ar rfl rfl rfl hU));simp only[au,bA,c,e,b,k,g,a,bx,bq,cd,aF,aE];and_intros<;>omega
   .rw[l8]at g;have b:((first:Int)+(root:Int)).toNat=first+root:=by omega
    by_cases a:ltInt d1[first+root]! d1[first+(2*root+1)]! = ab
    .refine bt i [(16,ae),(20,ab),(35,ae),(51,ab)] rfl ?_ (AK.aQ (2*root+1,swp d1 (first+root) (first+(2*root+1))) rfl ?_ ?_ ?_ ?_)
     .simp only[au,bA,c,e,b,g,a,bx,bq,cd,aF,aE];and_intros<;>omega
     .simp only[au.cat,au,aF,aE];grind
     .simp only[au.cat,au,bA,c,e,b,aE,aF];exact gX j (by omega) (by omega) (λ_ _=>rfl)
     .grind [size_swp,LP]
     grind
    .rw[l8]at a;rw[show siftDown ltInt hi first lo d=d1 by grind[Gy]];refine bt i [(16,ae),(20,ab),(35,ae),(51,ae)] rfl ?_ (AK.eY (ck.mk [0] rfl ar rfl rfl rfl hU));simp only[au,bA,c,e,b,g,a,bx,bq,cd,aF,aE];and_intros<;>omega
  .have g:True:=ar;have b:((first:Int)+(root:Int)).toNat=first+root:=by omega
   by_cases a:ltInt d1[first+root]! d1[first+(2*root+1)]! = ab
   .refine bt i [(16,ae),(20,ae),(51,ab)] rfl ?_ (AK.aQ (2*root+1,swp d1 (first+root) (first+(2*root+1))) rfl ?_ ?_ ?_ ?_)
    .simp only[au,bA,c,e,b,a,bx,bq,cd,aF,aE];and_intros<;>omega
    .simp only[au.cat,au,aF,aE];grind
    .simp only[au.cat,au,bA,c,e,b,aE,aF];exact gX j (by omega) (by omega) (λ_ _=>rfl)
    .grind [size_swp,LP]
    grind
   .rw[l8]at a;rw[show siftDown ltInt hi first lo d=d1 by grind[Gy]];refine bt i [(16,ae),(20,ae),(51,ae)] rfl ?_ (AK.eY (ck.mk [0] rfl ar rfl rfl rfl hU));simp only[au,bA,c,e,b,a,bx,bq,cd,aF,aE];and_intros<;>omega
 .refine aX [(16,ab)] rfl (by simp only[au,bx,bq,aF,aE];and_intros<;>omega) (AK.leaveD rfl rfl ?_);rw[<-f,LO h];exact ck.tk [0] rfl ar rfl rfl rfl hU
end
section
open Go.Sort (swp order2 median medianAdjacent choosePivot Hint ltInt)
variable {X:Cx ag}
abbrev bN(k:Nat):bm:=.cells 3 [.c (.int .i64 k)]
abbrev S0:D:=.e (.one (.ptr 1 0))
abbrev tII(a b:Nat):D:=.fz [.one (.c (.int .i64 a)),.one (.c (.int .i64 b))]
def Gz:∀j,j<2->([0,1]:List Nat)[j]?=aa j:=λj a=>by grind
def tL(n:Nat)(d:Array Int)(a b sw:Nat)(g:a<n)(j:b<n)(k:n<=4000000)(f:sw<=1000):
  Ev X 213 [ki n,dI a,dI b,S0] [bI n d,bN sw] (tII (order2 ltInt d a b sw).1 (order2 ltInt d a b sw).2.1) [bI n d,bN (order2 ltInt d a b sw).2.2]:=by
 have c:bG X [(139,ur)]:=.cons xF .nil;refine Ev.bQ Tryz.func213 rfl λi=>?_;by_cases h:ltInt d[b]! d[a]! = ab
 .have e:order2 ltInt d a b sw=(b,a,sw+1):=by simp[order2,h]
  rw[e];refine bt c [(18,ab)] rfl ?_ (AK.dJ [0,1] rfl ?_ rfl rfl rfl Gz)
  .simp only[au,bA,bM,h,bx,aF,aE];and_intros<;>omega
  .simp
 .have e:order2 ltInt d a b sw=(a,b,sw):=by simp[order2,h]
  rw[e];rw[l8]at h;refine bt c [(18,ae)] rfl ?_ (AK.dJ [0,1] rfl ?_ rfl rfl rfl Gz)
  .simp only[au,bA,bM,h,bx,aF,aE];and_intros<;>omega
  .simp
def ny{d:Array Int}{a sw:Nat}(e:a<n)(c:b<n):(order2 ltInt d a b sw).1<n/\(order2 ltInt d a b sw).2.1<n/\(order2 ltInt d a b sw).2.2<=sw+1:=by unfold order2;split<;>simp only<;>omega
theorem zg(n:Nat)(d:Array Int)(a b c sw:Nat)(g:a<n)(h:b<n)(i:c<n)(f:n<=4000000)(j:sw<=900):
  Ev X 192 [ki n,dI a,dI b,dI c,S0] [bI n d,bN sw] (dI (median ltInt d a b c sw).1) [bI n d,bN (median ltInt d a b c sw).2]:=by refine Ev.bQ Tryz.func192 rfl λl=>?_;have e:=ny (d:=d) (sw:=sw) g h;have k:=ny (d:=d) (sw:=(order2 ltInt d a b sw).2.2) e.2.1 i;refine c9 rfl ar ?_;refine AK.cQ (tL n d a b sw g h f (by omega)) [0,1] rfl ?_;refine c9 rfl ar ?_;refine AK.cQ (tL n d (order2 ltInt d a b sw).2.1 c (order2 ltInt d a b sw).2.2 e.2.1 i f (by omega)) [0,1] rfl ?_;refine c9 rfl ar ?_;refine AK.cQ (tL n d (order2 ltInt d a b sw).1 (order2 ltInt d (order2 ltInt d a b sw).2.1 c (order2 ltInt d a b sw).2.2).1 (order2 ltInt d (order2 ltInt d a b sw).2.1 c (order2 ltInt d a b sw).2.2).2.2 e.1 k.1 f (by omega)) [0,1] rfl ?_;refine c9 rfl ar (AK.dJ [0,1] rfl ?_ rfl rfl rfl Gz);simp[median]
def H7{d:Array Int}{a c sw:Nat}(g:a<n)(h:b<n)(i:c<n):(median ltInt d a b c sw).1<n/\(median ltInt d a b c sw).2<=sw+3:=by have e:=ny (d:=d) (sw:=sw) g h;have f:=ny (d:=d) (sw:=(order2 ltInt d a b sw).2.2) e.2.1 i;have j:=ny (d:=d) (sw:=(order2 ltInt d (order2 ltInt d a b sw).2.1 c (order2 ltInt d a b sw).2.2).2.2) e.1 f.1;unfold median;grind
theorem A7(n:Nat)(d:Array Int)(a sw:Nat)(e:1<=a)(g:a+1<n)(c:n<=4000000)(b:sw<=900):
  Ev X 191 [ki n,dI a,S0] [bI n d,bN sw] (dI (medianAdjacent ltInt d a sw).1) [bI n d,bN (medianAdjacent ltInt d a sw).2]:=by
 refine Ev.bQ Tryz.func191 rfl λf=>?_;obtain⟨a,rfl⟩:∃a',a=a'+1:=⟨a-1,by omega⟩
 refine c9 rfl (by simp only[au,bx];and_intros<;>omega) ?_;have key:∀x y z:Int,x=(a:Int)->y=((a+1:Nat):Int)->z=((a+1+1:Nat):Int)->Ev X 192 [ki n,dI x,dI y,dI z,S0] [bI n d,bN sw] (dI (median ltInt d a (a+1) (a+1+1) sw).1) [bI n d,bN (median ltInt d a (a+1) (a+1+1) sw).2]:=by rintro x y z rfl rfl rfl;exact zg n d a (a+1) (a+1+1) sw (by omega) (by omega) (by omega) c b
 refine AK.cQ (key (((a+1:Nat):Int)-1) _ (((a+1:Nat):Int)+1) (by omega) rfl (by omega)) [0,1] rfl ?_;refine c9 rfl ar (AK.dJ [0,1] rfl ?_ rfl rfl rfl Gz);simp[medianAdjacent]
def nw:Hint->Int|.unknown=>0|.increasing=>1|.decreasing=>2
def xI(n:Nat)(d:Array Int){a c:Nat}(sw:Nat)(f:a<n)(h:b<n)(i:c<n)(k:n<=4000000)(e:sw<=900){x y z:Int}(j:x=a)(l:y=b)(g:z=c):
  Ev X 192 [ki n,dI x,dI y,dI z,S0] [bI n d,bN sw] (dI (median ltInt d a b c sw).1) [bI n d,bN (median ltInt d a b c sw).2]:=by grind[zg]
def mR(n:Nat)(d:Array Int){a:Nat}(sw:Nat)(c:1<=a)(e:a+1<n)(g:n<=4000000)(b:sw<=900){x:Int}(f:x=a):
  Ev X 191 [ki n,dI x,S0] [bI n d,bN sw] (dI (medianAdjacent ltInt d a sw).1) [bI n d,bN (medianAdjacent ltInt d a sw).2]:=by grind[A7]
def oq{d:Array Int}{a sw:Nat}(c:1<=a)(b:a+1<n):(medianAdjacent ltInt d a sw).1<n/\(medianAdjacent ltInt d a sw).2<=sw+3 :=
 H7 (by omega) (by omega) (by omega)
abbrev pJ(k:Nat):Hint:=if k=0 then .increasing else if k=12 then .decreasing else .unknown
def LQ{d:Array Int}{a:Nat}(c:8<=l)(b:l<50):choosePivot ltInt d a (a+l)=((median ltInt d (a+l / 4*1) (a+l / 4*2) (a+l / 4*3) 0).1,pJ (median ltInt d (a+l / 4*1) (a+l / 4*2) (a+l / 4*3) 0).2):=by unfold choosePivot;grind
abbrev mA(d:Array Int)(a l:Nat):=medianAdjacent ltInt d (a+l / 4*1) 0
abbrev mB(d:Array Int)(a l:Nat):=medianAdjacent ltInt d (a+l / 4*2) (mA d a l).2
abbrev mC(d:Array Int)(a l:Nat):=medianAdjacent ltInt d (a+l / 4*3) (mB d a l).2
def LR{d:Array Int}{a:Nat}(b:50<=l):choosePivot ltInt d a (a+l)=((median ltInt d (mA d a l).1 (mB d a l).1 (mC d a l).1 (mC d a l).2).1,pJ (median ltInt d (mA d a l).1 (mB d a l).1 (mC d a l).1 (mC d a l).2).2):=by unfold choosePivot;grind
def H5(n:Nat)(d:Array Int)(a b:Nat)(j:a<=b)(p:b<=n)(i:8<=b-a)(g:n<=4000000):
  Ev X 136 [ki n,dI a,dI b] [bI n d] (.fz [.one (.c (.int .i64 (choosePivot ltInt d a b).1)),.one (.c (.int .i64 (nw (choosePivot ltInt d a b).2)))]) [bI n d]:=by
 refine Ev.bQ Tryz.func136 rfl λm=>?_;obtain⟨l,rfl⟩:∃l,b=a+l:=⟨b-a,by omega⟩
 rw[zp]at i;by_cases h:l<50
 .refine bF [(32,ab),(34,ae)] rfl ?_ ?_
  .simp only[au,bx,bq,cd,aF,aE];and_intros<;>omega
  refine AK.cQ (xI n d (a:=a+l / 4*1) (b:=a+l / 4*2) (c:=a+l / 4*3) 0 (by omega) (by omega) (by omega) g (by omega) (by omega) (by omega) (by omega)) [0,1] rfl ?_;rw[LQ i h];generalize median ltInt d (a+l / 4*1) (a+l / 4*2) (a+l / 4*3) 0=r;by_cases e:r.2=0
  .refine bF [(52,ab)] rfl (by simp[e]) (AK.dJ [0] rfl ?_ rfl rfl rfl hU);simp[e,nw,pJ]
  by_cases f:r.2=12
  .refine bF [(52,ae),(55,ab)] rfl (by simp[f]) (AK.dJ [0] rfl ?_ rfl rfl rfl hU);simp[f,nw,pJ]
  .refine bF [(52,ae),(55,ae)] rfl (by simp[e];omega) (AK.dJ [0] rfl ?_ rfl rfl rfl hU);simp[e,f,nw,pJ]
 .refine bF [(32,ab),(34,ab)] rfl ?_ ?_
  .simp only[au,bx,bq,cd,aF,aE];and_intros<;>omega
  have o:(mA d a l).1<n/\(mA d a l).2<=0+3:=oq (d:=d) (a:=a+l / 4*1) (sw:=0) (n:=n) (by omega) (by omega);have q:(mB d a l).1<n/\(mB d a l).2<=(mA d a l).2+3:=oq (d:=d) (a:=a+l / 4*2) (sw:=(mA d a l).2) (n:=n) (by omega) (by omega);have k:(mC d a l).1<n/\(mC d a l).2<=(mB d a l).2+3:=oq (d:=d) (a:=a+l / 4*3) (sw:=(mB d a l).2) (n:=n) (by omega) (by omega);refine AK.cQ (mR n d (a:=a+l / 4*1) 0 (by omega) (by omega) g (by omega) (by omega)) [0,1] rfl ?_;refine c9 rfl ar ?_;refine AK.cQ (mR n d (a:=a+l / 4*2) (mA d a l).2 (by omega) (by omega) g (by omega) (by omega)) [0,1] rfl ?_;refine c9 rfl ar ?_;refine AK.cQ (mR n d (a:=a+l / 4*3) (mB d a l).2 (by omega) (by omega) g (by omega) (by omega)) [0,1] rfl ?_;refine c9 rfl ar ?_;refine AK.cQ (xI n d (a:=(mA d a l).1) (b:=(mB d a l).1) (c:=(mC d a l).1) (mC d a l).2 (by omega) (by omega) (by omega) g (by omega) rfl rfl rfl) [0,1] rfl ?_;rw[LR (by omega)];generalize median ltInt d (mA d a l).1 (mB d a l).1 (mC d a l).1 (mC d a l).2=r;by_cases e:r.2=0
  .refine bF [(52,ab)] rfl (by simp[e]) (AK.dJ [0] rfl ?_ rfl rfl rfl hU);simp[e,nw,pJ]
  by_cases f:r.2=12
  .refine bF [(52,ae),(55,ab)] rfl (by simp[f]) (AK.dJ [0] rfl ?_ rfl rfl rfl hU);simp[f,nw,pJ]
  .refine bF [(52,ae),(55,ae)] rfl (by simp[e];omega) (AK.dJ [0] rfl ?_ rfl rfl rfl hU);simp[e,f,nw,pJ]
end
section
open Go.Sort (swp reverseLoop reverseRange siftDown heapBuild heapPop heapSort ltInt)
variable {X:Cx ag}
def Sy(n:Nat)(d:Array Int)(a b:Nat)(k:d.size=n)(p:1<=b)(l:a<=n)(o:b<=n)(q:n<=4000000):Ev X 137 [ki n,dI a,dI b] [bI n d] (.fz []) [bI n (reverseRange d a b)]:=by
 refine Ev.bQ Tryz.func137 rfl λm=>?_;refine bw rfl (by simp[bx];omega) ?_;refine AK.bX 1 (λs:Nat×Nat×Array Int=>s.2.2.size=n/\s.1<=n/\s.2.1<n+1/\s.2.1<n/\reverseLoop s.1 s.2.1 s.2.2=reverseRange d a b) (λs=>[(0,ki n),(6,dI s.1),(7,dI s.2.1)]) (λs=>[bI n s.2.2]) (λs=>s.2.1-s.1) (a,b-1,d) rfl ?_ rfl ?_ rfl ⟨k,by grind,by grind,by grind,rfl⟩ ?_
 .simp;omega
 .simp[cw]
 rintro⟨i,j,d1⟩ ⟨f,hi,_,g,c⟩;simp only at f hi g c;by_cases h:i<j
 .refine bF [(13,ab)] rfl ?_ (AK.aQ (i+1,j-1,swp d1 i j) rfl ?_ ?_ ?_ ?_)
  .simp only[au,bA,bM,bx,bq,aF,aE];and_intros<;>omega
  .simp only[au.cat,au,aF,aE];and_intros<;>omega
  .simp only[au.cat,au,bA,bM,aE,aF];exact gX f (by omega) (by omega) (λ_ _=>rfl)
  .refine⟨by grind[size_swp],by grind,by grind,by grind,?_⟩;rw[<-c,reverseLoop.eq_1 i j d1,br h]
  grind
 .have e:reverseRange d a b=d1:=by rw[<-c,reverseLoop,a9 h]
  rw[e];refine aX [(13,ae)] rfl (by simp;omega) (AK.leaveD rfl rfl ?_);exact ck.tk [0] rfl ar rfl rfl rfl hU
def Df(n:Nat)(d:Array Int){lo hi first:Nat}(e:d.size=n)(b:first+hi<=n)(f:lo<=n)(g:n<=4000000){x y z:Int}(c:x=lo)(h:y=hi)(a:z=first):
  Ev X 188 [ki n,dI x,dI y,dI z] [bI n d] (.fz []) [bI n (siftDown ltInt hi first lo d)]:=by grind[OZ]
def zh(hi first:Nat):∀(m root:Nat)(d:Array Int),hi-root<=m->(siftDown ltInt hi first root d).size=d.size:=by
 intro m;induction m with
 |zero=>intro root d h;rw[siftDown,dif_pos (by omega)]
 |succ m a =>
  intro root d h;rw[siftDown];grind[size_swp]
theorem OW(n:Nat)(d:Array Int)(a b:Nat)(r:d.size=n)(o:a<=b)(t:1<=b-a)(p:b<=n)(m:n<=4000000):Ev X 134 [ki n,dI a,dI b] [bI n d] (.fz []) [bI n (heapSort ltInt d a b)]:=by
 refine Ev.bQ Tryz.func134 rfl λu=>?_;obtain⟨l,rfl⟩:∃l,b=a+l:=⟨b-a,by omega⟩
 rw[zp]at t;refine c9 rfl (by simp only[au,bx,aF,aE];and_intros<;>omega) ?_;refine AK.kA (S2:=Array Int) 0 rfl rfl (λd2=>d2.size=n/\d2=heapBuild ltInt l a ((l-1) / 2+1) d) (λ_=>[(0,ki n),(6,dI a),(7,dI 0),(8,dI l)]) (λd2=>[bI n d2]) 1 (λs:Nat×Array Int=>s.2.size=n/\s.1<=(l-1) / 2+1/\heapBuild ltInt l a s.1 s.2=heapBuild ltInt l a ((l-1) / 2+1) d) (λs=>[(0,ki n),(6,dI a),(7,dI 0),(8,dI l),(9,dI ((s.1:Int)-1))]) (λs=>[bI n s.2]) (λs=>s.1) ((l-1) / 2+1,d) rfl ?_ rfl ?_ rfl ⟨r,ba _,rfl⟩ ?_ ?_
 .simp;omega
 .simp[cw]
 .rintro out ⟨k,d1⟩ ⟨e,i,c⟩;simp only at e i c;cases k with
  |zero =>
   refine aX [(19,ae)] rfl (by simp) (AK.leaveD rfl rfl ?_);exact out d1 ⟨e,c⟩ rfl (by simp) rfl (by simp[cw])
  |succ k =>
   refine aX [(19,ab)] rfl (by simp only[au,bq];omega) ?_;refine AK.cQ (Df n d1 (lo:=k) (hi:=l) (first:=a) e p (by omega) m (by omega) rfl rfl) [0] rfl ?_;refine c9 rfl ?_ (AK.aQ (k,siftDown ltInt l a k d1) rfl ?_ ?_ ?_ ?_)
   .simp only[au,bx];omega
   .simp only[au.cat,au,aF,aE];omega
   .simp[cw]
   .exact⟨by rw[zh _ _ _ _ _ (ba _)];exact e,by grind,c⟩
   .simp
 rintro g ⟨h,q⟩;refine c9 rfl (by simp only[au,bx];omega) ?_;have f:heapSort ltInt d a (a+l)=heapPop ltInt a l g:=by unfold heapSort;grind
 rw[f];refine AK.bX 1 (λs:Nat×Array Int=>s.2.size=n/\s.1<=l/\heapPop ltInt a s.1 s.2=heapPop ltInt a l g) (λs=>[(0,ki n),(6,dI a),(7,dI 0),(8,dI l),(10,dI ((s.1:Int)-1))]) (λs=>[bI n s.2]) (λs=>s.1) (l,g) rfl ?_ rfl ?_ rfl ⟨h,ba _,rfl⟩ ?_
 .simp
 .simp[cw]
 rintro⟨k,d1⟩ ⟨e,i,c⟩;simp only at e i c;cases k with
 |zero =>
  rw[<-c];refine aX [(30,ae)] rfl (by simp) (AK.leaveD rfl rfl ?_);exact ck.tk [0] rfl ar rfl rfl rfl hU
 |succ k =>
  have j:((a:Int)+(((k+1:Nat):Int)-1)).toNat=a+k:=by omega
  refine bF [(30,ab),(1000011,ab)] rfl ?_ ?_
  .simp only[au,bA,bM,j,bx,bq,aF,aE];and_intros<;>omega
  refine AK.norm [bI n (swp d1 a (a+k))] rfl ?_ ?_
  .simp only[au.cat,au,bA,bM,j,aE,aF];exact gX e (by omega) (by omega) (λ_ _=>rfl)
  refine c9 rfl ar ?_;refine AK.cQ (Df n (swp d1 a (a+k)) (lo:=0) (hi:=k) (first:=a) (by grind[size_swp]) (by omega) (by omega) m rfl (by omega) rfl) [0] rfl ?_;refine c9 rfl ?_ (AK.aQ (k,siftDown ltInt k a 0 (swp d1 a (a+k))) rfl ?_ ?_ ?_ ?_)
  .simp only[au,bx];omega
  .simp only[au.cat,au,aF,aE];omega
  .simp[cw]
  .exact⟨by rw[zh _ _ _ _ _ (ba _),size_swp];exact e,by grind,c⟩
  .simp
end
section
open Go.Sort (bitsLen)
variable {X:Cx ag}
def yg:List UInt8:=(bk 256).map λi=>UInt8.ofNat (bitsLen i)
def j6{x:Nat}(h:x<2 ^ k):bitsLen x<=k:=by
 unfold bitsLen;split
 .omega
 .rename_i a;have:=(Nat.log2_lt a).2 h;omega
theorem O0{x:Nat}(h:x<256):(iL yg x).toNat=bitsLen x:=by unfold iL yg;rw[bM,ai,nJ,List.getElem?_range h];have:=j6 (x:=x) (k:=8) h;grind[UInt8.toNat_ofNat']
def uu(h:2 ^ k<=n):bitsLen n=k+bitsLen (n / 2 ^ k):=by
 have b:0<2 ^ k:=Nat.two_pow_pos k;have e:0<n / 2 ^ k:=Nat.div_pos h b;unfold bitsLen;rw[a9 (by omega),a9 (by omega)];have c:Nat.log2 n=k+Nat.log2 (n / 2 ^ k):=by
  rw[Nat.log2_eq_iff (by omega)];have a:=Nat.log2_self_le (n:=n / 2 ^ k) (by omega);have d:=Nat.lt_log2_self (n:=n / 2 ^ k);constructor
  .rw[Nat.pow_add,Nat.mul_comm];exact dT (ez _ a) (Nat.div_mul_le_self n _)
  .rw[show k+Nat.log2 (n / 2 ^ k)+1=k+(Nat.log2 (n / 2 ^ k)+1) by omega,Nat.pow_add];grind[Nat.div_lt_iff_lt_mul]
 omega
set_option maxRecDepth 100000 in
def LS(n:Nat)(j:n<=4000000):Ev X 143 [dQ n] [] (dI (bitsLen n)) []:=by
 refine Ev.bQ Tryz.func143 rfl λh=>?_;have fin:∀{T:List UInt8} {x:Nat},T=yg->x<256->(iL T (x:Int)).toNat=bitsLen x:=λb i=>by grind[O0]
 have fl:∀{T:List UInt8},T=yg->T.length=256:=λb=>by rw[b];rfl
 by_cases g:65536<=n
 .have c:((n:Int).toNat / 2 ^ Int.toNat 16)=n / 65536:=by simp
  have e:bitsLen n=16+bitsLen (n / 65536):=uu (n:=n) (k:=16) g;have d:=j6 (x:=n / 65536) (k:=8) (by grind);refine bF [(4,ae),(8,ab),(14,ae)] rfl ?_ (AK.bn rfl ?_)
  .generalize b:(ByteArray.data _).toList=T;have a:T=yg:=by rw[<-b];decide +kernel
   simp only[au,c,fin a (show n / 65536<256 by omega),fl a,bx,bq,cd];and_intros<;>omega
  .generalize b:(ByteArray.data _).toList=T;have a:T=yg:=by rw[<-b];decide +kernel
   simp only[au,au.cat,c,fin a (show n / 65536<256 by omega),aF,aE];omega
 by_cases f:256<=n
 .have c:((n:Int).toNat / 2 ^ Int.toNat 8)=n / 256:=by simp
  have e:bitsLen n=8+bitsLen (n / 256):=uu (n:=n) (k:=8) f;have d:=j6 (x:=n / 256) (k:=8) (by grind);refine bF [(4,ae),(8,ae),(14,ab)] rfl ?_ (AK.bn rfl ?_)
  .generalize b:(ByteArray.data _).toList=T;have a:T=yg:=by rw[<-b];decide +kernel
   simp only[au,c,fin a (show n / 256<256 by omega),fl a,bx,bq,cd];and_intros<;>omega
  .generalize b:(ByteArray.data _).toList=T;have a:T=yg:=by rw[<-b];decide +kernel
   simp only[au,au.cat,c,fin a (show n / 256<256 by omega),aF,aE];omega
 .have d:=j6 (x:=n) (k:=8) (by grind);refine bF [(4,ae),(8,ae),(14,ae)] rfl ?_ (AK.bn rfl ?_)
  .generalize b:(ByteArray.data _).toList=T;have a:T=yg:=by rw[<-b];decide +kernel
   simp only[au,fin a (show n<256 by omega),fl a,bx,bq,cd];and_intros<;>omega
  .generalize b:(ByteArray.data _).toList=T;have a:T=yg:=by rw[<-b];decide +kernel
   simp only[au,au.cat,fin a (show n<256 by omega),aF,aE];omega
def LM(n:Nat)(a:n<=4000000):Ev X 100 [dQ n] [] (dI (bitsLen n)) []:=by refine Ev.bQ Tryz.func100 rfl λb=>?_;refine c9 rfl ar ?_;refine AK.Ga ?_;refine c9 rfl ar ?_;refine AK.cQ (LS n a) [] rfl ?_;exact c9 rfl ar (AK.bn rfl)
end
section
open Go.Sort (swp bitsLen xorNextN xorNextN_lt xorNext xorNext_toNat breakStep breakPatterns)
variable {X:Cx ag}
abbrev bQ(r:Nat):bm:=.cells 227 [.c (.int .u64 r)]
def O1(r:Nat):Ev X 190 [.e (.one (.ptr 0 0))] [bQ r] (dQ (xorNextN r)) [bQ (xorNextN r)]:=by
 refine Ev.bQ Tryz.func190 rfl λd=>?_;have b:(2:Nat) ^ Int.toNat 13=8192:=by decide
 have c:(2:Nat) ^ Int.toNat 7=128:=by decide
 have a:(2:Nat) ^ Int.toNat 17=131072:=by decide
 refine c9 rfl ?_ ?_
 .simp only[au];omega
 refine AK.norm [bQ (xorNextN r)] rfl ?_ (AK.dJ [0] rfl ?_ rfl rfl rfl hU)
 .simp only[au,au.cat,xorNextN,bM,b,c,a,aE]
 .simp only[au,au.cat,xorNextN,bM,b,c,a]
theorem O2(n:Nat)(a:n<=4000000):Ev X 189 [dI n] [] (dQ ((1 <<< bitsLen n:Nat):Int)) []:=by
 refine Ev.bQ Tryz.func189 rfl λb=>?_;have l:=j6 (x:=n) (k:=22) (by grind);refine c9 rfl (by simp only[au,bx];and_intros<;>omega) ?_;refine AK.cQ (LM n a) [] rfl ?_;refine c9 rfl ?_ (AK.bn rfl ?_)
 .simp only[au];omega
 .have c:2 ^ bitsLen n<=2 ^ 22:=Nat.pow_le_pow_right (by omega) l;simp only[au,au.cat,Nat.shiftLeft_eq,bM];grind
def Dg{L:Nat}(h:0<L):1 <<< bitsLen L<=2*L:=by rw[Nat.shiftLeft_eq,Nat.one_mul];unfold bitsLen;rw[a9 (by omega),Nat.pow_succ];grind[Nat.log2_self_le]
def LU(L:Nat):1<=1 <<< bitsLen L:=by rw[Nat.shiftLeft_eq,Nat.one_mul];grind
def S1(a L M:Nat):Nat->Nat->UInt64×Array Int->UInt64×Array Int
 |0,_,st=>st
 |k+1,idx,st=>S1 a L M k (idx+1) (breakStep a L M st idx)
def tM{d:Array Int}{a L:Nat}(h:8<=L):breakPatterns d a (a+L)=(S1 a L (1 <<< bitsLen L) 3 (a+L / 4*2-1) (UInt64.ofNat L,d)).2:=by unfold breakPatterns;simp only[zp];rw[br h];rfl
def A8{a L M idx:Nat}{r:UInt64}{d:Array Int}:breakStep a L M (r,d) idx=(xorNext r,swp d idx (a+if(xorNextN r.toNat &&& (M-1))≥L then(xorNextN r.toNat &&& (M-1))-L else(xorNextN r.toNat &&& (M-1)))):=by unfold breakStep;simp only[xorNext_toNat]
abbrev X9(n a L M:Nat)(k:Nat):Fr:=[(0,ki n),(1,dI a),(6,dI L),(7,.e (.one (.ptr 1 0))),(8,dQ M),(9,dI ((a+L / 4*2-1+(3-k):Nat):Int))]
def LK(n:Nat)(d:Array Int)(a b:Nat)(w:d.size=n)(p:a<=b)(z:b<=n)(A:n<=4000000):
  Ev X 135 [ki n,dI a,dI b] [bI n d] (.fz []) [bI n (breakPatterns d a b)]:=by
 refine Ev.bQ Tryz.func135 rfl λy=>?_;obtain⟨L,rfl⟩:∃L,b=a+L:=⟨b-a,by omega⟩
 by_cases v:8<=L
 .rw[tM v];have B:=Dg (L:=L) (by omega);have t:=LU L;have m:(UInt64.ofNat L).toNat=L:=by grind[UInt64.toNat_ofNat']
  refine bF [(15,ab)] rfl ?_ ?_
  .simp only[au,bx,bq,aF,aE];and_intros<;>omega
  have key:∀x:Int,x=(L:Int)->Ev X 189 [dI x] [] (dQ ((1 <<< bitsLen L:Nat):Int)) []:=by grind[O2]
  refine AK.cQ (key _ (by omega)) [] rfl ?_;refine c9 rfl ?_ ?_
  .simp only[au,bx,bq,aF,aE];and_intros<;>omega
  generalize u:1 <<< bitsLen L=M at *;refine AK.bX 2 (λs:Nat×UInt64×Array Int=>s.2.2.size=n/\s.1<=3/\(S1 a L M s.1 (a+L / 4*2-1+(3-s.1)) s.2).2=(S1 a L M 3 (a+L / 4*2-1) (UInt64.ofNat L,d)).2) (λs=>X9 n a L M s.1) (λs=>[bI n s.2.2,bQ s.2.1.toNat]) (λs=>s.1) (3,UInt64.ofNat L,d) rfl ?_ rfl ?_ rfl ⟨w,ba _,rfl⟩ ?_
  .simp only[au.cat,au,aF,aE];and_intros<;>omega
  .simp only[au.cat,au,cw,m,aF,aE];grind
  rintro⟨k,r,d1⟩ ⟨l,q,c⟩;simp only at l q c;cases k with
  |zero =>
   rw[<-c];refine bF [(33,ae)] rfl ?_ (AK.leaveD rfl rfl ?_)
   .simp only[au,bx,cd,aF,aE];and_intros<;>omega
   exact ck.tk [0] rfl ar rfl rfl rfl hU
  |succ k =>
   have C:xorNextN r.toNat<18446744073709551616:=xorNextN_lt _ (UInt64.toNat_lt r);have o:xorNextN r.toNat &&& (M-1)<=M-1:=Nat.and_le_right;have i:((M:Int)-1).toNat=M-1:=by omega
   refine bF [(33,ab)] rfl ?_ ?_
   .simp only[au,bx,bq,aF,aE];and_intros<;>omega
   refine AK.cQ (O1 r.toNat) [1] rfl ?_;have f:=A8 (a:=a) (L:=L) (M:=M) (idx:=a+L / 4*2-1+(3-(k+1))) (r:=r) (d:=d1);generalize j:xorNextN r.toNat &&& (M-1)=O at *;by_cases g:L<=O
   .rw[br g]at f;have h:((a:Int)+((O:Int)-(L:Int))).toNat=a+(O-L):=by omega
    refine bF [(43,ab)] rfl ?_ (AK.aQ (k,xorNext r,swp d1 (a+L / 4*2-1+(3-(k+1))) (a+(O-L))) rfl ?_ ?_ ?_ ?_)
    .simp only[au,bA,bM,i,j,h,bx,bq,aF,aE];and_intros<;>omega
    .simp only[au.cat,au,aF,aE];omega
    .simp only[au.cat,au,bA,bM,i,j,h,xorNext_toNat,aE,aF];exact gX l (by omega) (by omega) (λ_ _=>rfl)
    .refine⟨by grind[size_swp],by grind,?_⟩;rw[<-c,S1,f,show a+L / 4*2-1+(3-(k+1))+1=a+L / 4*2-1+(3-k) by omega]
    .simp
   .rw[a9 g]at f;have h:((a:Int)+(O:Int)).toNat=a+O:=by omega
    refine bF [(43,ae)] rfl ?_ (AK.aQ (k,xorNext r,swp d1 (a+L / 4*2-1+(3-(k+1))) (a+O)) rfl ?_ ?_ ?_ ?_)
    .simp only[au,bA,bM,i,j,h,bx,cd,aF,aE];and_intros<;>omega
    .simp only[au.cat,au,aF,aE];omega
    .simp only[au.cat,au,bA,bM,i,j,h,xorNext_toNat,aE,aF];exact gX l (by omega) (by omega) (λ_ _=>rfl)
    .refine⟨by grind[size_swp],by grind,?_⟩;rw[<-c,S1,f,show a+L / 4*2-1+(3-(k+1))+1=a+L / 4*2-1+(3-k) by omega]
    .simp
 .have e:breakPatterns d a (a+L)=d:=by unfold breakPatterns;grind
  rw[e];refine bF [(15,ae)] rfl ?_ ?_
  .simp only[au,bx,cd,aF,aE];and_intros<;>omega
  exact ck.tk [0] rfl ar rfl rfl rfl hU
end
section
open Go.Sort (swp scanUp scanDown partLoop partEqLoop partition partitionEqual ltInt)
variable {X:Cx ag}
theorem mz{p:Int->Bool}{d:Array Int}(h:i<=j)(a:p d[i]! = ab):scanUp p d j i=scanUp p d j (i+1):=by rw[scanUp.eq_1 p d j i,br (by grind)]
theorem gw{p:Int->Bool}{d:Array Int}(h:i<=j->p d[i]! = ae):scanUp p d j i=i:=by rw[scanUp,a9];grind
theorem kn{p:Int->Bool}{d:Array Int}(b:1<=j)(h:i<=j)(c:p d[j]! = ab):scanDown p d i j=scanDown p d i (j-1):=by
 obtain⟨j,rfl⟩:∃a,j=a+1:=⟨j-1,by omega⟩
 rw[scanDown,br (by grind),pR]
theorem fx{p:Int->Bool}{d:Array Int}(h:i<=j->p d[j]! = ae):scanDown p d i j=j:=by
 cases j with
 |zero=>rfl
 |succ j =>
  rw[scanDown,a9];grind
def nz{p:Int->Bool}{d:Array Int}:∀(m i:Nat),j+1-i<=m->i<=scanUp p d j i/\(scanUp p d j i<=j+1∨scanUp p d j i=i):=by
 intro m;induction m with
 |zero=>intro i h;rw[gw (λa=>by omega)];omega
 |succ m c =>
  intro i h;by_cases b:i<=j
  .cases a:p d[i]! with
   |true=>grind[mz]
   |false=>grind[gw]
  grind
def kG{p:Int->Bool}{d:Array Int}:∀j:Nat,scanDown p d i j<=j/\(i<=scanDown p d i j+1∨scanDown p d i j=j):=by
 intro j;induction j with
 |zero=>rw[show scanDown p d i 0=0 from rfl];omega
 |succ j c =>
  by_cases a:i<=j+1
  .cases b:p d[j+1]! with
   |true=>grind[kn]
   |false=>grind[fx]
  grind[fx]
def partLoop_eq{a:Nat}{d:Array Int}{i2 j2:Nat}(f:1<=i)(hi:i2=scanUp (λx=>ltInt x d[a]!) d j i)(b:j2=scanDown (λx=>!ltInt x d[a]!) d i2 j):
  partLoop ltInt a i j d=if i2>j2 then(j2,d)else partLoop ltInt a (i2+1) (j2-1) (swp d i2 j2):=by have c:=nz (p:=λx=>ltInt x d[a]!) (d:=d) (j:=j) (j+1-i) i (ba _);have e:=kG (p:=λx=>!ltInt x d[a]!) (d:=d) (i:=i2) j;rw[<-hi]at c;rw[<-b]at e;rw[partLoop.eq_1,<-hi,<-b];grind
def Dh{d c:Array Int}{a v:Nat}(f:c=swp d a v)(hi:i=scanUp (λx=>ltInt x c[a]!) c (b-1) (a+1))(e:j=scanDown (λx=>!ltInt x c[a]!) c i (b-1))(h:i>j):partition ltInt d a b v=(j,ab,swp c j a):=by unfold partition;grind
def Di{d c:Array Int}{a v:Nat}(g:c=swp d a v)(hi:i=scanUp (λx=>ltInt x c[a]!) c (b-1) (a+1))(f:j=scanDown (λx=>!ltInt x c[a]!) c i (b-1))(h:¬i>j){r:Nat×Array Int}(e:partLoop ltInt a (i+1) (j-1) (swp c i j)=r):partition ltInt d a b v=(r.1,ae,swp r.2 r.1 a):=by subst e;unfold partition;grind
def OX(n:Nat)(d:Array Int)(a b v:Nat)(U:d.size=n)(Q:a<b)(Y:b<=n)(V:v<n)(Z:n<=4000000):
  Ev X 141 [ki n,dI a,dI b,dI v] [bI n d] (.fz [.one (.c (.int .i64 (partition ltInt d a b v).1)),.one (.c (.bool (partition ltInt d a b v).2.1))]) [bI n (partition ltInt d a b v).2.2]:=by
 have h:bG X [(139,ur)]:=.cons xF .nil;refine Ev.bQ Tryz.func141 rfl λW=>?_;refine bt h [(1000002,ab)] rfl ?_ ?_
 .simp only[au,bA,bM,bx,aF,aE];and_intros<;>omega
 refine AK.norm [bI n (swp d a v)] rfl ?_ ?_
 .simp only[au.cat,au,bA,bM,aE,aF];exact gX U (by omega) (by omega) (λ_ _=>rfl)
 have t:(swp d a v).size=n:=by grind[size_swp]
 obtain⟨f,K⟩:∃f,f=swp d a v:=⟨_,rfl⟩;rw[<-K]at t⊢;refine cN h rfl ?_ ?_
 .simp only[au,bx];and_intros<;>omega
 refine AK.kA (S2:=Unit) 0 rfl rfl (λ_=>True) (λ_=>[(0,ki n),(1,dI a),(10,dI ((scanUp (λx=>ltInt x f[a]!) f (b-1) (a+1)):Nat)),(11,dI (b-1:Nat))]) (λ_=>[bI n f]) 1 (λk:Nat=>a+1<=k/\k<=n+1/\scanUp (λx=>ltInt x f[a]!) f (b-1) k=scanUp (λx=>ltInt x f[a]!) f (b-1) (a+1)) (λk=>[(0,ki n),(1,dI a),(10,dI (k:Nat)),(11,dI (b-1:Nat))]) (λ_=>[bI n f]) (λk=>b-1+1-k) (a+1) rfl ?_ rfl ?_ rfl ⟨ba _,by omega,rfl⟩ ?_ ?_
 .simp[cw]<;>omega
 .simp[cw]
 .rintro out k ⟨u,y,o⟩;by_cases w:k<=b-1
  .by_cases L:(λx=>ltInt x f[a]!) f[k]! = ab
   .have g:ltInt f[k]! f[a]! = ab:=by grind
    refine bt h [(32,ab),(42,ab)] rfl ?_ (AK.aQ (k+1) rfl ?_ ?_ ?_ ?_)
    .simp only[au,bA,bM,g,bx,bq,aF,aE];and_intros<;>omega
    .simp only[au.cat,au,aF,aE];omega
    .simp[cw]
    .grind [mz]
    .omega
   .have g:ltInt f[k]! f[a]! = ae:=by grind
    refine bt h [(32,ab),(42,ae)] rfl ?_ (AK.leaveD rfl rfl ?_)
    .simp only[au,bA,bM,g,bx,bq,aF,aE];and_intros<;>omega
    have e:scanUp (λx=>ltInt x f[a]!) f (b-1) (a+1)=k:=by grind[gw]
    exact out () ar rfl (by simp only[au.cat,au,e,aF,aE]) rfl (by simp[cw])
  .refine bt h [(32,ae)] rfl ?_ (AK.leaveD rfl rfl ?_)
   .simp only[au,bx,cd,aF,aE];omega
   have e:scanUp (λx=>ltInt x f[a]!) f (b-1) (a+1)=k:=by grind[gw]
   exact out () ar rfl (by simp only[au.cat,au,e,aF,aE]) rfl (by simp[cw])
 rintro⟨⟩ -;have S:=nz (p:=λx=>ltInt x f[a]!) (d:=f) (j:=b-1) (b-1+1-(a+1)) (a+1) (ba _);obtain⟨i,hi⟩:∃i,i=scanUp (λx=>ltInt x f[a]!) f (b-1) (a+1):=⟨_,rfl⟩
 rw[<-hi]at S⊢;refine cN h rfl ar ?_;refine AK.kA (S2:=Unit) 2 rfl rfl (λ_=>True) (λ_=>[(0,ki n),(1,dI a),(10,dI (i:Nat)),(11,dI ((scanDown (λx=>!ltInt x f[a]!) f (i) (b-1)):Nat))]) (λ_=>[bI n f]) 1 (λk:Nat=>k<=b-1/\k<=n/\scanDown (λx=>!ltInt x f[a]!) f (i) k=scanDown (λx=>!ltInt x f[a]!) f (i) (b-1)) (λk=>[(0,ki n),(1,dI a),(10,dI (i:Nat)),(11,dI (k:Nat))]) (λ_=>[bI n f]) (λk=>k) (b-1) rfl ?_ rfl ?_ rfl ⟨ba _,by omega,rfl⟩ ?_ ?_
 .simp[cw]<;>omega
 .simp[cw]
 .rintro out k ⟨u,y,o⟩;by_cases w:i<=k
  .by_cases L:(λx=>!ltInt x f[a]!) f[k]! = ab
   .have g:ltInt f[k]! f[a]! = ae:=by grind
    refine bt h [(48,ab),(58,ae)] rfl ?_ (AK.aQ (k-1) rfl ?_ ?_ ?_ ?_)
    .simp only[au,bA,bM,g,bx,bq,aF,aE];and_intros<;>omega
    .simp only[au.cat,au,aF,aE];omega
    .simp[cw]
    .exact⟨by omega,by omega,by grind[kn]⟩
    .omega
   .have g:ltInt f[k]! f[a]! = ab:=by grind
    refine bt h [(48,ab),(58,ab)] rfl ?_ (AK.leaveD rfl rfl ?_)
    .simp only[au,bA,bM,g,bx,bq,aF,aE];and_intros<;>omega
    have e:scanDown (λx=>!ltInt x f[a]!) f (i) (b-1)=k:=by grind[fx]
    exact out () ar rfl (by simp only[au.cat,au,e,aF,aE]) rfl (by simp[cw])
  .refine bt h [(48,ae)] rfl ?_ (AK.leaveD rfl rfl ?_)
   .simp only[au,bx,cd,aF,aE];omega
   have e:scanDown (λx=>!ltInt x f[a]!) f (i) (b-1)=k:=by grind[fx]
   exact out () ar rfl (by simp only[au.cat,au,e,aF,aE]) rfl (by simp[cw])
 rintro⟨⟩ -;have T:=kG (p:=λx=>!ltInt x f[a]!) (d:=f) (i:=i) (b-1);obtain⟨j,H⟩:∃j,j=scanDown (λx=>!ltInt x f[a]!) f i (b-1):=⟨_,rfl⟩
 rw[<-H]at T⊢;by_cases J:j<i
 .rw[Dh K hi H J];refine bt h [(65,ab),(1000009,ab)] rfl ?_ ?_
  .simp only[au,bA,bM,bx,bq,aF,aE];and_intros<;>omega
  refine AK.norm [bI n (swp f j a)] rfl ?_ ?_
  .simp only[au.cat,au,bA,bM,aE,aF];exact gX t (by omega) (by omega) (λ_ _=>rfl)
  refine cN h rfl ar (AK.dJ [0] rfl ?_ rfl rfl rfl hU);simp
 refine bt h [(65,ae),(1000011,ab)] rfl ?_ ?_
 .simp only[au,bA,bM,bx,cd,aF,aE];and_intros<;>omega
 refine AK.norm [bI n (swp f i j)] rfl ?_ ?_
 .simp only[au.cat,au,bA,bM,aE,aF];exact gX t (by omega) (by omega) (λ_ _=>rfl)
 refine cN h rfl ?_ ?_
 .simp only[au,bx];and_intros<;>omega
 have G:(swp f i j).size=n:=by grind[size_swp]
 obtain⟨r,P⟩:∃r,partLoop ltInt a (i+1) (j-1) (swp f i j)=r:=⟨_,rfl⟩;rw[Di K hi H (by omega) P]
 obtain⟨d1,O⟩:∃d1,d1=swp f i j:=⟨_,rfl⟩;rw[<-O]at G P⊢;refine AK.kA (S2:=Unit) 4 rfl rfl (λ_=>r.1<n/\r.2.size=n) (λ_=>[(0,ki n),(1,dI a),(11,dI r.1)]) (λ_=>[bI n r.2]) 1 (λs:Nat×Nat×Array Int=>s.2.2.size=n/\a+1<=s.1/\s.1<=n+1/\s.2.1<n/\partLoop ltInt a s.1 s.2.1 s.2.2=r) (λs=>[(0,ki n),(1,dI a),(10,dI s.1),(11,dI s.2.1)]) (λs=>[bI n s.2.2]) (λs=>s.2.1+1-s.1) (i+1,j-1,d1) rfl ?_ rfl ?_ rfl ⟨G,by grind,by grind,by grind,P⟩ ?_ ?_
 .simp only[au.cat,au,aF,aE];and_intros<;>omega
 .simp[cw]
 .rintro F ⟨i3,l,d2⟩ ⟨E,M,C,N,m⟩;simp only at E M C N m;refine cN h rfl ar ?_;refine AK.kA (S2:=Unit) 6 rfl rfl (λ_=>True) (λ_=>[(0,ki n),(1,dI a),(10,dI ((scanUp (λx=>ltInt x d2[a]!) d2 (l) (i3)):Nat)),(11,dI (l:Nat))]) (λ_=>[bI n d2]) 1 (λk:Nat=>i3<=k/\k<=n+1/\scanUp (λx=>ltInt x d2[a]!) d2 (l) k=scanUp (λx=>ltInt x d2[a]!) d2 (l) (i3)) (λk=>[(0,ki n),(1,dI a),(10,dI (k:Nat)),(11,dI (l:Nat))]) (λ_=>[bI n d2]) (λk=>l+1-k) (i3) rfl ?_ rfl ?_ rfl ⟨ba _,by omega,rfl⟩ ?_ ?_
  .simp[cw]<;>omega
  .simp[cw]
  .rintro out k ⟨u,y,o⟩;by_cases w:k<=l
   .by_cases L:(λx=>ltInt x d2[a]!) d2[k]! = ab
    .have g:ltInt d2[k]! d2[a]! = ab:=by grind
     refine bt h [(101,ab),(111,ab)] rfl ?_ (AK.aQ (k+1) rfl ?_ ?_ ?_ ?_)
     .simp only[au,bA,bM,g,bx,bq,aF,aE];and_intros<;>omega
     .simp only[au.cat,au,aF,aE];omega
     .simp[cw]
     .grind [mz]
     .omega
    .have g:ltInt d2[k]! d2[a]! = ae:=by grind
     refine bt h [(101,ab),(111,ae)] rfl ?_ (AK.leaveD rfl rfl ?_)
     .simp only[au,bA,bM,g,bx,bq,aF,aE];and_intros<;>omega
     have e:scanUp (λx=>ltInt x d2[a]!) d2 (l) (i3)=k:=by grind[gw]
     exact out () ar rfl (by simp only[au.cat,au,e,aF,aE]) rfl (by simp[cw])
   .refine bt h [(101,ae)] rfl ?_ (AK.leaveD rfl rfl ?_)
    .simp only[au,bx,cd,aF,aE];omega
    have e:scanUp (λx=>ltInt x d2[a]!) d2 (l) (i3)=k:=by grind[gw]
    exact out () ar rfl (by simp only[au.cat,au,e,aF,aE]) rfl (by simp[cw])
  rintro⟨⟩ -;have c1:=nz (p:=λx=>ltInt x d2[a]!) (d:=d2) (j:=l) (l+1-i3) i3 (ba _);obtain⟨i4,D⟩:∃i4,i4=scanUp (λx=>ltInt x d2[a]!) d2 l i3:=⟨_,rfl⟩
  rw[<-D]at c1⊢;refine cN h rfl ar ?_;refine AK.kA (S2:=Unit) 8 rfl rfl (λ_=>True) (λ_=>[(0,ki n),(1,dI a),(10,dI (i4:Nat)),(11,dI ((scanDown (λx=>!ltInt x d2[a]!) d2 (i4) (l)):Nat))]) (λ_=>[bI n d2]) 1 (λk:Nat=>k<=l/\k<=n/\scanDown (λx=>!ltInt x d2[a]!) d2 (i4) k=scanDown (λx=>!ltInt x d2[a]!) d2 (i4) (l)) (λk=>[(0,ki n),(1,dI a),(10,dI (i4:Nat)),(11,dI (k:Nat))]) (λ_=>[bI n d2]) (λk=>k) (l) rfl ?_ rfl ?_ rfl ⟨ba _,by omega,rfl⟩ ?_ ?_
  .simp[cw]<;>omega
  .simp[cw]
  .rintro out k ⟨u,y,o⟩;by_cases w:i4<=k
   .by_cases L:(λx=>!ltInt x d2[a]!) d2[k]! = ab
    .have g:ltInt d2[k]! d2[a]! = ae:=by grind
     refine bt h [(117,ab),(127,ae)] rfl ?_ (AK.aQ (k-1) rfl ?_ ?_ ?_ ?_)
     .simp only[au,bA,bM,g,bx,bq,aF,aE];and_intros<;>omega
     .simp only[au.cat,au,aF,aE];omega
     .simp[cw]
     .exact⟨by omega,by omega,by grind[kn]⟩
     .omega
    .have g:ltInt d2[k]! d2[a]! = ab:=by grind
     refine bt h [(117,ab),(127,ab)] rfl ?_ (AK.leaveD rfl rfl ?_)
     .simp only[au,bA,bM,g,bx,bq,aF,aE];and_intros<;>omega
     have e:scanDown (λx=>!ltInt x d2[a]!) d2 (i4) (l)=k:=by grind[fx]
     exact out () ar rfl (by simp only[au.cat,au,e,aF,aE]) rfl (by simp[cw])
   .refine bt h [(117,ae)] rfl ?_ (AK.leaveD rfl rfl ?_)
    .simp only[au,bx,cd,aF,aE];omega
    have e:scanDown (λx=>!ltInt x d2[a]!) d2 (i4) (l)=k:=by grind[fx]
    exact out () ar rfl (by simp only[au.cat,au,e,aF,aE]) rfl (by simp[cw])
  rintro⟨⟩ -;have c2:=kG (p:=λx=>!ltInt x d2[a]!) (d:=d2) (i:=i4) l;obtain⟨z,B⟩:∃z,z=scanDown (λx=>!ltInt x d2[a]!) d2 i4 l:=⟨_,rfl⟩
  rw[<-B]at c2⊢;have q:=partLoop_eq (by omega) D B;by_cases A:z<i4
  .have e:=q;rw[m,br A]at e;refine bt h [(134,ab)] rfl ?_ (AK.leaveD rfl rfl ?_)
   .simp only[au,bx,bq];omega
   exact F () (by grind) rfl (by simp only[au.cat,au,e,aF,aE]) rfl (by simp[cw,e])
  .have e:=q;rw[m,a9 (by omega)]at e;refine bt h [(134,ae),(1000019,ab)] rfl ?_ ?_
   .simp only[au,bA,bM,bx,cd,aF,aE];and_intros<;>omega
   refine AK.norm [bI n (swp d2 i4 z)] rfl ?_ ?_
   .simp only[au.cat,au,bA,bM,aE,aF];exact gX E (by omega) (by omega) (λ_ _=>rfl)
   refine cN h rfl ?_ (AK.aQ (i4+1,z-1,swp d2 i4 z) rfl ?_ ?_ ?_ ?_)
   .simp only[au,bx];and_intros<;>omega
   .simp only[au.cat,au,aF,aE];and_intros<;>omega
   .simp[cw]
   .grind [size_swp]
   grind
 rintro⟨⟩ ⟨R,I⟩;refine bt h [(1000022,ab)] rfl ?_ ?_
 .simp only[au,bA,bM,bx,aF,aE];and_intros<;>omega
 refine AK.norm [bI n (swp r.2 r.1 a)] rfl ?_ ?_
 .simp only[au.cat,au,bA,bM,aE,aF];exact gX I (by omega) (by omega) (λ_ _=>rfl)
 refine cN h rfl ar (AK.dJ [0] rfl ?_ rfl rfl rfl hU);simp
def partEqLoop_eq{a:Nat}{d:Array Int}{i2 j2:Nat}(f:1<=i)(hi:i2=scanUp (λx=>!ltInt d[a]! x) d j i)(b:j2=scanDown (λx=>ltInt d[a]! x) d i2 j):
  partEqLoop ltInt a i j d=if i2>j2 then(i2,d)else partEqLoop ltInt a (i2+1) (j2-1) (swp d i2 j2):=by have c:=nz (p:=λx=>!ltInt d[a]! x) (d:=d) (j:=j) (j+1-i) i (ba _);have e:=kG (p:=λx=>ltInt d[a]! x) (d:=d) (i:=i2) j;rw[<-hi]at c;rw[<-b]at e;rw[partEqLoop.eq_1,<-hi,<-b];grind
def H6(n:Nat)(d:Array Int)(a b v:Nat)(K:d.size=n)(H:a<b)(O:b<=n)(M:v<n)(P:n<=4000000):
  Ev X 140 [ki n,dI a,dI b,dI v] [bI n d] (dI (partitionEqual ltInt d a b v).1) [bI n (partitionEqual ltInt d a b v).2]:=by
 have g:bG X [(139,ur)]:=.cons xF .nil;refine Ev.bQ Tryz.func140 rfl λN=>?_;refine bt g [(1000002,ab)] rfl ?_ ?_
 .simp only[au,bA,bM,bx,aF,aE];and_intros<;>omega
 refine AK.norm [bI n (swp d a v)] rfl ?_ ?_
 .simp only[au.cat,au,bA,bM,aE,aF];exact gX K (by omega) (by omega) (λ_ _=>rfl)
 have F:(swp d a v).size=n:=by grind[size_swp]
 unfold partitionEqual;generalize swp d a v=d1 at *;obtain⟨r,G⟩:∃r,partEqLoop ltInt a (a+1) (b-1) d1=r:=⟨_,rfl⟩;rw[G];refine cN g rfl ?_ ?_
 .simp only[au,bx];and_intros<;>omega
 refine AK.kA (S2:=Unit) 0 rfl rfl (λ_=>r.1<=n+1/\r.2.size=n) (λ_=>[(0,ki n),(1,dI a),(9,dI r.1)]) (λ_=>[bI n r.2]) 1 (λs:Nat×Nat×Array Int=>s.2.2.size=n/\a+1<=s.1/\s.1<=n+1/\s.2.1<n/\partEqLoop ltInt a s.1 s.2.1 s.2.2=r) (λs=>[(0,ki n),(1,dI a),(9,dI s.1),(10,dI s.2.1)]) (λs=>[bI n s.2.2]) (λs=>s.2.1+1-s.1) (a+1,b-1,d1) rfl ?_ rfl ?_ rfl ⟨F,by grind,by grind,by grind,G⟩ ?_ ?_
 .simp only[au.cat,au,aF,aE];and_intros<;>omega
 .simp[cw]
 .rintro y ⟨i3,c,d2⟩ ⟨w,C,t,D,h⟩;simp only at w C t D h;refine cN g rfl ar ?_;refine AK.kA (S2:=Unit) 2 rfl rfl (λ_=>True) (λ_=>[(0,ki n),(1,dI a),(9,dI ((scanUp (λx=>!ltInt d2[a]! x) d2 (c) (i3)):Nat)),(10,dI (c:Nat))]) (λ_=>[bI n d2]) 1 (λk:Nat=>i3<=k/\k<=n+1/\scanUp (λx=>!ltInt d2[a]! x) d2 (c) k=scanUp (λx=>!ltInt d2[a]! x) d2 (c) (i3)) (λk=>[(0,ki n),(1,dI a),(9,dI (k:Nat)),(10,dI (c:Nat))]) (λ_=>[bI n d2]) (λk=>c+1-k) (i3) rfl ?_ rfl ?_ rfl ⟨ba _,by omega,rfl⟩ ?_ ?_
  .simp[cw]<;>omega
  .simp[cw]
  .rintro out k ⟨A,E,z⟩;by_cases B:k<=c
   .by_cases L:(λx=>!ltInt d2[a]! x) d2[k]! = ab
    .have f:ltInt d2[a]! d2[k]! = ae:=by grind
     refine bt g [(31,ab),(41,ae)] rfl ?_ (AK.aQ (k+1) rfl ?_ ?_ ?_ ?_)
     .simp only[au,bA,bM,f,bx,bq,aF,aE];and_intros<;>omega
     .simp only[au.cat,au,aF,aE];omega
     .simp[cw]
     .grind [mz]
     .omega
    .have f:ltInt d2[a]! d2[k]! = ab:=by grind
     refine bt g [(31,ab),(41,ab)] rfl ?_ (AK.leaveD rfl rfl ?_)
     .simp only[au,bA,bM,f,bx,bq,aF,aE];and_intros<;>omega
     have e:scanUp (λx=>!ltInt d2[a]! x) d2 (c) (i3)=k:=by grind[gw]
     exact out () ar rfl (by simp only[au.cat,au,e,aF,aE]) rfl (by simp[cw])
   .refine bt g [(31,ae)] rfl ?_ (AK.leaveD rfl rfl ?_)
    .simp only[au,bx,cd,aF,aE];omega
    have e:scanUp (λx=>!ltInt d2[a]! x) d2 (c) (i3)=k:=by grind[gw]
    exact out () ar rfl (by simp only[au.cat,au,e,aF,aE]) rfl (by simp[cw])
  rintro⟨⟩ -;have c1:=nz (p:=λx=>!ltInt d2[a]! x) (d:=d2) (j:=c) (c+1-i3) i3 (ba _);obtain⟨i4,u⟩:∃i4,i4=scanUp (λx=>!ltInt d2[a]! x) d2 c i3:=⟨_,rfl⟩
  rw[<-u]at c1⊢;refine cN g rfl ar ?_;refine AK.kA (S2:=Unit) 4 rfl rfl (λ_=>True) (λ_=>[(0,ki n),(1,dI a),(9,dI (i4:Nat)),(10,dI ((scanDown (λx=>ltInt d2[a]! x) d2 (i4) (c)):Nat))]) (λ_=>[bI n d2]) 1 (λk:Nat=>k<=c/\k<=n/\scanDown (λx=>ltInt d2[a]! x) d2 (i4) k=scanDown (λx=>ltInt d2[a]! x) d2 (i4) (c)) (λk=>[(0,ki n),(1,dI a),(9,dI (i4:Nat)),(10,dI (k:Nat))]) (λ_=>[bI n d2]) (λk=>k) (c) rfl ?_ rfl ?_ rfl ⟨ba _,by omega,rfl⟩ ?_ ?_
  .simp[cw]<;>omega
  .simp[cw]
  .rintro out k ⟨A,E,z⟩;by_cases B:i4<=k
   .by_cases L:(λx=>ltInt d2[a]! x) d2[k]! = ab
    .have f:ltInt d2[a]! d2[k]! = ab:=by grind
     refine bt g [(48,ab),(58,ab)] rfl ?_ (AK.aQ (k-1) rfl ?_ ?_ ?_ ?_)
     .simp only[au,bA,bM,f,bx,bq,aF,aE];and_intros<;>omega
     .simp only[au.cat,au,aF,aE];omega
     .simp[cw]
     .exact⟨by omega,by omega,by grind[kn]⟩
     .omega
    .have f:ltInt d2[a]! d2[k]! = ae:=by grind
     refine bt g [(48,ab),(58,ae)] rfl ?_ (AK.leaveD rfl rfl ?_)
     .simp only[au,bA,bM,f,bx,bq,aF,aE];and_intros<;>omega
     have e:scanDown (λx=>ltInt d2[a]! x) d2 (i4) (c)=k:=by grind[fx]
     exact out () ar rfl (by simp only[au.cat,au,e,aF,aE]) rfl (by simp[cw])
   .refine bt g [(48,ae)] rfl ?_ (AK.leaveD rfl rfl ?_)
    .simp only[au,bx,cd,aF,aE];omega
    have e:scanDown (λx=>ltInt d2[a]! x) d2 (i4) (c)=k:=by grind[fx]
    exact out () ar rfl (by simp only[au.cat,au,e,aF,aE]) rfl (by simp[cw])
  rintro⟨⟩ -;have c2:=kG (p:=λx=>ltInt d2[a]! x) (d:=d2) (i:=i4) c;obtain⟨l,o⟩:∃l,l=scanDown (λx=>ltInt d2[a]! x) d2 i4 c:=⟨_,rfl⟩
  rw[<-o]at c2⊢;have q:=partEqLoop_eq (by omega) u o;by_cases m:l<i4
  .have e:=q;rw[h,br m]at e;refine bt g [(64,ab)] rfl ?_ (AK.leaveD rfl rfl ?_)
   .simp only[au,bx,bq];omega
   exact y () (by grind) rfl (by simp only[au.cat,au,e,aF,aE]) rfl (by simp[cw,e])
  .have e:=q;rw[h,a9 (by omega)]at e;refine bt g [(64,ae),(1000009,ab)] rfl ?_ ?_
   .simp only[au,bA,bM,bx,cd,aF,aE];and_intros<;>omega
   refine AK.norm [bI n (swp d2 i4 l)] rfl ?_ ?_
   .simp only[au.cat,au,bA,bM,aE,aF];exact gX w (by omega) (by omega) (λ_ _=>rfl)
   refine cN g rfl ?_ (AK.aQ (i4+1,l-1,swp d2 i4 l) rfl ?_ ?_ ?_ ?_)
   .simp only[au,bx];and_intros<;>omega
   .simp only[au.cat,au,aF,aE];and_intros<;>omega
   .simp[cw]
   .grind [size_swp]
   grind
 rintro⟨⟩ ⟨I,J⟩;refine cN g rfl ar (AK.dJ [0] rfl ?_ rfl rfl rfl hU);simp
end
section
open Go.Sort (swp scanSorted shiftDown shiftUp partialIns partialInsertionSort ltInt)
variable {X:Cx ag}
theorem xG{d:Array Int}(h:i<b)(a:ltInt d[i]! d[i-1]! = ae):scanSorted ltInt d b i=scanSorted ltInt d b (i+1):=by rw[scanSorted.eq_1 ltInt d b i,br (by grind)]
theorem oo{d:Array Int}(h:i<b->ltInt d[i]! d[i-1]! = ab):scanSorted ltInt d b i=i:=by rw[scanSorted,a9];grind
def LG{d:Array Int}:∀(m i:Nat),b-i<=m->i<=b->i<=scanSorted ltInt d b i/\scanSorted ltInt d b i<=b:=by
 intro m;induction m with
 |zero=>grind[oo]
 |succ m e =>
  intro i h c;by_cases a:i<b
  .cases f:ltInt d[i]! d[i-1]! with
   |false=>grind[xG]
   |true=>grind[oo]
  grind
theorem LH{d:Array Int}(b:1<=j)(h:ltInt d[j]! d[j-1]! = ab):shiftDown ltInt j d=shiftDown ltInt (j-1) (swp d j (j-1)):=by
 obtain⟨j,rfl⟩:∃a,j=a+1:=⟨j-1,by omega⟩
 simp only[pR]at h⊢;rw[shiftDown,a9 (by simp[h])]
theorem Dd{d:Array Int}(h:1<=j->ltInt d[j]! d[j-1]! = ae):shiftDown ltInt j d=d:=by
 cases j with
 |zero=>rfl
 |succ j =>
  have:=h (by omega);simp only[pR]at this;rw[shiftDown,br (by grind)]
theorem LI{d:Array Int}(a:j<b)(h:ltInt d[j]! d[j-1]! = ab):shiftUp ltInt b j d=shiftUp ltInt b (j+1) (swp d j (j-1)):=by rw[shiftUp.eq_1 ltInt b j d,br a,a9 (by simp[h])]
theorem De{d:Array Int}(h:j<b->ltInt d[j]! d[j-1]! = ae):shiftUp ltInt b j d=d:=by rw[shiftUp];grind
abbrev P8(n a b i s:Nat):Fr:=[(0,ki n),(1,dI a),(2,dI b),(7,dI i),(8,dI (5-(s:Int)))]
def OU{a s:Nat}{d:Array Int}:partialIns ltInt a b (s+1) i d=(if scanSorted ltInt d b i=b then(d,ab)else if b-a<50 then(d,ae)else
  partialIns ltInt a b s (scanSorted ltInt d b i) (if b-scanSorted ltInt d b i≥2 then shiftUp ltInt b (scanSorted ltInt d b i+1) (if scanSorted ltInt d b i-a≥2 then shiftDown ltInt (scanSorted ltInt d b i-1) (swp d (scanSorted ltInt d b i) (scanSorted ltInt d b i-1))else swp d (scanSorted ltInt d b i) (scanSorted ltInt d b i-1))else(if scanSorted ltInt d b i-a≥2 then shiftDown ltInt (scanSorted ltInt d b i-1) (swp d (scanSorted ltInt d b i) (scanSorted ltInt d b i-1))else swp d (scanSorted ltInt d b i) (scanSorted ltInt d b i-1)))):=rfl
def xH(n:Nat)(d:Array Int)(a b:Nat)(R:d.size=n)(N:a<b)(U:b<=n)(W:n<=4000000):
  Ev X 138 [ki n,dI a,dI b] [bI n d] (dB (partialInsertionSort ltInt d a b).2) [bI n (partialInsertionSort ltInt d a b).1]:=by
 have g:bG X [(139,ur)]:=.cons xF .nil;refine Ev.bQ Tryz.func138 rfl λT=>?_;obtain⟨r,J⟩:∃r,partialIns ltInt a b 5 (a+1) d=r:=⟨_,rfl⟩;have G:partialInsertionSort ltInt d a b=r:=J;rw[G];refine cN g rfl (by simp only[au,bx];omega) ?_
 refine AK.kA (S2:=Unit) 0 rfl rfl (λ_=>r.2=ae) (λ_=>[(0,ki n)]) (λ_=>[bI n r.1]) 1 (λs:Nat×Nat×Array Int=>s.2.2.size=n/\s.1<=5/\a+1<=s.2.1/\s.2.1<=b/\partialIns ltInt a b s.1 s.2.1 s.2.2=r) (λs=>P8 n a b s.2.1 s.1) (λs=>[bI n s.2.2]) (λs=>s.1) (5,a+1,d) rfl ?_ rfl ?_ rfl ⟨R,by grind,by grind,by grind,J⟩ ?_ ?_
 .simp
 .simp[cw]
 .rintro y ⟨s,i,d1⟩ ⟨K,v,hi,q,f⟩;simp only at K v hi q f;cases s with
  |zero =>
   rw[partialIns]at f;refine bt g [(14,ae)] rfl ?_ (AK.leaveD rfl rfl ?_)
   .simp
   exact y () (by grind) rfl (by simp) rfl (by simp[cw,<-f])
  |succ s =>
   rw[OU]at f;refine bt g [(14,ab)] rfl (by simp only[au,bq];omega) ?_;refine AK.kA (S2:=Unit) 2 rfl rfl (λ_=>True) (λ_=>P8 n a b (scanSorted ltInt d1 b i) (s+1)) (λ_=>[bI n d1]) 1 (λk:Nat=>i<=k/\k<=b/\scanSorted ltInt d1 b k=scanSorted ltInt d1 b i) (λk=>P8 n a b k (s+1)) (λ_=>[bI n d1]) (λk=>b-k) i rfl ?_ rfl ?_ rfl ⟨ba _,q,rfl⟩ ?_ ?_
   .simp
   .simp[cw]
   .rintro out k ⟨P,S,O⟩;by_cases Q:k<b
    .have A:((k:Int)-1).toNat=k-1:=by omega
     cases p:ltInt d1[k]! d1[k-1]! with
     |false =>
      refine bt g [(19,ab),(30,ae)] rfl ?_ (AK.aQ (k+1) rfl ?_ ?_ ?_ ?_)
      .simp only[au,bA,bM,A,p,bx,bq,aF,aE];and_intros<;>omega
      .simp only[au.cat,au,aF,aE];omega
      .simp[cw]
      .grind [xG]
      .omega
     |true =>
      refine bt g [(19,ab),(30,ab)] rfl ?_ (AK.leaveD rfl rfl ?_)
      .simp only[au,bA,bM,A,p,bx,bq,aF,aE];and_intros<;>omega
      have e:scanSorted ltInt d1 b i=k:=by grind[oo]
      exact out () ar rfl (by simp only[au.cat,au,e,aF,aE]) rfl (by simp[cw])
    .refine bt g [(19,ae)] rfl ?_ (AK.leaveD rfl rfl ?_)
     .simp only[au,bx,cd,aF,aE];omega
     have e:scanSorted ltInt d1 b i=k:=by grind[oo]
     exact out () ar rfl (by simp only[au.cat,au,e,aF,aE]) rfl (by simp[cw])
   rintro⟨⟩ -;have c:=LG (d:=d1) (b:=b) (b-i) i (ba _) q;obtain⟨i2,E⟩:∃i2,i2=scanSorted ltInt d1 b i:=⟨_,rfl⟩;rw[<-E]at c f⊢
   by_cases u:i2=b
   .rw[br u]at f;rw[<-f];refine bt g [(37,ab)] rfl ?_ (AK.eY (ck.mk [0] rfl ?_ rfl rfl rfl hU))
    .simp[u]
    .simp
   rw[a9 u]at f;by_cases w:b-a<50
   .rw[br w]at f;rw[<-f];refine bt g [(37,ae),(41,ab)] rfl ?_ (AK.eY (ck.mk [0] rfl ?_ rfl rfl rfl hU))
    .simp[bx];omega
    .simp
   rw[a9 w]at f;have A:((i2:Int)-1).toNat=i2-1:=by omega
   refine bt g [(37,ae),(41,ae),(1000012,ab)] rfl ?_ ?_
   .simp only[au,bA,bM,A,bx,cd,eW,cU,aF,aE];and_intros<;>omega
   refine AK.norm [bI n (swp d1 i2 (i2-1))] rfl ?_ ?_
   .simp only[au.cat,au,bA,bM,A,aE,aF];exact gX K (by omega) (by omega) (λ_ _=>rfl)
   have B:(swp d1 i2 (i2-1)).size=n:=by grind[size_swp]
   obtain⟨d2,H⟩:∃d2,d2=swp d1 i2 (i2-1):=⟨_,rfl⟩;rw[<-H]at B f⊢;obtain⟨d3,o⟩:∃d3,d3=if i2-a≥2 then shiftDown ltInt (i2-1) d2 else d2:=⟨_,rfl⟩
   rw[<-o]at f;have Y:∀(j:Nat) (d:Array Int),(shiftDown ltInt j d).size=d.size:=by
    intro j;induction j with
    |zero=>intro d;rfl
    |succ j V =>
     intro d;rw[shiftDown];grind[size_swp]
   have F:d3.size=n:=by grind
   apply AK.join (P8 n a b i2 (s+1)) [bI n d3]
   .intro out;by_cases L:i2-a≥2
    .rw[br L]at o;refine bt g [(61,ab)] rfl ?_ ?_
     .simp only[au,bx,bq,aF,aE];and_intros<;>omega
     refine AK.kA (S2:=Unit) 4 rfl rfl (λ_=>True) (λ_=>P8 n a b i2 (s+1)) (λ_=>[bI n d3]) 1 (λs:Nat×Array Int=>s.2.size=n/\s.1<b/\shiftDown ltInt s.1 s.2=d3) (λs2=>P8 n a b i2 (s+1)++[(9,dI s2.1)]) (λs=>[bI n s.2]) (λs=>s.1) (i2-1,d2) rfl ?_ rfl ?_ rfl ⟨B,by grind,o.symm⟩ ?_ ?_
     .simp only[au.cat,au,aF,aE];omega
     .simp[cw]
     .rintro h ⟨j,d4⟩ ⟨m,C,l⟩;simp only at m C l;by_cases z:1<=j
      .have t:((j:Int)-1).toNat=j-1:=by omega
       cases p:ltInt d4[j]! d4[j-1]! with
       |true =>
        refine bt g [(65,ab),(77,ab)] rfl ?_ (AK.aQ (j-1,swp d4 j (j-1)) rfl ?_ ?_ ?_ ?_)
        .simp only[au,bA,bM,t,p,bx,bq,aF,aE];and_intros<;>omega
        .simp only[au.cat,au,aF,aE];omega
        .simp only[au.cat,au,bA,bM,t,aE,aF];exact gX m (by omega) (by omega) (λ_ _=>rfl)
        .grind [LH]
        grind
       |false =>
        refine bt g [(65,ab),(77,ae)] rfl ?_ (AK.leaveD rfl rfl ?_)
        .simp only[au,bA,bM,t,p,bx,bq,aF,aE];and_intros<;>omega
        have e:d3=d4:=by grind[Dd]
        exact h () ar rfl (by simp) rfl (by simp[cw,e])
      .refine bt g [(65,ae)] rfl ?_ (AK.leaveD rfl rfl ?_)
       .simp only[au,cd];omega
       have e:d3=d4:=by grind[Dd]
       exact h () ar rfl (by simp) rfl (by simp[cw,e])
     rintro⟨⟩ -;refine bt g [(1000018,ab)] rfl ar ?_;exact out _ _ rfl (by simp)
    .rw[a9 L]at o;rw[<-o];refine bt g [(61,ae),(1000018,ab)] rfl ?_ ?_
     .simp only[au,bx,cd,aF,aE];and_intros<;>omega
     exact out _ _ rfl (by simp)
   by_cases I:b-i2≥2
   .rw[br I]at f;obtain⟨d5,x⟩:∃d5,shiftUp ltInt b (i2+1) d3=d5:=⟨_,rfl⟩;rw[x]at f;refine bt g [(98,ab)] rfl ?_ ?_
    .simp only[au,bx,bq,aF,aE];and_intros<;>omega
    refine AK.kA (S2:=Unit) 6 rfl rfl (λ_=>d5.size=n) (λ_=>P8 n a b i2 (s+1)) (λ_=>[bI n d5]) 1 (λs:Nat×Array Int=>s.2.size=n/\1<=s.1/\s.1<=b/\shiftUp ltInt b s.1 s.2=d5) (λs2=>P8 n a b i2 (s+1)++[(10,dI s2.1)]) (λs=>[bI n s.2]) (λs=>b-s.1) (i2+1,d3) rfl ?_ rfl ?_ rfl ⟨F,by grind,by grind,x⟩ ?_ ?_
    .simp only[au.cat,au,aF,aE];omega
    .simp[cw]
    .rintro h ⟨j,d4⟩ ⟨m,z,C,l⟩;simp only at m z C l;by_cases M:j<b
     .have t:((j:Int)-1).toNat=j-1:=by omega
      cases p:ltInt d4[j]! d4[j-1]! with
      |true =>
       refine bt g [(103,ab),(115,ab)] rfl ?_ (AK.aQ (j+1,swp d4 j (j-1)) rfl ?_ ?_ ?_ ?_)
       .simp only[au,bA,bM,t,p,bx,bq,aF,aE];and_intros<;>omega
       .simp only[au.cat,au,aF,aE];omega
       .simp only[au.cat,au,bA,bM,t,aE,aF];exact gX m (by omega) (by omega) (λ_ _=>rfl)
       .grind [size_swp,LI]
       grind
      |false =>
       refine bt g [(103,ab),(115,ae)] rfl ?_ (AK.leaveD rfl rfl ?_)
       .simp only[au,bA,bM,t,p,bx,bq,aF,aE];and_intros<;>omega
       have e:d5=d4:=by grind[De]
       exact h () (by grind) rfl (by simp) rfl (by simp[cw,e])
     .refine bt g [(103,ae)] rfl ?_ (AK.leaveD rfl rfl ?_)
      .simp only[au,cd];omega
      have e:d5=d4:=by grind[De]
      exact h () (by grind) rfl (by simp) rfl (by simp[cw,e])
    rintro⟨⟩ v;refine cN g rfl ?_ (AK.aQ (s,i2,d5) rfl ?_ ?_ ?_ ?_)
    .simp only[au,bx];omega
    .simp only[au.cat,au,aF,aE];omega
    .simp[cw]
    .grind
    grind
   .rw[a9 I]at f;refine bt g [(98,ae)] rfl ?_ (AK.aQ (s,i2,d3) rfl ?_ ?_ ?_ ?_)
    .simp only[au,bx,cd,aF,aE];and_intros<;>omega
    .simp only[au.cat,au,aF,aE];omega
    .simp[cw]
    .grind
    grind
 rintro⟨⟩ D;refine cN g rfl ar (AK.dJ [0] rfl ?_ rfl rfl rfl hU);simp[D]
end
section
open Go.Sort (swp pdq rd Rd Below SWO insertionSort heapSort breakPatterns choosePivot reverseRange partialInsertionSort partition partitionEqual Hint ltInt PermIn SortedIn)
variable {X:Cx ag}
abbrev Vh(n a b c:Nat)(wb wp:Bool):Fr:=[(0,ki n),(1,dI a),(2,dI b),(3,dI c),(8,dB wb),(9,dB wp)]
def zf{h:Hint}:nw h=2↔h=.decreasing:=by cases h<;>simp[nw]
def tK{h:Hint}:nw h=1↔h=.increasing:=by cases h<;>simp[nw]
structure PqS where
 a:Nat
 b:Nat
 lim:Nat
 wb:Bool
 wp:Bool
 d:Array Int
def OV(n:Nat)(d:Array Int){a:Nat}(f:d.size=n)(e:b<=n)(c:a<=n)(h:n<=4000000){r:Array Int}(g:r=insertionSort ltInt d a b):Ev X 133 [ki n,dI a,dI b] [bI n d] (.fz []) [bI n r]:=by grind[Sw]
def LJ(n:Nat)(d:Array Int){a:Nat}(f:d.size=n)(c:a<=b)(g:1<=b-a)(e:b<=n)(i:n<=4000000){r:Array Int}(h:r=heapSort ltInt d a b):Ev X 134 [ki n,dI a,dI b] [bI n d] (.fz []) [bI n r]:=by grind[OW]
def Sx(n:Nat)(G:n<=4000000):∀(m:Nat)(d:Array Int)(a b lim:Nat),b-a<=m->d.size=n->a<=b->b<=n->lim<=100->Below ltInt a b d ->
  ∀{x y z:Int},x=a->y=b->z=lim->∀{R:Array Int},R=pdq ltInt d a b lim ab ab->Ev X 99 [ki n,dI x,dI y,dI z] [bI n d] (.fz []) [bI n R]:=by
 have i:bG X [(139,ur)]:=.cons xF .nil;have E:SWO ltInt:=Go.Sort.swo_ltInt;have hpi:=Go.Sort.partialInsertionSort_holds (lt:=ltInt);have hpt:=Go.Sort.partition_holds ltInt;have hpe:=Go.Sort.partitionEqual_holds ltInt;have S:=Go.Sort.reverseRange_holds (α:=Int);have Q:=Go.Sort.pdq_sorts ltInt;intro m;induction m using Nat.strongRecOn with
 |_ m ih =>
 intro d a b lim hm hd hab hb hl hB x y z hx hy hz R hR;subst hx hy hz;refine Ev.bQ Tryz.func99 rfl λhf=>?_;refine cN i rfl ar ?_;refine AK.bX 1 (λs:PqS=>s.d.size=n/\s.a<=s.b/\s.b<=n/\s.lim<=100/\s.b-s.a<=b-a/\Below ltInt s.a s.b s.d/\pdq ltInt s.d s.a s.b s.lim s.wb s.wp=R) (λs=>Vh n s.a s.b s.lim s.wb s.wp) (λs=>[bI n s.d]) (λs=>s.b-s.a) ⟨a,b,lim,ab,ab,d⟩ rfl ?_ rfl ?_ rfl ⟨hd,hab,hb,hl,ba _,hB,hR.symm⟩ ?_
 .simp
 .simp[cw]
 clear hf hB hd hR;rintro⟨f,h,p,wb,wp,d1⟩ ⟨N,A,j,TS,Xk,hB,k⟩;simp only at N A j TS Xk hB k;by_cases B:h-f<=12
 .rw[Go.Sort.pdq_small B]at k;refine bt i [(23,ab)] rfl ?_ ?_
  .simp only[au,bx,bq];and_intros<;>omega
  refine AK.cQ (OV n d1 (a:=f) (b:=h) N j (by omega) G k.symm) [0] rfl ?_;refine cN i rfl ar (AK.eY (ck.mk [0] rfl ar rfl rfl rfl hU))
 by_cases T:p=0
 .rw[Go.Sort.pdq_heap B T]at k;refine bt i [(23,ae),(29,ab)] rfl ?_ ?_
  .simp only[au,bx,cd,gy];and_intros<;>omega
  refine AK.cQ (LJ n d1 (a:=f) (b:=h) N A (by omega) j G k.symm) [0] rfl ?_;refine cN i rfl ar (AK.eY (ck.mk [0] rfl ar rfl rfl rfl hU))
 have o:f<h:=by omega
 obtain⟨f1,f2,f3,f4,f5,W,V,f8⟩:=Go.Sort.rd_facts (limit:=p) (wb:=wb) (wp:=wp) E hpi S o (by grind) hB;have fl:=Go.Sort.rd_lim_le (lt:=ltInt) (d:=d1) (a:=f) (b:=h) (limit:=p) (wb:=wb) (wp:=wp);have M:=Go.Sort.rd_dec (lt:=ltInt) (d:=d1) (a:=f) (b:=h) (limit:=p) (wb:=wb) (wp:=wp);have U:=Go.Sort.rd_not (lt:=ltInt) (d:=d1) (a:=f) (b:=h) (limit:=p) (wb:=wb) (wp:=wp);have H:=Go.Sort.rd_pi_yes (lt:=ltInt) (d:=d1) (a:=f) (b:=h) (limit:=p) (wb:=wb) (wp:=wp);have fno:=Go.Sort.rd_pi_no (lt:=ltInt) (d:=d1) (a:=f) (b:=h) (limit:=p) (wb:=wb) (wp:=wp);have fc:=Go.Sort.rd_c (lt:=ltInt) (d:=d1) (a:=f) (b:=h) (limit:=p) (wb:=wb) (wp:=wp);have Z:wb=ae->(rd ltInt d1 f h p wb wp).d1=breakPatterns d1 f h/\(rd ltInt d1 f h p wb wp).lim=p-1:=by grind[Go.Sort.rd_false]
 have fd2:wb=ab->(rd ltInt d1 f h p wb wp).d1=d1/\(rd ltInt d1 f h p wb wp).lim=p:=by grind[Go.Sort.rd_true]
 have F:=Go.Sort.pdq_done (lt:=ltInt) (d:=d1) (wb:=wb) (wp:=wp) B T;have geq:=Go.Sort.pdq_eq (lt:=ltInt) (d:=d1) (wb:=wb) (wp:=wp) B T;have D:=Go.Sort.pdq_left (lt:=ltInt) (d:=d1) (wb:=wb) (wp:=wp) B T;have w:=Go.Sort.pdq_right (lt:=ltInt) (d:=d1) (wb:=wb) (wp:=wp) B T;rw[N]at f1 f4 V;rw[k]at F geq D w;generalize rd ltInt d1 f h p wb wp=r at *;apply AK.join (Vh n f h r.lim wb wp++[(10,dI ((h-f:Nat):Int))]) [bI n r.d1]
 .intro out;cases wb with
  |false =>
   obtain⟨J,I⟩:=Z rfl;refine bt i [(23,ae),(29,ae)] rfl ?_ ?_
   .simp only[au,bx,cd,eW,cU];and_intros<;>omega
   refine AK.cQ (LK n d1 f h N A j G) [0] rfl ?_;rw[<-J];refine bt i [(1000010,ab)] rfl ?_ ?_
   .simp only[au,bx];and_intros<;>omega
   exact out _ _ rfl (by simp only[au.cat,au,I,aF,aE];and_intros<;>omega)
  |true =>
   obtain⟨J,I⟩:=fd2 rfl;subst J;refine bt i [(23,ae),(29,ae),(1000010,ab)] rfl ?_ ?_
   .simp only[au,bx,cd,eW,cU];and_intros<;>omega
   exact out _ _ rfl (by simp only[au.cat,au,I,aF,aE];and_intros<;>omega)
 refine cN i rfl ar ?_;refine AK.cQ (H5 n r.d1 f h A j (by omega) G) [0] rfl ?_;rw[<-fc];apply AK.join (Vh n f h r.lim wb wp++[(10,dI ((h-f:Nat):Int)),(11,dI r.pivot),(12,dI (nw r.hint))]) [bI n r.d2]
 .intro out;by_cases u:r.c.2=.decreasing
  .obtain⟨J,I,Y⟩:=M u;refine bt i [(50,ab)] rfl ?_ ?_
   .simp only[au,gy,zf];exact u
   refine AK.cQ (Sy n r.d1 f h f1 (by omega) (by omega) j G) [0] rfl ?_;rw[<-J];refine bt i [(1000015,ab)] rfl ?_ ?_
   .simp only[au,bx];and_intros<;>omega
   exact out _ _ rfl (by simp only[au.cat,au,I,Y,nw,aF,aE];and_intros<;>omega)
  .obtain⟨J,I,Y⟩:=U u;rw[<-J];refine bt i [(50,ae),(1000015,ab)] rfl ?_ ?_
   .simp only[au,eW,cU,zf];exact u
   exact out _ _ rfl (by simp only[au.cat,au,I,Y,aF,aE])
 by_cases t:r.pi.2=ab
 ·
  have q:(wb&&wp&&decide (r.hint=.increasing))=ab:=by grind
  have e:=H q;simp only[bR,bq]at q;obtain⟨⟨rfl,rfl⟩,C⟩:=q;refine bt i [(67,ab)] rfl ?_ ?_
  .simp only[au,gy,tK];exact C
  refine AK.cQ (xH n r.d2 f h f4 o j G) [0] rfl ?_;rw[<-e,t,<-F t];refine cN i rfl ar (AK.eY (ck.mk [0] rfl ar rfl rfl rfl hU))
 rw[l8]at t;apply AK.join (Vh n f h r.lim wb wp++[(10,dI ((h-f:Nat):Int)),(11,dI r.pivot)]) [bI n r.pi.1]
 .intro out;cases l:(wb&&wp&&decide (r.hint=.increasing))with
  |true =>
   have e:=H l;simp only[bR,bq]at l;obtain⟨⟨rfl,rfl⟩,C⟩:=l;refine bt i [(67,ab)] rfl ?_ ?_
   .simp only[au,gy,tK];exact C
   refine AK.cQ (xH n r.d2 f h f4 o j G) [0] rfl ?_;rw[<-e,t];refine bt i [(1000017,ab)] rfl ar ?_;exact out _ _ rfl (by simp)
  |false =>
   have e:r.d2=r.pi.1:=by grind
   rw[e];cases wb with
   |false =>
    refine bt i [(1000017,ab)] rfl ar ?_;exact out _ _ rfl (by simp)
   |true =>
    cases wp with
    |false =>
     refine bt i [(1000017,ab)] rfl ar ?_;exact out _ _ rfl (by simp)
    |true =>
     refine bt i [(67,ae),(1000017,ab)] rfl ?_ ?_
     .simp only[au,eW,cU,tK];grind
     exact out _ _ rfl (by simp)
 have ep:((f:Int)-1).toNat=f-1:=by omega
 cases l:(decide (f>0)&&!ltInt r.pi.1[f-1]! r.pi.1[r.pivot]!)with
 |true =>
  have v:=l;simp only[bR,bq,iZ]at v;obtain⟨K,q2,L,q4,_⟩:=Go.Sort.round_eq (mid:=(partitionEqual ltInt r.pi.1 f h r.pivot).1) (d4:=(partitionEqual ltInt r.pi.1 f h r.pivot).2) E hpe v.1 W.1 W.2 (by grind) f8 v.2 rfl;have g:=geq t l ⟨K,q2⟩;refine bt i [(74,ab),(85,ae)] rfl ?_ ?_
  .simp only[au,bA,bM,ep,v.2,bx,bq,aF,aE];and_intros<;>omega
  refine AK.cQ (H6 n r.pi.1 f h r.pivot V o j (by omega) G) [0] rfl ?_;refine cN i rfl ar (AK.aQ ⟨(partitionEqual ltInt r.pi.1 f h r.pivot).1,h,r.lim,wb,wp,(partitionEqual ltInt r.pi.1 f h r.pivot).2⟩ rfl ?_ ?_ ?_ ?_)
  .simp
  .simp[cw]
  .grind
  grind
 |false =>
  obtain⟨K,q2,L,q4,q5,q6,q7⟩:=Go.Sort.round_part (mid:=(partition ltInt r.pi.1 f h r.pivot).1) (ap:=(partition ltInt r.pi.1 f h r.pivot).2.1) (d4:=(partition ltInt r.pi.1 f h r.pivot).2.2) E hpt W.1 W.2 (by grind) f8 rfl;apply AK.join (Vh n f h r.lim wb wp++[(10,dI ((h-f:Nat):Int)),(11,dI r.pivot)]) [bI n r.pi.1]
  .intro out;by_cases ha0:0<f
   .have sS:ltInt r.pi.1[f-1]! r.pi.1[r.pivot]! = ab:=by grind
    refine bt i [(74,ab),(85,ab),(1000020,ab)] rfl ?_ ?_
    .simp only[au,bA,bM,ep,sS,bx,bq,aF,aE];and_intros<;>omega
    exact out _ _ rfl (by simp)
   .refine bt i [(74,ae),(1000020,ab)] rfl ?_ ?_
    .simp only[au,cd];omega
    exact out _ _ rfl (by simp)
  refine cN i rfl ar ?_;refine AK.cQ (OX n r.pi.1 f h r.pivot V o j (by omega) G) [0] rfl ?_;have gl:=D t l ⟨K,q2⟩;have gr:=w t l ⟨K,q2⟩;generalize partition ltInt r.pi.1 f h r.pivot=P at *;rw[V]at L;by_cases O:P.1-f<h-P.1
  .have g:=gl O;obtain⟨w1,w2⟩:=Q E P.2.2 f P.1 r.lim ab ab K (by grind) q4;obtain⟨w3,_⟩:=q6 _ w1 w2;refine bt i [(113,ab)] rfl ?_ ?_
   .simp only[au,bx,bq,aF,aE];and_intros<;>omega
   refine AK.cQ (ih (P.1-f) (by omega) P.2.2 f P.1 r.lim (ba _) L K (by omega) (by omega) q4 rfl rfl rfl rfl) [0] rfl ?_;refine cN i rfl ?_ (AK.aQ ⟨P.1+1,h,r.lim,decide (P.1-f≥(h-f) / 8),P.2.1,pdq ltInt P.2.2 f P.1 r.lim ab ab⟩ rfl ?_ ?_ ?_ ?_)
   .simp only[au,bx,aF,aE];and_intros<;>omega
   .simp only[au.cat,au,aF,aE];grind
   .simp[cw]
   .exact⟨by simp only;rw[w1.1,L],by grind,j,by grind,by grind,w3,g.symm⟩
   grind
  .have g:=gr O;obtain⟨w1,w2⟩:=Q E P.2.2 (P.1+1) h r.lim ab ab (by omega) (by grind) q5;obtain⟨w3,_⟩:=q7 _ w1 w2;refine bt i [(113,ae)] rfl ?_ ?_
   .simp only[au,bx,cd,aF,aE];and_intros<;>omega
   refine AK.cQ (ih (h-(P.1+1)) (by omega) P.2.2 (P.1+1) h r.lim (ba _) L (by omega) j (by omega) q5 (x:=(P.1:Int)+1) (by omega) rfl rfl rfl) [0] rfl ?_;refine cN i rfl ?_ (AK.aQ ⟨f,P.1,r.lim,decide (h-P.1≥(h-f) / 8),P.2.1,pdq ltInt P.2.2 (P.1+1) h r.lim ab ab⟩ rfl ?_ ?_ ?_ ?_)
   .trivial
   .simp only[au.cat,au,aF,aE];grind
   .simp[cw]
   .exact⟨by simp only;rw[w1.1,L],by grind,by grind,by grind,by grind,w3,g.symm⟩
   grind
end
section
open Go.Proofs Go.Conc Go.Conc.Lib
open Go.ConcN (WgLive PayAt Has RW AtR0)
open Go.ConcR (KK WgAt stA smA rd wr mk Payload DC0)
instance pay:Payload:=⟨166⟩
def lQ(f:Int):dz:=λargs σ=>match args,σ with
 |[.e (.one (.c (.int .i64 k))),g,.e (.one (.c (.int .i64 n)))],[]=>match jS 2 g with
  |none=>af
  |some (d,b)=>aa (VO (cY k (cP.list d b) n),[],[cP.fits d b,k=f])
 |_,_=>af
noncomputable def PQ:Code:=(Tryz.f121.body).getD .skip
noncomputable def Kj:Array aB:=match PQ with|.seq (.region _ o _) _=>o|_=>#[]
noncomputable def Kk:Array aB:=match PQ with|.seq _ (.region _ o _)=>o|_=>#[]
def Kl:Tryz.f121.body=aa (.seq (.region 0 Kj ae) (.region 1 Kk ab)):=by kernel_rfl
def oW(d:Option Nat)(op:Op)(ty:aw)(b:Array Edge):aB:={dst:=d,op:=op,type:=ty,pos:= "l12_snap.go:82",after:=b,guard:=af}
def uE:List aB:=[oW (aa 6) (.load 154 (.tmp 4)) 154 #[],oW (aa 7) (.load 3 (.tmp 5)) 3 #[],oW (aa 8) (.load 3 (.tmp 1)) 3 #[],oW (aa 9) (.load 23 (.tmp 2)) 23 #[],oW (aa 10) (.load 3 (.tmp 3)) 3 #[],
 oW (aa 11) (.call {callee:=.value (.func 123),args:=#[.tmp 8,.tmp 9,.tmp 10],argTypes:=#[3,23,3]}) 166 #[⟨2,.data⟩,⟨3,.data⟩,⟨4,.data⟩],
 oW (aa 12) (.indexAddr 154 (.tmp 6) (.tmp 7)) 0 #[⟨0,.data⟩,⟨1,.data⟩,⟨0,.phase⟩,⟨1,.phase⟩,⟨2,.phase⟩,⟨3,.phase⟩,⟨4,.phase⟩,⟨5,.phase⟩],
 oW af (.store 166 (.tmp 12) (.tmp 11)) 0 #[⟨6,.data⟩,⟨5,.data⟩,⟨5,.chain⟩,⟨0,.phase⟩,⟨1,.phase⟩,⟨2,.phase⟩,⟨3,.phase⟩,⟨4,.phase⟩,⟨5,.phase⟩]]
def N3:Kk=uE.toArray:=by kernel_rfl
def n7(h:uE[i]?=aa o):i<8:=(b8.1 h).1
section
variable (k:Int)(ps:List bc)(a:Int)(n x C:Nat)
def Uq(b:aj):Fr:=[(0,.e (.one (.v b))),(1,.e (.one (.c (.rp [.int .i64 k])))),(2,.e (.one (.c (.rp [.sl ae 2 ps.length (cP.fn ps)])))),(3,.e (.one (.c (.rp [.int .i64 a])))),(4,.e (.one (.c (.rp [.val (.slice (aa ⟨C,0,af⟩) n n)])))),(5,.e (.one (.c (.rp [.int .i64 x]))))]
def xW:Nat->D
 |0=>.e (.one (.v (.slice (aa ⟨C,0,af⟩) n n)))
 |1=>dI x
 |2=>dI k
 |3=>cP.sl ps
 |4=>dI a
 |5=>VO (cY k ps a)
 |6=>.e (.one (.v (.pointer (aa ⟨C,x*2,af⟩))))
 |_=>.any
def Ez:Nat->Option Nat
 |6=>aa 0|7=>aa 1|8=>aa 2|9=>aa 3|10=>aa 4|11=>aa 5|12=>aa 6|_=>af
def Y9(b:aj):Nat->Fr
 |5=>[(8,dI k),(9,cP.sl ps),(10,dI a)]
 |6=>[(6,.e (.one (.v (.slice (aa ⟨C,0,af⟩) n n)))),(7,dI x)]
 |_=>Uq k ps a n x C b
end
def N4{X:Cx ag}{n x C:Nat}(f:x<n):OA X 13 uE (oW (aa 12) (.indexAddr 154 (.tmp 6) (.tmp 7)) 0 #[⟨0,.data⟩,⟨1,.data⟩,⟨0,.phase⟩,⟨1,.phase⟩,⟨2,.phase⟩,⟨3,.phase⟩,⟨4,.phase⟩,⟨5,.phase⟩]) [(6,.e (.one (.v (.slice (aa ⟨C,0,af⟩) n n)))),(7,dI x)] [] (.e (.one (.v (.pointer (aa ⟨C,x*2,af⟩))))) []:=by
 refine .mT (λ_ _ _ _=>dx rfl) (bE.quiet λs j m h=>?_);have b:=h (.tmp 6);have c:=h (.tmp 7);have l:bO [(6,D.e (.one (.v (.slice (aa ⟨C,0,af⟩) n n)))),(7,dI x)] (.tmp 6)=.e (.one (.v (.slice (aa ⟨C,0,af⟩) n n))):=rfl;have i:bO [(6,D.e (.one (.v (.slice (aa ⟨C,0,af⟩) n n)))),(7,dI x)] (.tmp 7)=dI x:=rfl;rw[l]at b;rw[i]at c;have b:=Rd.fu b;have c:=fI c;generalize d:j (.tmp 7)=vy at c;cases c;have g:=(tok 154 i154 rfl).run_underlying (w:=s.w);refine⟨.pointer (aa ⟨C,x*2,af⟩),?_,Rd.val rfl,?_⟩
 .simp[ak,oW,b,d,Instr.indexAt,asIntOf,g,i154,(tok 166 i166 rfl).run_sizeOf,i166,dr,f]
 .simp[ak,oW,b,d,Instr.indexAt,asIntOf,g,i154,dr,f]
def Ur{X:Cx ag}{k:Int}(l:dK X 123 (lQ k))(ps:List bc)(a:Int)(n x C:Nat)(q:x<n)(f:aj):
  JR X 13 uE.toArray (Uq k ps a n x C f) [] (xW k ps a n x C) (Y9 k ps a n x C f) Ez 7:=by
 have p:bG X [(123,lQ k)]:=bG.cons l bG.nil;have b:∀(i:Nat) (o:aB) (φ:Fr) (d:D) (obs:List Prop),uE[i]?=aa o->vJ tt [(123,lQ k)] [] uE φ [] o=aa (d,af,obs)->au obs->OA X 13 uE o φ [] d [] :=
  λi o φ d obs _ h ho=>fJ tok p h ho
 refine⟨?_,?_,?_,?_,?_,?_,by decide⟩
 .intro i o ho e g _;simp only[hX]at ho;have hi:=n7 ho
  match i,hi with
  |0,_|1,_|2,_|3,_|4,_|5,_|6,_|7,_ =>
   cases ho;simp[oW]at g;try (rcases g with rfl|rfl|rfl|rfl|rfl|rfl|rfl|rfl|rfl<;>decide)
   try (rcases g with rfl|rfl|rfl<;>decide)
 .intro i o d ho hd;simp only[hX]at ho;have hi:=n7 ho
  match i,hi with
  |0,_|1,_|2,_|3,_|4,_|5,_|6,_|7,_ =>
   cases ho;cases hd;try exact⟨rfl,by decide⟩
 .intro d i h;unfold Ez at h;split at h<;>cases h<;>exact⟨_,rfl,rfl⟩
 .intro i o ho Bf;simp only[hX]at ho;have hi:=n7 ho
  match i,hi with
  |0,_=>cases ho;exact b 0 _ _ _ _ rfl rfl ar
  |1,_=>cases ho;exact b 1 _ _ _ _ rfl rfl ar
  |2,_=>cases ho;exact b 2 _ _ _ _ rfl rfl ar
  |3,_=>cases ho;exact b 3 _ _ _ _ rfl rfl ar
  |4,_=>cases ho;exact b 4 _ _ _ _ rfl rfl ar
  |5,_ =>
   cases ho;have:=b 5 _ (Y9 k ps a n x C f 5) _ _ rfl rfl (by simp[cP.aJ]);rw[cP.list_fn]at this;exact this
  |6,_=>cases ho;exact N4 q
  |7,_=>grind
 .intro i o ho Bf t σ s v c;simp only[hX]at ho;have hi:=n7 ho
  match i,hi with
  |0,_|1,_|2,_|3,_|4,_ =>
   match t with
   |0|1|2|3|4|5=>exact c
   |t+6=>trivial
  |5,_ =>
   cases ho
   match t with
   |8=>exact(show dm σ s v (xW k ps a n x C 2)from by simpa[Ez,oW,dh,Region.binds]using c)
   |9=>exact(show dm σ s v (xW k ps a n x C 3)from by simpa[Ez,oW,dh,Region.binds]using c)
   |10=>exact(show dm σ s v (xW k ps a n x C 4)from by simpa[Ez,oW,dh,Region.binds]using c)
   |0|1|2|3|4|5|6|7=>trivial
   |t+11=>trivial
  |6,_ =>
   cases ho
   match t with
   |6=>exact(show dm σ s v (xW k ps a n x C 0)from by simpa[Ez,oW,dh,Region.binds]using c)
   |7=>exact(show dm σ s v (xW k ps a n x C 1)from by simpa[Ez,oW,dh,Region.binds]using c)
   |0|1|2|3|4|5=>trivial
   |t+8=>trivial
  |7,_=>grind
 .intro o ho j m Bf;simp only[hX]at ho;cases ho
  match j,m with
  |0,_=>exact⟨⟨0,.phase⟩,by simp[oW],rfl,rfl⟩
  |1,_=>exact⟨⟨1,.phase⟩,by simp[oW],rfl,rfl⟩
  |2,_=>exact⟨⟨2,.phase⟩,by simp[oW],rfl,rfl⟩
  |3,_=>exact⟨⟨3,.phase⟩,by simp[oW],rfl,rfl⟩
  |4,_=>exact⟨⟨4,.phase⟩,by simp[oW],rfl,rfl⟩
  |5,_=>exact⟨⟨5,.phase⟩,by simp[oW],rfl,rfl⟩
  |6,_=>exact⟨⟨6,.data⟩,by simp[oW],rfl,rfl⟩
  |7,_=>grind
noncomputable def uF:aV:={(default:aV)with fn:=Tryz.prog.funcs.size,defers:=[],mode:=.panicking [goexitEntry]}
def wN(vs:Array aj):Deferred:={target:=.fn (.func 121) vs,args:=#[]}
def Hq(v0 v1 v2 v3 v4 v5:aj)(w:aA):aH ag ae (born ag (wN #[v0,v1,v2,v3,v4,v5])) w =
  .go (G ((baseD 121).at ⟨#[v0,v1,v2,v3,v4,v5,ah,ah,ah,ah,ah,ah,ah],[]⟩ [.code (.seq (.region 0 Kj ae) (.region 1 Kk ab))]) [uF]) w #[]:=by
 have d:=Kl;have c:Tryz.f121.ntmps=13:=by kernel_rfl
 have b:¬Tryz.f121.name= "runtime.NumGoroutine":=by
  have:(Tryz.f121.name== "runtime.NumGoroutine")=ae:=by kernel_rfl
  grind
 simp[born,wN,aH,unwind,callDeferred,invoke,callFunc,Tryz.func121,d,c,b,seen,GStep.after,G,Frame.enter,Frame.at,baseD,uF]
end
section
variable {X:Cx ag}
abbrev pk(ps:List bc)(i:Nat):bc:=ps.getD i (0,[])
def Kb{k n:Int}{ps:List bc}{r:Bs}(hi:i<ps.length)(h:dv k (pk ps i) n=aa r)(a:∀j,j<i->dv k (pk ps j) n=af):cY k ps n=aa r:=by
 unfold cY;induction ps generalizing i with
 |nil=>grind
 |cons p ps ih =>
  cases i with
  |zero=>grind
  |succ i =>
   have b:=a 0 (by omega);grind
def Ep{k n:Int}{ps:List bc}(a:∀j,j<ps.length->dv k (pk ps j) n=af):cY k ps n=af:=by unfold cY;grind[List.getElem_of_mem]
theorem BD.Vx{P:aO}{φ:Fr}{σ:List bm}{T:List (Nat×TI)}(e:dg P T){fn:Func}{c:Nat}{res:D}{σ':List bm}(ks:List Nat){ps:List Prop}(h:MY T fn.results.toList ks φ res=aa ps)(i:au ps)(k:jZ ks σ=aa σ')(b:kO σ'=ab)(l:dY ks=ab)(f:∀j,j<c->ks[j]?=aa j):
  BD P fn c res σ' .ret φ σ:=by
 refine⟨.inl rfl,ks,?_⟩;unfold MY at h;split at h
 .rename_i ds W6;split at h
  .rename_i d g;split at h
   .rename_i a;exact⟨d,ps,BC.Vx e W6 g,h,i,a,k,b,l,f⟩
   grind
  grind
 grind
def uD{a:List Nat}:∀j,j<0->a[j]?=aa j:=λ_ h=>absurd h (gR _)
def Kc(b:dK X 196 pq)(k:Int)(ps:List bc)(n:Int)(g:cJ k=ab):Ev X 123 [dI k,cP.sl ps,dI n] [] (VO (cY k ps n)) []:=by
 refine Ev.oz Tryz.func123 rfl rfl rfl λm=>?_;have f:=m.sl 1 rfl;have d:bG X [(173,Ek aI (Dv et) aI (λk p n=>AB (dv k p n)) λk _ _=>[cJ k=ab])]:=.cons (Rv b) .nil;refine bZ d rfl ar ?_;refine AK.bX 1 (λi=>i<=ps.length/\∀j,j<i->dv k (pk ps j) n=af) (λi:Nat=>[(0,dI k),(2,dI n),(6,.e (.one (.ptr 0 0))),(11,cP.sl ps),(12,dI ps.length),(13,dI i)]) (λ_=>[.cells 166 [.c (.str []),.c (.bool ae)]]) (λi=>ps.length-i) 0 rfl ?_ rfl ?_ rfl ⟨by omega,by omega⟩ ?_
 .simp
 .simp
 rintro i ⟨hi,a⟩;by_cases h:i<ps.length
 .cases l:dv k (pk ps i) n with
  |some r =>
   refine aR d [(14,ab),(24,ab)] rfl ?_ (AK.freeze 6 0 rfl rfl rfl (AK.eY ?_))
   .simp only[au,bM,et.list_fn];refine⟨?_,et.aJ _,g,by omega,by omega,dc (by omega)⟩;grind
   .refine BD.Vx tok [] rfl ?_ rfl rfl rfl uD;rw[Kb h l a];simp only[bM,et.list_fn];have e:dv k ((ps.getD i cP.bP).1,(ps.getD i cP.bP).2) n=aa r:=l;rw[e];simp
  |none =>
   refine aR d [(14,ab),(24,ae)] rfl ?_ (AK.aQ (i+1) rfl ?_ ?_ ?_ ?_)
   .simp only[au,bM,et.list_fn];refine⟨by simp only[bx];omega,?_,et.aJ _,g,by omega,by omega,dc (by omega)⟩;grind
   .simp
   .simp
   .grind
   grind
 .refine aR d [(14,ae)] rfl (by simp;omega) (AK.leaveD rfl rfl ?_);refine bZ d rfl ar ?_;refine AK.freeze 6 0 rfl rfl rfl ?_;refine AK.zR tok [] rfl ?_ rfl rfl rfl uD;rw[Ep λj o=>a j (by omega)];simp
def Rw(a:dK X 196 pq){k:Int}(b:cJ k=ab):dK X 123 (lQ k):=by
 intro args σ res σ' obs h ho;unfold lQ at h;split at h
 .rename_i k1 da n;split at h
  .cases h
  .rename_i f e c;cases h;obtain⟨d,rfl⟩:=ho;exact(Kc a _ _ n b).args λs vs=>cn.imp (λ_ r=>r) (cn.imp (λ_ r=>cP.jc c d r) (cn.imp (λ_ r=>r) (λ_ r=>r))) vs
 grind
def Hf:dz:=λargs σ=>match args,σ with
 |[.e (.one (.c (.str [46]))),.e (.one (.c (.int .i64 c)))],[]=>aa (dS (List.replicate c.toNat 46),[],[0<=c/\c<=3])
 |_,_=>af
def t219:dK X 219 (kB aI (λn=>dI (cM n.toNat)) λn=>[0<=n/\n<=4000000]):=.oL λn h=>by
 have a:0<=n/\n<=4000000:=h;obtain⟨m,rfl⟩:∃m:Nat,n=m:=⟨n.toNat,by omega⟩
 exact Cg (X:=X) m (by omega)
def Kd(a:1<=n)(b:n<=8):n<=cM n/\cM n<=n+3:=by unfold cM;grind
def Ke(a:dK X 218 Hf)(p:Bs):Ev X 196 [dS p] [] (dS (gq p)) []:=by
 refine Ev.bQ Tryz.func196 rfl λf=>?_;have d:bG X [(195,kB aS (λs=>dB (bJ s)) λ_=>[]),(219,kB aI (λn=>dI (cM n.toNat)) λn=>[0<=n/\n<=4000000]),(218,Hf)]:=.cons t195 (.cons t219 (.cons a .nil));by_cases b:bJ p=ab
 .have c:=b;simp only[bJ,bR,bq]at c;have e:=Kd c.1.1 c.1.2;refine aR d [(5,ae)] rfl ?_ (AK.bn rfl ?_)
  .simp[b,bx];omega
  .simp[gq,b]
 .refine aR d [(5,ab)] rfl ?_ (AK.bn rfl ?_)
  .simp[b]
  .simp[gq,b]
def Uj(a:dK X 218 Hf):dK X 196 pq:=.oL λp _=>Ke a p
def NW:Ev X 218 [dS [46],dI 0] [] (dS []) []:=by
 refine Ev.bQ Tryz.func218 rfl λa=>?_;refine aX [(12,ab)] rfl ?_ (AK.bn rfl)
 .simp
def NX:Ev X 218 [dS [46],dI 1] [] (dS [46]) []:=by
 refine Ev.bQ Tryz.func218 rfl λa=>?_;refine aX [(12,ae),(14,ab)] rfl ?_ (AK.bn rfl)
 .simp
def Uh(a:Ev X 218 [dS [46],dI 2] [] (dS [46,46]) [])(b:Ev X 218 [dS [46],dI 3] [] (dS [46,46,46]) []):dK X 218 Hf:=by
 intro args σ res σ' obs h ho;unfold Hf at h;split at h
 .rename_i c;cases h;have:c=0∨c=1∨c=2∨c=3:=by have:0<=c/\c<=3:=ho;omega
  rcases this with rfl|rfl|rfl|rfl
  .exact NW
  .exact NX
  .exact a
  grind
 grind
def Rq(a b:List Bs):Ev X 127 [cS.sl a,cS.sl b] [] (dB (a==b)) []:=by
 refine Ev.bQ Tryz.func127 rfl λk=>?_;have c:=k.sl 0 rfl;by_cases d:a.length=b.length
 .refine aX [(10,ae)] rfl (by simp[d]) ?_;refine AK.ji (λi=>i<=a.length/\∀j,j<i->a.getD j []=b.getD j []) (λi:Nat=>[(0,cS.sl a),(1,cS.sl b),(12,dI a.length),(13,dI i)]) (λ_=>[]) (λi=>a.length-i) 0 rfl ?_ rfl ar ⟨by omega,by omega⟩ ?_
  .simp
  rintro i ⟨hi,f⟩;by_cases h:i<a.length
  .by_cases g:a.getD i []=b.getD i []
   .refine aX [(14,ab),(24,ae)] rfl ?_ (AK.fG (i+1) rfl ?_ rfl ar ?_ ?_)
    .simp only[au,bM];have e:(a.getD i cS.bP==b.getD i cS.bP)=ab:=gy.2 g;exact⟨by simp only[bx];omega,by grind,by omega,by omega,by omega,by omega,dc (by omega)⟩
    .simp
    .grind
    .omega
   .refine aX [(14,ab),(24,ab)] rfl ?_ (AK.gI (ck.zero rfl ?_))
    .simp only[au,bM];grind
    .have:(a==b)=ae:=eW.2 (by grind);simp[this]
  .refine aX [(14,ae)] rfl (by simp;omega) (AK.leave rfl rfl ?_);refine bw rfl ar (AK.bn rfl ?_);have:a=b:=uR d λj g l=>by grind
   simp[this]
 .refine aX [(10,ab)] rfl ?_ (AK.bn rfl ?_)
  .simp;omega
  .have:(a==b)=ae:=eW.2 (by grind);simp[this]
end
def Eu(h:o.op=.binOp op t x y ty){e:aw}(B:P.underlying t=aa (.pointer e)){b c:Bool}(r:∀s u v,aD σ s->dm σ s u (η x)->dm σ s v (η y)->∃p q,u=.pointer p/\v=.pointer q/\(p==q)=b/\(eqGuard op t x y u v).run P s.w=.ok () s.w/\(∀es,(eqGuard op t x y u v).events P s.w es=es) /\
   (Op.equal t u v).run P s.w=.ok b s.w/\∀es,(Op.equal t u v).events P s.w es=es)(l:lH op b=aa c):bE P o η σ (.e (.one (.c (.bool c)))) σ:=by
 refine .quiet λs C z n=>?_;obtain⟨p,q,f,g,A,j,m,i,k⟩:=r s _ _ z (n x) (n y);rw[f,g]at j i;have d:=m #[];have a:=k #[];rw[f,g]at d a;cases op<;>simp only[lH,reduceCtorEq,dq]at l
 .subst l;exact⟨.bool b,by simp[ak,h,f,g,j,binOp,i],Rd.bool,by simp[ak,h,f,g,j,d,binOp,i,a]⟩
 .subst l;exact⟨.bool (!b),by simp[ak,h,f,g,j,binOp,i],Rd.bool,by simp[ak,h,f,g,j,d,binOp,i,a]⟩
def Rl(h:o.op=.binOp op t x (.const (.pointer af)) ty){e:aw}(g:P.underlying t=aa (.pointer e)){c:Bool}(j:η x=.e (.one (.c .oY)))(l:η (.const (.pointer af))=.e (.one (.c .oY)))(i:lH op ab=aa c):bE P o η σ (.e (.one (.c (.bool c)))) σ:=by
 refine Eu h g (b:=ab) ?_ i;intro s u v _ a d;rw[j]at a;rw[l]at d;replace a:=fI a;replace d:=fI d;cases a;cases d;have k:(Op.equal t (.pointer af) (.pointer af)).run P s.w=.ok ab s.w:=by show(Op.equalIn (9999+1) t _ _).run P s.w=_;unfold Op.equalIn;simp[underlying,g]
 have f:∀es,(Op.equal t (.pointer af) (.pointer af)).events P s.w es=es:=λes=>by show(Op.equalIn (9999+1) t _ _).events P s.w es=es;unfold Op.equalIn;simp[underlying,g]
 exact⟨af,af,rfl,rfl,rfl,by cases op<;>simp[eqGuard],λes=>by cases op<;>simp[eqGuard],k,f⟩
def Rm(h:o.op=.binOp op t x (.const (.pointer af)) ty){e:aw}(f:P.underlying t=aa (.pointer e)){c:Bool}(j:η x=.e (.one (.ptr l off)))(m:η (.const (.pointer af))=.e (.one (.c .oY)))(i:lH op ae=aa c):bE P o η σ (.e (.one (.c (.bool c)))) σ:=by
 refine Eu h f (b:=ae) ?_ i;intro s u v _ g a;rw[j]at g;rw[m]at a;replace a:=fI a;cases a;obtain⟨_,L,b,_,_,rfl⟩:=(g:gb σ s u (.ptr l off));have k:(Op.equal t (.pointer (aa ⟨b,off,af⟩)) (.pointer af)).run P s.w=.ok ae s.w:=by show(Op.equalIn (9999+1) t _ _).run P s.w=_;unfold Op.equalIn;simp[underlying,f]
 have d:∀es,(Op.equal t (.pointer (aa ⟨b,off,af⟩)) (.pointer af)).events P s.w es=es:=λes=>by show(Op.equalIn (9999+1) t _ _).events P s.w es=es;unfold Op.equalIn;simp[underlying,f]
 exact⟨_,af,rfl,rfl,rfl,by cases op<;>simp[eqGuard],λes=>by cases op<;>simp[eqGuard],k,d⟩
def NM(h:o.op=.binOp op t x y ty){e:aw}(i:P.underlying t=aa (.pointer e))(q:n≠0)(m:∀w,(sizeOf e).run P w=.ok n w)(j:∀w es,(sizeOf e).events P w es=es){c:Bool}(z:η x=.e (.one (.ptr l off)))(C:η y=.e (.one (.ptr l off)))(A:lH op ab=aa c):bE P o η σ (.e (.one (.c (.bool c)))) σ:=by
 refine Eu h i (b:=ab) ?_ A;intro s u v _ k p;rw[z]at k;rw[C]at p;obtain⟨_,L,b,r,g,rfl⟩:=(k:gb σ s u (.ptr l off));obtain⟨_,D,E,d,a,rfl⟩:=(p:gb σ s v (.ptr l off));rw[r]at d;cases d;rw[g]at a;cases a;have B:(Op.equal t (.pointer (aa ⟨b,off,af⟩)) (.pointer (aa ⟨b,off,af⟩))).run P s.w=.ok ab s.w:=by show(Op.equalIn (9999+1) t _ _).run P s.w=_;unfold Op.equalIn;simp[underlying,i,m,q,sameAddr]
 have f:∀es,(Op.equal t (.pointer (aa ⟨b,off,af⟩)) (.pointer (aa ⟨b,off,af⟩))).events P s.w es=es:=λes=>by show(Op.equalIn (9999+1) t _ _).events P s.w es=es;unfold Op.equalIn;simp[underlying,i,m,j,q,sameAddr]
 exact⟨_,_,rfl,rfl,by simp,by cases op<;>simp[eqGuard],λes=>by cases op<;>simp[eqGuard],B,f⟩
section
variable {X:Cx ag}
abbrev bB(a:Bool)(v1:aj)(bf:Option (Nat×Nat))(xs:Bs)(b:Nat):bm:=.cq (BB 215 5 a v1 bf xs b)
def Cc(v1:aj)(b:cZ v1=ab)(bf:Option (Nat×Nat))(xs:Bs)(a:Nat):Ev X 208 [.e (.one (.ptr 0 0))] [bB ae v1 bf xs a] (.fz []) [bB ab v1 bf xs a]:=by
 refine Ev.bQ Tryz.func208 rfl λd=>?_;refine bw rfl ar ?_;refine AK.law (bE.Qk tok rfl rfl rfl rfl rfl) rfl rfl ?_;refine AK.law (Rl rfl Tryz.underlying213 rfl rfl rfl) rfl rfl ?_;refine bw rfl ar ?_;refine AK.law (bE.ZY rfl rfl Tryz.underlying213 Tryz.underlying199 (fh Tryz.type215) (by simp[Tryz.t215]) rfl) rfl rfl ?_;refine AK.law (bE.Th Tryz.func221 (by kernel_rfl) (by kernel_rfl) (by kernel_rfl) (by kernel_rfl) rfl rfl rfl) rfl rfl ?_;refine AK.law (bE.Tg rfl rfl Tryz.underlying199 Tryz.underlying213 (fh Tryz.type215) (by simp[Tryz.t215]) (by kernel_rfl) rfl) rfl rfl ?_
 refine bw rfl ar ?_;refine AK.law (bE.MN tok rfl rfl rfl rfl rfl rfl b) rfl rfl ?_;refine bw rfl ar ?_;exact ck.tk [0] rfl ar rfl rfl rfl (λj c=>by grind)
def Cd(v1:aj)(bf:Option (Nat×Nat))(xs:Bs)(a:Nat):Ev X 208 [.e (.one (.ptr 0 0))] [bB ab v1 bf xs a] (.fz []) [bB ab v1 bf xs a]:=by
 refine Ev.bQ Tryz.func208 rfl λc=>?_;refine bw rfl ar ?_;refine AK.law (bE.IB tok rfl rfl rfl rfl rfl) rfl rfl ?_;refine AK.law (Rm rfl Tryz.underlying213 rfl rfl rfl) rfl rfl ?_;refine bw rfl ar ?_;refine AK.law (bE.IB tok rfl rfl rfl rfl rfl) rfl rfl ?_;refine bw rfl ar ?_;refine AK.law (NM rfl Tryz.underlying213 (n:=2) (by decide) (λw=>by simp[sizeOf,typeInfo,fh Tryz.type215,Tryz.t215]) (λw es=>by simp[sizeOf,typeInfo,fh Tryz.type215]) rfl rfl rfl) rfl rfl ?_
 refine bw rfl ar ?_;exact ck.tk [0] rfl ar rfl rfl rfl (λj b=>by grind)
abbrev bb(a:Bool)(bf:Option (Nat×Nat))(xs:Bs)(b:Nat):bm:=bB a (oV bf xs.length) bf xs b
def l0:∀j,j<1->([0]:List Nat)[j]?=aa j:=λj a=>by grind
def Az(a:Bool)(bf:Option (Nat×Nat))(xs:Bs)(b:Nat)(d:xs.length<=9223372036854775807)(c:bf=af->xs=[]):Ev X 229 [.e (.one (.ptr 0 0))] [bb a bf xs b] (dI xs.length) [bb a bf xs b]:=by
 refine Ev.bQ Tryz.func229 rfl λf=>?_;refine bw rfl ar ?_;refine AK.law (bE.ff tok rfl rfl rfl rfl rfl) rfl rfl ?_;cases bf with
 |none =>
  have:=c rfl;subst this;refine AK.law (bE.ux rfl rfl aM rfl (by simp)) rfl rfl ?_;refine bw rfl ar (AK.dJ [0] rfl ?_ rfl rfl rfl l0);simp
 |some p =>
  refine AK.law (bE.ux rfl rfl aM rfl d) rfl rfl ?_;refine bw rfl ar (AK.dJ [0] rfl ?_ rfl rfl rfl l0);simp
def Ef(g cap:Nat)(xs s:Bs)(b:Nat)(f:s.length<=9223372036854775807)(a:xs.length+s.length<=cap):Ev X 180 [.e (.one (.ptr 0 0)),dS s] [bb ab (aa (g,cap)) xs b] (.fz [.one (.c (.int .i64 s.length)),.one (.c .o0)]) [bb ab (aa (g,cap)) (xs++s) b]:=by
 refine Ev.bQ Tryz.func180 rfl λd=>?_;refine bw rfl ar ?_;refine AK.cQ (Cd (oV (aa (g,cap)) xs.length) (aa (g,cap)) xs b) [0] rfl ?_;refine bw rfl ar ?_;refine AK.law (bE.ff tok rfl rfl rfl rfl rfl) rfl rfl ?_;refine bw rfl ar ?_;refine AK.law (bE.MO (l:=0) (g:=g) (cap:=cap) (xs:=xs) rfl aM Tryz.underlying9 (fh Tryz.type5) (by simp[Tryz.t5]) rfl rfl rfl rfl a) rfl rfl ?_;refine bw rfl ar ?_;refine AK.law (bE.zF tok rfl rfl rfl rfl rfl rfl rfl) rfl rfl ?_;have e:bb ab (aa (g,cap)) (xs++s) b=.cq (BB 215 5 ab (oV (aa (g,cap)) (xs.length+s.length)) (aa (g,cap)) (xs++s) b):=by grind
 rw[e];refine bw rfl ar (AK.dJ [0] rfl ?_ rfl rfl rfl l0);simp
theorem Rn:Ev X 180 [.e (.one (.ptr 0 0)),dS []] [bb ab af [] 0] (.fz [.one (.c (.int .i64 0)),.one (.c .o0)]) [bb ab af [] 0]:=by refine Ev.bQ Tryz.func180 rfl λa=>?_;refine bw rfl ar ?_;refine AK.cQ (Cd (oV af 0) af [] 0) [0] rfl ?_;refine bw rfl ar ?_;refine AK.law (bE.ff tok rfl rfl rfl rfl rfl) rfl rfl ?_;refine bw rfl ar ?_;refine AK.law (bE.IE rfl aM Tryz.underlying9 (fh Tryz.type5) rfl rfl) rfl rfl ?_;refine bw rfl ar ?_;refine AK.law (bE.zF tok rfl rfl rfl rfl rfl rfl rfl) rfl rfl ?_;refine bw rfl ar (AK.dJ [0] rfl ?_ rfl rfl rfl l0);simp
abbrev dp:D:=.e (.one (.ptr 0 0))
abbrev MC:D:=.e (.one (.ptr 0 1))
def Eg(g cap:Nat)(xs:Bs)(c:Nat)(a:xs.length<=9223372036854775807)(b:cap≠0):Ev X 181 [.e (.one (.ptr 0 0))] [bb ab (aa (g,cap)) xs c] (dS xs) [bb ab (aa (g,cap)) xs xs.length]:=by
 refine Ev.bQ Tryz.func181 rfl λd=>?_;refine aX [(1000001,ab)] rfl ar ?_;refine AK.MB dn 10 (λi=>bz i 9) (λi=>[dp,dp,MC,.e (.one (.v (.slice (aa ⟨g,0,af⟩) xs.length cap))),.e (.one (.v (.pointer (aa ⟨g,0,af⟩)))),dp,dp,MC,.e (.one (.v (.slice (aa ⟨g,0,af⟩) xs.length cap))),dI xs.length].getD i .any) (λ(_:Unit) _=>dS xs)
  (λ_=>[bb ab (aa (g,cap)) xs xs.length]) rfl rfl rfl rfl rfl rfl ?_ ?_ ?_ ?_
 .refine⟨.dw tok bG.nil rfl,.dw tok bG.nil rfl,.dw tok bG.nil rfl,?_,?_,.dw tok bG.nil rfl,.dw tok bG.nil rfl,.dw tok bG.nil rfl,?_,?_,ar,ar,ar⟩
  .exact .law (bE.ff (l:=0) tok rfl rfl rfl rfl rfl) rfl
  .exact .law (bE.Td rfl rfl b) rfl
  .exact .law (bE.ff (l:=0) tok rfl rfl rfl rfl rfl) rfl
  .exact .law (bE.ux rfl rfl aM rfl a) rfl
 .intro _;refine⟨.dw tok bG.nil rfl,.dw tok bG.nil rfl,.dw tok bG.nil rfl,?_,?_,.dw tok bG.nil rfl,.dw tok bG.nil rfl,.dw tok bG.nil rfl,?_,?_,ar,.dw tok bG.nil rfl,ar⟩
  .exact .law (bE.ff (l:=0) tok rfl rfl rfl rfl rfl) rfl
  .exact .law (bE.Td rfl rfl b) rfl
  .exact .law (bE.ff (l:=0) tok rfl rfl rfl rfl rfl) rfl
  .exact .law (bE.ux rfl rfl aM rfl a) rfl
 .exact .An (.law (Tb (l:=0) rfl Tryz.underlying245 (by kernel_rfl) rfl rfl rfl) rfl)
 .intro _;refine bw rfl ar (AK.dJ [0] rfl ?_ rfl rfl rfl l0);simp
def Ug(h:o.op=.binOp .add t x y ty){b:Int}(e:η x=dI 0)(d:η y=dI b)(a:bx .i64 b):bE ag o η σ (dI b) σ:=by have:=bE.binOp (P:=ag) (σ:=σ) h e d (c:=.int .i64 (0+b)) (obs:=[bx .i64 (0+b)]) rfl (by rw[Int.zero_add];exact a);grind
def dO.PG{f:aK}{fn:Func}{args:List D}{σ':ι->List bm}(d:Tryz.prog.funcs[f]?=aa fn)(b:(fn.name== "runtime.NumGoroutine")=ae)(hb:fn.body=aa c)(a:bz args.length fn.ntmps=ab)(h:AK X fn.ntmps (λe φ σ1=>∃j,ck fn σ.length (res j) (σ' j) e φ σ1) [.code c] .normal (jh 0 args) σ):dO X f args σ res σ' :=
 dO.intro d b hb (dM a) (AK.of_code h)
def NN:Ev X 181 [.e (.one (.ptr 0 0))] [bb ab af [] 0] (dS []) [bb ab af [] 0]:=by
 refine Ev.bQ Tryz.func181 rfl λa=>?_;refine aX [(1000001,ab)] rfl ar ?_;refine AK.MB dn 10 (λi=>bz i 9) (λi=>[dp,dp,MC,.e (.one (.v (.slice af 0 0))),.e (.one (.v (.pointer af))),dp,dp,MC,.e (.one (.v (.slice af 0 0))),dI (0:Nat)].getD i .any) (λ(_:Unit) _=>dS [])
  (λ_=>[bb ab af [] 0]) rfl rfl rfl rfl rfl rfl ?_ ?_ ?_ ?_
 .refine⟨.dw tok bG.nil rfl,.dw tok bG.nil rfl,.dw tok bG.nil rfl,?_,?_,.dw tok bG.nil rfl,.dw tok bG.nil rfl,.dw tok bG.nil rfl,?_,?_,ar,ar,ar⟩
  .exact .law (bE.ff (l:=0) tok rfl rfl rfl rfl rfl) rfl
  .exact .law (bE.Tc rfl rfl) rfl
  .exact .law (bE.ff (l:=0) tok rfl rfl rfl rfl rfl) rfl
  .exact .law (bE.ux rfl rfl aM rfl (by decide)) rfl
 .intro _;refine⟨.dw tok bG.nil rfl,.dw tok bG.nil rfl,.dw tok bG.nil rfl,?_,?_,.dw tok bG.nil rfl,.dw tok bG.nil rfl,.dw tok bG.nil rfl,?_,?_,ar,.dw tok bG.nil rfl,ar⟩
  .exact .law (bE.ff (l:=0) tok rfl rfl rfl rfl rfl) rfl
  .exact .law (bE.Tc rfl rfl) rfl
  .exact .law (bE.ff (l:=0) tok rfl rfl rfl rfl rfl) rfl
  .exact .law (bE.ux rfl rfl aM rfl (by decide)) rfl
 .exact .An (.law (bE.Tf rfl rfl rfl) rfl)
 .intro _;refine bw rfl ar (AK.dJ [0] rfl ?_ rfl rfl rfl l0);simp
def NO(n:Nat)(b:0<n)(c:n<=140737488355328):dO (ι:={p:Nat×Nat // n<=p.2}) X 209 [.e (.one (.ptr 0 0)),dI n] [bb ab af [] 0] (λ_=>.fz []) (λj=>[bb ab (aa j.1) [] 0]):=by
 refine dO.PG Tryz.func209 rfl rfl rfl ?_;refine aX [(1000000,ab)] rfl ar ?_;have a:bx .i64 (n:Int):=by simp only[bx];omega
 have v0:D:=.e (.one (.v (.slice af 0 0)));refine AK.MB (ι:={p:Nat×Nat // n<=p.2}) dn 8 (λi=>bz i 7||(bz 9 i&&bz i 13)) (λi=>[dp,dp,MC,.e (.one (.v (.slice af 0 0))),dI (0:Nat),dI 0,dI n,dI n,.any,dp,dp,MC,.e (.one (.v (.slice af 0 0))),dI (0:Nat)].getD i .any)
  (λj i=>[.e (.one (.v (oV (aa j.1) n))),.any,.any,.any,.any,.any,.e (.one (.v (.slice (aa ⟨j.1.1,0,af⟩) 0 j.1.2))),.e (.one (.v (.slice (aa ⟨j.1.1,0,af⟩) 0 j.1.2)))].getD (i-8) .any)
  (λj=>[bB ab (.slice af 0 0) (aa j.1) [] 0]) rfl rfl rfl rfl rfl rfl ?_ ?_ ?_ ?_
 .refine⟨.dw tok bG.nil rfl,.dw tok bG.nil rfl,.dw tok bG.nil rfl,?_,?_,?_,.dw tok bG.nil rfl,?_,ar,.dw tok bG.nil rfl,.dw tok bG.nil rfl,.dw tok bG.nil rfl,?_,?_,ar,ar,ar⟩
  .exact .law (bE.ff (l:=0) tok rfl rfl rfl rfl rfl) rfl
  .exact .law (bE.MR rfl rfl aM rfl (by decide)) rfl
  .exact .law (JV 0 rfl rfl rfl (by simp[bx]) (λw=>rfl) (λw=>rfl)) rfl
  .exact .law (Ug rfl rfl rfl a) rfl
  .exact .law (bE.ff (l:=0) tok rfl rfl rfl rfl rfl) rfl
  .exact .law (bE.ux rfl rfl aM rfl (by decide)) rfl
 .intro j;have d:j.1.2≠0:=by grind
  refine⟨.dw tok bG.nil rfl,.dw tok bG.nil rfl,.dw tok bG.nil rfl,?_,?_,?_,.dw tok bG.nil rfl,?_,ar,.dw tok bG.nil rfl,.dw tok bG.nil rfl,.dw tok bG.nil rfl,?_,?_,?_,.dw tok bG.nil rfl,ar⟩
  .exact .law (bE.ff (l:=0) tok rfl rfl rfl rfl rfl) rfl
  .exact .law (bE.MR rfl rfl aM rfl (by decide)) rfl
  .exact .law (JV 0 rfl rfl rfl (by simp[bx]) (λw=>rfl) (λw=>rfl)) rfl
  .exact .law (Ug rfl rfl rfl a) rfl
  .exact .law (bE.ff (l:=0) tok rfl rfl rfl rfl rfl) rfl
  .exact .law (bE.ux rfl rfl aM rfl (by decide)) rfl
  .exact .law (bE.Te (k:=0) rfl aM (fh Tryz.type5) rfl rfl (iT _) j.2 d (dr _ _ _)) rfl
 .exact .mT rfl (Ta (l:=0) (ps:=#[3]) aM Tryz.func222 (by kernel_rfl) (by kernel_rfl) (by kernel_rfl) (by kernel_rfl) rfl rfl rfl b c rfl)
 .intro j;refine bw rfl ar ?_;refine AK.law (bE.ff (l:=0) tok rfl rfl rfl rfl rfl) rfl rfl ?_;refine AK.law (bE.copyV rfl aM (fh Tryz.type5) rfl rfl) rfl rfl ?_;refine bw rfl ar ?_;refine AK.law (bE.zF (l:=0) tok rfl rfl rfl rfl rfl rfl rfl) rfl rfl ?_;refine bw rfl ar ?_;exact⟨j,ck.tk [0] rfl ar rfl rfl rfl l0⟩
def F8(n:Nat)(a:0<n)(b:n<=140737488355328):dO (ι:={p:Nat×Nat // n<=p.2}) X 179 [.e (.one (.ptr 0 0)),dI n] [bb ae af [] 0] (λ_=>.fz []) (λj=>[bb ab (aa j.1) [] 0]):=by
 refine dO.PG Tryz.func179 rfl rfl rfl ?_;refine bw rfl ar ?_;refine AK.cQ (Cc (oV af 0) rfl af [] 0) [0] rfl ?_;refine aX [(7,ae),(1000003,ab)] rfl ?_ ?_
 .simp
 refine AK.MB dn 4 (λi=>bz i 3||(bz 5 i&&bz i 9)||av i 11) (λi=>[dp,dp,MC,.e (.one (.v (.slice af 0 0))),.any,dp,dp,MC,.e (.one (.v (.slice af 0 0))),dI (0:Nat),.any,dI n].getD i .any)
  (λ(_:Unit) i=>[dI (0:Nat),.any,.any,.any,.any,.any,dI (0-0),.any,dB ab].getD (i-4) .any)
  (λ_=>[bb ab af [] 0]) rfl rfl rfl rfl rfl rfl ?_ ?_ ?_ ?_
 .refine⟨.dw tok bG.nil rfl,.dw tok bG.nil rfl,.dw tok bG.nil rfl,?_,ar,.dw tok bG.nil rfl,.dw tok bG.nil rfl,.dw tok bG.nil rfl,?_,?_,ar,.dw tok bG.nil rfl,ar,ar⟩
  .exact .law (bE.ff (l:=0) tok rfl rfl rfl rfl rfl) rfl
  .exact .law (bE.ff (l:=0) tok rfl rfl rfl rfl rfl) rfl
  .exact .law (bE.ux rfl rfl aM rfl (by decide)) rfl
 .intro _;refine⟨.dw tok bG.nil rfl,.dw tok bG.nil rfl,.dw tok bG.nil rfl,?_,ar,.dw tok bG.nil rfl,.dw tok bG.nil rfl,.dw tok bG.nil rfl,?_,?_,?_,.dw tok bG.nil rfl,?_,ar⟩
  .exact .law (bE.ff (l:=0) tok rfl rfl rfl rfl rfl) rfl
  .exact .law (bE.ff (l:=0) tok rfl rfl rfl rfl rfl) rfl
  .exact .law (bE.ux rfl rfl aM rfl (by decide)) rfl
  .exact .eval (ds:=[]) tok bG.nil (obs:=[bx .i64 (((0:Nat):Int)-((0:Nat):Int))]) rfl (by simp[bx])
  .exact .eval (ds:=[(21,ab)]) tok bG.nil (obs:=[decide ((0:Int)-0<(n:Int))=ab]) rfl (by simp;omega)
 .exact .An (.law (bE.MR rfl rfl aM rfl (by decide)) rfl)
 .intro _;refine bw rfl ar ?_;refine AK.cP (NO n a b) [0] rfl (λ_=>rfl) λj=>?_;refine bw rfl ar ?_;exact⟨j,ck.tk [0] rfl ar rfl rfl rfl l0⟩
def JW:Ev X 179 [.e (.one (.ptr 0 0)),dI (0:Nat)] [bb ae af [] 0] (.fz []) [bb ab af [] 0]:=by
 refine Ev.bQ Tryz.func179 rfl λa=>?_;refine bw rfl ar ?_;refine AK.cQ (Cc (oV af 0) rfl af [] 0) [0] rfl ?_;refine aX [(7,ae),(1000003,ab)] rfl ?_ ?_
 .simp
 refine AK.MB dn 4 (λi=>bz i 3||(bz 5 i&&bz i 9)||av i 11) (λi=>[dp,dp,MC,.e (.one (.v (.slice af 0 0))),.any,dp,dp,MC,.e (.one (.v (.slice af 0 0))),dI (0:Nat),.any,dI (0:Nat)].getD i .any)
  (λ(_:Unit) i=>[dI (0:Nat),.any,.any,.any,.any,.any,dI (0-0),.any,dB ae].getD (i-4) .any)
  (λ_=>[bb ab af [] 0]) rfl rfl rfl rfl rfl rfl ?_ ?_ ?_ ?_
 .refine⟨.dw tok bG.nil rfl,.dw tok bG.nil rfl,.dw tok bG.nil rfl,?_,ar,.dw tok bG.nil rfl,.dw tok bG.nil rfl,.dw tok bG.nil rfl,?_,?_,ar,.dw tok bG.nil rfl,ar,ar⟩
  .exact .law (bE.ff (l:=0) tok rfl rfl rfl rfl rfl) rfl
  .exact .law (bE.ff (l:=0) tok rfl rfl rfl rfl rfl) rfl
  .exact .law (bE.ux rfl rfl aM rfl (by decide)) rfl
 .intro _;refine⟨.dw tok bG.nil rfl,.dw tok bG.nil rfl,.dw tok bG.nil rfl,?_,ar,.dw tok bG.nil rfl,.dw tok bG.nil rfl,.dw tok bG.nil rfl,?_,?_,?_,.dw tok bG.nil rfl,?_,ar⟩
  .exact .law (bE.ff (l:=0) tok rfl rfl rfl rfl rfl) rfl
  .exact .law (bE.ff (l:=0) tok rfl rfl rfl rfl rfl) rfl
  .exact .law (bE.ux rfl rfl aM rfl (by decide)) rfl
  .exact .eval (ds:=[]) tok bG.nil (obs:=[bx .i64 (((0:Nat):Int)-((0:Nat):Int))]) rfl (by simp[bx])
  .exact .eval (ds:=[(21,ae)]) tok bG.nil (obs:=[decide ((0:Int)-0<((0:Nat):Int))=ae]) rfl (by simp)
 .exact .An (.law (bE.MR rfl rfl aM rfl (by decide)) rfl)
 .intro _;refine bw rfl ar ?_;exact ck.tk [0] rfl ar rfl rfl rfl l0
def JX(h:o.op=.alloc 215):bE ag o η σ (.e (.one (.ptr σ.length 0))) (σ++[bb ae af [] 0]) :=
 bE.Ql h (λw=>by simp[zeroValue,typeInfo,fh Tryz.type215,Tryz.t215]) (λw es=>by simp)
def JY{z:aC}{a b c:Int}(m:Int)(h:o.op=.call {callee:=.builtin .min,args:=#[x,y,z],argTypes:=jP})(q:η x=dI a)(t:η y=dI b)(p:η z=dI c)(u:min (min a b) c=m)(r:bx .i64 m):bE ag o η σ (dI m) σ:=by
 refine .quiet λs n v d=>?_;have j:=d x;have f:=d y;have g:=d z;rw[q]at j;rw[t]at f;rw[p]at g;replace j:=fI j;replace f:=fI f;replace g:=fI g;generalize l:n x=vx at j;generalize k:n y=vy at f;generalize i:n z=vz at g;cases j;cases f;cases g;have e:(if c<(if b<a then b else a)then c else if b<a then b else a)=m:=by grind
 exact⟨.int .i64 m,by simp[ak,h,resolve,invoke,builtin,l,k,i,Builtin.min_,Builtin.min2,e],.int r,by simp[ak,h,resolve,invoke,builtin,l,k,i,Builtin.min_,Builtin.min2]⟩
def JZ(n:Nat)(l:2<=n)(o:n<=3):Ev X 218 [dS [46],dI n] [] (dS (List.replicate n 46)) []:=by
 refine Ev.bQ Tryz.func218 rfl λp=>?_;have a:bG X [(228,Ro)]:=.cons t228 .nil;refine bt a [(13,ae),(15,ae),(18,ae),(30,ae),(33,ae),(40,ae),(44,ae),(45,ae),(46,ae),(47,ae),(48,ae),(96,ae),(1000035,ab)] rfl ?_ ?_
 .have h:(n:Int)=2∨(n:Int)=3:=by omega
  have e:(iL [46] 0).toNat=46:=rfl;simp[bx,e,h];omega
 refine AK.region ?_;refine AK.law (JX rfl) rfl rfl ?_;refine cN a rfl ar ?_;refine AK.cP (F8 n (by omega) (by omega)) [0] rfl (λ_=>rfl) λj=>?_;obtain⟨⟨g,cap⟩,b⟩:=j;have b:n<=cap:=b;refine cN a rfl ar ?_;refine AK.cQ (Ef g cap [] [46] 0 (by simp) (by simp;omega)) [0] rfl ?_;refine cN a rfl ar ?_;refine AK.ji (λk=>1<=k/\k<=n) (λk:Nat=>[(0,dS [46]),(7,dI n),(8,dI n),(9,.e (.one (.ptr 0 0)))]) (λk=>[bb ab (aa (g,cap)) (List.replicate k 46) (k-1)]) (λk=>n-k) 1 rfl ?_ rfl ?_ ⟨by omega,by omega⟩ ?_
 .simp
 .exact au.cat.2 ⟨rfl,ar⟩
 rintro k ⟨c,d⟩;refine cN a rfl ar ?_;refine AK.cQ (Az ab (aa (g,cap)) (List.replicate k 46) (k-1) (by simp;omega) (by simp)) [0] rfl ?_;by_cases q:k<n
 .refine bt a [(113,ab)] rfl ?_ ?_
  .simp;omega
  refine AK.cQ (Az ab (aa (g,cap)) (List.replicate k 46) (k-1) (by simp;omega) (by simp)) [0] rfl ?_;refine cN a rfl ?_ ?_
  .simp[bx];omega
  refine AK.cQ (Az ab (aa (g,cap)) (List.replicate k 46) (k-1) (by simp;omega) (by simp)) [0] rfl ?_;refine cN a rfl ar ?_;refine AK.law (JY 1 rfl rfl rfl rfl (by simp;omega) (by simp[bx])) rfl rfl ?_;refine cN a rfl ar ?_;refine AK.cQ (Eg g cap (List.replicate k 46) (k-1) (by simp;omega) (by omega)) [0] rfl ?_;have f:rY (List.replicate k (46:UInt8)) af (aa 1)=[46]:=by
   obtain⟨m,rfl⟩:∃m,k=m+1:=⟨k-1,by omega⟩
   simp[rY,List.replicate_succ]
  refine cN a rfl ?_ ?_
  .simp;omega
  rw[f];refine AK.cQ (Ef g cap (List.replicate k 46) [46] (List.replicate k 46).length (by simp) (by simp;omega)) [0] rfl ?_;have i:List.replicate k (46:UInt8)++[46]=List.replicate (k+1) 46:=by rw[List.replicate_succ']
  rw[i];refine cN a rfl ar (AK.fG (k+1) rfl ?_ rfl ?_ ⟨by omega,by omega⟩ (by omega))
  .simp
  .refine au.cat.2 ⟨?_,ar⟩;simp
 .refine bt a [(113,ae)] rfl ?_ (AK.leave rfl rfl ?_)
  .simp;omega
  have e:k=n:=by omega
  subst e;refine cN a rfl ar ?_;refine AK.cQ (Eg g cap (List.replicate k 46) (k-1) (by simp;omega) (by omega)) [0] rfl ?_;exact cN a rfl ar (AK.bn rfl)
def Xo:dK X 218 Hf:=Uh (JZ 2 (by omega) (by omega)) (JZ 3 (by omega) (by omega))
def Ui:dK X 196 pq:=Uj Xo
def Room(bf:Option (Nat×Nat))(n:Nat):Prop:=match bf with|none=>n=0|some (_,cap)=>n<=cap/\0<cap
def _root_.Go.AM.dO.re{b:Type}{X:Cx P}{f:aK}{args:List D}{σ':ι->List bm}{a:b->D}{σ2:b->List bm}(h:dO X f args σ res σ')(g:ι->b)(c:∀i,a (g i)=res i)(d:∀i,σ2 (g i)=σ' i):dO X f args σ a σ2 :=
 ⟨h.1,λs vs h1 h2 S cs hS=>h.2 s vs h1 h2 S cs λi fr v s' k1 k2 k3 k4=>hS (g i) fr v s' k1 (by grind) (by grind) (by grind)⟩
def J0(n:Nat)(a:n<=140737488355328):dO (ι:={bf:Option (Nat×Nat) // Room bf n}) X 179 [.e (.one (.ptr 0 0)),dI n] [bb ae af [] 0] (λ_=>.fz []) (λj=>[bb ab j.1 [] 0]):=by
 by_cases h:n=0
 .subst h;exact JW.IJ.re (λ_=>⟨af,rfl⟩) (λ_=>rfl) (λ_=>rfl)
 .exact(F8 n (by omega) a).re (λp=>⟨aa p.1,p.2,by grind⟩) (λ_=>rfl) (λ_=>rfl)
def Eh(bf:Option (Nat×Nat))(xs s:Bs)(a:s.length<=9223372036854775807)(h:Room bf (xs.length+s.length)):Ev X 180 [.e (.one (.ptr 0 0)),dS s] [bb ab bf xs 0] (.fz [.one (.c (.int .i64 s.length)),.one (.c .o0)]) [bb ab bf (xs++s) 0]:=by
 cases bf with
 |none =>
  have h:xs.length+s.length=0:=h;grind[Rn]
 |some p=>exact Ef p.1 p.2 xs s 0 a h.1
def shown(bf:Option (Nat×Nat))(xs:Bs):Nat:=match bf with|none=>0|some _=>xs.length
def NP(bf:Option (Nat×Nat))(xs:Bs)(a:xs.length<=9223372036854775807)(h:Room bf xs.length):Ev X 181 [.e (.one (.ptr 0 0))] [bb ab bf xs 0] (dS xs) [bb ab bf xs (shown bf xs)]:=by
 cases bf with
 |none =>
  have h:xs.length=0:=h;have b:xs=[]:=jr h;subst b;exact NN
 |some p=>exact Eg p.1 p.2 xs 0 a (by have:=h.2;omega)
def F9(l:List Bs)(i:Nat):Bs:=(l.take i).flatten
def J1{l:List Bs}(h:i<l.length):F9 l (i+1)=F9 l i++l.getD i []:=by unfold F9;grind[List.take_add_one]
def Uk{l:List Bs}:F9 l l.length=l.flatten:=by simp[F9]
def J2{l:List Bs}(i:Nat):(F9 l i).length<=l.flatten.length:=by
 have e:l.flatten=(l.take i).flatten++(l.drop i).flatten:=by grind[List.take_append_drop]
 rw[e,cf];simp only[F9];omega
def NR(l:List Bs)(r:l.flatten.length<=140737488355328):Ev X 125 [cS.sl l,dS []] [] (dS l.flatten) []:=by
 refine Ev.bQ Tryz.func125 rfl λq=>?_;have g:=q.sl 0 rfl;by_cases k:l=[]
 .subst k;refine aX [(14,ab)] rfl ?_ (AK.bn rfl)
  .simp
 by_cases s:l.length=1
 .obtain⟨x,rfl⟩:=List.length_eq_one_iff.1 s;refine aX [(14,ae),(16,ab)] rfl ?_ (AK.bn rfl ?_)
  .simp
  .simp[cS,kh.fn]
 have v:2<=l.length:=by
  have:l.length≠0:=by grind
  omega
 refine aX [(14,ae),(16,ae),(22,ae)] rfl ?_ ?_
 .simp[k];omega
 refine AK.ji (λi=>i<=l.length) (λi:Nat=>[(0,cS.sl l),(1,dS []),(5,dI (F9 l i).length),(39,cS.sl l),(40,dI l.length),(41,dI i)]) (λ_=>[]) (λi=>l.length-i) 0 rfl ?_ rfl ar (by omega) ?_
 .simp[F9]
 .intro i hi;have u:=J2 (l:=l) i;by_cases h:i<l.length
  .have d:=J2 (l:=l) (i+1);rw[J1 h,cf]at d;refine aX [(42,ab),(49,ae)] rfl ?_ (AK.fG (i+1) rfl ?_ rfl ar (by omega) (by omega))
   .have e:(l.getD (i:Int).toNat cS.bP)=l.getD i []:=rfl;simp only[au,bx,e];grind
   .have e:(l.getD (i:Int).toNat cS.bP)=l.getD i []:=rfl;rw[J1 h];rw[e];simp
  .have e:i=l.length:=by omega
   subst e;refine aX [(42,ae),(1000018,ab)] rfl ?_ (AK.leave rfl rfl ?_)
   .simp
   refine aX [(1000018,ab)] rfl ar ?_;refine AK.region ?_;refine AK.law (JX rfl) rfl rfl ?_;refine c9 rfl ar ?_;rw[Uk];refine AK.cP (J0 l.flatten.length r) [0] rfl (λ_=>rfl) λj=>?_;obtain⟨bf,b⟩:=j;refine c9 rfl ?_ ?_
   .exact⟨by omega,show(0:Int)<(l.length:Int) by omega⟩
   have room:∀n,n<=l.flatten.length->Room bf n:=λn t=>by
    cases bf with
    |none =>
     have:l.flatten.length=0:=b;grind
    |some p=>exact⟨dT t b.1,b.2⟩
   have m:F9 l 1=l.getD 0 []:=by rw[J1 (by omega)];simp[F9]
   have f:=J2 (l:=l) 1;rw[m]at f;refine AK.cQ (Eh bf [] (l.getD 0 []) (by omega) (room _ (by grind))) [0] rfl ?_;refine c9 rfl ?_ ?_
   .exact⟨by omega,show(1:Int)<=(l.length:Int) by omega⟩
   refine AK.ji (λi=>i+1<=l.length) (λi:Nat=>[(1,dS []),(8,.e (.one (.ptr 0 0))),(63,.e (.one (.c (.sl ae 1 (l.length-1) (mN 1 (cS.fn l)))))),(64,dI (l.length-1:Nat)),(65,dI i)]) (λi=>[bb ab bf (F9 l (i+1)) 0]) (λi=>l.length-i) 0 rfl ?_ rfl ?_ (by omega) ?_
   .simp[cD]
   .refine au.cat.2 ⟨?_,ar⟩;rw[bA,m];exact rfl
   intro i hi;have o:=J2 (l:=l) (i+1);by_cases h:i+1<l.length
   .have a:=J2 (l:=l) (i+2);rw[J1 h,cf]at a;refine aX [(66,ab)] rfl ?_ ?_
    .exact⟨by omega,by omega,dc (by omega)⟩
    refine AK.cQ (Eh bf (F9 l (i+1)) [] (by simp) (room _ (by grind))) [0] rfl ?_;rw[kK];refine bw rfl ar ?_;refine AK.cQ (Eh bf (F9 l (i+1)) (l.getD (1+i) []) (by grind) (room _ (by grind))) [0] rfl ?_;refine bw rfl ?_ (AK.fG (i+1) rfl ?_ rfl ?_ (by omega) (by omega))
    .simp only[au,bx];omega
    .simp
    .refine au.cat.2 ⟨?_,ar⟩;rw[J1 h,Nat.add_comm 1 i];exact rfl
   .have e:i+1=l.length:=by omega
    refine aX [(66,ae)] rfl ?_ (AK.leave rfl rfl ?_)
    .exact gx (by omega)
    rw[e,Uk];refine bw rfl ar ?_;refine AK.cQ (NP bf l.flatten (by omega) (room _ (by omega))) [0] rfl ?_;exact bw rfl ar (AK.bn rfl)
def Hj{s:Bs}(h:b9 s=ab)(i:Nat)(hi:i<s.length):97<=cz s i/\cz s i<=122:=by have a:=List.all_eq_true.1 h (s.getD i 0) (by grind);simp only[eH,bR,bq]at a;unfold cz;omega
def Ck(s:Bs)(i:Nat)(a:b9 s=ab)(f:3<=i)(hi:i<=s.length)(j:s.length<=4000000):Ev X 223 [dS s,dI i] [] (dB (iJ s i)) []:=by
 refine Ev.bQ Tryz.func223 rfl λh=>?_;have g:=Hj a (i-1) (by omega);have k:=Hj a (i-2) (by omega);have e:=Hj a (i-3) (by omega);have c:((iL s ((i:Int)-1)).toNat:Int)=cz s (i-1):=by grind[cE]
 have b:((iL s ((i:Int)-2)).toNat:Int)=cz s (i-2):=by grind[cE]
 have d:((iL s ((i:Int)-3)).toNat:Int)=cz s (i-3):=by grind[cE]
 refine bw rfl ?_ (AK.bn rfl ?_)
 .simp only[au,bx,c,b,d];omega
 .simp only[au,au.cat,c,b,d,iJ,dl,aE];grind
def Hk:dK X 223 (n6 aS aI (λs i=>dB (iJ s i.toNat)) λs i=>[b9 s=ab,3<=i,i<=s.length,s.length<=4000000]):=.qK λs i h=>by
 obtain⟨a,c,d,b⟩:=h;obtain⟨m,rfl⟩:∃m:Nat,i=m:=⟨i.toNat,by omega⟩
 exact Ck s m a (by omega) (by omega) b
def AE{a b:Int}(m:Int)(h:o.op=.call {callee:=.builtin .min,args:=#[x,y],argTypes:=jP})(l:η x=dI a)(k:η y=dI b)(p:min a b=m)(n:bx .i64 m):bE ag o η σ (dI m) σ:=by
 refine .quiet λs j q d=>?_;have f:=d x;have c:=d y;rw[l]at f;rw[k]at c;replace f:=fI f;replace c:=fI c;generalize i:j x=vx at f;generalize g:j y=vy at c;cases f;cases c;have e:(if b<a then b else a)=m:=by grind
 exact⟨.int .i64 m,by simp[ak,h,resolve,invoke,builtin,i,g,Builtin.min_,Builtin.min2,e],.int n,by simp[ak,h,resolve,invoke,builtin,i,g,Builtin.min_,Builtin.min2]⟩
theorem Kg{t:Bs}{f:Nat}(h:t.length<=f+3+j)(c:j<=5):tr t f (5-j)=min (f+8) t.length:=by
 rcases cG j 5 with a|a
 .obtain⟨k,b⟩:∃k,5-j=k+1:=⟨4-j,by omega⟩
  rw[b];simp only[tr];grind
 .rw[show 5-j=0 by omega];rfl
def Hl(t:Bs)(f:Nat)(m:b9 t=ab)(n:f<=t.length)(r:t.length<=4000000):Ev X 211 [dS t,dI f] [] (dI (cutAt t f)) []:=by
 refine Ev.bQ Tryz.func211 rfl λq=>?_;have a:bG X [(223,n6 aS aI (λs i=>dB (iJ s i.toNat)) λs i=>[b9 s=ab,3<=i,i<=s.length,s.length<=4000000])]:=.cons Hk .nil;refine bZ a rfl ?_ ?_
 .simp[bx];omega
 refine AK.ji (λj=>j<=5/\tr t f (5-j)=cutAt t f) (λj:Nat=>[(0,dS t),(1,dI f),(5,dI (f+3+j))]) (λ_=>[]) (λj=>5-j) 0 rfl ?_ rfl ar ⟨by omega,rfl⟩ ?_
 .simp
 rintro j ⟨p,b⟩;by_cases h:j<5/\f+3+j<t.length
 .obtain⟨k,o⟩:∃k,5-j=k+1:=⟨4-j,by omega⟩
  have g:f+(7-k)=f+3+j:=by omega
  rw[o]at b;simp only[tr,g]at b;rw[a9 (by omega)]at b;have e:((f:Int)+3+j).toNat=f+3+j:=by omega
  cases c:iJ t (f+3+j)with
  |true =>
   rw[c,br rfl]at b;refine aR a [(11,ab),(16,ab),(22,ab)] rfl ?_ (AK.gI (ck.zero rfl ?_))
   .simp only[au,bx,e,c,m,bq,eq_self,aF,aE];omega
   .simp[<-b]
  |false =>
   rw[c,a9 (by simp)]at b;refine aR a [(11,ab),(16,ab),(22,ae)] rfl ?_ (AK.fG (j+1) rfl ?_ rfl ar ⟨by omega,by grind⟩ (by omega))
   .simp only[au,bx,e,c,m,bq,eq_self,aF,aE];omega
   .simp;omega
 .have e:cutAt t f=min (f+8) t.length:=by
   rw[<-b];rcases cG j 5 with d|d
   .grind [Kg]
   .rw[show 5-j=0 by omega];rfl
  have l:bx .i64 ((min (f+8) t.length:Nat):Int):=by simp only[bx];omega
  rcases cG j 5 with d|d
  .refine aR a [(11,ab),(16,ae)] rfl ?_ (AK.leave rfl rfl ?_)
   .simp only[au,bx,bq,cd];omega
   refine bZ a rfl ?_ ?_
   .simp only[au,bx];omega
   refine AK.law (AE ((min (f+8) t.length:Nat):Int) rfl rfl rfl (by omega) l) rfl rfl ?_;refine bZ a rfl ar (AK.bn rfl ?_);simp[e]
  .refine aR a [(11,ae)] rfl ?_ (AK.leave rfl rfl ?_)
   .simp only[au,bx,bq,cd];omega
   refine bZ a rfl ?_ ?_
   .simp only[au,bx];omega
   refine AK.law (AE ((min (f+8) t.length:Nat):Int) rfl rfl rfl (by omega) l) rfl rfl ?_;refine bZ a rfl ar (AK.bn rfl ?_);simp[e]
def Ry:dK X 211 (n6 aS aI (λs i=>dI (cutAt s i.toNat)) λs i=>[b9 s=ab,0<=i,i<=s.length,s.length<=4000000]):=.qK λs i h=>by
 obtain⟨a,c,d,b⟩:=h;obtain⟨m,rfl⟩:∃m:Nat,i=m:=⟨i.toNat,by omega⟩
 exact Hl s m a (by omega) b
abbrev PL(t:Bs):C:=.fn (.func 210) [] [.rp [.str t]]
theorem NY(t:Bs):Ev X 183 [dS t] [] (.e (.one (.c (PL t)))) []:=by refine Ev.bQ Tryz.func183 rfl λa=>?_;refine Eo [] 5 rfl ar ?_;refine AK.freeze 1 0 rfl rfl rfl ?_;exact bw rfl ar (AK.bn rfl)
def Hm{T:Type}(text:Bs)(u:b9 text=ab)(v:text.length<=4000000){l:Nat}{a:Fr}{k:Loop}(g B1 B2:T->bm)(R:Nat->T->Prop)(j:T)(q:R 0 j)(p:∀t,g t≠.qT/\B1 t≠.qT/\B2 t≠.qT)(b:∀f t,f<text.length->R f t->Yields (ι:={d:T // R (cutAt text f) d}) X 3 [dI f,dI (cutAt text f)] [g t,B1 t,B2 t,.loop l a k] ab (λd=>[g d.1,B1 d.1,B2 d.1,.loop l a k])):
  dO (ι:={t:T // R text.length t}) X 210 [.e (.one (.ref 3)),.e (.one (.c (.rp [.str text])))] [g j,B1 j,B2 j,.loop l a k] (λ_=>.fz []) (λi=>[g i.1,B1 i.1,B2 i.1,.loop l a k]):=by
 refine dO.DZ Tryz.func210 rfl rfl rfl (AK.of_code ?_);have m:bG X [(211,n6 aS aI (λs i=>dI (cutAt s i.toNat)) λs i=>[b9 s=ab,0<=i,i<=s.length,s.length<=4000000])]:=.cons Ry .nil;refine bZ m rfl ar ?_;show AW X _ (.loop _) _ _ _;refine AW.loop (S:=T×Nat) (λx=>x.2<=text.length/\R x.2 x.1) (λx=>[(0,.e (.one (.ref 3))),(1,.e (.one (.c (.rp [.str text])))),(3,dI x.2)]) (λx=>[g x.1,B1 x.1,B2 x.1,.loop l a k]) (λx=>text.length-x.2) (j,0) ⟨iT _,q⟩ (dj rfl (by simp)) rfl ?_;rintro⟨t,f⟩ ⟨r,n⟩;simp only at r n;refine AK.of_code ?_;by_cases h:f<text.length
 .have o:=nb text f h;refine aR m [(8,ab)] rfl ?_ ?_
  .simp only[au,u,bq,eq_self,aF,aE];omega
  refine AK.yield (b f t h n) rfl rfl rfl rfl rfl rfl λd=>?_;refine aR m [(16,ae)] rfl ?_ ?_
  .simp
  refine⟨(d.1,cutAt text f),⟨o.2.1,d.2⟩,?_,dj rfl (by simp),rfl⟩;grind
 .have e:f=text.length:=by omega
  subst e;refine aR m [(8,ae)] rfl ?_ ?_
  .simp
  refine AK.Jz rfl rfl ?_;exact⟨⟨t,n⟩,.inr rfl,rfl,j3 (p t).1 (j3 (p t).2.1 (j3 (p t).2.2 rfl)),[],.fz [],[],rfl,rfl,rfl,ar⟩
end
section
open Go.Proofs Go.Conc Go.Conc.Lib Go.ConcR.Gen
open Go.ConcN (WgLive PayAt Has RW AtR0)
open Go.ConcN.Gen
open Go.ConcR (KK WgAt stA smA rd wr mk Payload DC0)
def Km:Kj=#[{dst:=af,op:=.defer {callee:=.value (.func 122),args:=#[.tmp 0],argTypes:=#[164]},type:=0,pos:= "l12_snap.go:81",after:=#[],guard:=af}]:=by kernel_rfl
def bW(a:aj):aV:={baseD 121 with defers:=[dcall 122 #[a]]}
abbrev tW(v0 v1 v2 v3 v4 v5:aj):Array aj:=#[v0,v1,v2,v3,v4,v5,ah,ah,ah,ah,ah,ah,ah]
def RA(v0 v1 v2 v3 v4 v5:aj)(w:aA):Goes ag ae (λ_ _=>True) DC0 (λg _=>g=G ((bW v0).aT ⟨tW v0 v1 v2 v3 v4 v5,[]⟩ [.code (.region 1 Kk ab)]) [uF]) 8 (born ag (wN #[v0,v1,v2,v3,v4,v5])) w:=by
  have b:True:=ar;have a:True->True->True:=λ_ _=>trivial;refine Goes.step rfl (λw1 h1=>?_);rw[Hq];simp only[goes_go];refine⟨⟨rfl,rfl⟩,?_⟩;clear h1;rw[Km]
  u_c az a b
  u_reg a b
  u_defer a b
  u_c ay a b
  exact Goes.stop λ_ _=>rfl
def Xu(T:Array aj):QuitsD ag 2 0 (G {(baseD 121).at ⟨T,[]⟩ []with mode:=.returning} [uF]):=by
  have a:Tryz.f121.results=#[]:=by kernel_rfl
  refine QuitsD.ctl (g':=G uF []) rfl (λw=>?_) ?_
  · simp[G,aH,unwind,doReturn,results,Frame.at,baseD,uF,Tryz.func121,a,seen,GStep.after,goexitEntry]
  refine QuitsD.ctl (g':={G uF []with status:=.finished}) rfl (λw=>?_) ⟨rfl,rfl⟩;simp[G,aH,unwind,uF,goexitEntry,Frame.catches];rfl
section
variable {Y:Lay}
def tailW(x:Nat)(d:Y.kc=2)(T:Array aj)(w:aA)(a:WgLive 164 Y.Wg w/\Has Y.C (Y.kc*x+1-1) (val x 0) w):
    ∃m,Goes ag ae (RW 164 Y.Wg Y.C (2*n) 0 (Y.kc*x+1-1)) DC0 (AtR0 ag 164 Y.Wg Y.C (2*n) 0 (Y.kc*x+1) (val x 0)) m (G ((bW (.pointer (aa ⟨Y.Wg,0,af⟩))).aT ⟨T,[]⟩ [.inRegion uE.toArray []]) [uF]) w:=by
  refine⟨26,?_⟩;have e:(bW (.pointer (aa ⟨Y.Wg,0,af⟩))).aT ⟨T,[]⟩ [.inRegion uE.toArray []]=(baseD 121).at ⟨T,[dcall 122 #[.pointer (aa ⟨Y.Wg,0,af⟩)]]⟩ [.inRegion uE.toArray []]:=rfl;rw[e]
  u_c ay kn_rely a
  u_c stepG_end kn_rely a
  u_in kn_rely a
  rw[stepG_unwind_enter (c:=body_done PO) rfl Co.f_done (by kernel_rfl) (by kernel_rfl)];simp only[goes_go];refine⟨by u_nil,?_⟩;have b:=Us (P:=ag) (L:=PO) (Wg:=Y.Wg) (C:=Y.C) (n:=2*n) (Low:=0) (x:=Y.kc*x+1) (val:=val x 0) (c:={(baseD 121).at ⟨T,[]⟩ []with mode:=.returning}) (cs:=[uF]) Co rfl (Xu T) _ a;exact b
def rd_str{l:Bs}(h:Rd M v (.str l)):v=.string ⟨l.toArray⟩:=by
  cases h with
  | str h1 h2=>rw[<-h1]
def rd_bool{b:Bool}(h:Rd M v (.bool b)):v=.bool b:=by cases h;rfl
def SY:aB:=oW af (.store 166 (.tmp 12) (.tmp 11)) 0 #[⟨6,.data⟩,⟨5,.data⟩,⟨5,.chain⟩,⟨0,.phase⟩,⟨1,.phase⟩,⟨2,.phase⟩,⟨3,.phase⟩,⟨4,.phase⟩,⟨5,.phase⟩]
def Ut{x:Nat}(hx:x<n)(B:Y.kc=2){k:Int}{ps:List bc}{I:Int}(H:val x 0=.string ⟨((cY k ps I).getD []).toArray⟩)(D:val x 1=.bool (cY k ps I).isSome){T:Array aj}(l:dm [] s (T.getD 12 ah) (xW k ps I n x Y.C 6))(g:dm [] s (T.getD 11 ah) (VO (cY k ps I))):
    Je ag 164 Y (2*n) val x (G ((bW (.pointer (aa ⟨Y.Wg,0,af⟩))).aT ⟨T,[]⟩ [.inRegion uE.toArray [7]]) [uF]) s:=by
  have l:T.getD 12 ah=.pointer (aa ⟨Y.C,x*2,af⟩):=Rd.fu l;have g:T.getD 11 ah=.agg #[val x 0,val x 1]:=by
    obtain⟨vs,W,d⟩:=g
    match vs,d with
    | [],d=>exact d.elim
    | [_],d=>exact d.2.elim
    | _::_::_::_,d=>exact d.2.2.elim
    | [u0,u1],d =>
      rw[W,rd_str d.1,rd_bool d.2.1,H,D]
  refine⟨rfl,λw1 hr Jl Kn=>?_⟩;obtain⟨cs,c,V⟩:=Jl;have L:Y.kc*x=x*2:=by grind
  have E:∀v∈[val x 0,val x 1],v.oneCell'=ab:=by
    intro v M;simp only[dC,nK,or_false]at M;rcases M with rfl|rfl
    · rw[H];rfl
    · rw[D];rfl
  have r:x*2+0+[val x 0,val x 1].length<=cs.size:=by grind
  have m:=run_storeCells_at ag Y.C (x*2) 166 [val x 0,val x 1] 0 cs w1 c r E;simp only[ia,fQ,jz,bA]at m;generalize q:(cs.toList.take (x*2)++[val x 0,val x 1]++cs.toList.drop (x*2+2)).toArray=new at m;have U:new.size=cs.size:=by grind
  have t:=setRow_heap w1 Y.C cs new 166 (0,0) c;have y:∀o,(w1.setRow Y.C new).cell? ⟨Y.C,o,af⟩=new[o]?:=λo=>cell_setRow_same w1 Y.C o cs new 166 (0,0) c;have J:∀o,w1.cell? ⟨Y.C,o,af⟩=cs[o]?:=λo=>by simp[aW,c]
  have X:∀i,i<2->new[x*2+i]?=aa (val x i):=by
    intro i hi;rw[<-q];have K:(cs.toList.take (x*2)).length=x*2:=by grind
    rw[jV];simp only[hX];rw[fA (by omega),K]
    match i,hi with
    | 0,_=>simp
    | 1,_=>simp
  have O:∀o,(o<x*2∨x*2+2<=o)->new[o]?=cs[o]?:=by
    intro o ho;rw[<-q];have K:(cs.toList.take (x*2)).length=x*2:=by grind
    rw[jV];simp only[hX];rcases ho with ho|ho
    · grind
    · rw[fA (by omega),K,fA (by grind)]
      simp only[fQ,jz,oS];rw[show x*2+2+(o-x*2-(0+1+1))=o by omega];simp
  have z:(Value.agg #[val x 0,val x 1]).cells=#[val x 0,val x 1]:=rfl;have A:(ak (⟨T,[]⟩:Act).eval SY).run ag w1=.ok .skip (w1.setRow Y.C new):=by have w:(⟨T,[]⟩:Act).eval (.tmp 12)=.pointer (aa ⟨Y.C,x*2,af⟩):=l;have u:(⟨T,[]⟩:Act).eval (.tmp 11)=.agg #[val x 0,val x 1]:=g;simp[ak,SY,oW,w,u,Instr.storeAt,Instr.sureAddr,storeVar,(tok 166 i166 rfl).run_sizeOf,i166,z,m]
  have f:∀e∈(ak (⟨T,[]⟩:Act).eval SY).events ag w1 #[],∃j,j<2/\e=GM Y.C (x*2+j):=by
    intro P f;have w:(⟨T,[]⟩:Act).eval (.tmp 12)=.pointer (aa ⟨Y.C,x*2,af⟩):=l;have u:(⟨T,[]⟩:Act).eval (.tmp 11)=.agg #[val x 0,val x 1]:=g;have e:ak (⟨T,[]⟩:Act).eval SY=(do storeVar 166 ⟨Y.C,x*2,af⟩ (.agg #[val x 0,val x 1]);pure .skip):=by simp[ak,SY,oW,w,u,Instr.storeAt,Instr.sureAddr]
    rw[e]at f;have F:P∈(storeCells ⟨Y.C,x*2,af⟩ [val x 0,val x 1]).events ag w1 #[]:=by simp only[storeVar,aP,(tok 166 i166 rfl).run_sizeOf,i166,z,aU,events_sizeOf,cU,bS,bT,cm,Sem.events_pure]at f;simpa[m]using f
    rcases ek [val x 0,val x 1] 0 cs w1 #[] c r E P F with R|⟨j,_,Q,rfl⟩
    · grind
    grind
  have p:WgLive 164 Y.Wg (w1.setRow Y.C new):=by
    obtain⟨st,N,h⟩:=Kn;refine⟨st,N,?_⟩;show(w1.setRow Y.C new).heap[Y.Wg]?=_;rw[setRow_other w1 Y.C Y.Wg new ?_]
    · exact h
    · intro e
      have d:w1.heap[Y.Wg]?=aa (Go.ConcR.wgBlock 164 st N):=h;rw[e,c]at d;simp[Go.ConcR.wgBlock]at d;exact absurd d.2 (by decide)
  refine⟨_,w1.setRow Y.C new,_,Fq (b:=bW (.pointer (aa ⟨Y.Wg,0,af⟩))) (a:=⟨T,[]⟩) (k:=[]) (ops:=uE.toArray) (i:=7) (rest:=[]) (o:=SY) rfl rfl (by simp[bW,baseD]) A,?_,?_,?_⟩
  · refine⟨rfl,rfl,rfl,by simp,λb S=>setRow_other w1 Y.C b new S,⟨new,t,by grind⟩,λo ho=>?_,λi hi=>?_⟩
    · grind
    · rw[B]at hi
      rw[y,L];grind
  · intro e Z
    obtain⟨j,Q,rfl⟩:=f e (Go.Conc.mem_seen Z);exact⟨x*2+j,rfl,by omega,by omega⟩
  · exact tailW x B T _ ⟨p,by show(w1.setRow Y.C new).cell? _=_;grind⟩
def worker{k:Int}(e:dK (Cx.work ag) 123 (lQ k)){x:Nat}(p:x<n)(f:Y.kc=2){ps:List bc}{d:Int}(l:val x 0=.string ⟨((cY k ps d).getD []).toArray⟩)(i:val x 1=.bool (cY k ps d).isSome)(z:aD [] s)(F:s.β=[]){v1 v2 v3 v4 v5:aj}(r:Rd s.M v1 (.rp [.int .i64 k]))(u:Rd s.M v2 (.rp [.sl ae 2 ps.length (cP.fn ps)]))(m:Rd s.M v3 (.rp [.int .i64 d]))(o:Rd s.M v4 (.rp [.val (.slice (aa ⟨Y.C,0,af⟩) n n)]))(q:Rd s.M v5 (.rp [.int .i64 x])):
    ei (Cx.work ag) E0 (Je ag 164 Y (2*n) val x) (born ag (wN #[.pointer (aa ⟨Y.Wg,0,af⟩),v1,v2,v3,v4,v5])) s:=by
  refine ei.goes (X:=Cx.work ag) (R:=λ_ _=>True) (D:=DC0) (Stop:=λg _=>g=G ((bW (.pointer (aa ⟨Y.Wg,0,af⟩))).aT ⟨tW (.pointer (aa ⟨Y.Wg,0,af⟩)) v1 v2 v3 v4 v5,[]⟩ [.code (.region 1 Kk ab)]) [uF])
    (λb=>aD [] b/\b.M=s.M) (λb s2 h v=>⟨h.1.rely v,v.M.trans h.2⟩) (λ_ _ _ _=>trivial) ?_ (λb h=>b6.vX h.1.mem) ?_ 8 _ s ⟨z,rfl⟩ (RA _ _ _ _ _ _ _)
  · rintro b es h w' ⟨rfl,rfl⟩
    exact⟨rfl,.inl (.quiet h.1)⟩
  · rintro g b ⟨j,B⟩ rfl
    rw[N3];refine fy.toE (λ_ _ _ h=>h) ?_;refine(Ur e ps d n x Y.C p (.pointer (aa ⟨Y.Wg,0,af⟩))).region (by kernel_rfl) (by simp[bW,baseD]) ⟨by simp[tW],⟨[],ar⟩,λt=>?_⟩ rfl j λs2 a y c A E st=>.stop ?_
    · rw[<-B]at r u m o q
      match t with
      | 0=>exact Rd.val rfl
      | 1=>exact r
      | 2=>exact u
      | 3=>exact m
      | 4=>exact o
      | 5=>exact q
      | t+6=>trivial
    · obtain⟨T,w⟩:=a
      obtain rfl:w=[]:=A;exact Ut p f l i (c 12) (c 11)
end
end
section
open Go.Proofs Go.Conc Go.Conc.Lib
open Go.ConcN (WgLive PayAt Has RW AtR0)
open Go.ConcR (KK WgAt stA smA rd wr mk Payload DC0)
def wO:Code->Code|.seq a _=>a|c=>c
def kD:Code->Code|.seq _ a=>a|c=>c
def Uu:Code->Code|.block _ a=>a|c=>c
def Xv:Code->Code|.loop a=>a|c=>c
def RB:Code->Array aB|.region _ o _=>o|_=>#[]
noncomputable def EA:Code:=(Tryz.f96.body).getD .skip
noncomputable def iw:Code:=Xv (Uu (kD (wO (kD (kD (kD EA))))))
noncomputable def Za:Code:=wO iw
noncomputable def RD:Code:=Uu (wO (kD (kD iw)))
noncomputable def Zb:Code:=wO RD
noncomputable def AH:Array aB:=RB (wO (kD RD))
noncomputable def x6:Array aB:=RB (kD (kD RD))
noncomputable def MD:Code:=kD (kD (kD iw))
noncomputable def nh:Code:=kD (kD (kD (kD EA)))
noncomputable def x7:Array aB:=RB (wO nh)
noncomputable def qL:Code:=kD nh
def Cp:iw=.seq Za (.seq (.cond (.tmp 21) .skip (.exit 0)) (.seq (.block 1 (.seq Zb (.seq (.region 6 AH ae) (.region 7 x6 ae)))) MD)):=by kernel_rfl
def Ko:nh=.seq (.region 9 x7 ae) qL:=by kernel_rfl
def NQ(j:Fr)(σ1:List bm):Post:=λe φ σ=>e=.normal/\se φ j/\σ=σ1
structure At(σ0:List bm)(s0:St)(φ:Fr)(σ:List bm)(a:Act)(s:St):Prop where
 fr:cr 45 σ s φ a
 hh:aD σ s
 st:cR σ0 s0 σ s
section
variable {σ0:List bm}{s0:St}{φ j:Fr}{σ σ1:List bm}{a:Act}{s:St}
def At.rely(h:At σ0 s0 φ σ a s){d:St}(c:b6 s d):At σ0 s0 φ σ a d:=⟨h.fr.rely c h.hh,h.hh.rely c,h.st.trans c.stepW⟩
structure ME(b:Nat)(s:St):Prop where
 own:¬s.own b
 β:∀L∈s.β,b∉L.bs
 M:∀o,s.M b o=af
 lt:b<s.w.heap.size
def ME.step{b:Nat}(h:ME b s0)(st:cR σ0 s0 σ s):ME b s :=
 ⟨by rw[st.own];exact h.own,λL d hb=>by
  rcases st.uW L d b hb with h1|⟨e,c,h1⟩
  .have:=h.lt;omega
  .exact h.β e c h1,λo=>by rw[st.iO b h.lt h.β];exact h.M o,cB h.lt st.size⟩
def At.apart{Wg:Nat}(e:ME Wg s0):Apart Wg (At σ0 s0 φ σ a) :=
 ⟨λ_ _ h d=>h.rely d,λ_ h=>⟨σ,h.hh⟩,λ_ h=>let c:=e.step h.st;⟨c.own,c.β,c.M⟩⟩
variable {X:Cx ag}{S:aq->St->Prop}{b:aV}{k:List Item}{cs:List aV}
def At.ctl(h:At σ0 s0 φ σ a s){g g':aq}(e:g.status=.running)(d:∀w,aH ag X.main g w=.go g' w #[])(kk:∀c,At σ0 s0 φ σ a c->fy X S g' c):fy X S g s :=
 .ctl h.hh e d λc h1=>kk c (h.rely h1)
def At.code(h:At σ0 s0 φ σ a s)(hb:b.kind≠.early){c:Code}(f:AW X 45 c (NQ j σ1) φ σ)(kk:∀a1 s1,At σ0 s0 j σ1 a1 s1->fy X S (G (b.aT a1 k) cs) s1):fy X S (G (b.aT a (.code c::k)) cs) s:=by refine f s a h.fr h.hh b k cs S hb ?_;rintro e φ' σ' s' a' ⟨rfl,hl,rfl⟩ i g d;exact kk a' s' ⟨i.le hl,g,h.st.trans d⟩
end
def fy.live{Wg:Nat}{E:St->St->Array Event->Prop}{S:aq->St->Prop}{g:aq}{s:St}(h:fy (Cx.lead ag 164 Wg) S g s)(e:Clear (λb=>b=Wg) s)(hl:WgLive 164 Wg s.w):
  ei (Cx.lead ag 164 Wg) E (λg s=>S g s/\WgLive 164 Wg s.w) g s:=by
 induction h with
 |stop h=>exact⟨.leaf,h,hl⟩
 |@step g s q ns ne hr h1 h2 _ n =>
  refine .step hr λf c=>?_;have i:=c.2 hl;have d:Clear (λb=>b=Wg) f:=⟨λb hb=>by rw[c.1.own];exact e.own b hb,λb hb=>by rw[c.1.β];exact e.β b hb,λb hb o=>by rw[c.1.M];exact e.M b hb o,λb hb=>cB (e.lt b hb) c.1.size⟩
  obtain⟨⟨σ,σ',hh,l,st⟩,m⟩:=h2 f c;refine⟨_,_,_,h1 f c,.inl ⟨⟨σ,σ',hh,l,st⟩,m⟩,n f c (d.step st) ?_⟩;obtain⟨x,y,p⟩:=i;exact⟨x,y,by show(ns f).w.heap[Wg]?=_;rw[st.keep Wg (d.lt Wg rfl) (d.β Wg rfl)];exact p⟩
 |ghost hg _ n=>exact .ghost hg (n (e.ghost hg) (by rw[hg.w];exact hl))
 |forget hx _ _ _=>exact hx.elim
 |vo hj _ _=>exact hj.elim
def ME.clear{Wg:Nat}{s:St}(h:ME Wg s):Clear (λb=>b=Wg) s:=⟨λb e=>e▸h.own,λb e=>e▸h.β,λb e=>e▸h.M,λb e=>e▸h.lt⟩
section
variable (k:Int)(ps:List bc)(ns:List Int)(C Wg:Nat)
def mO(i:Nat):Fr:=[(3,.e (.one (.c (.rp [.int .i64 k])))),(4,.e (.one (.c (.rp [.sl ae 2 ps.length (cP.fn ps)])))),(8,.e (.one (.c (.rp [.val (.slice (aa ⟨C,0,af⟩) ns.length ns.length)])))),(9,.e (.one (.v (.pointer (aa ⟨Wg,0,af⟩))))),
 (18,cI.sl ns),(19,dI ns.length),(20,dI i)]
variable {k ps ns C Wg}{X:Cx ag}{σ:List bm}
def Zc{i:Nat}(hi:i<=ns.length):AW X 45 Za (NQ ((21,dB (decide (i<ns.length)))::mO k ps ns C Wg i) σ) (mO k ps ns C Wg i) σ:=by
 refine AK.of_code ?_;by_cases h:i<ns.length
 .refine aX [(21,ab)] rfl ?_ ⟨rfl,dj rfl ?_,rfl⟩
  .simp;omega
  .simp[h]
 .refine aX [(21,ae)] rfl ?_ ⟨rfl,dj rfl ?_,rfl⟩
  .simp;omega
  .simp[h]
abbrev d5:List bm:=[.dead,.dead,.dead,.dead,.dead]
def pR5{i:Nat}(hi:i<ns.length):AW X 45 Zb (NQ ((10,.e (.one (.ptr 5 0)))::(11,.e (.one (.ptr 6 0)))::mO k ps ns C Wg i) [.dead,.dead,.dead,.dead,.dead,.cells 3 [.c (.int .i64 i)],.cells 3 [.c (.int .i64 (ns.getD i 0))]]) (mO k ps ns C Wg i) d5:=by
 refine AK.of_code ?_;refine bw rfl ?_ ⟨rfl,dj rfl ?_,?_⟩
 .simp;omega
 .simp
 grind
def pR8{i:Nat}(hi:i<ns.length)(c:ns.length<=4000000):AW X 45 MD (NQ (mO k ps ns C Wg (i+1)) d5) (mO k ps ns C Wg i) d5:=by
 refine AK.of_code ?_;refine bw rfl ?_ ⟨rfl,dj rfl ?_,rfl⟩
 .simp[bx];omega
 .simp
variable {σ0:List bm}{s0:St}{S:aq->St->Prop}{b:aV}{kk:List Item}{cs:List aV}
abbrev d7:List bm:=[.dead,.dead,.dead,.dead,.dead,.dead,.dead]
variable (k ps ns C Wg)in
abbrev rj(i:Nat):Fr:=(11,.e (.one (.c (.rp [.int .i64 (ns.getD i 0)]))))::(10,.e (.one (.c (.rp [.int .i64 i]))))::mO k ps ns C Wg i
noncomputable abbrev tw(kk:List Item):List Item:=.code (.region 7 x6 ae)::.inBlock 1::.code MD::.inLoop iw::.inBlock 0::kk
def vd{P:aO}{main:Bool}{b:aV}{a:Act}{k:List Item}{cs:List aV}{w:aA}{c x y:Code}(h:c=.seq x y):aH P main (G (b.aT a (.code c::k)) cs) w=.go (G (b.aT a (.code x::.code y::k)) cs) w:=by grind[nO]
def toAdd{i:Nat}(hi:i<ns.length)(n:b.kind≠.early){a:Act}{s:St}(h:At σ0 s0 (mO k ps ns C Wg i) d5 a s)(K:∀m l,At σ0 s0 (rj k ps ns C Wg i) d7 m l->fy X S (G (b.aT m (.inRegion AH [0]::tw kk)) cs) l):
  fy X S (G (b.aT a (.code iw::.inLoop iw::.inBlock 0::kk)) cs) s:=by
 refine h.ctl rfl (λw=>vd Cp) λs h=>?_;refine h.code n (Zc (Nat.le_of_lt hi)) λa s h=>?_;refine h.ctl rfl (λw=>nO) λs h=>?_;have p:a.eval (.tmp 21)=.bool ab:=by have:=h.fr.slot 21;simp only[hi,l9]at this;exact rd_bool (fI this)
 refine h.ctl rfl (λw=>uX p) λs h=>?_;refine h.ctl rfl (λw=>Fo) λs h=>?_;refine h.ctl rfl (λw=>nO) λs h=>?_;refine h.ctl rfl (λw=>rP) λs h=>?_;refine h.ctl rfl (λw=>nO) λs h=>?_;have h:At σ0 s0 (mO k ps ns C Wg i) d5 a s:=⟨h.fr.le (dj rfl (by simp)),h.hh,h.st⟩
 refine h.code n (pR5 hi) λa s h=>?_;obtain⟨l,w1,q,d,e⟩:=cr.freeze 10 5 (E:=3) (cs:=[.c (.int .i64 i)]) (cc:=[.int .i64 i]) rfl rfl rfl h.fr h.hh;refine .ghost (.of h.hh d w1 (e.ow h.hh)) ?_;obtain⟨s2,w2,o,g,f⟩:=cr.freeze 11 6 (E:=3) (cs:=[.c (.int .i64 (ns.getD i 0))]) (cc:=[.int .i64 (ns.getD i 0)]) rfl rfl rfl q d;refine .ghost (.of d g w2 (f.ow d)) ?_;have h:At σ0 s0 (rj k ps ns C Wg i) d7 a s2:=⟨o.le (dj rfl (by simp)),g,h.st.trans ((e.ow h.hh).trans (f.ow d))⟩
 refine h.ctl rfl (λw=>nO) λs h=>?_;refine h.ctl rfl (λw=>qa) λs h=>?_;exact K a s h
def o6:aB:={dst:=aa 25,op:=.call {callee:=.value (.func 120),args:=#[.tmp 9,.const (.int .i64 1)],argTypes:=#[164,3]},type:=0,pos:= "l12_snap.go:79",after:=#[],guard:=af}
theorem Gd:AH=#[o6]:=by kernel_rfl
def Kp{i:Nat}(l:b.kind≠.early){a:Act}{s:St}(h:At σ0 s0 (rj k ps ns C Wg i) d7 a s)(K:∀c,At σ0 s0 (rj k ps ns C Wg i) d7 a c->fy X S (G (Frame.enter ag 120 #[.pointer (aa ⟨Wg,0,af⟩),.int .i64 1] .normal) (b.aT a (.inRegion AH [0]::tw kk)::cs)) c):
  fy X S (G (b.aT a (.inRegion AH [0]::tw kk)) cs) s:=by
 refine .next rfl λc d=>?_;have e:=h.rely (X.ij d);have g:a.eval (.tmp 9)=.pointer (aa ⟨Wg,0,af⟩):=Rd.fu (e.fr.slot 9);have m:(ak a.eval o6).run ag c.w=.ok (.enter 120 #[.pointer (aa ⟨Wg,0,af⟩),.int .i64 1]) c.w:=by have:=run_call_body (P:=ag) (a:=a) (w:=c.w) (o:=o6) (f:=120) (fn:=Tryz.f120) rfl Tryz.func120 (by kernel_rfl) (by kernel_rfl);rw[this,<-g];simp only[List.map_toArray,jA,List.map_nil];rfl
 have p:(ak a.eval o6).events ag c.w #[]=#[]:=events_call_body (P:=ag) (a:=a) (w:=c.w) (o:=o6) (f:=120) (fn:=Tryz.f120) rfl Tryz.func120 (by kernel_rfl) (by kernel_rfl) #[];have n:listed ag b.fn a o6 c.w=#[]:=by unfold listed;grind[seen_none]
 refine⟨_,c,#[],?_,.quiet e.hh,K c e⟩;have:=oT (P:=ag) (main:=X.main) (b:=b) (a:=a) (k:=tw kk) (cs:=cs) (w:=c.w) (ops:=AH) (i:=0) (rest:=[]) (o:=o6) (by grind[Gd]) rfl l m;grind
def Uv:aB:={dst:=aa 26,op:=.makeFunc (.func 121) #[] #[.tmp 9,.tmp 3,.tmp 4,.tmp 11,.tmp 8,.tmp 10],type:=1,pos:= "l12_snap.go:80",after:=#[],guard:=af}
def N5:aB:={dst:=af,op:=.go {callee:=.value (.tmp 26),args:=#[],argTypes:=#[]},type:=0,pos:= "l12_snap.go:80",after:=#[⟨0,.data⟩],guard:=af}
theorem Ge:x6=[Uv,N5].toArray:=by kernel_rfl
variable (k ps ns C Wg)in
abbrev EB(i:Nat):AM.C:=.fn (.func 121) [] [.val (.pointer (aa ⟨Wg,0,af⟩)),.rp [.int .i64 k],.rp [.sl ae 2 ps.length (cP.fn ps)],.rp [.int .i64 (ns.getD i 0)],.rp [.val (.slice (aa ⟨C,0,af⟩) ns.length ns.length)],.rp [.int .i64 i]]
def Uw{i:Nat}:OA X 45 [Uv,N5] Uv ((25,.any)::rj k ps ns C Wg i) d7 (.e (.one (.c (EB k ps ns C Wg i)))) d7:=by have h:vJ tt [] [] [Uv,N5] ((25,.any)::rj k ps ns C Wg i) d7 Uv=aa (.e (.one (.c (EB k ps ns C Wg i))),af,[]):=rfl;exact fJ tok bG.nil h ar
def Xw{i:Nat}(o:b.kind≠.early){a:Act}{s:St}(h:At σ0 s0 (rj k ps ns C Wg i) d7 a s)(K:∀v g c,At σ0 s0 (rj k ps ns C Wg i) d7 g c->Rd c.M v (EB k ps ns C Wg i)->g.tmps.getD 26 ah=v->fy X S (G (b.aT g (.inRegion x6 [1]::.inBlock 1::.code MD::.inLoop iw::.inBlock 0::kk)) cs) c):
  fy X S (G (b.aT (a.put (aa 25) (.tuple #[])) (.inRegion AH []::tw kk)) cs) s:=by
 have n:At σ0 s0 ((25,.any)::rj k ps ns C Wg i) d7 (a.put (aa 25) (.tuple #[])) s:=⟨h.fr.put (by decide) ar,h.hh,h.st⟩
 refine n.ctl rfl (λw=>iQ) λs h=>?_;refine h.ctl rfl (λw=>qa) λs h=>?_;rw[Ge];refine Uw s _ h.fr h.hh b _ cs S 0 [1] o rfl λv c f l e=>?_;have f:Rd c.M v (EB k ps ns C Wg i):=fI f;have p:=((h.fr.mono e h.hh.len).put (d:=26) (v:=v) (x:=.any) (by decide) ar)
 have m:26<(a.put (aa 25) (.tuple #[])).tmps.size:=by rw[h.fr.size];decide
 refine K v _ c ⟨p.le (dj rfl ?_),l,h.st.trans e⟩ f (Jo m);simp
def RE{i:Nat}(hi:i<ns.length)(q:ns.length<=4000000)(d:b.kind≠.early)(e:σ0.length<=5){a:Act}{s:St}(h:At σ0 s0 (rj k ps ns C Wg i) d7 a s)(K:∀l m,At σ0 s0 (mO k ps ns C Wg (i+1)) d5 l m->fy X S (G (b.aT l (.code iw::.inLoop iw::.inBlock 0::kk)) cs) m):
  fy X S (G (b.aT a (.inRegion x6 []::.inBlock 1::.code MD::.inLoop iw::.inBlock 0::kk)) cs) s:=by
 have g:cr 45 (d5++[.dead,.dead]) s (mO k ps ns C Wg i) a:=h.fr.le (dj rfl (by simp));have c:aD (d5++[.dead,.dead]) s:=h.hh;have f:cR σ0 s0 (d5++[.dead,.dead]) s:=h.st;have o:eO s (s.cut d5.length):=⟨rfl,λ_ _ _ h=>h,λ_ _ _=>rfl,c.mem,λb d=>d.imp id λ⟨L,n,d⟩=>⟨L,jy n,d⟩⟩
 refine .ghost o ?_;have h:At σ0 s0 (mO k ps ns C Wg i) d5 a (s.cut d5.length):=⟨⟨g.size,g.defers.imp λ_ p=>p.drop rfl,λt=>(g.slot t).drop (qm rfl)⟩,c.drop rfl,f.drop e⟩
 refine h.ctl rfl (λw=>iQ) λs h=>?_;refine h.ctl rfl (λw=>qU) λs h=>?_;refine h.code d (pR8 hi q) λa s h=>?_;exact h.ctl rfl (λw=>yo) λs h=>K a s h
end
theorem wP{b:aV}(c:b.roundOf=af)(a:Act)(t:List Item):b.aT a t=b.at ⟨a.tmps,a.defers++b.defers⟩ t:=by cases b;simp only at c;subst c;rfl
section
variable {k:Int}{ps:List bc}{ns:List Int}{Y:Lay}{val:Nat->Nat->aj}{σ0:List bm}{s0:St}{b:aV}{kk:List Item}{cs:List aV}
def PR{a:Act}{w:aA}{c c1 c2 c3 c4 c5:aj}(d:a.tmps.getD 26 ah=.func (.func 121) #[] #[c,c1,c2,c3,c4,c5]):(ak a.eval N5).run ag w=.ok (.spawn (wN #[c,c1,c2,c3,c4,c5])) w/\(ak a.eval N5).events ag w #[]=#[]:=by
 have e:a.eval (.tmp 26)=.func (.func 121) #[] #[c,c1,c2,c3,c4,c5]:=d;constructor
 .simp[ak,N5,resolve,Deferred.ofValue,e,wN]
 .simp[ak,N5,resolve,Deferred.ofValue,e]
def Ux(m:dK (Cx.work ag) 123 (lQ k))(n:Y.kc=2)(f:b.roundOf=af)(y:b.kind≠.early){i:Nat}(hi:i<ns.length)(r:val i 0=.string ⟨((cY k ps (ns.getD i 0)).getD []).toArray⟩)(p:val i 1=.bool (cY k ps (ns.getD i 0)).isSome){v:aj}{a:Act}{s:St}(h:At σ0 s0 (rj k ps ns Y.C Y.Wg i) d7 a s)(z:WgLive 164 Y.Wg s.w)(D:Rd s.M v (EB k ps ns Y.C Y.Wg i))(u:a.tmps.getD 26 ah=v){Next:aq->St->Prop}(K:∀c,At σ0 s0 (rj k ps ns Y.C Y.Wg i) d7 a c->WgLive 164 Y.Wg c.w->Next (G (b.aT a (.inRegion x6 []::.inBlock 1::.code MD::.inLoop iw::.inBlock 0::kk)) cs) c):
  AtGo ag 164 Y (2*ns.length) val i Next (G (b.aT a (.inRegion x6 [1]::.inBlock 1::.code MD::.inLoop iw::.inBlock 0::kk)) cs) s:=by
 refine⟨rfl,λc d=>?_⟩;have x:=h.rely d.1;have g:Rd c.M v (EB k ps ns Y.C Y.Wg i):=by rw[d.1.M];exact D
 cases g with
 |fn fs cc TS TT f1 f2 g1 g2 r1 r2 =>
 have q:fs=[]:=jr TS;subst q;have l:cc=[f2 0,f2 1,f2 2,f2 3,f2 4,f2 5]:=by
  apply gQ;intro j;have TT:cc.length=6:=TT
  match j with
  |0=>grind
  |1=>grind
  |2=>grind
  |3=>grind
  |4=>grind
  |5=>grind
  |j+6=>grind
 subst l;have B:f2 0=.pointer (aa ⟨Y.Wg,0,af⟩):=Rd.fu (r2 0 _ rfl);obtain⟨A,q2⟩:=PR (a:=a) (w:=c.w) u;have e:Go.Conc.listed ag b.fn ⟨a.tmps,a.defers++b.defers⟩ N5 c.w=#[]:=by unfold Go.Conc.listed;have:=(PR (a:=⟨a.tmps,a.defers++b.defers⟩) (w:=c.w) u).2;grind[seen_none]
 have t:=stepG_spawn (P:=ag) (main:=ab) (b:=b) (a:=⟨a.tmps,a.defers++b.defers⟩) (k:=.inBlock 1::.code MD::.inLoop iw::.inBlock 0::kk) (cs:=cs) (w:=c.w) (ops:=x6) (i:=1) (rest:=[]) (o:=N5) (by grind[Ge]) rfl y A rfl;refine⟨G (b.aT a (.inRegion x6 []::.inBlock 1::.code MD::.inLoop iw::.inBlock 0::kk)) cs,born ag (wN #[f2 0,f2 1,f2 2,f2 3,f2 4,f2 5]),?_,rfl,?_,K c x (d.2 z)⟩
 .rw[wP f,wP f,t,e];rfl
 .rw[B];exact worker m hi n r p (s:=c.child) ⟨x.hh.mem,rfl,by simp,by simp[St.child],by simp[St.child],by simp[St.child]⟩ rfl (r2 1 _ rfl) (r2 2 _ rfl) (r2 3 _ rfl) (r2 4 _ rfl) (r2 5 _ rfl)
def o9:aB:={dst:=aa 28,op:=.call {callee:=.value (.func 124),args:=#[.tmp 9],argTypes:=#[164]},type:=0,pos:= "l12_snap.go:85",after:=#[],guard:=af}
theorem Gf:x7=#[o9]:=by kernel_rfl
variable {X:Cx ag}{S:aq->St->Prop}
def RF(j:b.kind≠.early){C Wg:Nat}{a:Act}{s:St}(h:At σ0 s0 (mO k ps ns C Wg ns.length) d5 a s)(K:∀g c,At σ0 s0 (mO k ps ns C Wg ns.length) d5 g c->fy X S (G (Frame.enter ag 124 #[.pointer (aa ⟨Wg,0,af⟩)] .normal) (b.aT g (.inRegion x7 [0]::.code qL::kk)::cs)) c):
  fy X S (G (b.aT a (.code iw::.inLoop iw::.inBlock 0::.code nh::kk)) cs) s:=by
 refine h.ctl rfl (λw=>vd Cp) λs h=>?_;refine h.code j (Zc (ba _)) λa s h=>?_;refine h.ctl rfl (λw=>nO) λs h=>?_;have l:a.eval (.tmp 21)=.bool ae:=by have:=h.fr.slot 21;simp only[Nat.lt_irrefl,kY]at this;exact rd_bool (fI this)
 refine h.ctl rfl (λw=>uX l) λs h=>?_;refine h.ctl rfl (λw=>zE (k':=.code nh::kk) rfl) λs h=>?_;refine h.ctl rfl (λw=>vd Ko) λs h=>?_;refine h.ctl rfl (λw=>qa) λs h=>?_;have h:At σ0 s0 (mO k ps ns C Wg ns.length) d5 a s:=⟨h.fr.le (dj rfl (by simp)),h.hh,h.st⟩
 refine .next rfl λc d=>?_;have e:=h.rely (X.ij d);have p:a.eval (.tmp 9)=.pointer (aa ⟨Wg,0,af⟩):=Rd.fu (e.fr.slot 9);have n:(ak a.eval o9).run ag c.w=.ok (.enter 124 #[.pointer (aa ⟨Wg,0,af⟩)]) c.w:=by have:=run_call_body (P:=ag) (a:=a) (w:=c.w) (o:=o9) (f:=124) (fn:=Tryz.f124) rfl Tryz.func124 (by kernel_rfl) (by kernel_rfl);grind
 have q:(ak a.eval o9).events ag c.w #[]=#[]:=events_call_body (P:=ag) (a:=a) (w:=c.w) (o:=o9) (f:=124) (fn:=Tryz.f124) rfl Tryz.func124 (by kernel_rfl) (by kernel_rfl) #[];have m:Go.Conc.listed ag b.fn a o9 c.w=#[]:=by unfold Go.Conc.listed;grind[seen_none]
 refine⟨_,c,#[],?_,.quiet e.hh,K a c e⟩;have:=oT (P:=ag) (main:=X.main) (b:=b) (a:=a) (k:=.code qL::kk) (cs:=cs) (w:=c.w) (ops:=x7) (i:=0) (rest:=[]) (o:=o9) (by grind[Gf]) rfl j n;rw[m]at this;exact this
section
variable (k ps ns Y σ0 s0 b kk cs)
def VQ(g:aq)(s:St):Prop:=∃a,F7 ag PO Y (At σ0 s0 (mO k ps ns Y.C Y.Wg ns.length) d5 a) (b.aT a (.inRegion x7 [0]::.code qL::kk)) cs g s
def TF(g:aq)(s:St):Prop:=∃a,TW ag PO Y (At σ0 s0 (mO k ps ns Y.C Y.Wg ns.length) d5 a) (G (b.aT (a.put (aa 28) (.tuple #[])) (.inRegion x7 []::.code qL::kk)) cs) g s
end
def anF(e:ME Y.Wg s0)(c:b.roundOf=af){g:aq}{s:St}(h:VQ k ps ns Y σ0 s0 b kk cs g s):
  ei (Cx.lead ag 164 Y.Wg) (Es Y.Wg) (AtW1 ag 164 Y (TF k ps ns Y σ0 s0 b kk cs) (VQ k ps ns Y σ0 s0 b kk cs)) g s:=by
 obtain⟨a,h⟩:=h;have f:(x7[0]?).bind (·.dst)=aa 28:=by rw[Gf];rfl
 rw[wP c]at h;refine Uc (P:=ag) (L:=PO) (b₀:=b) (a₀:=⟨a.tmps,a.defers++b.defers⟩) (ops₀:=x7) (i₀:=0) (rest₀:=[]) (k₀:=.code qL::kk) (cs:=cs) Co (At.apart e) (λg s d=>⟨a,?_⟩) (λg s i=>⟨a,?_⟩) h
 .rw[wP c];rw[f]at d;exact d
 grind[wP]
def Hr{P:aO}{ty:aw}{N n:Nat}{a:aq->St->Prop}:∀(r:Nat){g:aq}{s:St},ei (Cx.lead P ty Y.Wg) (Es Y.Wg) (λg s=>Spawns P ty Y N val n a r g s) g s->Spawns P ty Y N val n a r g s
 |0,_,_,h=>ei.bind h λ_ _ x=>x
 |_+1,_,_,h=>ei.bind h λ_ _ x=>x
def N6(q:dK (Cx.work ag) 123 (lQ k))(y:Y.kc=2)(m:ME Y.Wg s0)(j:b.roundOf=af)(l:b.kind≠.early)(n:σ0.length<=5)(H:ns.length<=4000000)(A:∀i,i<ns.length->val i 0=.string ⟨((cY k ps (ns.getD i 0)).getD []).toArray⟩)(z:∀i,i<ns.length->val i 1=.bool (cY k ps (ns.getD i 0)).isSome):
  ∀(r:Nat),r<=ns.length->∀(a:Act) (s:St),At σ0 s0 (mO k ps ns Y.C Y.Wg (ns.length-r)) d5 a s->WgLive 164 Y.Wg s.w ->
   Spawns ag 164 Y (2*ns.length) val ns.length (VQ k ps ns Y σ0 s0 b kk cs) r (G (b.aT a (.code iw::.inLoop iw::.inBlock 0::.code nh::kk)) cs) s:=by
 intro r;induction r with
 |zero =>
  intro _ a s h c;rw[kZ]at h;have:=fy.live (E:=Es Y.Wg) (RF (X:=Cx.lead ag 164 Y.Wg) (kk:=kk) (cs:=cs) (S:=λg s=>∃a,g=G (Frame.enter ag 124 #[.pointer (aa ⟨Y.Wg,0,af⟩)] .normal) (b.aT a (.inRegion x7 [0]::.code qL::kk)::cs)/\At σ0 s0 (mO k ps ns Y.C Y.Wg ns.length) d5 a s) l h λe o d=>.stop ⟨e,rfl,d⟩) (m.step h.st).clear c;refine ei.bind this ?_;rintro g s ⟨⟨a,rfl,h⟩,c⟩;exact Ue (P:=ag) (L:=PO) (Y:=Y) Co (At.apart m) (λg s B=>⟨a,B⟩) ⟨h,c⟩
 |succ r D =>
  intro J a s h c;have hi:ns.length-(r+1)<ns.length:=by omega
  generalize t:ns.length-(r+1)=i at h hi;have:=fy.live (E:=Es Y.Wg) (toAdd (X:=Cx.lead ag 164 Y.Wg) (kk:=.code nh::kk) (cs:=cs) (S:=λg s=>∃a,g=G (Frame.enter ag 120 #[.pointer (aa ⟨Y.Wg,0,af⟩),.int .i64 1] .normal) (b.aT a (.inRegion AH [0]::tw (.code nh::kk))::cs)/\At σ0 s0 (rj k ps ns Y.C Y.Wg i) d7 a s) hi l h λe o d=>Kp l d λs2 h2=>.stop ⟨e,rfl,h2⟩) (m.step h.st).clear c;refine ei.bind this ?_;rintro g s ⟨⟨a,rfl,h⟩,c⟩;have I:(AH[0]?).bind (·.dst)=aa 25:=by rw[Gd];rfl
  rw[wP j];refine Xl (P:=ag) (L:=PO) (Y:=Y) (F:=At σ0 s0 (rj k ps ns Y.C Y.Wg i) d7 a) Co (At.apart m) (λs u=>?_) ⟨h,c⟩;rw[I];have:=fy.live (E:=Es Y.Wg) (Xw (X:=Cx.lead ag 164 Y.Wg) (kk:=.code nh::kk) (cs:=cs) (S:=λg s=>∃v a,g=G (b.aT a (.inRegion x6 [1]::.inBlock 1::.code MD::.inLoop iw::.inBlock 0::.code nh::kk)) cs/\At σ0 s0 (rj k ps ns Y.C Y.Wg i) d7 a s/\Rd s.M v (EB k ps ns Y.C Y.Wg i)/\a.tmps.getD 26 ah=v) l u.1 λv e o d p f=>.stop ⟨v,e,rfl,d,p,f⟩) (m.step u.1.st).clear u.2;rw[wP j]at this;refine ei.bind this ?_;rintro g s ⟨⟨v,a,rfl,h,p,f⟩,c⟩;rw[t];refine⟨.leaf,Ux q y j l hi (A i hi) (z i hi) h c p f λo d x=>?_⟩;refine Hr r ?_;have:=fy.live (E:=Es Y.Wg) (RE (X:=Cx.lead ag 164 Y.Wg) (kk:=.code nh::kk) (cs:=cs) (S:=λg s=>∃a,g=G (b.aT a (.code iw::.inLoop iw::.inBlock 0::.code nh::kk)) cs/\At σ0 s0 (mO k ps ns Y.C Y.Wg (i+1)) d5 a s) hi H l n d λe o d=>.stop ⟨e,rfl,d⟩) (m.step d.st).clear x;refine ei.bind this ?_;rintro g s ⟨⟨a,rfl,h⟩,c⟩;refine⟨.leaf,D (by omega) a s ?_ c⟩;grind
end
end
section
variable {X:Cx ag}[X.im]
def Se(t:List bC):∀i,i<t.length->(cF.fn t i).length=2/\∀c∈cF.fn t i,uy c=ab:=by intro i _;refine⟨rfl,λc a=>?_⟩;simp only[kh.fn,x8,cF,dC,nK,or_false]at a;rcases a with rfl|rfl<;>rfl
abbrev Ls(t:List bC)(xs:List aj):Prop:=iq 2 t.length (cF.fn t) xs
abbrev bK(bf:uz)(n:Nat)(xs:List aj):bm:=.cq (iR 110 2 bf n xs)
abbrev tKB(bf:uz)(n:Nat)(b:Bool):D:=.fz [.one (.v (sT bf n)),.one (.c (.bool b))]
def C8(t:List bC)(p x:Bs):dO (ι:={q:uz×List aj // Ls (eg t p x).1 q.2}) X 86 [cF.sl t,dS p,dS x] [] (λq=>tKB q.1.1 (eg t p x).1.length (eg t p x).2) (λq=>[bK q.1.1 (eg t p x).1.length q.1.2]) :=
 (uq t p x).thaw Tryz.func86 rfl (by simp[va,po,qt,mn,vr,uy]) (Se _)
def iq.nil:iq k 0 es []:=⟨by simp,λi hi=>by omega,λi hi=>by omega⟩
def HZ{t:List bC}{p x:Bs}(h:(eg t p x).2=ab):(eg t p x).1.length<=6:=by
 unfold eg at h⊢;split at h
 .rename_i b;rw[br b];split at h
  .rename_i a;rw[br a];exact oe a
  grind
 grind
def U4(h:o.op=.call {callee:=.builtin .append,args:=#[x,y],argTypes:=#[69,69]}):lC ag o x y 110 i110 :=
 ⟨⟨69,69,i69,i69,h,(tok _ _ rfl),rfl,(tok _ _ rfl),rfl⟩,(tok _ _ rfl),by decide,by decide⟩
def Lt{p:Bs}(h:p.length<=9223372036854775807):Rd M (Iu p) (.str p):=Rd.str rfl h
def Ls.snoc{t:List bC}{xs:List aj}(h:Ls t xs)(p x:Bs)(b:p.length<=9223372036854775807)(d:x.length<=9223372036854775807):Ls (t++[(p,x)]) (xs++[Iu p,Iu x]):=by
 unfold Ls;rw[cf];refine iq.snoc h (λi hi=>?_) rfl rfl λq c a=>?_
 .simp[kh.fn,x8,ai,js hi]
 .have e:cF.fn (t++[(p,x)]) t.length=[.str p,.str x]:=by simp[kh.fn,x8,cF]
  rw[e]at a;rcases q with _|_|q
  .simp at a;subst a;exact⟨Iu p,rfl,λM=>Lt b⟩
  .simp at a;subst a;exact⟨Iu x,rfl,λM=>Lt d⟩
  grind
def Ls.OM{t:List bC}{xs:List aj}(h:Ls t xs)(i:Nat)(hi:i<t.length)(x:Bs)(d:nR vs [.c (.str x)]):Ls (t.set i ((t.getD i cF.bP).1,x)) (xs.take (i*2+1)++vs++xs.drop (i*2+1+vs.length)):=by
 unfold Ls;rw[List.length_set];refine iq.fg h i 1 hi d (ba _) (λg f b=>?_) rfl λq c a=>?_
 .simp[kh.fn,x8,ai,Ne.symm b]
 .have e:cF.fn (t.set i ((t.getD i cF.bP).1,x)) i=[.str (t.getD i cF.bP).1,.str x]:=by simp[kh.fn,x8,cF,ai,hi]
  rw[e]at a;rcases q with _|_|q
  .right;simp at a;subst a;exact⟨by omega,rfl⟩
  .grind
  grind
structure U5(k c:Nat) where
 t:List bC
 bf:uz
 xs:List aj
 k1:Nat
 fl:Ls t xs
 hl:t.length<=7
 h1:k<=k1
 h2:k1<=k+c
set_option maxRecDepth 20000 in
def Oj(m:Nat)(b:Nat->Int)(o:Bytes b)(k:Nat)(T:k<=50000)(w:m<=1048576):
  dO (ι:=U5 k 400) X 103 [.e (.one (.ptr 0 0))] [kE m b k] (λq=>.e (.one (.v (sT q.bf q.t.length)))) (λq=>[kE m b q.k1,bK q.bf q.t.length q.xs]):=by
 refine dO.oC Tryz.func103 rfl rfl rfl λJ=>?_;refine Eo [] 9 rfl ar ?_;refine AK.MW 3 110 2 rfl λB=>?_;refine bw rfl ar ?_;refine AK.cP (gD m b o k 6 (by omega) w (by omega)) [0] rfl (λ_=>rfl) ?_;rintro⟨v,v0,v1⟩;refine bw rfl ar ?_;refine AK.bX 2 (λs:Nat×List bC×uz×List aj×Nat=>s.1<=5/\Ls s.2.1 s.2.2.2.1/\s.2.1.length<=6/\k<=s.2.2.2.2/\s.2.2.2.2+70*s.1<=k+351) (λs=>[(0,.e (.one (.ptr 0 0))),(4,dI s.1),(3,.e (.one (.v (sT s.2.2.1 s.2.1.length))))]) (λs=>[kE m b s.2.2.2.2,bK s.2.2.1 s.2.1.length s.2.2.2.1]) (λs=>s.1) (v.toNat,[],B,[],k+1) rfl ?_ rfl ?_ rfl ⟨by omega,iq.nil,by simp,by simp,by grind⟩ ?_
 .simp;omega
 .simp
 rintro⟨n,t,bf,xs,k1⟩ ⟨L,f,G,H,K⟩;simp only at L f G H K;by_cases N:0<n
 .refine aX [(11,ab)] rfl (by simp[N]) ?_;refine AK.cP (vk m b o k1 (by omega) w) [0] rfl (λ_=>rfl) ?_;rintro⟨p,Q⟩;refine bw rfl ar ?_;refine AK.cP (Gv m b o (k1+1+1) (by omega) w) [0] rfl (λ_=>rfl) ?_;rintro⟨⟨x,E⟩,I,D,r⟩;simp only at I D r;refine bw rfl ar ?_;refine AK.Jy (C8 t p x) 1 0 rfl rfl rfl rfl (iR.Fx rfl (cF.fn t) f.rd) rfl ?_ rfl (λ_=>rfl) (λ_=>rfl) rfl ?_
  .simp
  rintro⟨⟨a,xs'⟩,i⟩;simp only at i⊢;cases z:(eg t p x).2 with
  |true =>
   have C:=HZ z;generalize(eg t p x).1=t' at i C⊢;refine Eo [] 6 rfl ar ?_;refine AK.swap 1 2 (by decide) rfl rfl (λv P h=>h.1) (λv P h=>h.1) ?_;refine aX [(23,ab)] rfl ?_ (AK.aQ (n-1,t',a,xs',E) rfl ?_ ?_ ?_ ?_)
   .simp[bx];omega
   .simp;omega
   .simp
   .grind
   grind
  |false =>
   refine aX [(23,ae)] rfl ?_ (AK.aQ (n-1,t,bf,xs,E) rfl ?_ ?_ ?_ ?_)
   .simp[bx];omega
   .simp;omega
   .simp
   .grind
   grind
 .obtain rfl:n=0:=by omega
  refine aX [(11,ae)] rfl (by simp) (AK.leaveD rfl rfl ?_);refine bw rfl ar ?_;refine AK.cP (gD m b o k1 40 (by omega) w (by omega)) [0] rfl (λ_=>rfl) ?_;rintro⟨u,U,V⟩;by_cases F:u=0
  .refine aX [(27,ab)] rfl (by simp[F]) ?_;refine AK.cP (vk m b o (k1+1) (by omega) w) [0] rfl (λ_=>rfl) ?_;rintro⟨p,Q⟩;refine bw rfl ar ?_;refine AK.qV (l:=1) (bf:=bf) (xs:=xs) (n:=t.length) (xv:=[Iu p,Iu [97]]) (U4 rfl) rfl rfl rfl rfl rfl rfl rfl rfl (λM v j c R S=>?_) (by show _*32<=_;omega) λa=>?_
   .grind [str_val]
   refine bw rfl ar (AK.kP ⟨t++[(p,[97])],a,xs++[Iu p,Iu [97]],k1+1+1+1,f.snoc p [97] (by omega) (by decide),by grind,by omega,by omega⟩ (AK.dJ [0,1] rfl ?_ ?_ rfl rfl ?_))
   .simp
   .simp;rfl
   grind
  by_cases d:u=1
  .by_cases y:0<t.length
   .refine AK.Pe (iR.len (l:=1) rfl) λA=>?_;obtain⟨O,cap,rfl⟩:=A.2.2.1 y;refine aX [(27,ae),(35,ab),(39,ab)] rfl ?_ ?_
    .simp[y,d];omega
    refine AK.DJ tok 1 rfl rfl rfl rfl rfl rfl rfl ?_ rfl rfl λvs SG=>?_
    .grind
    have g:=f.OM 0 y [65] SG;refine bw rfl ar (AK.kP ⟨t.set 0 ((t.getD 0 cF.bP).1,[65]),.row O cap,_,k1+1,g,by grind,by omega,by omega⟩ (AK.dJ [0,1] rfl ?_ ?_ rfl rfl ?_))
    .simp
    .simp;rfl
    grind
   .cases bf;all_goals
     refine aX [(27,ae),(35,ab),(39,ae)] rfl ?_ (AK.kP ⟨t,_,xs,k1+1,f,by omega,by omega,by omega⟩ (AK.dJ [0,1] rfl ?_ rfl rfl rfl ?_))
     .simp[y,d]<;>omega
     .simp
     grind
  .refine aX [(27,ae),(35,ae)] rfl (by simp[F,d]) (AK.kP ⟨t,bf,xs,k1+1,f,by omega,by omega,by omega⟩ (AK.dJ [0,1] rfl ?_ rfl rfl rfl ?_))
   .simp
   grind
end
end R1
abbrev OP(a b:Bs)(c:Bool):D:=.fz [.one (.c (.str a)),.one (.c (.str b)),.one (.c (.bool c))]
namespace R1
variable {X:Cx ag}
def ye(s:Bs)(c:Int)(h:0<=c/\c<=255):Ev X 231 [dS s,dU c] [] (dI (Lib.indexByte s (UInt8.ofNat (Int.toNat c)))) []:=by
 have e:c=((UInt8.ofNat c.toNat).toNat:Int):=by grind[UInt8.toNat_ofNat']
 grind[A3]
def Sg:dz:=λargs σ=>match args,σ with
 |[.e (.one (.c (.str a))),.e (.one (.c (.int .u8 b)))],[]=>aa (dI (Lib.indexByte a (UInt8.ofNat (Int.toNat b))),[],[0<=b/\b<=255])
 |_,_=>af
def t231:dK X 231 Sg:=by
 intro args σ res σ' obs h ho;unfold Sg at h;split at h
 .cases h;exact(ye _ _ (ho)).args (λ_ _ r=>r)
 .cases h
def U6:List (Nat×dz):=(231,Sg)::Zr
def Lv:bG X U6:=bG.cons t231 (X6)
def ix(s:Bs):Int:=Lib.indexByte s 47
theorem Lw(s:Bs):Ev X 224 [dS s,dS [47]] [] (dI (ix s)) []:=by
 refine Ev.bQ Tryz.func224 rfl λa=>?_;by_cases h:s=[47]
 .subst h;refine aR Lv [(18,ae),(22,ab)] rfl ?_ (AK.bn rfl ?_)
  .simp
  .simp[ix,Lib.indexByte.eq_def]
 .refine aR Lv [(18,ae),(22,ae),(26,ab)] rfl ?_ (AK.bn rfl ?_)
  .simp[cE,cz];grind
  .simp[ix,iL]
def Si:dz:=λargs σ=>match args,σ with
 |[.e (.one (.c (.str a))),.e (.one (.c (.str [47])))],[]=>aa (dI (ix a),[],[])
 |_,_=>af
def t224:dK X 224 Si:=by intro args σ res σ' obs h ho;unfold Si at h;grind[Lw]
def U7:List (Nat×dz):=(224,Si)::U6
def Lx:bG X U7:=bG.cons t224 (Lv)
def jk(s:Bs):Bs:=if 0<=ix s then s.take (ix s).toNat else s
def mv(s:Bs):Bs:=if 0<=ix s then s.drop ((ix s).toNat+1)else[]
def jT(s:Bs):Bool:=decide (0<=ix s)
theorem Ly(s:Bs):Ev X 212 [dS s,dS [47]] [] (OP (jk s) (mv s) (jT s)) []:=by
 refine Ev.bQ Tryz.func212 rfl λc=>?_;have d:=c.str 0 rfl;have a:=lj s 47;change ix s<s.length∨ix s=-1 at a;by_cases h:0<=ix s
 .have b:(ix s+1).toNat=(ix s).toNat+1:=by omega
  refine aR Lx [(12,ab)] rfl ?_ (AK.bn rfl ?_)
  .simp[h,bx];omega
  .simp[jk,mv,jT,h,rY,b]
 .refine aR Lx [(12,ae)] rfl ?_ (AK.bn rfl ?_)
  .simp;omega
  .simp[jk,mv,jT,h]
def Sj:dz:=λargs σ=>match args,σ with
 |[.e (.one (.c (.str a))),.e (.one (.c (.str [47])))],[]=>aa (OP (jk a) (mv a) (jT a),[],[])
 |_,_=>af
def t212:dK X 212 Sj:=by intro args σ res σ' obs h ho;unfold Sj at h;grind[Ly]
def U8:List (Nat×dz):=(212,Sj)::U7
def P4:bG X U8:=bG.cons t212 (Lx)
theorem Sk(s:Bs):Ev X 184 [dS s,dS [47]] [] (OP (jk s) (mv s) (jT s)) []:=by refine Ev.bQ Tryz.func184 rfl λa=>?_;exact bZ P4 rfl ar (AK.bn rfl)
def Sl:dz:=λargs σ=>match args,σ with
 |[.e (.one (.c (.str a))),.e (.one (.c (.str [47])))],[]=>aa (OP (jk a) (mv a) (jT a),[],[])
 |_,_=>af
def t184:dK X 184 Sl:=by intro args σ res σ' obs h ho;unfold Sl at h;grind[Sk]
def cx(s:Bs):Bool:=decide (s.length=1)&&decide (97<=cz s 0)&&decide (cz s 0<=101)
theorem uL(s:Bs):Ev X 185 [dS s] [] (dB (cx s)) []:=by
 refine Ev.bQ Tryz.func185 rfl λc=>?_;by_cases a:s.length=1
 .by_cases b:97<=cz s 0
  .refine aX [(5,ab),(9,ab)] rfl ?_ (AK.bn rfl ?_)
   .simp only[au,bq];grind[cE]
   .show decide (cz s 0<=101)=cx s;simp[cx,a,b]
  .refine aX [(5,ab),(9,ae)] rfl ?_ (AK.bn rfl ?_)
   .simp only[au,cd];grind[cE]
   .simp[cx,b]
 .refine aX [(5,ae)] rfl ?_ (AK.bn rfl ?_)
  .simp;omega
  .simp[cx,a]
def Sm:dz:=λargs σ=>match args,σ with
 |[.e (.one (.c (.str a)))],[]=>aa (dB (cx a),[],[])
 |_,_=>af
def t185:dK X 185 Sm:=by intro args σ res σ' obs h ho;unfold Sm at h;grind[uL]
def U9:List (Nat×dz):=(184,Sl)::(185,Sm)::U8
def Gx:bG X U9:=bG.cons t184 (bG.cons t185 (P4))
def eU(s:Bs):Bool:=cx (jk s)&&(!jT s||cx (mv s))
theorem E5(s:Bs):Ev X 129 [dS s] [] (dB (eU s)) []:=by
 refine Ev.bQ Tryz.func129 rfl λc=>?_;cases a:cx (jk s)with
 |false =>
  refine aR Gx [(13,ae)] rfl ?_ (AK.bn rfl ?_)
  .simp[a]
  .simp[eU,a]
 |true =>
  cases b:jT s with
  |false =>
   refine aR Gx [(13,ab),(15,ae)] rfl ?_ (AK.bn rfl ?_)
   .simp[a,b]
   .simp[eU,a,b]
  |true =>
   refine aR Gx [(13,ab),(15,ab)] rfl ?_ (AK.bn rfl ?_)
   .simp[a,b]
   .simp[eU,a,b]
def Sn:dz:=λargs σ=>match args,σ with
 |[.e (.one (.c (.str a)))],[]=>aa (dB (eU a),[],[])
 |_,_=>af
def t129:dK X 129 Sn:=by intro args σ res σ' obs h ho;unfold Sn at h;grind[E5]
theorem Db(s:Bs):Ev X 182 [dS s] [] (dB (b9 s)) []:=by
 refine Ev.bQ Tryz.func182 rfl λe=>?_;have g:=e.str 0 rfl;refine bw rfl ar ?_;refine AK.ji (λi=>i<=s.length/\∀j,j<i->eH (s.getD j 0)=ab) (λi:Nat=>[(0,dS s),(5,dI s.length),(6,dI i)]) (λ_=>[]) (λi=>s.length-i) 0 rfl ?_ rfl ar ⟨by omega,by omega⟩ ?_
 .simp
 rintro i ⟨hi,c⟩;by_cases h:i<s.length
 .generalize a:s.getD i 0=b;by_cases k:b.toNat<97
  .refine aX [(7,ab),(12,ab)] rfl ?_ (AK.gI (ck.zero rfl ?_))
   .simp only[au,j5,bq,a];omega
   .rw[au,kl h (by rw[a];simp only[eH,rB,cd];omega)]
  .by_cases f:b.toNat>122
   .refine aX [(7,ab),(12,ae),(17,ab)] rfl ?_ (AK.gI (ck.zero rfl ?_))
    .simp only[au,j5,bq,cd,a];omega
    .rw[au,kl h (by rw[a];simp only[eH,rB,cd];omega)]
   .refine aX [(7,ab),(12,ae),(17,ae)] rfl ?_ (AK.fG (i+1) rfl ?_ rfl ar ?_ ?_)
    .simp only[au,j5,bq,cd,a,bx];omega
    .simp
    .refine⟨by omega,λj d=>?_⟩;rcases uN.1 d with d|rfl
     .grind
     .rw[a];simp only[eH,bR,bq];omega
    .omega
 .refine aX [(7,ae)] rfl (by simp;omega) (AK.leave rfl rfl ?_);refine bw rfl ar (AK.bn rfl ?_);rw[au,sJ (λj d=>c j (by omega))]
def So:dz:=λargs σ=>match args,σ with
 |[.e (.one (.c (.str a)))],[]=>aa (dB (b9 a),[],[])
 |_,_=>af
def t182:dK X 182 So:=by intro args σ res σ' obs h ho;unfold So at h;grind[Db]
def Va:List (Nat×dz):=(129,Sn)::(182,So)::U9
def Lz:bG X Va:=bG.cons t129 (bG.cons t182 (Gx))
theorem wL(s:Bs):Ev X 126 [dS s] [] (dB (eh s)) []:=by
 refine Ev.bQ Tryz.func126 rfl λb=>?_;by_cases a:s.length<=40
 .refine aR Lz [(5,ab)] rfl ?_ (AK.bn rfl ?_)
  .simp;omega
  .simp[eh,a]
 .refine aR Lz [(5,ae)] rfl ?_ (AK.bn rfl ?_)
  .simp;omega
  .simp[eh,a]
def Sp:dz:=λargs σ=>match args,σ with
 |[.e (.one (.c (.str a)))],[]=>aa (dB (eh a),[],[])
 |_,_=>af
def t126:dK X 126 Sp:=by intro args σ res σ' obs h ho;unfold Sp at h;grind[wL]
def kS(s p:Bs):Bool:=decide (p.length<=s.length)&&(s.take p.length==p)
theorem Dc(s p:Bs):Ev X 187 [dS s,dS p] [] (dB (kS s p)) []:=by
 refine Ev.bQ Tryz.func187 rfl λb=>?_;by_cases a:p.length<=s.length
 .refine aX [(9,ab)] rfl ?_ (AK.bn rfl ?_)
  .simp[a]
  .simp[kS,a,rY]
 .refine aX [(9,ae)] rfl ?_ (AK.bn rfl ?_)
  .simp;omega
  .simp[kS,a]
def Sq:dz:=λargs σ=>match args,σ with
 |[.e (.one (.c (.str a))),.e (.one (.c (.str b)))],[]=>aa (dB (kS a b),[],[])
 |_,_=>af
def t187:dK X 187 Sq:=by intro args σ res σ' obs h ho;unfold Sq at h;grind[Dc]
def Vb:List (Nat×dz):=(126,Sp)::(187,Sq)::Va
def P5:bG X Vb:=bG.cons t126 (bG.cons t187 (Lz))
theorem H4(s p:Bs):Ev X 132 [dS s,dS p] [] (dB (kS s p)) []:=by refine Ev.bQ Tryz.func132 rfl λa=>?_;exact bZ P5 rfl ar (AK.bn rfl)
def Sr:dz:=λargs σ=>match args,σ with
 |[.e (.one (.c (.str a))),.e (.one (.c (.str b)))],[]=>aa (dB (kS a b),[],[])
 |_,_=>af
def t132:dK X 132 Sr:=by intro args σ res σ' obs h ho;unfold Sr at h;grind[H4]
def Vd:List (Nat×dz):=(132,Sr)::Vb
def P6:bG X Vd:=bG.cons t132 (P5)
end R1
def kh.LA(c:kh α)(l:List α)(k n:Nat)(h:k+n<=l.length):c.list n (mN k (c.fn l))=(l.drop k).take n:=by
 apply uR
 .simp[kh.list];omega
 .intro i h1 h2;have hi:i<n:=by grind
  simp[kh.list,mN,kh.fn,x8,ai,bg (by omega:k+i<l.length),c.inv]
def kh.LB(c:kh α)(l:List α):c.fits n (mN k (c.fn l)):=λi _=>by simp[mN,kh.fn,x8,c.inv]
abbrev dR(p x:Bs):D:=.e (.one (.c (.rp [.str p,.str x])))
namespace R1
variable {X:Cx ag}
def under(p q:Bs):Bool:=kS p (q++[47])
def LC(a:bC)(p x:Bs)(h:a.1.length<=4000000):Ev X 131 [dP a,dR p x] [] (dB (under p a.1)) []:=by
 refine Ev.bQ Tryz.func131 rfl λb=>?_;refine bZ P6 rfl ?_ (AK.bn rfl ?_)
 .simp;omega
 .simp[under]
def Ss:dz:=λargs σ=>match args,σ with
 |[.e (.agg [.c (.str a0),.c (.str a1)]),.e (.one (.c (.rp [.str p,.str x])))],[]=>aa (dB (under p a0),[],[a0.length<=4000000/\a1=a1/\x=x])
 |_,_=>af
def t131:dK X 131 Ss:=by
 intro args σ res σ' obs h ho;unfold Ss at h;split at h
 .rename_i b a p x;cases h;exact LC (b,a) p x ho.1
 grind
def Ve:List (Nat×dz):=(131,Ss)::Vd
def zd:bG X Ve:=bG.cons t131 (P6)
abbrev LD(p x:Bs):D:=.e (.one (.c (.fn (.func 131) [] [.rp [.str p,.str x]])))
def uM(t:List bC)(p:Bs):Int:=match t.findIdx? (λf=>under p f.1)with|some i=>i|none=>-1
def OQ{t:List bC}{p:Bs}(hi:i<t.length)(h:under p (fa t i)=ab)(a:∀j,j<i->under p (fa t j)=ae):uM t p=i:=by
 have:t.findIdx? (λf=>under p f.1)=aa i:=by grind[List.findIdx?_eq_some_iff_getElem,fileAt]
 rw[uM,this]
theorem ze{t:List bC}{p:Bs}(a:∀j,j<t.length->under p (fa t j)=ae):uM t p=-1:=by
 have:t.findIdx? (λf=>under p f.1)=af:=by grind[List.getElem_of_mem,fileAt]
 rw[uM,this]
def OR(t:List bC)(p x:Bs)(f:∀j,j<t.length->(fa t j).length<=4000000):Ev X 186 [cF.sl t,LD p x] [] (dI (uM t p)) []:=by
 refine Ev.bQ Tryz.func186 rfl λe=>?_;have c:=e.sl 0 rfl;refine bZ zd rfl ar ?_;refine AK.ji (λi=>i<=t.length/\∀j,j<i->under p (fa t j)=ae) (λi:Nat=>[(0,cF.sl t),(1,LD p x),(7,dI t.length),(8,dI i)]) (λ_=>[]) (λi=>t.length-i) 0 rfl ?_ rfl ar ⟨by omega,by omega⟩ ?_
 .simp
 rintro i ⟨hi,a⟩;by_cases h:i<t.length
 .have d:=f i h;cases b:under p (fa t i)with
  |true =>
   refine aR zd [(9,ab),(16,ab)] rfl ?_ (AK.gI (ck.zero rfl ?_))
   .simp[-ai,h,gk,b];omega
   .simp[OQ h b a]
  |false =>
   refine aR zd [(9,ab),(16,ae)] rfl ?_ (AK.fG (i+1) rfl ?_ rfl ar ?_ ?_)
   .simp[-ai,h,gk,b,bx];omega
   .simp
   .grind
   .omega
 .refine aR zd [(9,ae)] rfl (by simp;omega) (AK.leave rfl rfl ?_);refine bZ zd rfl ar (AK.bn rfl ?_);simp[ze (λj g=>a j (by omega))]
def A4(t:List bC):Prop:=∀j,j<t.length->(fa t j).length<=4000000
def Su:dz:=λargs σ=>match args,σ with
 |[d,.e (.one (.c (.fn (.func 131) [] [.rp [.str p,.str x]])))],[]=>match jS 2 d with
  |none=>af
  |some (n,es)=>aa (dI (uM (cF.list n es) p),[],[cF.fits n es,A4 (cF.list n es),x=x])
 |_,_=>af
def t186:dK X 186 Su:=by
 intro args σ res σ' obs h ho;unfold Su at h;split at h
 .rename_i d p x;split at h
  .cases h
  rename_i n es hd;cases h;exact(OR _ p x ho.2.1).args (λ_ vs=>cn.imp (λ_=>cF.jc hd ho.1) (cn.imp (λ_ r=>r) (λ_ r=>r)) vs)
 grind
def Vf:List (Nat×dz):=(186,Su)::Ve
def P7:bG X Vf:=bG.cons t186 (zd)
def OS(t:List bC)(p x:Bs)(a:A4 t):Ev X 130 [cF.sl t,LD p x] [] (dB (decide (0<=uM t p))) []:=by
 refine Ev.bQ Tryz.func130 rfl λb=>?_;refine bZ P7 rfl ?_ (AK.bn rfl ?_)
 .simp[cF.aJ,cF.list_fn,a]
 .simp[cF.list_fn]
def Sv:dz:=λargs σ=>match args,σ with
 |[d,.e (.one (.c (.fn (.func 131) [] [.rp [.str p,.str x]])))],[]=>match jS 2 d with
  |none=>af
  |some (n,es)=>aa (dB (decide (0<=uM (cF.list n es) p)),[],[cF.fits n es,A4 (cF.list n es),x=x])
 |_,_=>af
def t130:dK X 130 Sv:=by
 intro args σ res σ' obs h ho;unfold Sv at h;split at h
 .rename_i d p x;split at h
  .cases h
  rename_i n es hd;cases h;exact(OS _ p x ho.2.1).args (λ_ vs=>cn.imp (λ_=>cF.jc hd ho.1) (cn.imp (λ_ r=>r) (λ_ r=>r)) vs)
 grind
def X7:List (Nat×dz):=(130,Sv)::Vf
def qO:bG X X7:=bG.cons t130 (P7)
def iX(t:List bC)(i:Nat):Bool :=
 eU (fa t i)&&eh (uH t i)&&(i==0||!(bd (fa t i) (fa t (i-1))||fa t i==fa t (i-1)))&&(bk i).all λj=>!under (fa t i) (fa t j)
def n9(t:List bC):Bool:=(bk t.length).all (iX t)&&decide (t.length<=6)
def km{t:List bC}(hi:i<t.length)(h:iX t i=ae):n9 t=ae:=by
 cases a:n9 t with
 |false=>rfl
 |true =>
  simp only[n9,bR]at a;grind
theorem ui{s:Bs}(h:eU s=ab):s.length<=3:=by
 simp only[eU,cx,bR,mK,bq,iZ]at h;obtain⟨⟨⟨d,_⟩,_⟩,a⟩:=h;have c:=lj s 47;change ix s<s.length∨ix s=-1 at c;by_cases b:0<=ix s
 .simp only[jk,b,bY,List.length_take]at d;rcases a with a|a
  .simp[jT,b]at a
  .have:=a.1.1;simp only[mv,b,bY,rE]at this;omega
 .simp only[jk,b,bS]at d;omega
def E6{t:List bC}{p:Bs}(hi:i<=t.length):decide (0<=uM (t.take i) p)=!(bk i).all λj=>!under p (fa t j):=by
 have e:∀j,j<i->fa (t.take i) j=fa t j:=by intro j c;simp[fa,ai,c]
 cases g:(bk i).all λj=>!under p (fa t j)with
 |true =>
  grind[ze]
 |false =>
  have b:∃j,j<i/\under p (fa t j)=ab:=by grind
  have:∃k:Nat,uM (t.take i) p=k:=by
   unfold uM;cases d:(t.take i).findIdx? (λf=>under p f.1)with
   |some k=>grind
   |none =>
    obtain⟨j,c,h⟩:=b;rw[zo]at d;have a:j<(t.take i).length:=by grind
    have:=d _ (nH a);grind[fileAt]
  grind
def Ex(t:List bC):Ev X 98 [cF.sl t] [] (dB (n9 t)) []:=by
 refine Ev.bQ Tryz.func98 rfl λx=>?_;have r:=x.sl 0 rfl;refine bZ qO rfl ar ?_;refine AK.bX 0 (λi=>i<=t.length/\∀j,j<i->iX t j=ab) (λi:Nat=>[(0,cF.sl t),(5,cF.sl t),(6,dI t.length),(7,dI i)]) (λ_=>[]) (λi=>t.length-i) 0 rfl ?_ rfl ar rfl ⟨by omega,by omega⟩ ?_
 .simp
 rintro i ⟨hi,k⟩;by_cases h:i<t.length
 .cases b:eU (fa t i)with
  |false =>
   refine bt qO [(8,ab),(14,ae)] rfl ?_ (AK.eY (ck.zero rfl ?_))
   .simp[-ai,h,gk,b]
   .simp[au,km h (by simp[iX,b])]
  |true =>
   cases f:eh (uH t i)with
   |false =>
    refine bt qO [(8,ab),(14,ab),(19,ae)] rfl ?_ (AK.eY (ck.zero rfl ?_))
    .simp[-ai,h,gk,pH,b,f]
    .simp[au,km h (by simp[iX,f])]
   |true =>
    have z:A4 (t.take i):=by
     intro j w;simp only[List.length_take]at w;have e:fa (t.take i) j=fa t j:=by simp[fa,ai,(by omega:j<i)]
     rw[e];have:=k j (by omega);simp only[iX,bR]at this;grind[ui]
    have y:cF.list ((i:Int).toNat-0) (mN 0 (cF.fn t))=t.take i:=by rw[cF.LA t 0 _ (by grind)];simp
    cases s:(i==0||!(bd (fa t i) (fa t (i-1))||fa t i==fa t (i-1)))with
    |false =>
     have a:iX t i=ae:=by simp only[iX,s];simp
     have n:i≠0:=by grind
     have l:(bd (fa t i) (fa t (i-1))||fa t i==fa t (i-1))=ab:=by grind
     have d:bx .i64 ((i:Int)-1):=by simp only[bx];omega
     have o:((i:Int)-1).toNat=i-1:=by omega
     refine bt qO [(8,ab),(14,ab),(19,ab),(24,ab),(34,ab)] rfl ?_ (AK.eY (ck.zero rfl ?_))
     .simp only[au,gk,pH,bM,o,l,b,f,bq,d];grind
     .simp[km h a]
    |true =>
     have a:iX t i=(bk i).all λj=>!under (fa t i) (fa t j):=by simp only[iX,s,b,f];simp
     apply AK.join [(0,cF.sl t),(3,dI i),(5,cF.sl t),(6,dI t.length),(7,dI i),(4,.e (.one (.ptr 0 0)))] [.cells 110 [.c (.str (fa t i)),.c (.str (uH t i))]]
     .intro q;by_cases n:i=0
      .refine bt qO [(8,ab),(14,ab),(19,ab),(24,ae),(1000006,ab)] rfl ?_ (q _ _ rfl ?_)
       .simp only[au,gk,pH,bM,b,f,bq,cd];grind
       .simp
      .have l:(bd (fa t i) (fa t (i-1))||fa t i==fa t (i-1))=ae:=by grind
       have d:bx .i64 ((i:Int)-1):=by simp only[bx];omega
       have o:((i:Int)-1).toNat=i-1:=by omega
       refine bt qO [(8,ab),(14,ab),(19,ab),(24,ab),(34,ae),(1000006,ab)] rfl ?_ (q _ _ rfl ?_)
       .simp only[au,gk,pH,bM,o,l,b,f,bq,d];grind
       .simp
     .refine AK.freeze 4 0 rfl rfl rfl ?_;have v:=E6 (t:=t) (p:=fa t i) (i:=i) hi;have g:cF.fits ((i:Int).toNat-0) (mN 0 (cF.fn t)):=cF.LB t;cases u:(bk i).all λj=>!under (fa t i) (fa t j)with
      |false =>
       rw[u]at v a;refine bt qO [(41,ab)] rfl ?_ (AK.eY (ck.zero rfl ?_))
       .simp only[au,cD];grind
       .simp[km h a]
      |true =>
       rw[u]at v a;refine bt qO [(41,ae)] rfl ?_ (AK.aQ (i+1) rfl ?_ ?_ ?_ ?_)
       .simp only[au,cD];have m:decide (0<=uM (cF.list ((i:Int).toNat-0) (mN 0 (cF.fn t))) (fa t i))=ae:=by grind
        exact⟨by simp only[bx];omega,g,by grind,ar,m,by omega,by omega⟩
       .simp
       .trivial
       .grind
       .omega
 .have:i=t.length:=by omega
  subst this;refine aR qO [(8,ae)] rfl (by simp) (AK.leaveD rfl rfl ?_);refine bZ qO rfl ar (AK.bn rfl ?_);simp only[au,n9];grind
end R1
section
open Go.Conc
def aD.Uy(hh:aD σ s){B:bm}{L:Loc}(k:σ[l]?=aa B)(j:s.β[l]?=aa L)(p:(∃E cs,B=.cells E cs)∨∃H,B=.cq H):
  aD (σ.set l .dead) {s with β:=s.β.set l ⟨L.v,[]⟩}/\Step σ s (σ.set l .dead) {s with β:=s.β.set l ⟨L.v,[]⟩}:=by
 have f:l<σ.length:=(b8.1 k).1;have i:l<s.β.length:=(b8.1 j).1;have c:∀l',(s.β.set l ⟨L.v,[]⟩)[l']?=if l=l' then aa ⟨L.v,[]⟩else s.β[l']?:=by grind
 have a:∀L'∈s.β.set l ⟨L.v,[]⟩,∀b∈L'.bs,L'∈s.β:=by grind
 have st:Step σ s (σ.set l .dead) {s with β:=s.β.set l ⟨L.v,[]⟩}:=by
  refine⟨ba _,λ_ _ _=>rfl,λ_ _ _ h=>h,λ_ _ _ _=>rfl,λL' gm b hb=>.inr ⟨L',a L' gm b hb,hb⟩,?_,rfl,rfl,rfl,rfl⟩;intro l' B' L' mc gm;by_cases e:l=l'
  .subst e;rw[k]at mc;cases mc;rw[j]at gm;cases gm;refine⟨.dead,⟨L.v,[]⟩,by grind,by grind,?_⟩;rcases p with⟨E,cs,rfl⟩|⟨H,rfl⟩<;>rfl
  .exact⟨B',L',by grind,by grind,.refl _ _⟩
 refine⟨⟨hh.mem,by simp[hh.len],?_,?_,λL' gm b hb=>hh.lt L' (a L' gm b hb) b hb,λb hb=>⟨(hh.own b hb).1,λL' gm ov=>(hh.own b hb).2 L' (a L' gm b ov) ov⟩⟩,st⟩
 .intro l' B' L' mc gm;by_cases e:l=l'
  .subst e;rw[fO f]at mc;cases mc;trivial
  .rw[kJ e]at mc;rw[c,a9 e]at gm;exact(hh.box l' B' L' mc gm).carry st.ext hh.len λb hb=>⟨rfl,λo=>rfl⟩
 .intro n m L1 L2 h1 h2 b d g;rw[c]at h1 h2;split at h1
  .grind
  .split at h2
   .grind
   .exact hh.eZ n m L1 L2 h1 h2 b d g
def dm.closed(a:s'.M=s.M){d:D}(h:dm σ s v d)(c:vA 0 d=ab):dm σ' s' v d:=by have h1:=dm.drop (σ1:=[]) (rest:=σ) h c;refine dm.mono (σ:=[]) (s:=s.cut 0) ⟨λb o v hm=>by rw[a];exact hm,λl B L e _=>by grind⟩ (by simp[St.cut]) h1
end
namespace R1
section
variable {X:Cx ag}
def ld(t:Bs):List Bs:=if eh t then pieces t else[]
def PN(t:Bs)(f:Nat)(acc:List Bs):Prop:=∃k,fj t t.length 0=acc++fj t k f/\t.length<=f+k/\acc.length<=f
def Gb:dK X 126 (kB aS (λs=>dB (eh s)) λ_=>[]):=.oL λs _=>wL s
def Kh:dz:=λargs σ=>match args,σ with
 |[.e (.one (.c (.str t)))],[]=>aa (.e (.one (.c (PL t))),[],[])
 |_,_=>af
def Rz:dK X 183 Kh:=by intro args σ res σ' obs h ho;unfold Kh at h;grind[NY]
def Hn(t:Bs):Ev X 128 [dS t] [] (cS.sl (ld t)) []:=by
 refine(dO.Al (ι:=Unit) (σ':=λ_=>[]) (res:=λ_=>cS.sl (ld t)) Tryz.func128 rfl rfl rfl λq=>?_).GP;have m:bG X [(126,kB aS (λs=>dB (eh s)) λ_=>[])]:=.cons Gb .nil;refine nZ.seq (AW.top (AK.of_code ?_));refine bZ m rfl ar ?_;refine nZ.seq (AW.top (AK.of_code ?_));cases b:eh t with
 |false =>
  refine aR m [(8,ab)] rfl ?_ (AK.ret ⟨(),ck.zero rfl ?_⟩)
  .simp[b]
  .simp[ld,b]
 |true =>
  have d:=b;simp only[eh,bR,bq]at d;refine aR m [(8,ae)] rfl ?_ ?_
  .simp[b]
  refine nZ.seq (AW.top (AK.of_code ?_));refine bZ m rfl ar ?_;refine nZ.seq (nZ.seq (AW.top (AK.of_code (AK.gd 1 0 9 1 (cS.fn []) rfl rfl ?_))));refine bZ (.cons Rz .nil) rfl ar ?_;refine nZ.block ?_;refine nZ.rangeFunc (capD:=fD [.rp [.str t]]) (cr.callee rfl) (Hm (T:=List Bs) t d.2 (by omega) (λ_=>.cells 9 [.c (.str t)]) (λacc=>.cells 128 [.vec 2 1 acc.length (cS.fn acc)]) (λacc=>.vec 9 1 acc.length (cS.fn acc)) (PN t) [] ?_ (λt=>⟨by simp,by simp,by simp⟩) ?_) (λi=>⟨rfl,by simp⟩) λi=>⟨.normal,rfl,?_⟩
  .exact⟨t.length,by simp,by omega,by simp⟩
  .rintro f acc hf hR;have h:=nb t f hf;refine Yields.intro (j:=af) rfl rfl rfl rfl (AK.of_code ?_);refine bw rfl ar ?_;refine⟨rfl,rfl,AK.of_code ?_⟩;refine bw rfl ?_ ?_
   .obtain⟨k,_,_,o⟩:=hR;have u:=h.1;have q2:=h.2.1;refine⟨rfl,rfl,?_,Int.natCast_nonneg _,Int.ofNat_le.2 (Nat.le_of_lt u),Int.ofNat_le.2 q2⟩;show(acc.length+1)*16<=_;omega
   have n:PN t (cutAt t f) (acc++[(t.drop f).take (cutAt t f-f)]):=by
    obtain⟨k,l,r,o⟩:=hR;obtain⟨k',rfl⟩:∃k',k=k'+1:=⟨k-1,by omega⟩
    refine⟨k',?_,by omega,by grind⟩;rw[l];simp only[fj];grind
   refine⟨rfl,rfl,⟨_,n⟩,lb rfl ?_⟩;have e:rY t (aa (f:Int)) (aa (cutAt t f:Int))=(t.drop f).take (cutAt t f-f):=by simp[rY,List.drop_take]
   have p:cw (acc.length+1) (cT acc.length (cS.fn acc) λi=>[[C.str (rY t (aa (f:Int)) (aa (cutAt t f:Int)))]].getD i []) (cS.fn (acc++[(t.drop f).take (cutAt t f-f)])):=by rw[e];exact kh.cp cS acc _
   have a:acc.length+1=(acc++[(t.drop f).take (cutAt t f-f)]).length:=by simp
   refine au.cat.2 ⟨by simp,au.cat.2 ⟨au.cat.2 ⟨⟨a,p⟩,ar⟩,au.cat.2 ⟨⟨a,p⟩,au.cat.2 ⟨rfl,ar⟩⟩⟩⟩
  .obtain⟨acc,k,l,r,o⟩:=i;have g:fj t k t.length=[]:=by cases k<;>simp[fj]
   rw[g,kK]at l;have e:ld t=acc:=by simp only[ld,b,bY,pieces,l]
   rw[e];show nZ X _ _ _ _ _;refine AW.top (AK.of_code ?_);refine bw rfl ar ?_;refine AK.ret ⟨(),ck.zero rfl ?_⟩;exact⟨rfl,cw.same⟩
def NZ:dK X 128 (kB aS (λs=>cS.sl (ld s)) λ_=>[]):=.oL λs _=>Hn s
def Up:dK X 125 (n6 (aL cS) aS (λl _=>dS l.flatten) λl s=>[s=[],l.flatten.length<=140737488355328]):=.qK λl s h=>by obtain⟨rfl,h⟩:=h;exact NR l h
def N0:dz:=n6 (aL cS) (aL cS) (λa b=>dB (a==b)) λ_ _=>[]
def Xt:dK X 127 N0:=.qK λa b _=>Rq a b
def Ew(l:List Bs)(h:l.flatten.length<=140737488355328):Ev X 97 [cS.sl l] [] (AB (fZ l)) []:=by
 refine Ev.bQ Tryz.func97 rfl λd=>?_;have c:bG X [(125,n6 (aL cS) aS (λl _=>dS l.flatten) λl s=>[s=[],l.flatten.length<=140737488355328]),(126,kB aS (λs=>dB (eh s)) λ_=>[]),(127,N0),(128,kB aS (λs=>cS.sl (ld s)) λ_=>[])]:=.cons Up (.cons Gb (.cons Xt (.cons NZ .nil)));have el:cS.list l.length (cS.fn l)=l:=cS.list_fn l;cases a:eh l.flatten with
 |false =>
  refine aR c [(8,ae),(9,ab),(16,ab)] rfl ?_ (AK.bn rfl ?_)
  .simp only[au,el,a,cS.aJ,eq_self,aF,aE];grind
  .simp[fZ,a]
 |true =>
  cases b:(pieces l.flatten==l)with
  |false =>
   refine aR c [(8,ab),(9,ae),(14,ae),(16,ab)] rfl ?_ (AK.bn rfl ?_)
   .simp only[au,el,cS.list_fn,a,cS.aJ];simp[h,ld,a,b,-List.length_flatten]
   .simp[fZ,b]
  |true =>
   refine aR c [(8,ab),(9,ae),(14,ab),(16,ae)] rfl ?_ (AK.bn rfl ?_)
   .simp only[au,el,cS.list_fn,a,cS.aJ];simp[h,ld,a,b,-List.length_flatten]
   .simp[fZ,a,b,el]
end
section
open Go.Proofs Go.Conc Go.Conc.Lib
open Go.ConcN (WgLive PayAt Has RW AtR0)
open Go.ConcR (KK WgAt stA smA rd wr mk Payload DC0)
noncomputable def Uz:Code:=wO (kD (kD (kD EA)))
noncomputable def Zd:Code:=wO Uz
noncomputable def Xx:Code:=kD (kD (kD EA))
def RG:Xx=.seq (.seq Zd (.block 0 (.loop iw))) nh:=by kernel_rfl
section
variable {σ0:List bm}{s0:St}{φ:Fr}{σ:List bm}{a:Act}{s:St}{S:aq->St->Prop}
def At.goes{Wg:Nat}{j:aq}:∀(m:Nat)(g:aq)(s:St),At σ0 s0 φ σ a s->WgLive 164 Wg s.w->Goes ag ab (fw 164 Wg) DC0 (λg _=>g=j) m g s.w ->
  (∀c,At σ0 s0 φ σ a c->fy (Cx.beside ag) S j c)->fy (Cx.beside ag) S g s
 |0,g,s,h,_,f,K=>by obtain rfl:g=j:=f s.w (.refl _);grind
 |m+1,g,s,h,hl,f,K=>by
  rcases f with f|⟨o,f⟩
  .obtain rfl:g=j:=f s.w (.refl _);grind
  .refine .next o λc b=>?_;have h1:=h.rely b.1;obtain⟨d,n⟩:=b.2;have i:WgLive 164 Wg c.w:=by rw[n];exact hl
   have h2:=f c.w (λ_=>i);cases e:aH ag ab g c.w with
   |go g' w' es =>
    rw[e,goes_go]at h2;obtain⟨⟨rfl,rfl⟩,l⟩:=h2;exact⟨g',c,#[],e,.quiet h1.hh,At.goes m g' c h1 i l K⟩
   |_=>rw[e]at h2;exact h2.elim
def k7{σ:List bm}{s:St}(b:∀B∈σ,B=.dead){ds:List Deferred}{ls:List Nat}(h:oI σ s ds ls):ds=[]:=by
 cases ds with
 |nil=>rfl
 |cons d ds =>
  cases ls with
  |nil=>exact h.elim
  |cons l ls =>
   have:=b _ (bL h.1.1);cases this
end
section
variable {k:Int}{ps:List bc}{ns:List Int}{C:Nat}{xs:List aj}
variable (k ps ns C)in
def N7:Fr:=[(2,cI.sl ns),(3,.e (.one (.ptr 0 0))),(4,.e (.one (.ptr 1 0))),(8,.e (.one (.ptr 3 0))),(9,.e (.one (.ptr 4 0)))]
variable (k ps ns C xs)in
def AI:List bm:=[.cells 3 [.c (.int .i64 k)],.cells 23 [.c (.sl ae 2 ps.length (cP.fn ps))],.cq (iR 166 2 (.row C ns.length) ns.length xs),.cells 154 [.c (.val (.slice (aa ⟨C,0,af⟩) ns.length ns.length))],.cells 164 [.c (.int .u64 0),.c (.int .u32 0)]]
variable (k ps ns)in
def MV(x i:Nat):aj:=if i=0 then .string ⟨((cY k ps (ns.getD x 0)).getD []).toArray⟩else .bool (cY k ps (ns.getD x 0)).isSome
variable (k ps ns)in
def lR:List aj:=ns.flatMap λn=>[.string ⟨((cY k ps n).getD []).toArray⟩,.bool (cY k ps n).isSome]
variable (k ps ns C)in
def EC:List bm:=[.dead,.dead,.cq (iR 166 2 (.row C ns.length) ns.length (lR k ps ns)),.dead,.dead]
def pR3{X:Cx ag}:AW X 45 Zd (NQ ((18,cI.sl ns)::(19,dI ns.length)::(20,dI 0)::N7 ns) (AI k ps ns C xs)) (N7 ns) (AI k ps ns C xs):=by refine AK.of_code ?_;refine bw rfl ar ⟨rfl,dj rfl ?_,rfl⟩;simp
theorem Cq:(lR k ps ns).length=ns.length*2:=by
 unfold lR;induction ns with
 |nil=>rfl
 |cons n r b=>grind
def AJ:∀{ns:List Int}{x i:Nat},x<ns.length->i<2->(lR k ps ns)[2*x+i]?=aa (MV k ps ns x i)
 |[],x,i,h,_=>by grind
 |n::r,0,i,_,hi=>by
  match i,hi with
  |0,_=>rfl
  |1,_=>rfl
 |n::r,x+1,i,h,hi=>by have:=AJ (ns:=r) (x:=x) (i:=i) (by grind) hi;unfold lR at this⊢;rw[l7,fA (by grind)];rw[show 2*(x+1)+i - [Value.string ⟨((cY k ps n).getD []).toArray⟩,Value.bool (cY k ps n).isSome].length=2*x+i by grind];rw[this];simp[MV]
def _root_.Go.AM.cr.seen{N b:Nat}{d:D}{σ:List bm}{s:St}{φ:Fr}{a:Act}(f:cr N σ s φ a)(h:dm σ s (a.tmps.getD b ah) d):cr N σ s ((b,d)::φ) a:=by
 refine⟨f.size,f.defers,λt=>?_⟩;simp only[look];cases hb:av b t with
 |false=>exact f.slot t
 |true=>grind[Nat.eq_of_beq_eq_true]
abbrev Kq(n C:Nat):Fr:=[(8,.e (.one (.c (.rp [.val (.slice (aa ⟨C,0,af⟩) n n)]))))]
variable (k ps ns C)in
abbrev UA:Fr:=(8,.e (.one (.c (.rp [.val (.slice (aa ⟨C,0,af⟩) ns.length ns.length)]))))::(4,.e (.one (.c (.rp [.sl ae 2 ps.length (cP.fn ps)]))))::(3,.e (.one (.c (.rp [.int .i64 k]))))::(18,cI.sl ns)::(19,dI ns.length)::(20,dI 0)::[(9,.e (.one (.ptr 4 0)))]
def UB(hfe:dK (Cx.work ag) 123 (lQ k)){Q:Post}(hn:ns.length<=4000000)(UC:nZ (Cx.beside ag) 45 qL Q (Kq ns.length C) (EC k ps ns C)):nZ (Cx.beside ag) 45 Xx Q (N7 ns) (AI k ps ns C xs):=by
 intro so ao hf hho b kk cs S hb MA hQ;have h:At (AI k ps ns C xs) so (N7 ns) (AI k ps ns C xs) ao so:=⟨hf,hho,.refl _ _⟩;refine h.ctl rfl (λw=>vd RG) λs h=>?_
 refine h.ctl rfl (λw=>nO) λs h=>?_;refine h.code hb pR3 λa s h=>?_;obtain⟨s1,w1,f1,A,Qx⟩:=cr.freeze 3 0 (E:=3) (cs:=[.c (.int .i64 k)]) (cc:=[.int .i64 k]) rfl rfl rfl h.fr h.hh;refine .ghost (.of h.hh A w1 (Qx.ow h.hh)) ?_;obtain⟨s2,w2,f2,D,oE⟩:=cr.freeze 4 1 (E:=23) (cs:=[.c (.sl ae 2 ps.length (cP.fn ps))]) (cc:=[.sl ae 2 ps.length (cP.fn ps)]) rfl rfl rfl f1 A;refine .ghost (.of A D w2 (oE.ow A)) ?_;obtain⟨s3,w3,f3,SW,QY⟩:=cr.freeze 8 3 (E:=154) (cs:=[.c (.val (.slice (aa ⟨C,0,af⟩) ns.length ns.length))]) (cc:=[.val (.slice (aa ⟨C,0,af⟩) ns.length ns.length)]) rfl rfl rfl f2 D;refine .ghost (.of D SW w3 (QY.ow D)) ?_;have h:At (AI k ps ns C xs) so (UA k ps ns C)
   [.dead,.dead,.cq (iR 166 2 (.row C ns.length) ns.length xs),.dead,.cells 164 [.c (.int .u64 0),.c (.int .u32 0)]] a s3 :=
  ⟨f3.le (dj rfl (by simp)),SW,h.st.trans ((Qx.ow h.hh).trans ((oE.ow A).trans (QY.ow D)))⟩
 clear Qx oE QY f1 f2 f3 A D SW;refine h.ctl rfl (λw=>rP) λs h=>?_;refine h.ctl rfl (λw=>Fp) λs h=>?_;have hlen:=h.hh.len;simp only[fQ,jz]at hlen;obtain⟨F,y⟩:∃L,s.β[2]?=aa L:=⟨_,bg (by omega)⟩
 obtain⟨W,H⟩:∃L,s.β[4]?=aa L:=⟨_,bg (by omega)⟩
 obtain⟨ch,hH,UD,Qh,Xj⟩:=h.hh.box 2 _ F rfl y;obtain⟨zs,V9,Qn,Tl⟩:=iR.lookup hH;obtain⟨Ze,_,Z8,_,_,_⟩:=hH;have V:C∈F.bs:=(Qh C).2 (by grind);have UE:=UD C _ Qn;obtain⟨Wg,vs,abN,K,SG,hM4⟩:=h.hh.box 4 _ W rfl H;have Xy:vs=[.int .u64 0,.int .u32 0]:=by
  match vs,SG with
  |[],r=>exact r.elim
  |[_],r=>exact r.2.elim
  |_::_::_::_,r=>exact r.2.2.elim
  |[u0,u1],r =>
   have r0:Rd s.M u0 (.int .u64 0):=r.1;have r1:Rd s.M u1 (.int .u32 0):=r.2.1;cases r0;cases r1;rfl
 subst Xy;have Bf:C≠Wg:=by grind
 have hv9:a.tmps.getD 9 ah=.pointer (aa ⟨Wg,0,af⟩):=by obtain⟨_,L,bb,q1,q2,q3⟩:=h.fr.slot 9;grind
 obtain⟨g1,t1⟩:=h.hh.Uy (l:=2) rfl y (.inr ⟨_,rfl⟩);have Xz:(s.β.set 2 ⟨F.v,[]⟩)[4]?=aa W:=by grind
 obtain⟨g2,t2⟩:=g1.Uy (l:=4) (B:=.cells 164 [.c (.int .u64 0),.c (.int .u32 0)]) rfl Xz (.inl ⟨_,_,rfl⟩);generalize hsB:({s with β:=(s.β.set 2 ⟨F.v,[]⟩).set 4 ⟨W.v,[]⟩}:St)=sB at g2 t2;have eβ:sB.β=(s.β.set 2 ⟨F.v,[]⟩).set 4 ⟨W.v,[]⟩:=by grind
 have eM:sB.M=s.M:=by grind
 have ew:sB.w=s.w:=by grind
 have eo:sB.own=s.own:=by grind
 have Zf:aD d5 sB:=g2;have MF:=(t1.ow h.hh).trans (t2.ow g1);have XA:sB.β[2]?=aa ⟨F.v,[]⟩:=by grind
 have p:∀L∈sB.β,∀x∈L.bs,∃l,l≠2/\l≠4/\s.β[l]?=aa L:=by grind[List.mem_iff_getElem?]
 have Du:C<s.w.heap.size:=h.hh.lt F (bL y) C V;have Bg:Wg<s.w.heap.size:=h.hh.lt W (bL H) Wg (by grind)
 have XB:ME C sB:=⟨by rw[eo];exactλho=>(h.hh.own C ho).2 F (bL y) V,λL d f=>by obtain⟨l,n2,n4,hl⟩:=p L d C f;exact n2 (h.hh.eZ l 2 L F hl y C f V),λo=>by rw[eM];grind,by grind⟩
 have I:ME Wg sB:=⟨by rw[eo];exactλho=>(h.hh.own Wg ho).2 W (bL H) (by grind),λL d f=>by obtain⟨l,n2,n4,hl⟩:=p L d Wg f;exact n4 (h.hh.eZ l 4 L W hl H Wg f (by grind)),λo=>by rw[eM];grind,by grind⟩
 have fB:cr 45 d5 sB (mO k ps ns C Wg 0) a:=by have q:=h.fr.mono MF h.hh.len;have q9:cr 45 d5 sB ((9,.e (.one (.v (.pointer (aa ⟨Wg,0,af⟩)))))::UA k ps ns C) a:=q.seen (by rw[hv9];exact Rd.val rfl);exact q9.le (dj rfl (by simp))
 have U:(xs++zs).toArray.size=2*ns.length:=by grind
 have Nv:∀x,(s.own x∨∃L∈s.β,x∈L.bs)->x<s.w.heap.size:=λx f=>f.elim (λq=>(h.hh.own x q).1) λ⟨L,d,q⟩=>h.hh.lt L d x q;refine .vo (T:=λg' s'=>∃a4 m,At (AI k ps ns C xs) so (Kq ns.length C) (EC k ps ns C) a4 s'/\WgLive 164 Wg s'.w/\Goes ag ab (fw 164 Wg) DC0 (λg _=>g=G (b.aT (a4.put (aa 28) (.tuple #[])) (.inRegion x7 []::.code qL::kk)) cs) m g' s'.w)
  (Be.fork (n:=ns.length) (ty:=164) (val:=MV k ps ns) (N:=2*ns.length) (s0:=sB) 2 (by omega) Wg C (by omega) Bf (.of h.hh Zf ew MF) rfl ⟨F,bL y,V⟩ ⟨W,bL H,by grind⟩ Nv ?_ K ⟨_,UE,U⟩ ?_) ?_
 .rintro x (rfl|rfl)
  .exact⟨XB.own,XB.β,XB.M⟩
  .exact⟨I.own,I.β,I.M⟩
 .intro Y hYW hYC hYk;subst hYW hYC;refine⟨TF k ps ns Y d5 sB b kk cs,VQ k ps ns Y d5 sB b kk cs,λg s f=>anF I MA f,?_,?_⟩
  .refine N6 hfe hYk I MA hb (by decide) hn (λi hi=>rfl) (λi hi=>rfl) ns.length (ba _) a sB ⟨by grind,Zf,.refl _ _⟩ ⟨_,_,by rw[ew];exact K⟩
  .rintro g' s' ⟨a4,⟨j,Kn⟩,m,hgo⟩ hm' UF RH abS FI;obtain⟨o1,o2,o3⟩:=FI Y.C (.inl rfl);obtain⟨lY,P,abT⟩:=UF;have TR:lY=(lR k ps ns).toArray:=by
    apply Array.ext_getElem?;intro o;have eo':(lR k ps ns).toArray[o]?=(lR k ps ns)[o]?:=by simp
    rw[eo'];rcases cG o (2*ns.length)with ho|ho
    .have q1:=RH (o / 2) (by omega) (o % 2) (by omega);have q2:=AJ (k:=k) (ps:=ps) (ns:=ns) (x:=o / 2) (i:=o % 2) (by omega) (by omega);rw[show 2*(o / 2)+o % 2=o by omega]at q1 q2;rw[q2];simpa[aW,P]using q1
    grind[Cq]
   subst TR;have Dr:s'.β.length=5:=j.hh.len;obtain⟨B2',Zg,p1,p2,p3⟩:=j.st.box 2 .dead ⟨F.v,[]⟩ rfl XA;have abV:Zg.v=.nilFunc:=by cases p1;exact(show Zg.v=F.v from p3).trans Ze
   have J:∀(l:Nat) (B:bm),d5[l]?=aa B->B=.dead:=by
    intro l B u
    match l,u with
    |0,u|1,u|2,u|3,u|4,u=>cases u;rfl
   have X:∀l,(s'.β.set 2 ⟨.nilFunc,[Y.C]⟩)[l]?=if l=2 then aa ⟨.nilFunc,[Y.C]⟩else s'.β[l]?:=by grind
   have z:∀L∈s'.β.set 2 ⟨.nilFunc,[Y.C]⟩,L=⟨.nilFunc,[Y.C]⟩∨L∈s'.β:=λL d=>by grind
   have hh4:aD (EC k ps ns Y.C) {s' with β:=s'.β.set 2 ⟨.nilFunc,[Y.C]⟩}:=by
    refine⟨j.hh.mem,by simp[Dr,EC],?_,?_,?_,λx f=>⟨(j.hh.own x f).1,λL d O=>?_⟩⟩
    .intro l B L u d;rw[X]at d;by_cases e:l=2
     .subst e;rw[br rfl]at d;cases d;cases u;refine⟨λb'=>if b'=Y.C then aa (.cells (lR k ps ns++[]).toArray 166 (0,0))else af,⟨rfl,?_,Cq,ba _,by omega,[],by grind,rfl⟩,λb' ob ov=>?_,λb'=>?_,λb' ov o=>?_⟩
      .intro x f;simp only[lR,pV]at f;obtain⟨_,_,f⟩:=f;simp only[dC,nK,or_false]at f;rcases f with rfl|rfl<;>rfl
      .by_cases e:b'=Y.C
       .subst e;simp only[bY]at ov;cases ov;rw[kK];exact P
       grind
      .by_cases e:b'=Y.C<;>simp[e]
      grind
     .match l,u,e with
      |0,u,_|1,u,_|3,u,_|4,u,_=>cases u;trivial
      |2,_,e=>grind
    .intro l l' L L' d Z x f Ps;rw[X]at d Z;by_cases e:l=2
     .grind
     .rw[a9 e]at d;by_cases e':l'=2
      .grind
      .rw[a9 e']at Z;exact j.hh.eZ l l' L L' d Z x f Ps
    .intro L d x f;rcases z L d with rfl|d
     .grind
     .exact j.hh.lt L d x f
    .rcases z L d with rfl|d
     .grind
     .exact(j.hh.own x f).2 L d O
   have XC:cR [.dead,.dead,.cq (iR 166 2 (.row Y.C ns.length) ns.length xs),.dead,.cells 164 [.c (.int .u64 0),.c (.int .u32 0)]] s (EC k ps ns Y.C) {s' with β:=s'.β.set 2 ⟨.nilFunc,[Y.C]⟩}:=by
    have q:=j.st;refine⟨by have:=q.size;grind,λx f=>by have:=q.keep x (by grind);grind,λx o v f=>q.mem x o v (by grind),λx f hnx o=>?_,λL d x f=>?_,?_,by rw[q.os,ew],by rw[q.tape,ew],by rw[q.output,ew],by rw[q.own,eo]⟩
    .rw[q.iO x (by grind) (λL d O=>by
      obtain⟨l,_,_,hl⟩:=p L d x O
      grind) o,eM]
    .rcases z L d with rfl|d
     .grind
     .rcases q.uW L d x f with r1|⟨L0,r1,r2⟩
      .grind
      .obtain⟨l,_,_,hl⟩:=p L0 r1 x r2;grind
    .intro l B L u d;obtain⟨B1,L1,r1,r2,r3⟩:=MF.box l B L u d;obtain⟨B3,L3,u1,u2,u3⟩:=q.box l B1 L1 r1 r2;have eB1:=J l B1 r1;have eB3:=J l B3 u1;subst eB1 eB3;by_cases e:l=2
     .subst e;cases u;rw[y]at d;cases d;exact⟨_,⟨.nilFunc,[Y.C]⟩,rfl,by grind,Ze.symm⟩
     .refine⟨.dead,L3,?_,by grind,r3.trans u3⟩
      match l,u1,e with
      |0,_,_|1,_,_|3,_,_|4,_,_=>rfl
      |2,_,e=>grind
   refine⟨{s' with β:=s'.β.set 2 ⟨.nilFunc,[Y.C]⟩},⟨a4,m,⟨⟨j.fr.size,⟨[],?_⟩,λt=>?_⟩,hh4,h.st.trans XC⟩,Kn,hgo⟩,rfl,hm',λSh R hnC=>⟨R.own,λx f L d O=>?_,R.M,R.lt⟩⟩
   .obtain⟨ls,Q0⟩:=j.fr.defers;rw[k7 (λB u=>by grind) Q0];trivial
   .have fq:cr 45 d5 s' (Kq ns.length Y.C) a4:=j.fr.le (dj rfl (by simp));exact dm.closed (s:=s') (s':={s' with β:=s'.β.set 2 ⟨.nilFunc,[Y.C]⟩}) rfl (fq.slot t) (qm rfl)
   .rcases z L d with rfl|d
    .grind
    .exact R.β x f L d O
 .rintro g' s' ⟨a4,m,h4,hl4,hgo⟩;refine At.goes m g' s' h4 hl4 hgo λs1 h1=>?_;have h2:At (AI k ps ns C xs) so ((28,.any)::Kq ns.length C) (EC k ps ns C) (a4.put (aa 28) (.tuple #[])) s1:=⟨h1.fr.put (by decide) ar,h1.hh,h1.st⟩
  refine h2.ctl rfl (λw=>iQ) λs2 h3=>?_;refine UC s2 _ (h3.fr.le (dj rfl (by simp))) h3.hh b kk cs S hb MA λe φ' σ' s' a' q f' h' qB=>hQ e φ' σ' s' a' q f' h' (h3.st.trans qB)
end
end
end R1
end Go.AM
