/- Part 4. No condition. -/
import Derived.Test.YtpddeenenibhjaaGreatDoorA3
import Derived.Lib.Bytealg
import Derived.Sort.AssemblyPlain
import Derived.Sort.LotD5
import Derived.Sort.Walk13a
import Derived.Conc.DeferLaws
set_option linter.all false
set_option maxHeartbeats 8000000
open Go.Proofs
open Go renaming Value → aj, TypeId → ay, undef → ah, Operand → aC, execOp → aq, World → aA, Program → aK, Oper → aB, Goroutine → ak, stepG → aG, FuncId → aP
open Option renaming some → aa, none → af
open Bool renaming true → ab, false → ae
open Go.World renaming cell? → aU
open List renaming getD_eq_getElem?_getD → ai, range → a9
open Go.Sem renaming events_bind → aJ
open Go.Result renaming evThen_ok → aO
open Nat renaming beq → av, ble → bn
open Go.Op renaming bytesLess → aY
open Go.Proofs.Tryz renaming prog → ag
open Go.Conc renaming stepG_seq → az, stepG_region_end → aw
namespace Go.AM
variable {n k l b i j:Nat}{E:ay}{H:aj->(Nat->Option Obj)->Prop}{L:Array Bool}{M:Mem}{N:Nat}{P:aK}{S:ak->St->Prop}{c:Code}{g:ak}{o:aB}{s:St}{t:ay}{v:aj}{w:aA}{x y:aC}{α:Type}{η:aC->D}{ι:Type}{σ:List ba}{φ:Fr}{all:List aB}{jK:Array ay}{cap:List C}{cu:List D}{cs:List Frame}{ds:List (Nat×Bool)}{es:Nat->List C}{fo:aC}{obs:List Prop}{off:Nat}{op:BinOp}{ops:Array aB}{ps:List Prop}{rest:List aB}{s':St}{ty:ay}{val:Nat->Nat->aj}{vs:List aj}{w':aA}{xs:Array aC}{σ' σs:List ba}{res:ι->D}{σ1:ι->List ba}
variable {CT:List (Nat×di)}{K:List It}{Qf:Post}{T:List (Nat×TI)}{ie:TI}
def Fo(cs:List C)(j:Nat):Nat×(Nat->List C):=match eh j cs with|some (.sl _ _ n es)=>(n,es)|_=>(0,λ_=>[])
def cI:jX Int:={k:=1,enc:=λn=>[.int .i64 n],dec:=λcs=>vg cs 0,bG:=0,inv:=λ_=>rfl,len:=λ_=>rfl}
def cS:jX Bs:={k:=1,enc:=λs=>[.str s],dec:=λcs=>AG cs 0,bG:=[],inv:=λ_=>rfl,len:=λ_=>rfl}
namespace R1
def eb:jX ck:={k:=2,enc:=λx=>[.int .i64 x.1,.str x.2],dec:=λcs=>(vg cs 0,AG cs 1),bG:=(0,[]),inv:=λ_=>rfl,len:=λ_=>rfl}
def nE:jX dj:={k:=2,enc:=λx=>[.int .i64 x.1,.int .i64 x.2],dec:=λcs=>(vg cs 0,vg cs 1),bG:=(0,0),inv:=λ_=>rfl,len:=λ_=>rfl}
abbrev sP(p:bw):C:=.sl ae 2 p.2.length (eb.fn p.2)
def cP:jX bw:={k:=2,enc:=λp=>[.int .i64 p.1,sP p],dec:=λcs=>(vg cs 0,eb.list (Fo cs 1).1 (Fo cs 1).2),bG:=(0,[]),inv:=λp=>by show(p.1,eb.list p.2.length (eb.fn p.2))=p;rw[eb.list_fn],len:=λ_=>rfl}
def cL:jX gj:={k:=2,enc:=λx=>[.str x.1,.sl ae 1 x.2.length (cI.fn x.2)],dec:=λcs=>(AG cs 0,cI.list (Fo cs 1).1 (Fo cs 1).2),bG:=([],[]),inv:=λp=>by show(p.1,cI.list p.2.length (cI.fn p.2))=p;rw[cI.list_fn],len:=λ_=>rfl}
def dZ:jX cm:={k:=2,enc:=λx=>[.int .i64 x.1,.sl ae 2 x.2.length (cL.fn x.2)],dec:=λcs=>(vg cs 0,cL.list (Fo cs 1).1 (Fo cs 1).2),bG:=(0,[]),inv:=λp=>by show(p.1,cL.list p.2.length (cL.fn p.2))=p;rw[cL.list_fn],len:=λ_=>rfl}
def cH:jX (Int×Int):=nE
abbrev D9(p:bw):D:=.e (.agg [.c (.int .i64 p.1),.c (sP p)])
abbrev T4(r:Option Bs):D:=.e (.agg [.c (.str (r.getD [])),.c (.bool r.isSome)])
end R1
structure Arg(α:Type) where
 enc:α->D
 arg:D->Option (α×List Prop)
 ok:∀{d a o},arg d=aa (a,o)->au o->∀{σ:List ba} {s:St} {v:aj},dc σ s v d->dc σ s v (enc a)
def aI:Arg Int:=⟨dI,λd=>match d with|.e (.one (.c (.int .i64 n)))=>aa (n,[])|_=>af,λ{d a o} h _ _ _ _ r=>by grind⟩
def aS:Arg Bs:=⟨dS,λd=>match d with|.e (.one (.c (.str n)))=>aa (n,[])|_=>af,λ{d a o} h _ _ _ _ r=>by grind⟩
def aL(c:jX α):Arg (List α):=⟨c.sl,λd=>match jl c.k d with|some (n,es)=>aa (c.list n es,[c.fits n es])|none=>af,λ{d a o} h b _ _ _ r=>by
 split at h
 .rename_i n es he;cases h;exact c.iF he b r
 .cases h⟩
def QP:Arg (Int×Bs):=⟨λx=>.e (.agg [.c (.int .i64 x.1),.c (.str x.2)]),λd=>match d with|.e (.agg [.c (.int .i64 a),.c (.str b)])=>aa ((a,b),[])|_=>af,λ{d a o} h _ _ _ _ r=>by grind⟩
def T5:Arg (Int×Int):=⟨λx=>.e (.agg [.c (.int .i64 x.1),.c (.int .i64 x.2)]),λd=>match d with|.e (.agg [.c (.int .i64 a),.c (.int .i64 b)])=>aa ((a,b),[])|_=>af,λ{d a o} h _ _ _ _ r=>by grind⟩
def BF(c:jX α):Arg (Int×List α):=⟨λx=>.e (.agg [.c (.int .i64 x.1),.c (.sl ae c.k x.2.length (c.fn x.2))]),λd=>match d with
 |.e (.agg [.c (.int .i64 a),.c b])=>match jl c.k (.e (.one (.c b)))with|some (n,es)=>aa ((a,c.list n es),[c.fits n es])|none=>af
 |_=>af,λ{d a o} h m _ s _ r=>by
 split at h
 .split at h
  .rename_i n es he;cases h;obtain⟨vs,p,g⟩:=r
   match vs,g with
   |[],g=>exact g.elim
   |[_],g=>exact g.2.elim
   |_::_::_::_,g=>exact g.2.2.elim
   |[q,l],g=>exact⟨_,p,g.1,c.iF (σ:=[]) (s:=s) (v:=l) he m g.2.1,ar⟩
  .cases h
 .cases h⟩
def ki(A:Arg α)(res:α->D)(pre:α->List Prop):di:=λargs σ=>match args,σ with
 |[d],[]=>match A.arg d with
  |some (a,o)=>aa (res a,[],jC o (pre a))
  |none=>af
 |_,_=>af
def mX{i:Type}(A:Arg α)(B:Arg i)(res:α->i->D)(pre:α->i->List Prop):di:=λargs σ=>match args,σ with
 |[d,e],[]=>match A.arg d with
  |some (a,o)=>match B.arg e with
   |some (b,p)=>aa (res a b,[],jC o (jC p (pre a b)))
   |none=>af
  |none=>af
 |_,_=>af
def Ct{i j:Type}(A:Arg α)(B:Arg i)(C:Arg j)(res:α->i->j->D)(pre:α->i->j->List Prop):di:=λargs σ=>match args,σ with
 |[d,e,f],[]=>match A.arg d with
  |some (a,o)=>match B.arg e with
   |some (b,p)=>match C.arg f with
    |some (c,q)=>aa (res a b c,[],jC o (jC p (jC q (pre a b c))))
    |none=>af
   |none=>af
  |none=>af
 |_,_=>af
section
variable {X:Cx P}{f:aP}{i j:Type}{A:Arg α}{B:Arg i}{C:Arg j}
def dw.oe{res:α->D}{pre:α->List Prop}(h:∀a,au (pre a)->Ev X f [A.enc a] [] (res a) []):dw X f (ki A res pre):=by
 intro args σ r σ' obs h1 ho;unfold ki at h1;split at h1
 .split at h1
  .rename_i d a o b;cases h1;rw[au.cat]at ho;exact(h a ho.2).args λs vs=>cd.imp (λ_ r=>A.ok b ho.1 r) (λ_ r=>r) vs
  .cases h1
 .cases h1
def dw.px{res:α->i->D}{pre:α->i->List Prop}(h:∀a b,au (pre a b)->Ev X f [A.enc a,B.enc b] [] (res a b) []):dw X f (mX A B res pre):=by
 intro args σ r σ' obs h1 ho;unfold mX at h1;split at h1
 .split at h1
  .rename_i d e a o c;split at h1
   .rename_i b p hb;cases h1;rw[au.cat,au.cat]at ho;exact(h a b ho.2.2).args λs vs=>cd.imp (λ_ r=>A.ok c ho.1 r) (cd.imp (λ_ r=>B.ok hb ho.2.1 r) (λ_ r=>r)) vs
   .cases h1
  .cases h1
 .cases h1
def dw.Ig{res:α->i->j->D}{pre:α->i->j->List Prop}(h:∀a b c,au (pre a b c)->Ev X f [A.enc a,B.enc b,C.enc c] [] (res a b c) []):dw X f (Ct A B C res pre):=by
 intro args σ r σ' obs h1 ho;unfold Ct at h1;split at h1
 .split at h1
  .rename_i d e g a o l;split at h1
   .rename_i b p hb;split at h1
    .rename_i c q k;cases h1;rw[au.cat,au.cat,au.cat]at ho;exact(h a b c ho.2.2.2).args λs vs=>cd.imp (λ_ r=>A.ok l ho.1 r) (cd.imp (λ_ r=>B.ok hb ho.2.1 r) (cd.imp (λ_ r=>C.ok k ho.2.2.1 r) (λ_ r=>r))) vs
    .cases h1
   .cases h1
  .cases h1
 .cases h1
end
namespace R1
def wF(a:List D)(res:D):di:=λargs σ=>match σ with|[]=>aa (res,[],[args=a])|_=>af
def AH{X:Cx ag}{f:aP}{a:List D}{res:D}(h:Ev X f a [] res []):dw X f (wF a res):=by
 intro args σ r σ' obs he ho;unfold wF at he;split at he
 .cases he;have:args=a:=ho;subst this;exact h
 .cases he
def Nz(a:List D)(σ0:List ba)(res:D)(σ1:List ba):di:=λargs σ=>aa (res,σ1,[args=a,σ=σ0])
def Sk{X:Cx ag}{f:aP}{a:List D}{σ0 σ1:List ba}{res:D}(h:Ev X f a σ0 res σ1):dw X f (Nz a σ0 res σ1):=by intro args σ r σ' obs he ho;cases he;obtain⟨c,b⟩:args=a/\σ=σ0:=ho;subst c b;exact h
end R1
def FB(M:Mem):List aj->List C->Prop
 |[],[]=>True
 |v::vs,c::cs=>Rd M v c/\FB M vs cs
 |_,_=>False
structure FA(α:Type) where
 enc:α->List C
 dec:List C->Option (α×List Prop×List C)
 ok:∀{cs a o r},dec cs=aa (a,o,r)->au o->∀{M:Mem} {vs:List aj},FB M vs cs->∃v1 v2,vs=v1++v2/\FB M v1 (enc a)/\FB M v2 r
def FB.app{M:Mem}:∀{v1 v2:List aj}{c1 c2:List C},FB M v1 c1->FB M v2 c2->FB M (v1++v2) (c1++c2)
 |[],_,[],_,_,h=>h
 |_::_,_,_::_,_,h1,h2=>⟨h1.1,h1.2.app h2⟩
 |[],_,_::_,_,h,_=>h.elim
 |_::_,_,[],_,h,_=>h.elim
def FB.one{c:C}{r:List C}(h:FB M vs (c::r)):∃v a,vs=v::a/\Rd M v c/\FB M a r:=by
 cases vs with
 |nil=>exact h.elim
 |cons v vs=>exact⟨v,vs,rfl,h⟩
def fL(c:jX α):FA (List α):=⟨λl=>[.sl ae c.k l.length (c.fn l)],λcs=>match cs with
 |d::r=>match jl c.k (.e (.one (.c d)))with|some (n,es)=>aa (c.list n es,[c.fits n es],r)|none=>af
 |_=>af,λ{cs a o r} h f M vs hr=>by
 split at h
 .split at h
  .rename_i n es he;cases h;obtain⟨v,b,rfl,g,i⟩:=hr.one;exact⟨[v],b,rfl,⟨c.iF (σ:=[]) (s:=⟨[],M,default,λ_=>True⟩) (v:=v) he f g,ar⟩,i⟩
  .cases h
 .cases h⟩
def fP{d:Type}(A:FA α)(B:FA d):FA (α×d):=⟨λx=>A.enc x.1++B.enc x.2,λcs=>match A.dec cs with
 |some (a,o,r)=>match B.dec r with|some (b,p,q)=>aa ((a,b),jC o p,q)|none=>af
 |none=>af,λ{cs a o r} h c M vs hr=>by
 split at h
 .rename_i k;split at h
  .rename_i j;cases h;rw[au.cat]at c;obtain⟨v1,m,rfl,i,l⟩:=A.ok k c.1 hr;obtain⟨e,v4,rfl,f,g⟩:=B.ok j c.2 l;exact⟨v1++e,v4,(ju _ _ _).symm,i.app f,g⟩
  .cases h
 .cases h⟩
def T7:List A->Option (List C)
 |[]=>aa []
 |.c x::r=>match T7 r with|some q=>aa (x::q)|none=>af
 |_=>af
def VU:List C->List A
 |[]=>[]
 |x::r=>.c x::VU r
def IA{σ:List ba}{s:St}:∀{cs:List A}{q:List C}{vs:List aj},T7 cs=aa q->dH σ s vs cs->FB s.M vs q
 |[],q,vs,h,a=>by cases h;cases vs with|nil=>trivial|cons=>exact a.elim
 |.c x::r,q,vs,h,a=>by
  simp only[T7]at h;split at h
  .rename_i b;cases h;cases vs with
   |nil=>exact a.elim
   |cons v vs=>exact⟨a.1,IA b a.2⟩
  .cases h
 |.ptr ..::_,_,_,h,_=>by cases h
 |.vec ..::_,_,_,h,_=>by cases h
 |.ref ..::_,_,_,h,_=>by cases h
 |.bp ..::_,_,_,h,_=>by cases h
 |.any::_,_,_,h,_=>by cases h
def IB{σ:List ba}{s:St}:∀{q:List C}{vs:List aj},FB s.M vs q->dH σ s vs (VU q)
 |[],[],_=>trivial
 |_::_,_::_,h=>⟨h.1,IB h.2⟩
 |[],_::_,h=>h.elim
 |_::_,[],h=>h.elim
def aAg(F:FA α):Arg α:=⟨λa=>.e (.agg (VU (F.enc a))),λd=>match d with
 |.e (.agg xs)=>match T7 xs with
  |some cs=>match F.dec cs with|some (a,o,[])=>aa (a,o)|_=>af
  |none=>af
 |_=>af,λ{d a o} h f σ s v r=>by
 split at h
 .split at h
  .rename_i i;split at h
   .rename_i g;cases h;obtain⟨vs,rfl,b⟩:=r;obtain⟨v1,j,rfl,c,k⟩:=F.ok g f (IA i b);cases j with
    |nil=>exact⟨v1,by rw[j7],IB c⟩
    |cons=>exact k.elim
   .cases h
  .cases h
 .cases h⟩
namespace R1
section
variable {X:Cx ag}
def Ia(k:Int):Ev X 49 [dI k] [] (dB (cw k)) []:=by
 refine Ev.bQ Tryz.func49 rfl λc=>?_;by_cases a:1<=k
 .by_cases b:k<=99
  .refine aV [(4,ab),(7,ab)] rfl ?_ (AK.bg rfl ?_)
   .simp[a,b]
   .simp[cw,a,b]
  .refine aV [(4,ab),(7,ae)] rfl ?_ (AK.bg rfl ?_)
   .simp[a];omega
   .simp[cw,a,b]
 .refine aV [(4,ae)] rfl ?_ (AK.bg rfl ?_)
  .simp;omega
  .simp[cw,a]
def t49:dw X 49 (ki aI (λk=>dB (cw k)) λ_=>[]):=.oe λk _=>Ia k
def yZ{s:Bs}(h:i<s.length):bX (s.take (i+1))=(bX (s.take i)&&et (s.getD i 0)):=by unfold bX;grind[List.take_add_one]
def og{b:UInt8}:et b=ab↔97<=(b.toNat:Int)/\(b.toNat:Int)<=122:=by simp[et];omega
def vb{s:Bs}(h:i<s.length)(b:et (s.getD i 0)=ae):bX s=ae:=by
 cases a:bX s with
 |false=>rfl
 |true =>
  have:=List.all_eq_true.1 a (s.getD i 0) (by grind);grind
def AA(s:Bs):Ev X 182 [dS s] [] (dB (bX s)) []:=by
 refine Ev.bQ Tryz.func182 rfl λg=>?_;have f:=g.str 0 rfl;refine br rfl ar ?_;refine AK.uR (λi=>i<=s.length/\bX (s.take i)=ab) (λi:Nat=>[(0,dS s),(5,dI s.length),(6,dI i)]) (λ_=>[]) (λi=>s.length-i) 0 rfl (by simp) ⟨by omega,by simp[bX]⟩ rfl ?_;rintro i ⟨hi,a⟩;by_cases h:i<s.length
 .by_cases b:cq s i<97
  .refine aV [(7,ab),(12,ab)] rfl ?_ (AK.gu (b7.zero rfl ?_))
   .simp[-ai,h,cr,b]
   .have:et (s.getD i 0)=ae:=by
     cases c:et (s.getD i 0)with
     |false=>rfl
     |true=>have:=og.1 c;unfold cq at b;omega
    simp[vb h this]
  .by_cases d:cq s i<=122
   .refine aV [(7,ab),(12,ae),(17,ae)] rfl ?_ (AK.again (i+1) rfl ?_ ?_ ?_ rfl)
    .simp[-ai,h,cr,b,d,bq];grind
    .simp
    .refine⟨by omega,?_⟩;rw[yZ h,a,eZ];exact og.2 (by unfold cq at b d;omega)
    .omega
   .refine aV [(7,ab),(12,ae),(17,ab)] rfl ?_ (AK.gu (b7.zero rfl ?_))
    .simp[-ai,h,cr,b];grind
    .have:et (s.getD i 0)=ae:=by
      cases c:et (s.getD i 0)with
      |false=>rfl
      |true=>have:=og.1 c;unfold cq at d;omega
     simp[vb h this]
 .have e:i=s.length:=by omega
  subst e;refine aV [(7,ae)] rfl (by simp) (AK.leave rfl rfl ?_);refine br rfl ar (AK.bg rfl ?_);rw[cB]at a;simp[a]
def Sf:dw X 182 (ki aS (λs=>dB (bX s)) λ_=>[]):=.oe λk _=>AA k
abbrev Z1:List (Nat×di):=[(49,ki aI (λk=>dB (cw k)) λ_=>[]),(182,ki aS (λs=>dB (bX s)) λ_=>[])]
def VD:bA X Z1:=.cons t49 (.cons Sf .nil)
def AB(p:Bs):Ev X 195 [dS p] [] (dB (bC p)) []:=by
 refine Ev.bQ Tryz.func195 rfl λc=>?_;by_cases a:1<=p.length
 .by_cases b:p.length<=8
  .refine aM VD [(5,ab),(9,ab),(11,ab)] rfl ?_ (AK.bg rfl ?_)
   .simp;omega
   .simp[bC,a,b]
  .refine aM VD [(5,ab),(9,ae),(11,ae)] rfl ?_ (AK.bg rfl ?_)
   .simp;omega
   .simp[bC,a,b]
 .refine aM VD [(5,ae),(11,ae)] rfl ?_ (AK.bg rfl ?_)
  .simp;omega
  .simp[bC,a]
def t195:dw X 195 (ki aS (λs=>dB (bC s)) λ_=>[]):=.oe λk _=>AB k
def AD(n:Nat)(h:n<=4000000):Ev X 219 [dI n] [] (dI (cy n)) []:=by
 refine Ev.bQ Tryz.func219 rfl λe=>?_;by_cases c:n<1
 .refine aV [(5,ab),(9,ab)] rfl ?_ (AK.bg rfl ?_)
  .simp;omega
  .simp[cy,c]
 .by_cases b:8<n
  .refine aV [(5,ae),(8,ab)] rfl ?_ (AK.bg rfl ?_)
   .simp;omega
   .simp[cy,b]
  .refine aV [(5,ae),(8,ae)] rfl ?_ ?_
   .simp;omega
   have d:cy n=2∨cy n=4∨cy n=8:=by unfold cy;grind
   refine AK.uR (λi:Nat=>(i=2∨i=4∨i=8)/\i<=cy n) (λi:Nat=>[(0,dI n),(3,dI i)]) (λ_=>[]) (λi=>8-i) 2 rfl (by simp) ⟨by simp,by omega⟩ rfl ?_;rintro i ⟨hi,a⟩;by_cases h:i<n
   .refine aV [(12,ab)] rfl ?_ (AK.again (2*i) rfl ?_ ?_ ?_ rfl)
    .simp[bq];omega
    .simp;omega
    .unfold cy at a⊢;grind
    .omega
   .refine aV [(12,ae)] rfl (by simp;omega) (AK.leave rfl rfl ?_);refine br rfl ar (AK.bg rfl ?_);have:i=cy n:=by unfold cy at a⊢;grind
    simp[this]
theorem Cr(s:Bs)(b:UInt8):strip (s++[b])=if b=46 then strip s else s++[b]:=by unfold strip;grind[List.dropWhile_cons]
def vc{s:Bs}(h:n<s.length):strip (s.take (n+1))=if s.getD n 0=46 then strip (s.take n)else s.take (n+1):=by grind[List.take_add_one,Cr]
theorem AE(s:Bs):Ev X 214 [dS s,dU 46] [] (dS (strip s)) []:=by
 refine Ev.bQ Tryz.func214 rfl λj=>?_;have f:=j.str 0 rfl;refine br rfl ar ?_;refine AK.uR (λn=>n<=s.length/\strip (s.take n)=strip s) (λn:Nat=>[(0,dS (s.take n)),(1,dU 46)]) (λ_=>[]) (λn=>n) s.length rfl (by simp) ⟨by omega,by simp⟩ rfl ?_;rintro n ⟨k,a⟩;cases n with
 |zero =>
  refine aV [(7,ae),(16,ae)] rfl ?_ (AK.leave rfl rfl ?_)
  .simp
  refine br rfl ar (AK.bg rfl ?_);have:strip s=[]:=by rw[<-a];rfl
  simp[this]
 |succ n =>
  have h:(s.take (n+1)).length=n+1:=by grind
  have g:cq (s.take (n+1)) n=cq s n:=by simp[cq,ai,ig]
  have i:=vc (s:=s) (n:=n) (by omega);have b:((n:Int)+1-1).toNat=n:=by omega
  by_cases c:s.getD n 0=46
  .refine aV [(7,ab),(15,ab),(16,ab)] rfl ?_ (AK.again n rfl ?_ ?_ ?_ rfl)
   .have d:cq s n=46:=by unfold cq;rw[c];rfl
    simp[-ai,-List.length_take,h,cr,b,g,d,bq];omega
   .simp;show(s.take (n+1)).take _=_;grind
   .grind
   .omega
  .refine aV [(7,ab),(15,ae),(16,ae)] rfl ?_ (AK.leave rfl rfl ?_)
   .have d:cq s n≠46:=by unfold cq;intro e;exact c (oB.1 (by grind))
    simp[-ai,-List.length_take,h,cr,b,g,d,bq];omega
   refine br rfl ar (AK.bg rfl ?_);rw[i,bh c]at a;simp[a]
def Sg:di:=λargs σ=>match args,σ with
 |[.e (.one (.c (.str s))),.e (.one (.c (.int .u8 46)))],[]=>aa (dS (strip s),[],[])
 |_,_=>af
def t214:dw X 214 Sg:=by intro args σ res σ' obs h _;unfold Sg at h;grind[AE]
theorem LC(s:Bs):Ev X 194 [dS s,dS [46]] [] (dS (strip s)) []:=by
 refine Ev.bQ Tryz.func194 rfl λb=>?_;by_cases h:s=[]
 .subst h;refine aM (bA.cons t214 .nil) [(8,ab),(12,ab)] rfl ?_ (AK.bg rfl ?_)
  .simp
  .simp[strip]
 .refine aM (bA.cons t214 .nil) [(8,ae),(11,ae),(12,ae),(16,ab),(20,ab),(21,ab)] rfl ?_ (AK.bg rfl)
  .cases s with
   |nil=>grind
   |cons a r=>simp;decide
def O9:di:=λargs σ=>match args,σ with
 |[.e (.one (.c (.str s))),.e (.one (.c (.str [46])))],[]=>aa (dS (strip s),[],[])
 |_,_=>af
def t194:dw X 194 O9:=by intro args σ res σ' obs h _;unfold O9 at h;grind[LC]
def sK{p:Bs}(h:i<p.length):codeOf (p.take (i+1))=27*codeOf (p.take i)+(cq p i-97) % 256+1:=by unfold codeOf;rw[js,bd h];simp only[List.foldl_append,Option.toList_some,iT,List.foldl_nil,cq,ai,bd h,fK]
def jc{p:Bs}(h:bC p=ab)(hi:i<=p.length):0<=codeOf (p.take i)/\codeOf (p.take i)<282429536481:=by simp only[bC,bP,bc]at h;obtain⟨d,a⟩:=vd (p.take i) 0 1 0 (λb c=>jY h.2 b (jr c)) (by omega) (by omega) (by omega);have:=Ny (n:=(p.take i).length) (by grind);rw[Int.one_mul]at a;exact⟨d,Int.lt_of_lt_of_le a this⟩
def ve{p:Bs}(h:i<p.length):p.getD i 0∈p:=by grind
abbrev Z2:List (Nat×di):=[(49,ki aI (λk=>dB (cw k)) λ_=>[]),(195,ki aS (λs=>dB (bC s)) λ_=>[])]
def o7:bA X Z2:=.cons t49 (.cons t195 .nil)
abbrev Xj(n:Int):D:=.fe [.one (.c (.int .i64 n)),.one (.c .nS)]
def Ie(k:Int)(p:Bs)(g:cw k=ab)(b:bC p=ab):Ev X 197 [dI k,dS p] [] (Xj (gv k p)) []:=by
 refine Ev.bQ Tryz.func197 rfl λr=>?_;have a:=b;simp only[bC,bP,bc]at a;have c:=g;simp only[cw,bP,bc]at c;refine aM o7 [(8,ae),(13,ae)] rfl (by simp[g,b]) ?_;refine AK.uR (λi=>i<=p.length) (λi:Nat=>[(0,dI k),(1,dS p),(6,dI (codeOf (p.take i))),(19,dI p.length),(20,dI i)]) (λ_=>[]) (λi=>p.length-i) 0 rfl (by simp[codeOf]) (by omega) rfl ?_;intro i hi;by_cases h:i<p.length
 .have f:=jc b hi;have q:=jc b (i:=i+1) (by omega);have e:=sK h;refine aV [(21,ab)] rfl ?_ (AK.again (i+1) rfl ?_ ?_ ?_ rfl)
  .simp only[au,cr,bq];simp[-ai,h,cr];have o:=jY a.2 (p.getD i 0) (ve h);have d:97<=cq p i/\cq p i<=122:=by unfold cq;omega
   omega
  .have o:=jY a.2 (p.getD i 0) (ve h);have d:97<=cq p i/\cq p i<=122:=by unfold cq;omega
   have l:(cq p i-97) % 256=cq p i-97:=Int.emod_eq_of_lt (by omega) (by omega);rw[l]at e;simp[-ai,cr,e]
  .grind
  grind
 .have e:i=p.length:=by omega
  subst e;have f:=xk b;refine aV [(21,ae)] rfl (by simp) (AK.leave rfl rfl ?_);refine br rfl ?_ (AK.bg rfl ?_)
  .rw[cB];have n:0<=codeOf p*(2*k+1):=Int.mul_nonneg f.1 (by omega);have j:codeOf p*(2*k+1)<=282429536481*199:=Int.mul_le_mul (by omega) (by omega) (by omega) (by omega);generalize codeOf p*(2*k+1)=m at n j;simp only[au,bq];simp;omega
  .rw[cB];refine au.cat.2 ⟨?_,au.cat.2 ⟨rfl,ar⟩⟩;show(_:Int)=_;rw[Int.mul_comm 7919 k];rfl
def t197:dw X 197 (mX aI aS (λk p=>Xj (gv k p)) λk p=>[cw k=ab,bC p=ab]):=.px λk p h=>Ie k p h.1 h.2
def Pb(h:o.op=.binOp op t x (.const .nilIface) ty){c:Bool}{q:Array (String×ay)}(m:P.underlying t=aa (.interface q))(p:η x=.e (.one (.c .nS)))(n:η (.const .nilIface)=.e (.one (.c .nS)))(j:kY op ab=aa c):bx P o η σ (.e (.one (.c (.bool c)))) σ:=by
 refine .quiet λs l r k=>?_;have f:=k x;have g:=k (.const .nilIface);rw[p]at f;rw[n]at g;replace f:=fp f;replace g:=fp g;generalize b:l x=vx at f;generalize a:l (.const .nilIface)=vy at g;cases f;cases g;have i:(Op.equal t .nilIface .nilIface).run P s.w=.ok ab s.w:=by show(Op.equalIn (9999+1) t _ _).run P s.w=_;unfold Op.equalIn;simp[underlying,m]
 have d:∀es,(Op.equal t .nilIface .nilIface).events P s.w es=es:=λes=>by show(Op.equalIn (9999+1) t _ _).events P s.w es=es;unfold Op.equalIn;simp[underlying,m]
 cases op<;>simp only[kY,reduceCtorEq,dk]at j
 .subst j;exact⟨.bool ab,by simp[aq,h,b,a,eqGuard,binOp,i],Rd.bool,by simp[aq,h,b,a,eqGuard,binOp,i,d]⟩
 .subst j;exact⟨.bool ae,by simp[aq,h,b,a,eqGuard,binOp,i],Rd.bool,by simp[aq,h,b,a,eqGuard,binOp,i,d]⟩
def Fi(k:Int)(p:Bs)(n:Int)(b:cw k=ab)(a:bC p=ab):Ev X 145 [dI k,dS p,dI n] [] (dB (gv k p==n)) []:=by
 refine Ev.bQ Tryz.func145 rfl λc=>?_;refine aM (bA.cons t197 .nil) [(17,ab)] rfl ?_ ?_
 .simp[b,a]
 refine AK.law (Pb rfl Tryz.underlying217 rfl rfl rfl) rfl rfl ?_;refine aM (bA.cons t197 .nil) [(17,ab)] rfl ?_ (AK.bg rfl ?_)
 .rfl
 .rfl
def t145:dw X 145 (Ct aI aS aI (λk p n=>dB (gv k p==n)) λk p _=>[cw k=ab,bC p=ab]):=.Ig λk p n h=>Fi k p n h.1 h.2
abbrev dQ(n:Int):D:=.e (.one (.c (.int .u64 n)))
def _root_.Go.AM.AW.Ea{X:Cx P}{Q:Post}{x y:Code}(h:AW X N y Q φ σ):AW X N (.cond (.const (.bool ae)) x y) Q φ σ:=by intro s a f hh b k cs S hb hQ;refine .ctl hh rfl (λ_=>tC (t:=ae) rfl) λc h1=>?_;exact h c a (f.rely h1 hh) (hh.rely h1) b k cs S hb λe φ' σ' s' a' q d g st=>hQ e φ' σ' s' a' q d g (h1.stepW.trans st)
def _root_.Go.AM.AK.Ea{P:aK}{X:Cx P}{N:Nat}{Qf:Post}{K:List It}{φ:Fr}{σ:List ba}{x y:Code}(h:AK X N Qf (.code y::K) .normal φ σ):AK X N Qf (.code (.cond (.const (.bool ae)) x y)::K) .normal φ σ:=AW.Ea h
def H0{k n:IntKind}{a b:Int}(c:Int)(h:o.op=.binOp op t x y ty)(u:η x=.e (.one (.c (.int k a))))(r:η y=.e (.one (.c (.int n b))))(m:bq k c)(d:∀w,(binOp op t (.int k a) (.int n b)).run P w=.ok (.int k c) w)(l:∀w,(binOp op t (.int k a) (.int n b)).events P w #[]=#[]):
  bx P o η σ (.e (.one (.c (.int k c)))) σ:=by refine .quiet λs q v p=>?_;have j:=p x;have i:=p y;rw[u]at j;rw[r]at i;replace j:=fp j;replace i:=fp i;generalize g:q x=vx at j;generalize f:q y=vy at i;cases j;cases i;exact⟨.int k c,by simp only[aq,h,bL,g,f,fX,b6,d,cK],.int m,by simp[aq,h,g,f,fX,iW,d,l]⟩
def Cz:Ev X 239 [dQ 1,dQ 2] [] (.fe [.one (.c (.int .u64 0)),.one (.c (.int .u64 2))]) []:=by refine Ev.bQ Tryz.func239 rfl λa=>?_;exact dv rfl (by simp[bq]) (AK.bg rfl)
def CB:Ev X 239 [dQ 1,dQ 3] [] (.fe [.one (.c (.int .u64 0)),.one (.c (.int .u64 3))]) []:=by refine Ev.bQ Tryz.func239 rfl λa=>?_;exact dv rfl (by simp[bq]) (AK.bg rfl)
def Sj:di:=λargs σ=>match args,σ with
 |[.e (.one (.c (.int .u64 1))),.e (.one (.c (.int .u64 c)))],[]=>aa (.fe [.one (.c (.int .u64 0)),.one (.c (.int .u64 c))],[],[c=2∨c=3])
 |_,_=>af
def t239:dw X 239 Sj:=by
 intro args σ res σ' obs h a;unfold Sj at h;split at h
 .cases h;rcases a with rfl|rfl
  .exact Cz
  .exact CB
 grind
def Ph(c:Int)(a:c=2∨c=3):Ev X 228 [dQ 1,dQ c] [] (.fe [.one (.c (.int .u64 0)),.one (.c (.int .u64 c))]) []:=by
 refine Ev.bQ Tryz.func228 rfl λb=>?_;refine bR (bA.cons t239 .nil) rfl ar ?_;refine AK.Ea ?_;refine bR (bA.cons t239 .nil) rfl ?_ (AK.bg rfl)
 .simp[a]
def O8:di:=λargs σ=>match args,σ with
 |[.e (.one (.c (.int .u64 1))),.e (.one (.c (.int .u64 c)))],[]=>aa (.fe [.one (.c (.int .u64 0)),.one (.c (.int .u64 c))],[],[c=2∨c=3])
 |_,_=>af
def t228:dw X 228 O8:=by
 intro args σ res σ' obs h a;unfold O8 at h;split at h
 .cases h;exact Ph _ a
 grind
abbrev od:di:=ki aS (λp=>dS (fY p)) λ_=>[]
abbrev y0(r:Option Bs):D:=.fe [.one (.c (.str (r.getD []))),.one (.c (.bool r.isSome))]
def Cu(c:dw X 196 od)(b:Bs):Ev X 144 [dS b] [] (y0 (eR b)) []:=by
 refine Ev.bQ Tryz.func144 rfl λf=>?_;have e:bA X [(194,O9),(195,ki aS (λs=>dB (bC s)) λ_=>[]),(196,od)]:=.cons t194 (.cons t195 (.cons c .nil));by_cases a:bC (strip b)=ab
 .by_cases d:fY (strip b)=b
  .refine aM e [(10,ae),(15,ae)] rfl ?_ (AK.bg rfl ?_)
   .simp[a,d]
   .simp[eR,a,d]
  .refine aM e [(10,ae),(15,ab)] rfl ?_ (AK.bg rfl ?_)
   .simp[a,d]
   .simp[eR,a,d]
 .refine aM e [(10,ab),(15,ab)] rfl ?_ (AK.bg rfl ?_)
  .simp[a]
  .simp[eR,a]
def Si(a:dw X 196 od):dw X 144 (ki aS (λb=>y0 (eR b)) λ_=>[]):=.oe λb _=>Cu a b
def vf{b p:Bs}(h:eR b=aa p):bC p=ab:=by unfold eR at h;grind
abbrev VG(x:ck):D:=QP.enc x
def Ih(c:dw X 196 od)(x:ck)(k:Int)(d:cw k=ab):Ev X 101 [VG x,dI k] [] (y0 (chunk k x)) []:=by
 refine Ev.bQ Tryz.func101 rfl λh=>?_;have f:bA X [(144,ki aS (λb=>y0 (eR b)) λ_=>[]),(145,Ct aI aS aI (λk p n=>dB (gv k p==n)) λk p _=>[cw k=ab,bC p=ab])]:=.cons (Si c) (.cons t145 .nil);cases a:eR x.2 with
 |none =>
  refine aM f [(16,ab),(23,ab)] rfl ?_ (AK.bg rfl ?_)
  .simp[a]
  .simp[chunk,a]
 |some p =>
  have g:=vf a;by_cases e:gv k p=x.1
  .refine aM f [(16,ae),(23,ae)] rfl ?_ (AK.bg rfl ?_)
   .simp[a,e,d,g]
   .simp[chunk,a,e,d]
  .refine aM f [(16,ae),(23,ab)] rfl ?_ (AK.bg rfl ?_)
   .simp[a,e,d,g]
   .simp[chunk,a,e,d]
def Ii(a:dw X 196 od):dw X 101 (mX QP aI (λx k=>y0 (chunk k x)) λ_ k=>[cw k=ab]):=.px λx k h=>Ih a x k h
def Pc(x:ck)(n:Int):Ev X 206 [VG x,.e (.one (.c (.rp [.int .i64 n])))] [] (dB (x.1==n)) []:=by refine Ev.bQ Tryz.func206 rfl λa=>?_;exact br rfl ar (AK.bg rfl)
def Pd:di:=λargs σ=>match args,σ with
 |[.e (.agg [.c (.int .i64 a0),.c (.str a1)]),.e (.one (.c (.rp [.int .i64 n])))],[]=>aa (dB (a0==n),[],[a1=a1])
 |_,_=>af
def t206:dw X 206 Pd:=by
 intro args σ res σ' obs h c;unfold Pd at h;split at h
 .rename_i b a n;cases h;exact Pc (b,a) n
 grind
abbrev Ij(n:Int):D:=.e (.one (.c (.fn (.func 206) [] [.rp [.int .i64 n]])))
def y3(l:List ck)(n:Int):Int:=match l.findIdx? (λx=>x.1==n)with|some i=>i|none=>-1
def LF{t:List ck}{n:Int}(hi:i<t.length)(h:(t.getD i (0,[])).1=n)(a:∀j,j<i->(t.getD j (0,[])).1≠n):y3 t n=i:=by
 have:t.findIdx? (λf=>f.1==n)=aa i:=by
  rw[nH];refine⟨hi,?_,λj b=>?_⟩
  .grind
  grind
 rw[y3,this]
def Fj{t:List ck}{n:Int}(a:∀j,j<t.length->(t.getD j (0,[])).1≠n):y3 t n=-1:=by
 have:t.findIdx? (λf=>f.1==n)=af:=by grind[List.getElem_of_mem]
 rw[y3,this]
def LG(t:List ck)(n:Int):Ev X 205 [eb.sl t,Ij n] [] (dI (y3 t n)) []:=by
 refine Ev.bQ Tryz.func205 rfl λe=>?_;have c:=e.sl 0 rfl;have b:bA X [(206,Pd)]:=.cons t206 .nil;refine bR b rfl ar ?_;refine AK.iM (λi=>i<=t.length/\∀j,j<i->(t.getD j (0,[])).1≠n) (λi:Nat=>[(0,eb.sl t),(1,Ij n),(7,dI t.length),(8,dI i)]) (λ_=>[]) (λi=>t.length-i) 0 rfl ?_ rfl ar ⟨by omega,by omega⟩ ?_
 .simp
 rintro i ⟨hi,a⟩;by_cases h:i<t.length
 .by_cases d:(t.getD i (0,[])).1=n
  .refine aM b [(9,ab),(16,ab)] rfl ?_ (AK.gu (b7.zero rfl ?_))
   .simp only[au,bF];grind
   .simp[LF h d a]
  .refine aM b [(9,ab),(16,ae)] rfl ?_ (AK.fa (i+1) rfl ?_ rfl ar ?_ ?_)
   .simp only[au,bF];exact⟨by simp only[bq];omega,ar,eF.2 d,by omega,by omega,cV (by omega)⟩
   .simp
   .grind
   .omega
 .refine aM b [(9,ae)] rfl (by simp;omega) (AK.leave rfl rfl ?_);refine bR b rfl ar (AK.bg rfl ?_);simp[Fj (λj f=>a j (by omega))]
def Pe:di:=λargs σ=>match args,σ with
 |[d,.e (.one (.c (.fn (.func 206) [] [.rp [.int .i64 n]])))],[]=>match jl 2 d with
  |none=>af
  |some (m,es)=>aa (dI (y3 (eb.list m es) n),[],[eb.fits m es])
 |_,_=>af
def t205:dw X 205 Pe:=by
 intro args σ res σ' obs h a;unfold Pe at h;split at h
 .rename_i d n;split at h
  .cases h
  rename_i m es hd;cases h;exact(LG _ n).args (λ_ vs=>cd.imp (λ_=>eb.iF hd a) (cd.imp (λ_ r=>r) (λ_ r=>r)) vs)
 grind
def Cv(t:List ck)(n:Int):(y3 t n=-1/\t.find? (λx=>x.1==n)=af)∨∃i:Nat,i<t.length/\y3 t n=i/\t.find? (λx=>x.1==n)=aa (t.getD i (0,[])):=by unfold y3;grind[List.findIdx?_eq_some_iff_getElem,List.find?_eq_some_iff_getElem]
def Cw(a:dw X 196 od)(k:Int)(p:bw)(n:Int)(g:cw k=ab):Ev X 173 [dI k,D9 p,dI n] [] (y0 (dM k p n)) []:=by
 refine Ev.bQ Tryz.func173 rfl λh=>?_;have f:bA X [(205,Pe),(101,mX QP aI (λx k=>y0 (chunk k x)) λ_ k=>[cw k=ab])]:=.cons t205 (.cons (Ii a) .nil);have d:eb.list p.2.length (eb.fn p.2)=p.2:=eb.list_fn _;refine Fl [] 7 rfl ar ?_;refine AK.freeze 5 1 rfl rfl rfl ?_;rcases Cv p.2 n with⟨b,c⟩|⟨i,hi,b,c⟩
 .refine aM f [(14,ab)] rfl ?_ (AK.bg rfl ?_)
  .simp only[au,d,b];exact⟨rfl,eb.aR _⟩
  .simp[dM,c]
 .refine aM f [(14,ae)] rfl ?_ (AK.bg rfl ?_)
  .simp only[au,d,b];exact⟨g,by omega,by omega,gf (by omega),eb.aR _⟩
  .have e:dM k p n=chunk k (p.2.getD i (0,[])):=by simp only[dM,c]
   rw[e,d,b];simp only[bF];exact au.cat.2 ⟨rfl,au.cat.2 ⟨rfl,ar⟩⟩
def Pf(a:dw X 196 od):dw X 173 (Ct aI (BF eb) aI (λk p n=>y0 (dM k p n)) λk _ _=>[cw k=ab]):=.Ig λk p n h=>Cw a k p n h
def kH:∀(l:List UInt8)(c:UInt8),Lib.indexByte l c<l.length∨Lib.indexByte l c=-1
 |[],c=>.inr (by rw[Lib.indexByte.eq_def])
 |b::l,c=>by have a:=kH l c;grind[Lib.indexByte.eq_def]
set_option maxRecDepth 20000 in
theorem zq(s:Bs)(c:UInt8):Ev X 231 [dS s,dU c.toNat] [] (dI (Lib.indexByte s c)) []:=by
 refine Ev.bQ Tryz.func231 rfl λq=>?_;have z:=q.str 0 rfl;refine br rfl ar ?_;refine AK.one (x:=dI (Lib.indexByte s c)) (σ':=[]) ?_ rfl ?_
 .refine OA.l0 (λ_ _ _ _=>dC (by rfl)) ?_;refine bx.mL λst ρ A k=>?_;have p:=fp (k (.tmp 5));have o:=fp (k (.tmp 6));generalize h:ρ (.tmp 5)=v1 at p;generalize j:ρ (.tmp 6)=v2 at o;cases p with
  |str e1 l1 =>
  cases o with
  |int l2 =>
  have i:ρ (.func 240)=.func (.func 240) #[] #[]:=by
   have:=fp (k (.func 240));generalize ρ (.func 240)=v at this;cases this with
   |fn fs cs a b r t c1 c2 d1 d2 =>
    grind
  have f:(callFunc 240 #[.string ‹ByteArray›,.int .u8 c.toNat]).run ag st.w=.ok (.value (.int .i64 (Lib.indexByte s c))) st.w:=by rw[run_callFunc_extern Tryz.func240 (by kernel_rfl) (by kernel_rfl) (by kernel_rfl) (e:=Extern.BytealgIndexByte.indexByte) (by kernel_rfl),Lib.run_indexByteString];subst e1;simp
  have l:cN ag (Extern.BytealgIndexByte.indexByte #[.string ‹ByteArray›,.int .u8 c.toNat]):=by
   refine cN.bind (m:=Extern.Bytes.bytesOf (.string ‹ByteArray›)) (λ_ _=>rfl) λb=>cN.bind (m:=Extern.Bytes.asByte (.int .u8 c.toNat)) (λ_ _=>?_) λd=>?_
   .simp[Extern.Bytes.asByte]
   .skip
    split<;>exact .pure
  have g:=kU Tryz.func240 (by kernel_rfl) (by kernel_rfl) (by kernel_rfl) (e:=Extern.BytealgIndexByte.indexByte) (by kernel_rfl) _ l st.w #[];refine⟨.int .i64 (Lib.indexByte s c),?_,Rd.int ?_,?_⟩
  rotate_left 2
  .intro u n;simp[aq,resolve,Deferred.ofValue,invoke,h,j,i,g]at n;subst n;exact .inr ⟨_,rfl⟩
  .simp[aq,resolve,Deferred.ofValue,invoke,h,j,i,f]
  .have B:=Lib.indexByte_ge s c;have y:=kH s c;simp only[bq];omega
 .exact br rfl ar (AK.bg rfl)
def LD(a:Int)(b:C)(n:Int):Ev X 69 [.e (.agg [.c (.int .i64 a),.c b]),.e (.one (.c (.rp [.int .i64 n])))] [] (dB (a==n)) []:=by refine Ev.bQ Tryz.func69 rfl λd=>?_;exact br rfl ar (AK.bg rfl)
def VE:di:=λargs σ=>match args,σ with
 |[.e (.agg [.c (.int .i64 a0),.c b]),.e (.one (.c (.rp [.int .i64 n])))],[]=>aa (dB (a0==n),[],[])
 |_,_=>af
def t69:dw X 69 VE:=by
 intro args σ res σ' obs h a;unfold VE at h;split at h
 .cases h;exact LD _ _ _
 .cases h
abbrev Nx(n:Int):D:=.e (.one (.c (.fn (.func 69) [] [.rp [.int .i64 n]])))
def pw(l:List cm)(n:Int):Int:=match l.findIdx? (λx=>x.1==n)with|some i=>i|none=>-1
def Ib{t:List cm}{n:Int}(hi:i<t.length)(h:(t.getD i (0,[])).1=n)(a:∀j,j<i->(t.getD j (0,[])).1≠n):pw t n=i:=by
 have:t.findIdx? (λf=>f.1==n)=aa i:=by
  rw[nH];refine⟨hi,?_,λj c=>?_⟩
  .simpa[ai,bd hi]using h
  .have b:j<t.length:=by omega
   simpa[ai,bd b]using a j c
 rw[pw,this]
def Cs{t:List cm}{n:Int}(a:∀j,j<t.length->(t.getD j (0,[])).1≠n):pw t n=-1:=by
 have:t.findIdx? (λf=>f.1==n)=af:=by rw[xY];intro f c;obtain⟨j,b,rfl⟩:=dz c;simpa[ai,bd b]using a j b
 rw[pw,this]
def Ic(t:List cm)(n:Int):Ev X 65 [dZ.sl t,Nx n] [] (dI (pw t n)) []:=by
 refine Ev.bQ Tryz.func65 rfl λf=>?_;have e:=f.sl 0 rfl;have b:bA X [(69,VE)]:=.cons t69 .nil;refine bR b rfl ar ?_;refine AK.iM (λi=>i<=t.length/\∀j,j<i->(t.getD j (0,[])).1≠n) (λi:Nat=>[(0,dZ.sl t),(1,Nx n),(7,dI t.length),(8,dI i)]) (λ_=>[]) (λi=>t.length-i) 0 rfl ?_ rfl ar ⟨by omega,by omega⟩ ?_
 .simp
 rintro i ⟨hi,a⟩;by_cases h:i<t.length
 .by_cases d:(t.getD i (0,[])).1=n
  .refine aM b [(9,ab),(16,ab)] rfl ?_ (AK.gu (b7.zero rfl ?_))
   .simp only[au,bF];exact⟨gg.2 d,by omega,by omega,cV (by omega)⟩
   .simp[Ib h d a]
  .refine aM b [(9,ab),(16,ae)] rfl ?_ (AK.fa (i+1) rfl ?_ rfl ar ?_ ?_)
   .simp only[au,bF];exact⟨by simp only[bq];omega,eF.2 d,by omega,by omega,cV (by omega)⟩
   .simp
   .refine⟨by omega,λj c=>?_⟩;rcases tm.1 c with c|rfl
    .exact a j c
    .exact d
   .omega
 .refine aM b [(9,ae)] rfl (by simp;omega) (AK.leave rfl rfl ?_);refine bR b rfl ar (AK.bg rfl ?_);simp[Cs (λj c=>a j (by omega))]
def VF:di:=λargs σ=>match args,σ with
 |[d,.e (.one (.c (.fn (.func 69) [] [.rp [.int .i64 n]])))],[]=>match jl 2 d with
  |none=>af
  |some (m,es)=>aa (dI (pw (dZ.list m es) n),[],[dZ.fits m es])
 |_,_=>af
def t65:dw X 65 VF:=by
 intro args σ res σ' obs h a;unfold VF at h;split at h
 .rename_i d n;split at h
  .cases h
  rename_i m es hd;cases h;exact(Ic _ n).args (λ_ vs=>cd.imp (λ_=>dZ.iF hd a) (cd.imp (λ_ r=>r) (λ_ r=>r)) vs)
 .cases h
def AF(t:List cm)(n:Int):(pw t n=-1/\t.find? (λx=>x.1==n)=af)∨∃i:Nat,i<t.length/\pw t n=i/\t.find? (λx=>x.1==n)=aa (t.getD i (0,[])):=by
 unfold pw;cases h:t.findIdx? (λx=>x.1==n)with
 |none =>
  refine .inl ⟨rfl,?_⟩;rw[xY]at h;exact List.find?_eq_none.2 λx d=>by simp[h x d]
 |some i =>
  rw[nH]at h;obtain⟨hi,b,a⟩:=h;refine .inr ⟨i,hi,rfl,?_⟩;rw[xX];refine⟨?_,i,hi,?_,λj c=>?_⟩
  .simpa[ai,bd hi]using b
  .simp[ai,bd hi]
  .have:=a j c;simpa using this
def Gz(b:Nat->Int):Nat->List C:=λi=>[.int .u8 (b i)]
def Bytes(b:Nat->Int):Prop:=∀i,0<=b i/\b i<=255
abbrev j0(m:Nat)(b:Nat->Int)(k:Int):ba:=.cells 89 [.c (.sl ae 1 m (Gz b)),.c (.int .i64 k)]
def dK.nw{f:aP}{fn:Func}{args:List D}{σ':ι->List ba}(g:Tryz.prog.funcs[f]?=aa fn)(a:(fn.name== "runtime.NumGoroutine")=ae)(hb:fn.body=aa c)(b:bn args.length fn.ntmps=ab)(h:Fits args σ->AK X fn.ntmps (λe φ σ1=>∃j,b7 fn σ.length (res j) (σ' j) e φ σ1) [.code c] .normal (iL 0 args) σ):dK X f args σ res σ' :=
 dK.yL g a hb b λd=>AW.top (AK.of_code (h d))
def AK.kl{fn:Func}{a:Nat}{σ':ι->List ba}(i:ι)(k:AK X N (b7 fn a (res i) (σ' i)) K .normal φ σ):AK X N (λe φ σ1=>∃j,b7 fn a (res j) (σ' j) e φ σ1) K .normal φ σ :=
 AK.g9 (λ_ _ _ q=>⟨i,q⟩) k
def ln(m:Nat)(b:Nat->Int)(k:Nat)(n:Int):Int :=
 if m=0 then 0 else if k<m then b k % n else
  ((b ((k:Int) % m).toNat*131+b (((k:Int)*7+3) % m).toNat*1117+k*29+(k:Int) / m*53).toNat ^^^ ((b ((k:Int) % m).toNat*131+b (((k:Int)*7+3) % m).toNat*1117+k*29+(k:Int) / m*53) / 64).toNat:Nat) % n
set_option maxRecDepth 20000 in
def Bj(m:Nat)(b:Nat->Int)(g:Bytes b)(k:Nat)(n:Int)(z:k<=4000000)(y:m<=1048576)(p:1<=n/\n<=4000000):
  Ev X 54 [.e (.one (.ptr 0 0)),dI n] [j0 m b k] (dI (ln m b k n)) [j0 m b (k+1)]:=by
 refine Ev.bQ Tryz.func54 rfl λl=>?_;have c:∀j,j<([j0 m b k]:List ba).length->([0]:List Nat)[j]?=aa j:=λj q=>by grind
 by_cases d:m=0
 .subst d;refine aV [(17,ae),(24,ab)] rfl ?_ (AK.dA [0] rfl ?_ rfl rfl rfl c)
  .simp[bq];omega
  .simp[ln]
 have f:((k:Int)+1-1)=k:=by omega
 have i:((k:Int)+1-1).toNat=k:=by omega
 have h:=g k;by_cases t:(k:Int)<m
 .refine aV [(17,ae),(24,ae),(36,ab)] rfl ?_ (AK.dA [0] rfl ?_ rfl rfl rfl c)
  .simp only[au,f,bF,bc,bY,eF,bq];omega
  .have:k<m:=by omega
   simp[ln,d,this]
 .refine bE [(17,ae),(24,ae),(36,ae)] rfl ?_ (AK.dA [0] rfl ?_ rfl rfl rfl c)
  .simp only[au,f,bY,eF,bq];have a:(0:Int)<m:=by omega
   have o:=qn (k:Int) (by omega:(m:Int)≠0);have x:=qi (k:Int) a;have v1:=qn ((k:Int)*7+3) (by omega:(m:Int)≠0);have A:=qi ((k:Int)*7+3) a;have w1:0<=(k:Int) / m:=Int.ediv_nonneg (by omega) (by omega);have w2:(k:Int) / m<=k:=Int.ediv_le_self _ (by omega);generalize(k:Int) % m=u at *;generalize((k:Int)*7+3) % m=v at *;generalize(k:Int) / m=w at *;have r:=g u.toNat;have s:=g v.toNat;grind
  .have:¬k<m:=by omega
   simp[ln,d,this,f]
def sU(m:Nat)(b:Nat->Int)(k:Nat)(n:Int)(a:1<=n):0<=ln m b k n/\ln m b k n<n:=by
 unfold ln;split
 .omega
 .split
  .exact⟨qn _ (by omega),qi _ (by omega)⟩
  .exact⟨qn _ (by omega),qi _ (by omega)⟩
def gm(m:Nat)(b:Nat->Int)(c:Bytes b)(k:Nat)(n:Int)(f:k<=4000000)(d:m<=1048576)(a:1<=n/\n<=4000000):
  dK (ι:={v:Int // 0<=v/\v<n}) X 54 [.e (.one (.ptr 0 0)),dI n] [j0 m b k] (λv=>dI v.1) (λ_=>[j0 m b (k+1)]):=by have h:=Bj (X:=X) m b c k n f d a;exact⟨h.1,λs vs hr hh S cs hS=>h.2 s vs hr hh S cs (hS ⟨_,sU m b k n a.1⟩)⟩
def Qc(es:Nat->List C):Nat->Int:=λi=>vg (es i) 0
def Wh:di:=λargs σ=>match args,σ with
 |[.e (.one (.ptr 0 0)),.e (.one (.c (.int .i64 n)))],[.cells 89 [.c (.sl ae 1 m es),.c (.int .i64 k)]] =>
  aa (dI (ln m (Qc es) k.toNat n),[j0 m (Qc es) (k+1)],[k=k.toNat,es=Gz (Qc es),Bytes (Qc es),k<=4000000,m<=1048576,1<=n,n<=4000000])
 |_,_=>af
def t54:dw X 54 Wh:=by
 intro args σ res σ' obs h c;unfold Wh at h;split at h
 .rename_i n m es k;cases h;obtain⟨i,g,b,f,a,e,d⟩:=c;have:=Bj (X:=X) m (Qc es) b k.toNat n (by omega) a ⟨e,d⟩;grind
 grind
def wM:∀j,j<1->([0]:List Nat)[j]?=aa j:=λj a=>by grind
set_option maxRecDepth 20000 in
def JB(m:Nat)(b:Nat->Int)(g:Bytes b)(k:Nat)(f:k<=4000000)(d:m<=1048576)(l:List Bs)(h:1<=l.length/\l.length<=1000):
  dK (ι:={p:Bs // p∈l}) X 113 [.e (.one (.ptr 0 0)),cS.sl l] [j0 m b k] (λp=>dS p.1) (λ_=>[j0 m b (k+1)]):=by
 refine dK.nw Tryz.func113 rfl rfl rfl λc=>?_;refine br rfl ar ?_;refine AK.cP (gm m b g k l.length f d (by omega)) [0] rfl (λ_=>rfl) ?_;rintro⟨v,v0,v1⟩;refine br rfl ?_ ?_
 .simp;omega
 have a:l.getD v.toNat cS.bG∈l:=by grind
 refine AK.kl ⟨l.getD v.toNat cS.bG,a⟩ (AK.dA [0] rfl ?_ rfl rfl rfl wM);simp
def JC:List Bs:=[[],[102],[97,47],[97,98],[97,47,98,47,99],[47,97]]
def JD:List Bs:=[[97],[98],[99,47,97],[99,47,98],[100,47,97],[101],[97,47,98],[100]]
set_option maxRecDepth 20000 in
def tX(m:Nat)(b:Nat->Int)(c:Bytes b)(k:Nat)(g:k<=100000)(a:m<=1048576):
  dK (ι:={p:Bs // p.length<=8}) X 87 [.e (.one (.ptr 0 0))] [j0 m b k] (λp=>dS p.1) (λ_=>[j0 m b (k+1+1)]):=by
 refine dK.nw Tryz.func87 rfl rfl rfl λf=>?_;refine br rfl ar ?_;refine AK.cP (gm m b c k 40 (by omega) a (by omega)) [0] rfl (λ_=>rfl) ?_;rintro⟨v,v0,v1⟩;by_cases h:v=0
 .refine aV [(5,ab)] rfl ?_ ?_
  .simp[h]
  have:=JB (X:=X) m b c (k+1) (by omega) a JC (by decide);refine AK.mP this [0] rfl rfl rfl rfl ?_ rfl rfl rfl (λ_=>rfl) rfl (λ_=>rfl) rfl ?_
  .refine⟨rfl,λi hi=>?_⟩;rcases i with _|_|_|_|_|_|i<;>first|rfl|omega
  rintro⟨p,d⟩;refine br rfl ar (AK.kl ⟨p,(by decide:∀p∈JC,p.length<=8) p d⟩ (AK.dA [0] rfl ?_ rfl rfl rfl wM));simp
 .refine aV [(5,ae)] rfl ?_ ?_
  .simp[h]
  have:=JB (X:=X) m b c (k+1) (by omega) a JD (by decide);refine AK.mP this [0] rfl rfl rfl rfl ?_ rfl rfl rfl (λ_=>rfl) rfl (λ_=>rfl) rfl ?_
  .refine⟨rfl,λi hi=>?_⟩;rcases i with _|_|_|_|_|_|_|_|i<;>first|rfl|omega
  rintro⟨p,d⟩;refine br rfl ar (AK.kl ⟨p,(by decide:∀p∈JD,p.length<=8) p d⟩ (AK.dA [0] rfl ?_ rfl rfl rfl wM));simp
def words:List Bs:=[[97,98,99],[104,101,108,108,111],[119,111,114,108,100],[97,97,97,97],[107,101,101,112],[122,122],[98,97,99,107,117,112],[113]]
abbrev Tf(k:Nat):={q:Bs×Nat // q.1.length<=100000/\k<=q.2/\q.2<=k+60}
def Ex(s:Bs)(n:Int)(d:s.length<=10)(j:0<=n/\n<=100):dK (ι:={p:Bs // p.length<=100000}) X 114 [dS s,dI n] [] (λp=>dS p.1) (λ_=>[]):=by
 refine dK.nw Tryz.func114 rfl rfl rfl λb=>?_;refine br rfl ar ?_;refine AK.iM (λx:Nat×Bs×Bs=>x.1<=100/\x.2.2.length+x.2.1.length*x.1<=1010) (λx=>[(0,dS x.2.1),(1,dI x.1),(5,dS x.2.2)]) (λ_=>[]) (λx=>x.1) (n.toNat,s,[]) rfl ?_ rfl ar ⟨by grind,?_⟩ ?_
 .simp;omega
 .have:s.length*n.toNat<=10*100:=Nat.mul_le_mul d (by omega);grind
 rintro⟨k,t,out⟩ ⟨g,c⟩;simp only at g c;by_cases a:0<k
 .have i:t.length<=t.length*k:=tn _ a;have h:((k:Int) / 2)=((k / 2:Nat):Int):=by omega
  by_cases l:k % 2=1
  .have f:(t++t).length*(k / 2)+t.length=t.length*k:=by
    have e:k=2*(k / 2)+1:=by omega
    grind
   refine aV [(7,ab),(10,ab)] rfl ?_ (AK.fa (k / 2,t++t,out++t) rfl ?_ rfl ar ?_ ?_)
   .simp[a];omega
   .simp
   .grind
   grind
  .have f:(t++t).length*(k / 2)=t.length*k:=by
    have e:k=2*(k / 2):=by omega
    grind
   refine aV [(7,ab),(10,ae)] rfl ?_ (AK.fa (k / 2,t++t,out) rfl ?_ rfl ar ?_ ?_)
   .simp[a];omega
   .simp
   .grind
   grind
 .obtain rfl:k=0:=by omega
  refine aV [(7,ae)] rfl (by simp) (AK.leave rfl rfl ?_);exact br rfl ar (AK.kl ⟨out,by omega⟩ (AK.bg rfl))
set_option maxRecDepth 20000 in
def Ey(m:Nat)(b:Nat->Int)(d:Bytes b)(k:Nat)(L:k<=100000)(c:m<=1048576):
  dK (ι:=Tf k) X 88 [.e (.one (.ptr 0 0))] [j0 m b k] (λq=>dS q.1.1) (λq=>[j0 m b q.1.2]):=by
 refine dK.nw Tryz.func88 rfl rfl rfl λz=>?_;refine br rfl ar ?_;refine AK.cP (gm m b d k 5 (by omega) c (by omega)) [0] rfl (λ_=>rfl) ?_;rintro⟨v,v0,v1⟩;refine br rfl ar ?_;refine AK.bS 1 (λs:Nat×Bs×Nat=>s.1<=4/\s.2.1.length+6*s.1<=24/\k<=s.2.2/\s.2.2+s.1<=k+5) (λs=>[(0,.e (.one (.ptr 0 0))),(4,dI s.1),(3,dS s.2.1)]) (λs=>[j0 m b s.2.2]) (λs=>s.1) (v.toNat,[],k+1) rfl ?_ rfl ?_ rfl ⟨by omega,by grind,by simp,by grind⟩ ?_
 .simp;omega
 .simp
 rintro⟨n,s,k1⟩ ⟨t,C,A,r⟩;simp only at t C A r;by_cases j:0<n
 .refine aV [(9,ab)] rfl ?_ ?_
  .simp[j]
  have:=JB (X:=X) m b d k1 (by omega) c words (by decide);refine AK.mP this [0] rfl rfl rfl rfl ?_ rfl rfl rfl (λ_=>rfl) rfl (λ_=>rfl) rfl ?_
  .refine⟨rfl,λi hi=>?_⟩;rcases i with _|_|_|_|_|_|_|_|i<;>first|rfl|omega
  rintro⟨p,h⟩;have E:p.length<=6:=(by decide:∀p∈words,p.length<=6) p h;refine br rfl ?_ (AK.aQ (n-1,s++p,k1+1) rfl ?_ ?_ ?_ ?_)
  .simp[bq];omega
  .simp;omega
  .simp
  .grind
  grind
 .obtain rfl:n=0:=by omega
  refine aV [(9,ae)] rfl (by simp) (AK.leaveD rfl rfl ?_);refine br rfl ar ?_;refine AK.cP (gm m b d k1 4 (by omega) c (by omega)) [0] rfl (λ_=>rfl) ?_;rintro⟨u,J,I⟩;by_cases l:u=0
  .refine aV [(19,ab)] rfl (by simp[l]) ?_;refine AK.cP (gm m b d (k1+1) 12 (by omega) c (by omega)) [0] rfl (λ_=>rfl) ?_;rintro⟨w,M,w1⟩;refine br rfl ar ?_;refine AK.bS 1 (λs:Nat×Bs×Nat=>s.1<=11/\s.2.1.length+s.1<=36/\k<=s.2.2/\s.2.2+s.1<=k+20) (λs=>[(0,.e (.one (.ptr 0 0))),(5,dI s.1),(3,dS s.2.1)]) (λs=>[j0 m b s.2.2]) (λs=>s.1) (w.toNat,s,k1+2) rfl ?_ rfl ?_ rfl ⟨by omega,by grind,by grind,by grind⟩ ?_
   .simp;omega
   .simp;omega
   rintro⟨n,s2,f⟩ ⟨o,H,D,F⟩;simp only at o H D F;by_cases j:0<n
   .refine aV [(23,ab)] rfl ?_ ?_
    .simp[j]
    refine AK.cP (gm m b d f 26 (by omega) c (by omega)) [0] rfl (λ_=>rfl) ?_;rintro⟨x,K,N⟩;refine br rfl ?_ (AK.aQ (n-1,s2++[UInt8.ofNat (97+x).toNat],f+1) rfl ?_ ?_ ?_ ?_)
    .simp[bq];omega
    .simp;omega
    .simp
    .grind
    grind
   .obtain rfl:n=0:=by omega
    refine aV [(23,ae)] rfl (by simp) (AK.leaveD rfl rfl ?_);refine aV [(36,ae)] rfl ?_ ?_
    .simp;omega
    refine AK.cP (gm m b d f 60 (by omega) c (by omega)) [0] rfl (λ_=>rfl) ?_;rintro⟨y,B,G⟩;by_cases g:y=0
    .refine aV [(41,ab)] rfl ?_ (AK.kl ⟨(s2++[65],f+1),by grind,by grind,by grind⟩ (AK.dA [0] rfl ?_ rfl rfl rfl wM))
     .simp[g];omega
     .simp
    by_cases a:y=1
    .refine aV [(41,ae),(45,ab)] rfl ?_ ?_
     .simp[a]
     refine AK.cP (Ex [97,98,99,100,101] 9 (by decide) (by decide)) [] rfl (λ_=>rfl) ?_;rintro⟨p,h⟩;refine br rfl ar (AK.kl ⟨(p,f+1),h,by grind,by grind⟩ (AK.dA [0] rfl ?_ rfl rfl rfl wM));simp
    .refine aV [(41,ae),(45,ae)] rfl ?_ (AK.kl ⟨(s2,f+1),by grind,by grind,by grind⟩ (AK.dA [0] rfl ?_ rfl rfl rfl wM))
     .simp[g,a]
     .simp
  .refine Fl [(19,ae)] 2 rfl (by simp[l]) ?_;refine aV [(36,ae)] rfl ?_ ?_
   .simp;omega
   refine AK.cP (gm m b d (k1+1) 60 (by omega) c (by omega)) [0] rfl (λ_=>rfl) ?_;rintro⟨y,B,G⟩;by_cases g:y=0
   .refine aV [(41,ab)] rfl ?_ (AK.kl ⟨(s++[65],(k1+1)+1),by grind,by grind,by grind⟩ (AK.dA [0] rfl ?_ rfl rfl rfl wM))
    .simp[g];omega
    .simp
   by_cases a:y=1
   .refine aV [(41,ae),(45,ab)] rfl ?_ ?_
    .simp[a]
    refine AK.cP (Ex [97,98,99,100,101] 9 (by decide) (by decide)) [] rfl (λ_=>rfl) ?_;rintro⟨p,h⟩;refine br rfl ar (AK.kl ⟨(p,(k1+1)+1),h,by grind,by grind⟩ (AK.dA [0] rfl ?_ rfl rfl rfl wM));simp
   .refine aV [(41,ae),(45,ae)] rfl ?_ (AK.kl ⟨(s,(k1+1)+1),by grind,by grind,by grind⟩ (AK.dA [0] rfl ?_ rfl rfl rfl wM))
    .simp[g,a]
    .simp
def Mz(m:Nat)(b:Nat->Int)(d:m<=1048576):dK (ι:={n:Nat // n<=1048576}) X 21 [.e (.one (.c (.sl ae 1 m (Gz b))))] [] (λ_=>.e (.one (.ptr 0 0))) (λn=>[j0 n.1 b 0]):=by
 refine dK.nw Tryz.func21 rfl rfl rfl λa=>?_;by_cases h:2000<m
 .refine aV [(5,ab)] rfl ?_ (AK.norm [j0 2000 b 0] rfl ?_ (AK.kl ⟨2000,by decide⟩ (AK.dA [0] rfl ?_ rfl rfl rfl (λj f=>by grind))))
  .simp;omega
  .simp[cn,lV,cU]
  .simp
 .refine aV [(5,ae)] rfl ?_ (AK.kl ⟨m,d⟩ (AK.dA [0] rfl ?_ rfl rfl rfl (λj f=>by grind)))
  .simp;omega
  .simp
end
section
open Go.Sort (swp insInner insOuter ltInt)
variable {X:Cx ag}
def JQ(n:Int):Ev X 193 [dI n] [] (dB ae) []:=by refine Ev.bQ Tryz.func193 rfl λa=>?_;exact aV [(5,ae)] rfl (by simp) (AK.bg rfl)
abbrev Tr:di:=ki aI (λ_=>dB ae) λ_=>[]
def Wn:dw X 193 Tr:=.oe λn _=>JQ n
def MH(x y:Int):Ev X 139 [dI x,dI y] [] (dB (ltInt x y)) []:=by have a:bA X [(193,Tr)]:=.cons Wn .nil;refine Ev.bQ Tryz.func139 rfl λb=>?_;refine bR a rfl (by simp) (AK.bg rfl ?_);simp[ltInt]
abbrev sW:di:=mX aI aI (λx y=>dB (ltInt x y)) λ_ _=>[]
def vW:dw X 139 sW:=.px λx y _=>MH x y
def eI(d:Array Int)(j:Nat):List C:=[.int .i64 d[j]!]
abbrev jN(n:Nat):D:=.e (.one (.bp 0 (.sl n 1 0 n)))
abbrev bI(n:Nat)(d:Array Int):ba:=.buf 3 1 n (eI d)
def gM:∀j,j<1->([0]:List Nat)[j]?=aa j:=λj a=>by grind
end
section
open Go.Sort (swp insInner insOuter insertionSort ltInt)
variable {X:Cx ag}
def gG{d:Array Int}(g:d.size=n)(hi:i<n)(e:j<n){f:Nat->List C}(a:cn n f (eI d)):cn n (n5 j [.int .i64 d[i]!] (n5 i [.int .i64 d[j]!] f)) (eI (swp d i j)):=by
 intro k b;have h:(swp d i j)[k]! = if k=j then d[i]! else if k=i then d[j]! else d[k]! := by unfold swp;grind
 have c:=a k b;simp only[eI,n5]at c⊢;grind
theorem size_swp(d:Array Int)(i j:Nat):(swp d i j).size=d.size:=by simp[swp]
theorem zu{a:Nat}{d:Array Int}(h:a<j)(b:ltInt d[j]! d[j-1]! = ab):insInner ltInt a j d=insInner ltInt a (j-1) (swp d j (j-1)):=by
 cases j with
 |zero=>omega
 |succ j =>
  simp only[oy]at b⊢;rw[insInner,bt];grind
def rl{a:Nat}{d:Array Int}(h:a<j->ltInt d[j]! d[j-1]! = ae):insInner ltInt a j d=d:=by
 cases j with
 |zero=>rfl
 |succ j =>
  simp only[oy]at h;rw[insInner,bh];grind
theorem Qv(n:Nat)(d:Array Int)(a b:Nat)(r:d.size=n)(w:b<=n)(u:a<=n)(t:n<=4000000):
  Ev X 133 [jN n,dI a,dI b] [bI n d] (.fe []) [bI n (insertionSort ltInt d a b)]:=by
 have k:bA X [(139,sW)]:=.cons vW .nil;refine Ev.bQ Tryz.func133 rfl λv=>?_;refine br rfl (by simp[bq];omega) ?_;refine AK.bS 1 (λs:Nat×Array Int=>s.2.size=n/\a+1<=s.1/\s.1<=n+1/\insOuter ltInt a b s.1 s.2=insertionSort ltInt d a b) (λs=>[(0,jN n),(1,dI a),(2,dI b),(6,dI s.1)]) (λs=>[bI n s.2]) (λs=>b-s.1) (a+1,d) rfl ?_ rfl ?_ rfl ⟨r,by omega,by grind,rfl⟩ ?_
 .simp[cn]
 .simp[cn]
 rintro⟨i,d1⟩ ⟨m,hi,l,e⟩;simp only at m hi l e;by_cases h:i<b
 .refine aV [(12,ab)] rfl (by simp;omega) ?_;refine AK.bS 1 (λs:Nat×Array Int=>s.2.size=n/\s.1<=i/\insInner ltInt a s.1 s.2=insInner ltInt a i d1) (λs=>[(0,jN n),(1,dI a),(2,dI b),(6,dI i),(7,dI s.1)]) (λs=>[bI n s.2]) (λs=>s.1) (i,d1) rfl ?_ rfl ?_ rfl ⟨m,by simp,rfl⟩ ?_
  .simp[cn]
  .simp[cn]
  rintro⟨j,d2⟩ ⟨f,p,c⟩;simp only at f p c;by_cases q:a<j
  .have g:((j:Int)-1).toNat=j-1:=by omega
   by_cases o:ltInt d2[j]! d2[j-1]! = ab
   .refine aM k [(18,ab),(29,ab)] rfl ?_ ?_
    .simp[bq,g,o];omega
    refine AK.aQ (j-1,swp d2 j (j-1)) rfl ?_ ?_ ?_ ?_
    .simp;omega
    .simp only[au.cat,au,g,bo,bF,aE,aF];exact gG f (by omega) (by omega) (λ_ _=>rfl)
    .refine⟨by grind[size_swp],by omega,?_⟩;grind[zu]
    .simp;omega
   .refine aM k [(18,ab),(29,ae)] rfl ?_ (AK.leaveD rfl rfl ?_)
    .simp[bq,g,o];omega
    refine br rfl ?_ (AK.aQ (i+1,d2) rfl ?_ ?_ ?_ ?_)
    .simp[bq];omega
    .simp
    .simp[cn]
    .refine⟨f,by omega,by grind,?_⟩;simp only;rw[<-e,insOuter.eq_1 ltInt a b i,bt h,<-c,rl λ_=>by grind]
    .simp;omega
  .refine aM k [(18,ae)] rfl ?_ (AK.leaveD rfl rfl ?_)
   .simp[bq];omega
   refine br rfl ?_ (AK.aQ (i+1,d2) rfl ?_ ?_ ?_ ?_)
   .simp[bq];omega
   .simp
   .simp[cn]
   .refine⟨f,by omega,by grind,?_⟩;simp only;rw[<-e,insOuter.eq_1 ltInt a b i,bt h,<-c,rl λx=>absurd x q]
   .simp;omega
 .refine aV [(12,ae)] rfl (by simp;omega) (AK.leaveD rfl rfl ?_);have:insertionSort ltInt d a b=d1:=by rw[<-e,insOuter,bh h]
  rw[this];exact b7.rQ [0] rfl ar rfl rfl rfl gM
end
section
open Go.Sort (swp siftDown ltInt)
variable {X:Cx ag}
def J0{hi first root:Nat}{d:Array Int}(h:¬2*root+1<hi):siftDown ltInt hi first root d=d:=by rw[siftDown,dif_pos (by omega)]
theorem J1{hi first root:Nat}{d:Array Int}(h:2*root+1<hi)(a:2*root+1+1<hi->ltInt d[first+(2*root+1)]! d[first+(2*root+1)+1]! = ae)(b:ltInt d[first+root]! d[first+(2*root+1)]! = ab):
  siftDown ltInt hi first root d=siftDown ltInt hi first (2*root+1) (swp d (first+root) (first+(2*root+1))):=by rw[siftDown.eq_1 ltInt hi first root d,dif_neg (by omega),bh (by grind),bh (by grind)]
theorem EB{hi first root:Nat}{d:Array Int}(h:2*root+1<hi)(a:2*root+1+1<hi->ltInt d[first+(2*root+1)]! d[first+(2*root+1)+1]! = ae)(b:ltInt d[first+root]! d[first+(2*root+1)]! = ae):
  siftDown ltInt hi first root d=d:=by rw[siftDown.eq_1 ltInt hi first root d,dif_neg (by omega),bh (by grind),bt (by grind)]
theorem Qy{hi first root:Nat}{d:Array Int}(h:2*root+1+1<hi)(a:ltInt d[first+(2*root+1)]! d[first+(2*root+1+1)]! = ab)(b:ltInt d[first+root]! d[first+(2*root+1+1)]! = ab):
  siftDown ltInt hi first root d=siftDown ltInt hi first (2*root+1+1) (swp d (first+root) (first+(2*root+1+1))):=by rw[siftDown.eq_1 ltInt hi first root d,dif_neg (by omega),bt (by grind),bh (by grind),dif_pos (by omega)]
theorem MM{hi first root:Nat}{d:Array Int}(h:2*root+1+1<hi)(a:ltInt d[first+(2*root+1)]! d[first+(2*root+1+1)]! = ab)(b:ltInt d[first+root]! d[first+(2*root+1+1)]! = ae):
  siftDown ltInt hi first root d=d:=by rw[siftDown.eq_1 ltInt hi first root d,dif_neg (by omega),bt (by grind),bt (by grind)]
theorem MN(n:Nat)(d:Array Int)(lo hi first:Nat)(o:d.size=n)(t:first+hi<=n)(m:lo<=n)(p:n<=4000000):
  Ev X 188 [jN n,dI lo,dI hi,dI first] [bI n d] (.fe []) [bI n (siftDown ltInt hi first lo d)]:=by
 have g:bA X [(139,sW)]:=.cons vW .nil;refine Ev.bQ Tryz.func188 rfl λr=>?_;refine br rfl ar ?_;refine AK.bS 1 (λs:Nat×Array Int=>s.2.size=n/\s.1<=n/\siftDown ltInt hi first s.1 s.2=siftDown ltInt hi first lo d) (λs=>[(0,jN n),(1,dI lo),(2,dI hi),(3,dI first),(8,dI s.1)]) (λs=>[bI n s.2]) (λs=>hi-s.1) (lo,d) rfl ?_ rfl ?_ rfl ⟨o,m,rfl⟩ ?_
 .simp[cn]
 .simp[cn]
 rintro⟨root,d1⟩ ⟨j,l,f⟩;simp only at j l f;by_cases h:2*root+1<hi
 .have c:((first:Int)+(2*(root:Int)+1)).toNat=first+(2*root+1):=by omega
  have e:((first:Int)+(2*(root:Int)+1)+1).toNat=first+(2*root+1+1):=by omega
  by_cases q:2*root+1+1<hi
  .by_cases i:ltInt d1[first+(2*root+1)]! d1[first+(2*root+1+1)]! = ab
   .have k:((first:Int)+(2*(root:Int)+1+1)).toNat=first+(2*root+1+1):=by omega
    have a:((first:Int)+(root:Int)).toNat=first+root:=by omega
    by_cases b:ltInt d1[first+root]! d1[first+(2*root+1+1)]! = ab
    .refine bk g [(16,ae),(20,ab),(35,ab),(51,ab)] rfl ?_ (AK.aQ (2*root+1+1,swp d1 (first+root) (first+(2*root+1+1))) rfl ?_ ?_ ?_ ?_)
     .simp only[au,bo,c,e,a,k,i,b,bq,bc,bY,aF,aE];and_intros<;>omega
     .simp only[au.cat,au,aF,aE];grind
     .simp only[au.cat,au,bo,c,e,a,k,aE,aF];exact gG j (by omega) (by omega) (λ_ _=>rfl)
     .grind [size_swp,Qy]
     grind
    .rw[nL]at b;rw[show siftDown ltInt hi first lo d=d1 by grind[MM]];refine bk g [(16,ae),(20,ab),(35,ab),(51,ae)] rfl ?_ (AK.eK (b7.mk [0] rfl ar rfl rfl rfl gM));simp only[au,bo,c,e,a,k,i,b,bq,bc,bY,aF,aE];and_intros<;>omega
   .rw[nL]at i;have a:((first:Int)+(root:Int)).toNat=first+root:=by omega
    by_cases b:ltInt d1[first+root]! d1[first+(2*root+1)]! = ab
    .refine bk g [(16,ae),(20,ab),(35,ae),(51,ab)] rfl ?_ (AK.aQ (2*root+1,swp d1 (first+root) (first+(2*root+1))) rfl ?_ ?_ ?_ ?_)
     .simp only[au,bo,c,e,a,i,b,bq,bc,bY,aF,aE];and_intros<;>omega
     .simp only[au.cat,au,aF,aE];grind
     .simp only[au.cat,au,bo,c,e,a,aE,aF];exact gG j (by omega) (by omega) (λ_ _=>rfl)
     .grind [size_swp,J1]
     grind
    .rw[nL]at b;rw[show siftDown ltInt hi first lo d=d1 by grind[EB]];refine bk g [(16,ae),(20,ab),(35,ae),(51,ae)] rfl ?_ (AK.eK (b7.mk [0] rfl ar rfl rfl rfl gM));simp only[au,bo,c,e,a,i,b,bq,bc,bY,aF,aE];and_intros<;>omega
  .have i:True:=ar;have a:((first:Int)+(root:Int)).toNat=first+root:=by omega
   by_cases b:ltInt d1[first+root]! d1[first+(2*root+1)]! = ab
   .refine bk g [(16,ae),(20,ae),(51,ab)] rfl ?_ (AK.aQ (2*root+1,swp d1 (first+root) (first+(2*root+1))) rfl ?_ ?_ ?_ ?_)
    .simp only[au,bo,c,e,a,b,bq,bc,bY,aF,aE];and_intros<;>omega
    .simp only[au.cat,au,aF,aE];grind
    .simp only[au.cat,au,bo,c,e,a,aE,aF];exact gG j (by omega) (by omega) (λ_ _=>rfl)
    .grind [size_swp,J1]
    grind
   .rw[nL]at b;rw[show siftDown ltInt hi first lo d=d1 by grind[EB]];refine bk g [(16,ae),(20,ae),(51,ae)] rfl ?_ (AK.eK (b7.mk [0] rfl ar rfl rfl rfl gM));simp only[au,bo,c,e,a,b,bq,bc,bY,aF,aE];and_intros<;>omega
 .refine aV [(16,ab)] rfl (by simp only[au,bq,bc,aF,aE];and_intros<;>omega) (AK.leaveD rfl rfl ?_);rw[<-f,J0 h];exact b7.rQ [0] rfl ar rfl rfl rfl gM
end
section
open Go.Sort (swp order2 median medianAdjacent choosePivot Hint ltInt)
variable {X:Cx ag}
abbrev bN(k:Nat):ba:=.cells 3 [.c (.int .i64 k)]
abbrev QU:D:=.e (.one (.ptr 1 0))
abbrev tII(a b:Nat):D:=.fe [.one (.c (.int .i64 a)),.one (.c (.int .i64 b))]
def EC:∀j,j<2->([0,1]:List Nat)[j]?=aa j:=λj a=>by grind
def sq(n:Nat)(d:Array Int)(a b sw:Nat)(i:a<n)(k:b<n)(g:n<=4000000)(f:sw<=1000):
  Ev X 213 [jN n,dI a,dI b,QU] [bI n d,bN sw] (tII (order2 ltInt d a b sw).1 (order2 ltInt d a b sw).2.1) [bI n d,bN (order2 ltInt d a b sw).2.2]:=by
 have c:bA X [(139,sW)]:=.cons vW .nil;refine Ev.bQ Tryz.func213 rfl λj=>?_;by_cases h:ltInt d[b]! d[a]! = ab
 .have e:order2 ltInt d a b sw=(b,a,sw+1):=by simp[order2,h]
  rw[e];refine bk c [(18,ab)] rfl ?_ (AK.dA [0,1] rfl ?_ rfl rfl rfl EC)
  .simp only[au,bo,bF,h,bq,aF,aE];and_intros<;>omega
  .simp
 .have e:order2 ltInt d a b sw=(a,b,sw):=by simp[order2,h]
  rw[e];rw[nL]at h;refine bk c [(18,ae)] rfl ?_ (AK.dA [0,1] rfl ?_ rfl rfl rfl EC)
  .simp only[au,bo,bF,h,bq,aF,aE];and_intros<;>omega
  .simp
def my{d:Array Int}{a sw:Nat}(e:a<n)(c:b<n):(order2 ltInt d a b sw).1<n/\(order2 ltInt d a b sw).2.1<n/\(order2 ltInt d a b sw).2.2<=sw+1:=by unfold order2;split<;>simp only<;>omega
theorem xR(n:Nat)(d:Array Int)(a b c sw:Nat)(g:a<n)(i:b<n)(h:c<n)(e:n<=4000000)(j:sw<=900):
  Ev X 192 [jN n,dI a,dI b,dI c,QU] [bI n d,bN sw] (dI (median ltInt d a b c sw).1) [bI n d,bN (median ltInt d a b c sw).2]:=by refine Ev.bQ Tryz.func192 rfl λl=>?_;have f:=my (d:=d) (sw:=sw) g i;have k:=my (d:=d) (sw:=(order2 ltInt d a b sw).2.2) f.2.1 h;refine dv rfl ar ?_;refine AK.cQ (sq n d a b sw g i e (by omega)) [0,1] rfl ?_;refine dv rfl ar ?_;refine AK.cQ (sq n d (order2 ltInt d a b sw).2.1 c (order2 ltInt d a b sw).2.2 f.2.1 h e (by omega)) [0,1] rfl ?_;refine dv rfl ar ?_;refine AK.cQ (sq n d (order2 ltInt d a b sw).1 (order2 ltInt d (order2 ltInt d a b sw).2.1 c (order2 ltInt d a b sw).2.2).1 (order2 ltInt d (order2 ltInt d a b sw).2.1 c (order2 ltInt d a b sw).2.2).2.2 f.1 k.1 e (by omega)) [0,1] rfl ?_;refine dv rfl ar (AK.dA [0,1] rfl ?_ rfl rfl rfl EC);simp[median]
def Gg{d:Array Int}{a c sw:Nat}(f:a<n)(h:b<n)(g:c<n):(median ltInt d a b c sw).1<n/\(median ltInt d a b c sw).2<=sw+3:=by have e:=my (d:=d) (sw:=sw) f h;have i:=my (d:=d) (sw:=(order2 ltInt d a b sw).2.2) e.2.1 g;have j:=my (d:=d) (sw:=(order2 ltInt d (order2 ltInt d a b sw).2.1 c (order2 ltInt d a b sw).2.2).2.2) e.1 i.1;unfold median;grind
theorem zv(n:Nat)(d:Array Int)(a sw:Nat)(e:1<=a)(g:a+1<n)(c:n<=4000000)(b:sw<=900):
  Ev X 191 [jN n,dI a,QU] [bI n d,bN sw] (dI (medianAdjacent ltInt d a sw).1) [bI n d,bN (medianAdjacent ltInt d a sw).2]:=by
 refine Ev.bQ Tryz.func191 rfl λf=>?_;obtain⟨a,rfl⟩:∃a',a=a'+1:=⟨a-1,by omega⟩
 refine dv rfl (by simp only[au,bq];and_intros<;>omega) ?_;have key:∀x y z:Int,x=(a:Int)->y=((a+1:Nat):Int)->z=((a+1+1:Nat):Int)->Ev X 192 [jN n,dI x,dI y,dI z,QU] [bI n d,bN sw] (dI (median ltInt d a (a+1) (a+1+1) sw).1) [bI n d,bN (median ltInt d a (a+1) (a+1+1) sw).2]:=by rintro x y z rfl rfl rfl;exact xR n d a (a+1) (a+1+1) sw (by omega) (by omega) (by omega) c b
 refine AK.cQ (key (((a+1:Nat):Int)-1) _ (((a+1:Nat):Int)+1) (by omega) rfl (by omega)) [0,1] rfl ?_;refine dv rfl ar (AK.dA [0,1] rfl ?_ rfl rfl rfl EC);simp[medianAdjacent]
def mx:Hint->Int|.unknown=>0|.increasing=>1|.decreasing=>2
def vZ(n:Nat)(d:Array Int){a c:Nat}(sw:Nat)(i:a<n)(l:b<n)(j:c<n)(f:n<=4000000)(e:sw<=900){x y z:Int}(k:x=a)(g:y=b)(h:z=c):
  Ev X 192 [jN n,dI x,dI y,dI z,QU] [bI n d,bN sw] (dI (median ltInt d a b c sw).1) [bI n d,bN (median ltInt d a b c sw).2]:=by grind[xR]
def lY(n:Nat)(d:Array Int){a:Nat}(sw:Nat)(e:1<=a)(g:a+1<n)(c:n<=4000000)(b:sw<=900){x:Int}(f:x=a):
  Ev X 191 [jN n,dI x,QU] [bI n d,bN sw] (dI (medianAdjacent ltInt d a sw).1) [bI n d,bN (medianAdjacent ltInt d a sw).2]:=by grind[zv]
def nj{d:Array Int}{a sw:Nat}(c:1<=a)(b:a+1<n):(medianAdjacent ltInt d a sw).1<n/\(medianAdjacent ltInt d a sw).2<=sw+3 :=
 Gg (by omega) (by omega) (by omega)
abbrev ow(k:Nat):Hint:=if k=0 then .increasing else if k=12 then .decreasing else .unknown
def J2{d:Array Int}{a:Nat}(c:8<=l)(b:l<50):choosePivot ltInt d a (a+l)=((median ltInt d (a+l / 4*1) (a+l / 4*2) (a+l / 4*3) 0).1,ow (median ltInt d (a+l / 4*1) (a+l / 4*2) (a+l / 4*3) 0).2):=by unfold choosePivot;grind
abbrev mA(d:Array Int)(a l:Nat):=medianAdjacent ltInt d (a+l / 4*1) 0
abbrev mB(d:Array Int)(a l:Nat):=medianAdjacent ltInt d (a+l / 4*2) (mA d a l).2
abbrev mC(d:Array Int)(a l:Nat):=medianAdjacent ltInt d (a+l / 4*3) (mB d a l).2
def J3{d:Array Int}{a:Nat}(b:50<=l):choosePivot ltInt d a (a+l)=((median ltInt d (mA d a l).1 (mB d a l).1 (mC d a l).1 (mC d a l).2).1,ow (median ltInt d (mA d a l).1 (mB d a l).1 (mC d a l).1 (mC d a l).2).2):=by unfold choosePivot;grind
def Ge(n:Nat)(d:Array Int)(a b:Nat)(j:a<=b)(p:b<=n)(i:8<=b-a)(g:n<=4000000):
  Ev X 136 [jN n,dI a,dI b] [bI n d] (.fe [.one (.c (.int .i64 (choosePivot ltInt d a b).1)),.one (.c (.int .i64 (mx (choosePivot ltInt d a b).2)))]) [bI n d]:=by
 refine Ev.bQ Tryz.func136 rfl λm=>?_;obtain⟨l,rfl⟩:∃l,b=a+l:=⟨b-a,by omega⟩
 rw[x0]at i;by_cases h:l<50
 .refine bE [(32,ab),(34,ae)] rfl ?_ ?_
  .simp only[au,bq,bc,bY,aF,aE];and_intros<;>omega
  refine AK.cQ (vZ n d (a:=a+l / 4*1) (b:=a+l / 4*2) (c:=a+l / 4*3) 0 (by omega) (by omega) (by omega) g (by omega) (by omega) (by omega) (by omega)) [0,1] rfl ?_;rw[J2 i h];generalize median ltInt d (a+l / 4*1) (a+l / 4*2) (a+l / 4*3) 0=r;by_cases e:r.2=0
  .refine bE [(52,ab)] rfl (by simp[e]) (AK.dA [0] rfl ?_ rfl rfl rfl gM);simp[e,mx,ow]
  by_cases f:r.2=12
  .refine bE [(52,ae),(55,ab)] rfl (by simp[f]) (AK.dA [0] rfl ?_ rfl rfl rfl gM);simp[f,mx,ow]
  .refine bE [(52,ae),(55,ae)] rfl (by simp[e];omega) (AK.dA [0] rfl ?_ rfl rfl rfl gM);simp[e,f,mx,ow]
 .refine bE [(32,ab),(34,ab)] rfl ?_ ?_
  .simp only[au,bq,bc,bY,aF,aE];and_intros<;>omega
  have q:(mA d a l).1<n/\(mA d a l).2<=0+3:=nj (d:=d) (a:=a+l / 4*1) (sw:=0) (n:=n) (by omega) (by omega);have o:(mB d a l).1<n/\(mB d a l).2<=(mA d a l).2+3:=nj (d:=d) (a:=a+l / 4*2) (sw:=(mA d a l).2) (n:=n) (by omega) (by omega);have k:(mC d a l).1<n/\(mC d a l).2<=(mB d a l).2+3:=nj (d:=d) (a:=a+l / 4*3) (sw:=(mB d a l).2) (n:=n) (by omega) (by omega);refine AK.cQ (lY n d (a:=a+l / 4*1) 0 (by omega) (by omega) g (by omega) (by omega)) [0,1] rfl ?_;refine dv rfl ar ?_;refine AK.cQ (lY n d (a:=a+l / 4*2) (mA d a l).2 (by omega) (by omega) g (by omega) (by omega)) [0,1] rfl ?_;refine dv rfl ar ?_;refine AK.cQ (lY n d (a:=a+l / 4*3) (mB d a l).2 (by omega) (by omega) g (by omega) (by omega)) [0,1] rfl ?_;refine dv rfl ar ?_;refine AK.cQ (vZ n d (a:=(mA d a l).1) (b:=(mB d a l).1) (c:=(mC d a l).1) (mC d a l).2 (by omega) (by omega) (by omega) g (by omega) rfl rfl rfl) [0,1] rfl ?_;rw[J3 (by omega)];generalize median ltInt d (mA d a l).1 (mB d a l).1 (mC d a l).1 (mC d a l).2=r;by_cases e:r.2=0
  .refine bE [(52,ab)] rfl (by simp[e]) (AK.dA [0] rfl ?_ rfl rfl rfl gM);simp[e,mx,ow]
  by_cases f:r.2=12
  .refine bE [(52,ae),(55,ab)] rfl (by simp[f]) (AK.dA [0] rfl ?_ rfl rfl rfl gM);simp[f,mx,ow]
  .refine bE [(52,ae),(55,ae)] rfl (by simp[e];omega) (AK.dA [0] rfl ?_ rfl rfl rfl gM);simp[e,f,mx,ow]
end
section
open Go.Sort (swp reverseLoop reverseRange siftDown heapBuild heapPop heapSort ltInt)
variable {X:Cx ag}
def Qx(n:Nat)(d:Array Int)(a b:Nat)(k:d.size=n)(q:1<=b)(m:a<=n)(p:b<=n)(l:n<=4000000):Ev X 137 [jN n,dI a,dI b] [bI n d] (.fe []) [bI n (reverseRange d a b)]:=by
 refine Ev.bQ Tryz.func137 rfl λo=>?_;refine br rfl (by simp[bq];omega) ?_;refine AK.bS 1 (λs:Nat×Nat×Array Int=>s.2.2.size=n/\s.1<=n/\s.2.1<n+1/\s.2.1<n/\reverseLoop s.1 s.2.1 s.2.2=reverseRange d a b) (λs=>[(0,jN n),(6,dI s.1),(7,dI s.2.1)]) (λs=>[bI n s.2.2]) (λs=>s.2.1-s.1) (a,b-1,d) rfl ?_ rfl ?_ rfl ⟨k,by grind,by grind,by grind,rfl⟩ ?_
 .simp;omega
 .simp[cn]
 rintro⟨i,j,d1⟩ ⟨f,hi,_,g,c⟩;simp only at f hi g c;by_cases h:i<j
 .refine bE [(13,ab)] rfl ?_ (AK.aQ (i+1,j-1,swp d1 i j) rfl ?_ ?_ ?_ ?_)
  .simp only[au,bo,bF,bq,bc,aF,aE];and_intros<;>omega
  .simp only[au.cat,au,aF,aE];and_intros<;>omega
  .simp only[au.cat,au,bo,bF,aE,aF];exact gG f (by omega) (by omega) (λ_ _=>rfl)
  .refine⟨by grind[size_swp],by grind,by grind,by grind,?_⟩;rw[<-c,reverseLoop.eq_1 i j d1,bt h]
  grind
 .have e:reverseRange d a b=d1:=by rw[<-c,reverseLoop,bh h]
  rw[e];refine aV [(13,ae)] rfl (by simp;omega) (AK.leaveD rfl rfl ?_);exact b7.rQ [0] rfl ar rfl rfl rfl gM
def Bt(n:Nat)(d:Array Int){lo hi first:Nat}(h:d.size=n)(f:first+hi<=n)(g:lo<=n)(a:n<=4000000){x y z:Int}(e:x=lo)(b:y=hi)(c:z=first):
  Ev X 188 [jN n,dI x,dI y,dI z] [bI n d] (.fe []) [bI n (siftDown ltInt hi first lo d)]:=by grind[MN]
def xS(hi first:Nat):∀(m root:Nat)(d:Array Int),hi-root<=m->(siftDown ltInt hi first root d).size=d.size:=by
 intro m;induction m with
 |zero=>intro root d h;rw[siftDown,dif_pos (by omega)]
 |succ m a =>
  intro root d h;rw[siftDown];grind[size_swp]
theorem MK(n:Nat)(d:Array Int)(a b:Nat)(t:d.size=n)(o:a<=b)(r:1<=b-a)(q:b<=n)(m:n<=4000000):Ev X 134 [jN n,dI a,dI b] [bI n d] (.fe []) [bI n (heapSort ltInt d a b)]:=by
 refine Ev.bQ Tryz.func134 rfl λu=>?_;obtain⟨l,rfl⟩:∃l,b=a+l:=⟨b-a,by omega⟩
 rw[x0]at r;refine dv rfl (by simp only[au,bq,aF,aE];and_intros<;>omega) ?_;refine AK.jW (S2:=Array Int) 0 rfl rfl (λd2=>d2.size=n/\d2=heapBuild ltInt l a ((l-1) / 2+1) d) (λ_=>[(0,jN n),(6,dI a),(7,dI 0),(8,dI l)]) (λd2=>[bI n d2]) 1 (λs:Nat×Array Int=>s.2.size=n/\s.1<=(l-1) / 2+1/\heapBuild ltInt l a s.1 s.2=heapBuild ltInt l a ((l-1) / 2+1) d) (λs=>[(0,jN n),(6,dI a),(7,dI 0),(8,dI l),(9,dI ((s.1:Int)-1))]) (λs=>[bI n s.2]) (λs=>s.1) ((l-1) / 2+1,d) rfl ?_ rfl ?_ rfl ⟨t,aZ _,rfl⟩ ?_ ?_
 .simp;omega
 .simp[cn]
 .rintro out ⟨k,d1⟩ ⟨e,i,c⟩;simp only at e i c;cases k with
  |zero =>
   refine aV [(19,ae)] rfl (by simp) (AK.leaveD rfl rfl ?_);exact out d1 ⟨e,c⟩ rfl (by simp) rfl (by simp[cn])
  |succ k =>
   refine aV [(19,ab)] rfl (by simp only[au,bc];omega) ?_;refine AK.cQ (Bt n d1 (lo:=k) (hi:=l) (first:=a) e q (by omega) m (by omega) rfl rfl) [0] rfl ?_;refine dv rfl ?_ (AK.aQ (k,siftDown ltInt l a k d1) rfl ?_ ?_ ?_ ?_)
   .simp only[au,bq];omega
   .simp only[au.cat,au,aF,aE];omega
   .simp[cn]
   .exact⟨by rw[xS _ _ _ _ _ (aZ _)];exact e,by grind,c⟩
   .simp
 rintro g ⟨h,p⟩;refine dv rfl (by simp only[au,bq];omega) ?_;have f:heapSort ltInt d a (a+l)=heapPop ltInt a l g:=by unfold heapSort;grind
 rw[f];refine AK.bS 1 (λs:Nat×Array Int=>s.2.size=n/\s.1<=l/\heapPop ltInt a s.1 s.2=heapPop ltInt a l g) (λs=>[(0,jN n),(6,dI a),(7,dI 0),(8,dI l),(10,dI ((s.1:Int)-1))]) (λs=>[bI n s.2]) (λs=>s.1) (l,g) rfl ?_ rfl ?_ rfl ⟨h,aZ _,rfl⟩ ?_
 .simp
 .simp[cn]
 rintro⟨k,d1⟩ ⟨e,i,c⟩;simp only at e i c;cases k with
 |zero =>
  rw[<-c];refine aV [(30,ae)] rfl (by simp) (AK.leaveD rfl rfl ?_);exact b7.rQ [0] rfl ar rfl rfl rfl gM
 |succ k =>
  have j:((a:Int)+(((k+1:Nat):Int)-1)).toNat=a+k:=by omega
  refine bE [(30,ab),(1000011,ab)] rfl ?_ ?_
  .simp only[au,bo,bF,j,bq,bc,aF,aE];and_intros<;>omega
  refine AK.norm [bI n (swp d1 a (a+k))] rfl ?_ ?_
  .simp only[au.cat,au,bo,bF,j,aE,aF];exact gG e (by omega) (by omega) (λ_ _=>rfl)
  refine dv rfl ar ?_;refine AK.cQ (Bt n (swp d1 a (a+k)) (lo:=0) (hi:=k) (first:=a) (by grind[size_swp]) (by omega) (by omega) m rfl (by omega) rfl) [0] rfl ?_;refine dv rfl ?_ (AK.aQ (k,siftDown ltInt k a 0 (swp d1 a (a+k))) rfl ?_ ?_ ?_ ?_)
  .simp only[au,bq];omega
  .simp only[au.cat,au,aF,aE];omega
  .simp[cn]
  .exact⟨by rw[xS _ _ _ _ _ (aZ _),size_swp];exact e,by grind,c⟩
  .simp
end
section
open Go.Sort (bitsLen)
variable {X:Cx ag}
def wP:List UInt8:=(a9 256).map λi=>UInt8.ofNat (bitsLen i)
def jI{x:Nat}(h:x<2 ^ k):bitsLen x<=k:=by
 unfold bitsLen;split
 .omega
 .rename_i a;have:=(Nat.log2_lt a).2 h;omega
theorem MO{x:Nat}(h:x<256):(ik wP x).toNat=bitsLen x:=by unfold ik wP;rw[bF,ai,mJ,List.getElem?_range h];have:=jI (x:=x) (k:=8) h;grind[UInt8.toNat_ofNat']
def sX(h:2 ^ k<=n):bitsLen n=k+bitsLen (n / 2 ^ k):=by
 have b:0<2 ^ k:=Nat.two_pow_pos k;have e:0<n / 2 ^ k:=Nat.div_pos h b;unfold bitsLen;rw[bh (by omega),bh (by omega)];have d:Nat.log2 n=k+Nat.log2 (n / 2 ^ k):=by
  rw[Nat.log2_eq_iff (by omega)];have a:=Nat.log2_self_le (n:=n / 2 ^ k) (by omega);have c:=Nat.lt_log2_self (n:=n / 2 ^ k);constructor
  .rw[Nat.pow_add,Nat.mul_comm];exact gB (dY _ a) (Nat.div_mul_le_self n _)
  .rw[show k+Nat.log2 (n / 2 ^ k)+1=k+(Nat.log2 (n / 2 ^ k)+1) by omega,Nat.pow_add];grind[Nat.div_lt_iff_lt_mul]
 omega
set_option maxRecDepth 100000 in
def J4(n:Nat)(h:n<=4000000):Ev X 143 [dQ n] [] (dI (bitsLen n)) []:=by
 refine Ev.bQ Tryz.func143 rfl λi=>?_;have fin:∀{T:List UInt8} {x:Nat},T=wP->x<256->(ik T (x:Int)).toNat=bitsLen x:=λb j=>by grind[MO]
 have fl:∀{T:List UInt8},T=wP->T.length=256:=λb=>by rw[b];rfl
 by_cases g:65536<=n
 .have c:((n:Int).toNat / 2 ^ Int.toNat 16)=n / 65536:=by simp
  have e:bitsLen n=16+bitsLen (n / 65536):=sX (n:=n) (k:=16) g;have d:=jI (x:=n / 65536) (k:=8) (by grind);refine bE [(4,ae),(8,ab),(14,ae)] rfl ?_ (AK.bg rfl ?_)
  .generalize b:(ByteArray.data _).toList=T;have a:T=wP:=by rw[<-b];decide +kernel
   simp only[au,c,fin a (show n / 65536<256 by omega),fl a,bq,bc,bY];and_intros<;>omega
  .generalize b:(ByteArray.data _).toList=T;have a:T=wP:=by rw[<-b];decide +kernel
   simp only[au,au.cat,c,fin a (show n / 65536<256 by omega),aF,aE];omega
 by_cases f:256<=n
 .have c:((n:Int).toNat / 2 ^ Int.toNat 8)=n / 256:=by simp
  have e:bitsLen n=8+bitsLen (n / 256):=sX (n:=n) (k:=8) f;have d:=jI (x:=n / 256) (k:=8) (by grind);refine bE [(4,ae),(8,ae),(14,ab)] rfl ?_ (AK.bg rfl ?_)
  .generalize b:(ByteArray.data _).toList=T;have a:T=wP:=by rw[<-b];decide +kernel
   simp only[au,c,fin a (show n / 256<256 by omega),fl a,bq,bc,bY];and_intros<;>omega
  .generalize b:(ByteArray.data _).toList=T;have a:T=wP:=by rw[<-b];decide +kernel
   simp only[au,au.cat,c,fin a (show n / 256<256 by omega),aF,aE];omega
 .have d:=jI (x:=n) (k:=8) (by grind);refine bE [(4,ae),(8,ae),(14,ae)] rfl ?_ (AK.bg rfl ?_)
  .generalize b:(ByteArray.data _).toList=T;have a:T=wP:=by rw[<-b];decide +kernel
   simp only[au,fin a (show n<256 by omega),fl a,bq,bc,bY];and_intros<;>omega
  .generalize b:(ByteArray.data _).toList=T;have a:T=wP:=by rw[<-b];decide +kernel
   simp only[au,au.cat,fin a (show n<256 by omega),aF,aE];omega
def JY(n:Nat)(a:n<=4000000):Ev X 100 [dQ n] [] (dI (bitsLen n)) []:=by refine Ev.bQ Tryz.func100 rfl λb=>?_;refine dv rfl ar ?_;refine AK.Ea ?_;refine dv rfl ar ?_;refine AK.cQ (J4 n a) [] rfl ?_;exact dv rfl ar (AK.bg rfl)
end
section
open Go.Sort (swp bitsLen xorNextN xorNextN_lt xorNext xorNext_toNat breakStep breakPatterns)
variable {X:Cx ag}
abbrev bQ(r:Nat):ba:=.cells 227 [.c (.int .u64 r)]
def MP(r:Nat):Ev X 190 [.e (.one (.ptr 0 0))] [bQ r] (dQ (xorNextN r)) [bQ (xorNextN r)]:=by
 refine Ev.bQ Tryz.func190 rfl λd=>?_;have b:(2:Nat) ^ Int.toNat 13=8192:=by decide
 have c:(2:Nat) ^ Int.toNat 7=128:=by decide
 have a:(2:Nat) ^ Int.toNat 17=131072:=by decide
 refine dv rfl ?_ ?_
 .simp only[au];omega
 refine AK.norm [bQ (xorNextN r)] rfl ?_ (AK.dA [0] rfl ?_ rfl rfl rfl gM)
 .simp only[au,au.cat,xorNextN,bF,b,c,a,aE]
 .simp only[au,au.cat,xorNextN,bF,b,c,a]
theorem MQ(n:Nat)(a:n<=4000000):Ev X 189 [dI n] [] (dQ ((1 <<< bitsLen n:Nat):Int)) []:=by
 refine Ev.bQ Tryz.func189 rfl λc=>?_;have l:=jI (x:=n) (k:=22) (by grind);refine dv rfl (by simp only[au,bq];and_intros<;>omega) ?_;refine AK.cQ (JY n a) [] rfl ?_;refine dv rfl ?_ (AK.bg rfl ?_)
 .simp only[au];omega
 .have b:2 ^ bitsLen n<=2 ^ 22:=Nat.pow_le_pow_right (by omega) l;simp only[au,au.cat,Nat.shiftLeft_eq,bF];grind
def Bu{L:Nat}(h:0<L):1 <<< bitsLen L<=2*L:=by rw[Nat.shiftLeft_eq,Nat.one_mul];unfold bitsLen;rw[bh (by omega),Nat.pow_succ];grind[Nat.log2_self_le]
def J5(L:Nat):1<=1 <<< bitsLen L:=by rw[Nat.shiftLeft_eq,Nat.one_mul];grind
def QV(a L M:Nat):Nat->Nat->UInt64×Array Int->UInt64×Array Int
 |0,_,st=>st
 |k+1,idx,st=>QV a L M k (idx+1) (breakStep a L M st idx)
def sr{d:Array Int}{a L:Nat}(h:8<=L):breakPatterns d a (a+L)=(QV a L (1 <<< bitsLen L) 3 (a+L / 4*2-1) (UInt64.ofNat L,d)).2:=by unfold breakPatterns;simp only[x0];rw[bt h];rfl
def zw{a L M idx:Nat}{r:UInt64}{d:Array Int}:breakStep a L M (r,d) idx=(xorNext r,swp d idx (a+if(xorNextN r.toNat &&& (M-1))≥L then(xorNextN r.toNat &&& (M-1))-L else(xorNextN r.toNat &&& (M-1)))):=by unfold breakStep;simp only[xorNext_toNat]
abbrev Wo(n a L M:Nat)(k:Nat):Fr:=[(0,jN n),(1,dI a),(6,dI L),(7,.e (.one (.ptr 1 0))),(8,dQ M),(9,dI ((a+L / 4*2-1+(3-k):Nat):Int))]
def JW(n:Nat)(d:Array Int)(a b:Nat)(w:d.size=n)(t:a<=b)(A:b<=n)(y:n<=4000000):
  Ev X 135 [jN n,dI a,dI b] [bI n d] (.fe []) [bI n (breakPatterns d a b)]:=by
 refine Ev.bQ Tryz.func135 rfl λC=>?_;obtain⟨L,rfl⟩:∃L,b=a+L:=⟨b-a,by omega⟩
 by_cases p:8<=L
 .rw[sr p];have z:=Bu (L:=L) (by omega);have q:=J5 L;have m:(UInt64.ofNat L).toNat=L:=by grind[UInt64.toNat_ofNat']
  refine bE [(15,ab)] rfl ?_ ?_
  .simp only[au,bq,bc,aF,aE];and_intros<;>omega
  have key:∀x:Int,x=(L:Int)->Ev X 189 [dI x] [] (dQ ((1 <<< bitsLen L:Nat):Int)) []:=by grind[MQ]
  refine AK.cQ (key _ (by omega)) [] rfl ?_;refine dv rfl ?_ ?_
  .simp only[au,bq,bc,aF,aE];and_intros<;>omega
  generalize u:1 <<< bitsLen L=M at *;refine AK.bS 2 (λs:Nat×UInt64×Array Int=>s.2.2.size=n/\s.1<=3/\(QV a L M s.1 (a+L / 4*2-1+(3-s.1)) s.2).2=(QV a L M 3 (a+L / 4*2-1) (UInt64.ofNat L,d)).2) (λs=>Wo n a L M s.1) (λs=>[bI n s.2.2,bQ s.2.1.toNat]) (λs=>s.1) (3,UInt64.ofNat L,d) rfl ?_ rfl ?_ rfl ⟨w,aZ _,rfl⟩ ?_
  .simp only[au.cat,au,aF,aE];and_intros<;>omega
  .simp only[au.cat,au,cn,m,aF,aE];grind
  rintro⟨k,r,d1⟩ ⟨l,v,c⟩;simp only at l v c;cases k with
  |zero =>
   rw[<-c];refine bE [(33,ae)] rfl ?_ (AK.leaveD rfl rfl ?_)
   .simp only[au,bq,bY,aF,aE];and_intros<;>omega
   exact b7.rQ [0] rfl ar rfl rfl rfl gM
  |succ k =>
   have B:xorNextN r.toNat<18446744073709551616:=xorNextN_lt _ (UInt64.toNat_lt r);have o:xorNextN r.toNat &&& (M-1)<=M-1:=Nat.and_le_right;have j:((M:Int)-1).toNat=M-1:=by omega
   refine bE [(33,ab)] rfl ?_ ?_
   .simp only[au,bq,bc,aF,aE];and_intros<;>omega
   refine AK.cQ (MP r.toNat) [1] rfl ?_;have f:=zw (a:=a) (L:=L) (M:=M) (idx:=a+L / 4*2-1+(3-(k+1))) (r:=r) (d:=d1);generalize i:xorNextN r.toNat &&& (M-1)=O at *;by_cases g:L<=O
   .rw[bt g]at f;have h:((a:Int)+((O:Int)-(L:Int))).toNat=a+(O-L):=by omega
    refine bE [(43,ab)] rfl ?_ (AK.aQ (k,xorNext r,swp d1 (a+L / 4*2-1+(3-(k+1))) (a+(O-L))) rfl ?_ ?_ ?_ ?_)
    .simp only[au,bo,bF,j,i,h,bq,bc,aF,aE];and_intros<;>omega
    .simp only[au.cat,au,aF,aE];omega
    .simp only[au.cat,au,bo,bF,j,i,h,xorNext_toNat,aE,aF];exact gG l (by omega) (by omega) (λ_ _=>rfl)
    .refine⟨by grind[size_swp],by grind,?_⟩;rw[<-c,QV,f,show a+L / 4*2-1+(3-(k+1))+1=a+L / 4*2-1+(3-k) by omega]
    .simp
   .rw[bh g]at f;have h:((a:Int)+(O:Int)).toNat=a+O:=by omega
    refine bE [(43,ae)] rfl ?_ (AK.aQ (k,xorNext r,swp d1 (a+L / 4*2-1+(3-(k+1))) (a+O)) rfl ?_ ?_ ?_ ?_)
    .simp only[au,bo,bF,j,i,h,bq,bY,aF,aE];and_intros<;>omega
    .simp only[au.cat,au,aF,aE];omega
    .simp only[au.cat,au,bo,bF,j,i,h,xorNext_toNat,aE,aF];exact gG l (by omega) (by omega) (λ_ _=>rfl)
    .refine⟨by grind[size_swp],by grind,?_⟩;rw[<-c,QV,f,show a+L / 4*2-1+(3-(k+1))+1=a+L / 4*2-1+(3-k) by omega]
    .simp
 .have e:breakPatterns d a (a+L)=d:=by unfold breakPatterns;grind
  rw[e];refine bE [(15,ae)] rfl ?_ ?_
  .simp only[au,bq,bY,aF,aE];and_intros<;>omega
  exact b7.rQ [0] rfl ar rfl rfl rfl gM
end
section
open Go.Sort (swp scanUp scanDown partLoop partEqLoop partition partitionEqual ltInt)
variable {X:Cx ag}
theorem lN{p:Int->Bool}{d:Array Int}(h:i<=j)(a:p d[i]! = ab):scanUp p d j i=scanUp p d j (i+1):=by rw[scanUp.eq_1 p d j i,bt (by grind)]
theorem ga{p:Int->Bool}{d:Array Int}(h:i<=j->p d[i]! = ae):scanUp p d j i=i:=by rw[scanUp,bh];grind
theorem jQ{p:Int->Bool}{d:Array Int}(c:1<=j)(h:i<=j)(b:p d[j]! = ab):scanDown p d i j=scanDown p d i (j-1):=by
 obtain⟨j,rfl⟩:∃a,j=a+1:=⟨j-1,by omega⟩
 rw[scanDown,bt (by grind),oy]
theorem eY{p:Int->Bool}{d:Array Int}(h:i<=j->p d[j]! = ae):scanDown p d i j=j:=by
 cases j with
 |zero=>rfl
 |succ j =>
  rw[scanDown,bh];grind
def mz{p:Int->Bool}{d:Array Int}:∀(m i:Nat),j+1-i<=m->i<=scanUp p d j i/\(scanUp p d j i<=j+1∨scanUp p d j i=i):=by
 intro m;induction m with
 |zero=>intro i h;rw[ga (λa=>by omega)];omega
 |succ m c =>
  intro i h;by_cases b:i<=j
  .cases a:p d[i]! with
   |true=>grind[lN]
   |false=>grind[ga]
  grind
def j3{p:Int->Bool}{d:Array Int}:∀j:Nat,scanDown p d i j<=j/\(i<=scanDown p d i j+1∨scanDown p d i j=j):=by
 intro j;induction j with
 |zero=>rw[show scanDown p d i 0=0 from rfl];omega
 |succ j c =>
  by_cases b:i<=j+1
  .cases a:p d[j+1]! with
   |true=>grind[jQ]
   |false=>grind[eY]
  grind[eY]
def partLoop_eq{a:Nat}{d:Array Int}{i2 j2:Nat}(f:1<=i)(hi:i2=scanUp (λx=>ltInt x d[a]!) d j i)(b:j2=scanDown (λx=>!ltInt x d[a]!) d i2 j):
  partLoop ltInt a i j d=if i2>j2 then(j2,d)else partLoop ltInt a (i2+1) (j2-1) (swp d i2 j2):=by have c:=mz (p:=λx=>ltInt x d[a]!) (d:=d) (j:=j) (j+1-i) i (aZ _);have e:=j3 (p:=λx=>!ltInt x d[a]!) (d:=d) (i:=i2) j;rw[<-hi]at c;rw[<-b]at e;rw[partLoop.eq_1,<-hi,<-b];grind
def Bv{d c:Array Int}{a v:Nat}(e:c=swp d a v)(hi:i=scanUp (λx=>ltInt x c[a]!) c (b-1) (a+1))(f:j=scanDown (λx=>!ltInt x c[a]!) c i (b-1))(h:i>j):partition ltInt d a b v=(j,ab,swp c j a):=by unfold partition;grind
def Bw{d c:Array Int}{a v:Nat}(f:c=swp d a v)(hi:i=scanUp (λx=>ltInt x c[a]!) c (b-1) (a+1))(g:j=scanDown (λx=>!ltInt x c[a]!) c i (b-1))(h:¬i>j){r:Nat×Array Int}(e:partLoop ltInt a (i+1) (j-1) (swp c i j)=r):partition ltInt d a b v=(r.1,ae,swp r.2 r.1 a):=by subst e;unfold partition;grind
def ML(n:Nat)(d:Array Int)(a b v:Nat)(S:d.size=n)(Q:a<b)(Y:b<=n)(V:v<n)(W:n<=4000000):
  Ev X 141 [jN n,dI a,dI b,dI v] [bI n d] (.fe [.one (.c (.int .i64 (partition ltInt d a b v).1)),.one (.c (.bool (partition ltInt d a b v).2.1))]) [bI n (partition ltInt d a b v).2.2]:=by
 have h:bA X [(139,sW)]:=.cons vW .nil;refine Ev.bQ Tryz.func141 rfl λZ=>?_;refine bk h [(1000002,ab)] rfl ?_ ?_
 .simp only[au,bo,bF,bq,aF,aE];and_intros<;>omega
 refine AK.norm [bI n (swp d a v)] rfl ?_ ?_
 .simp only[au.cat,au,bo,bF,aE,aF];exact gG S (by omega) (by omega) (λ_ _=>rfl)
 have w:(swp d a v).size=n:=by grind[size_swp]
 obtain⟨f,J⟩:∃f,f=swp d a v:=⟨_,rfl⟩;rw[<-J]at w⊢;refine cz h rfl ?_ ?_
 .simp only[au,bq];and_intros<;>omega
 refine AK.jW (S2:=Unit) 0 rfl rfl (λ_=>True) (λ_=>[(0,jN n),(1,dI a),(10,dI ((scanUp (λx=>ltInt x f[a]!) f (b-1) (a+1)):Nat)),(11,dI (b-1:Nat))]) (λ_=>[bI n f]) 1 (λk:Nat=>a+1<=k/\k<=n+1/\scanUp (λx=>ltInt x f[a]!) f (b-1) k=scanUp (λx=>ltInt x f[a]!) f (b-1) (a+1)) (λk=>[(0,jN n),(1,dI a),(10,dI (k:Nat)),(11,dI (b-1:Nat))]) (λ_=>[bI n f]) (λk=>b-1+1-k) (a+1) rfl ?_ rfl ?_ rfl ⟨aZ _,by omega,rfl⟩ ?_ ?_
 .simp[cn]<;>omega
 .simp[cn]
 .rintro out k ⟨o,u,t⟩;by_cases y:k<=b-1
  .by_cases P:(λx=>ltInt x f[a]!) f[k]! = ab
   .have g:ltInt f[k]! f[a]! = ab:=by grind
    refine bk h [(32,ab),(42,ab)] rfl ?_ (AK.aQ (k+1) rfl ?_ ?_ ?_ ?_)
    .simp only[au,bo,bF,g,bq,bc,aF,aE];and_intros<;>omega
    .simp only[au.cat,au,aF,aE];omega
    .simp[cn]
    .grind [lN]
    .omega
   .have g:ltInt f[k]! f[a]! = ae:=by grind
    refine bk h [(32,ab),(42,ae)] rfl ?_ (AK.leaveD rfl rfl ?_)
    .simp only[au,bo,bF,g,bq,bc,aF,aE];and_intros<;>omega
    have e:scanUp (λx=>ltInt x f[a]!) f (b-1) (a+1)=k:=by grind[ga]
    exact out () ar rfl (by simp only[au.cat,au,e,aF,aE]) rfl (by simp[cn])
  .refine bk h [(32,ae)] rfl ?_ (AK.leaveD rfl rfl ?_)
   .simp only[au,bq,bY,aF,aE];omega
   have e:scanUp (λx=>ltInt x f[a]!) f (b-1) (a+1)=k:=by grind[ga]
   exact out () ar rfl (by simp only[au.cat,au,e,aF,aE]) rfl (by simp[cn])
 rintro⟨⟩ -;have R:=mz (p:=λx=>ltInt x f[a]!) (d:=f) (j:=b-1) (b-1+1-(a+1)) (a+1) (aZ _);obtain⟨i,hi⟩:∃i,i=scanUp (λx=>ltInt x f[a]!) f (b-1) (a+1):=⟨_,rfl⟩
 rw[<-hi]at R⊢;refine cz h rfl ar ?_;refine AK.jW (S2:=Unit) 2 rfl rfl (λ_=>True) (λ_=>[(0,jN n),(1,dI a),(10,dI (i:Nat)),(11,dI ((scanDown (λx=>!ltInt x f[a]!) f (i) (b-1)):Nat))]) (λ_=>[bI n f]) 1 (λk:Nat=>k<=b-1/\k<=n/\scanDown (λx=>!ltInt x f[a]!) f (i) k=scanDown (λx=>!ltInt x f[a]!) f (i) (b-1)) (λk=>[(0,jN n),(1,dI a),(10,dI (i:Nat)),(11,dI (k:Nat))]) (λ_=>[bI n f]) (λk=>k) (b-1) rfl ?_ rfl ?_ rfl ⟨aZ _,by omega,rfl⟩ ?_ ?_
 .simp[cn]<;>omega
 .simp[cn]
 .rintro out k ⟨o,u,t⟩;by_cases y:i<=k
  .by_cases P:(λx=>!ltInt x f[a]!) f[k]! = ab
   .have g:ltInt f[k]! f[a]! = ae:=by grind
    refine bk h [(48,ab),(58,ae)] rfl ?_ (AK.aQ (k-1) rfl ?_ ?_ ?_ ?_)
    .simp only[au,bo,bF,g,bq,bc,aF,aE];and_intros<;>omega
    .simp only[au.cat,au,aF,aE];omega
    .simp[cn]
    .exact⟨by omega,by omega,by grind[jQ]⟩
    .omega
   .have g:ltInt f[k]! f[a]! = ab:=by grind
    refine bk h [(48,ab),(58,ab)] rfl ?_ (AK.leaveD rfl rfl ?_)
    .simp only[au,bo,bF,g,bq,bc,aF,aE];and_intros<;>omega
    have e:scanDown (λx=>!ltInt x f[a]!) f (i) (b-1)=k:=by grind[eY]
    exact out () ar rfl (by simp only[au.cat,au,e,aF,aE]) rfl (by simp[cn])
  .refine bk h [(48,ae)] rfl ?_ (AK.leaveD rfl rfl ?_)
   .simp only[au,bq,bY,aF,aE];omega
   have e:scanDown (λx=>!ltInt x f[a]!) f (i) (b-1)=k:=by grind[eY]
   exact out () ar rfl (by simp only[au.cat,au,e,aF,aE]) rfl (by simp[cn])
 rintro⟨⟩ -;have T:=j3 (p:=λx=>!ltInt x f[a]!) (d:=f) (i:=i) (b-1);obtain⟨j,K⟩:∃j,j=scanDown (λx=>!ltInt x f[a]!) f i (b-1):=⟨_,rfl⟩
 rw[<-K]at T⊢;by_cases O:j<i
 .rw[Bv J hi K O];refine bk h [(65,ab),(1000009,ab)] rfl ?_ ?_
  .simp only[au,bo,bF,bq,bc,aF,aE];and_intros<;>omega
  refine AK.norm [bI n (swp f j a)] rfl ?_ ?_
  .simp only[au.cat,au,bo,bF,aE,aF];exact gG w (by omega) (by omega) (λ_ _=>rfl)
  refine cz h rfl ar (AK.dA [0] rfl ?_ rfl rfl rfl gM);simp
 refine bk h [(65,ae),(1000011,ab)] rfl ?_ ?_
 .simp only[au,bo,bF,bq,bY,aF,aE];and_intros<;>omega
 refine AK.norm [bI n (swp f i j)] rfl ?_ ?_
 .simp only[au.cat,au,bo,bF,aE,aF];exact gG w (by omega) (by omega) (λ_ _=>rfl)
 refine cz h rfl ?_ ?_
 .simp only[au,bq];and_intros<;>omega
 have F:(swp f i j).size=n:=by grind[size_swp]
 obtain⟨r,M⟩:∃r,partLoop ltInt a (i+1) (j-1) (swp f i j)=r:=⟨_,rfl⟩;rw[Bw J hi K (by omega) M]
 obtain⟨d1,H⟩:∃d1,d1=swp f i j:=⟨_,rfl⟩;rw[<-H]at F M⊢;refine AK.jW (S2:=Unit) 4 rfl rfl (λ_=>r.1<n/\r.2.size=n) (λ_=>[(0,jN n),(1,dI a),(11,dI r.1)]) (λ_=>[bI n r.2]) 1 (λs:Nat×Nat×Array Int=>s.2.2.size=n/\a+1<=s.1/\s.1<=n+1/\s.2.1<n/\partLoop ltInt a s.1 s.2.1 s.2.2=r) (λs=>[(0,jN n),(1,dI a),(10,dI s.1),(11,dI s.2.1)]) (λs=>[bI n s.2.2]) (λs=>s.2.1+1-s.1) (i+1,j-1,d1) rfl ?_ rfl ?_ rfl ⟨F,by grind,by grind,by grind,M⟩ ?_ ?_
 .simp only[au.cat,au,aF,aE];and_intros<;>omega
 .simp[cn]
 .rintro D ⟨i3,l,d2⟩ ⟨E,N,B,I,m⟩;simp only at E N B I m;refine cz h rfl ar ?_;refine AK.jW (S2:=Unit) 6 rfl rfl (λ_=>True) (λ_=>[(0,jN n),(1,dI a),(10,dI ((scanUp (λx=>ltInt x d2[a]!) d2 (l) (i3)):Nat)),(11,dI (l:Nat))]) (λ_=>[bI n d2]) 1 (λk:Nat=>i3<=k/\k<=n+1/\scanUp (λx=>ltInt x d2[a]!) d2 (l) k=scanUp (λx=>ltInt x d2[a]!) d2 (l) (i3)) (λk=>[(0,jN n),(1,dI a),(10,dI (k:Nat)),(11,dI (l:Nat))]) (λ_=>[bI n d2]) (λk=>l+1-k) (i3) rfl ?_ rfl ?_ rfl ⟨aZ _,by omega,rfl⟩ ?_ ?_
  .simp[cn]<;>omega
  .simp[cn]
  .rintro out k ⟨o,u,t⟩;by_cases y:k<=l
   .by_cases P:(λx=>ltInt x d2[a]!) d2[k]! = ab
    .have g:ltInt d2[k]! d2[a]! = ab:=by grind
     refine bk h [(101,ab),(111,ab)] rfl ?_ (AK.aQ (k+1) rfl ?_ ?_ ?_ ?_)
     .simp only[au,bo,bF,g,bq,bc,aF,aE];and_intros<;>omega
     .simp only[au.cat,au,aF,aE];omega
     .simp[cn]
     .grind [lN]
     .omega
    .have g:ltInt d2[k]! d2[a]! = ae:=by grind
     refine bk h [(101,ab),(111,ae)] rfl ?_ (AK.leaveD rfl rfl ?_)
     .simp only[au,bo,bF,g,bq,bc,aF,aE];and_intros<;>omega
     have e:scanUp (λx=>ltInt x d2[a]!) d2 (l) (i3)=k:=by grind[ga]
     exact out () ar rfl (by simp only[au.cat,au,e,aF,aE]) rfl (by simp[cn])
   .refine bk h [(101,ae)] rfl ?_ (AK.leaveD rfl rfl ?_)
    .simp only[au,bq,bY,aF,aE];omega
    have e:scanUp (λx=>ltInt x d2[a]!) d2 (l) (i3)=k:=by grind[ga]
    exact out () ar rfl (by simp only[au.cat,au,e,aF,aE]) rfl (by simp[cn])
  rintro⟨⟩ -;have c1:=mz (p:=λx=>ltInt x d2[a]!) (d:=d2) (j:=l) (l+1-i3) i3 (aZ _);obtain⟨i4,C⟩:∃i4,i4=scanUp (λx=>ltInt x d2[a]!) d2 l i3:=⟨_,rfl⟩
  rw[<-C]at c1⊢;refine cz h rfl ar ?_;refine AK.jW (S2:=Unit) 8 rfl rfl (λ_=>True) (λ_=>[(0,jN n),(1,dI a),(10,dI (i4:Nat)),(11,dI ((scanDown (λx=>!ltInt x d2[a]!) d2 (i4) (l)):Nat))]) (λ_=>[bI n d2]) 1 (λk:Nat=>k<=l/\k<=n/\scanDown (λx=>!ltInt x d2[a]!) d2 (i4) k=scanDown (λx=>!ltInt x d2[a]!) d2 (i4) (l)) (λk=>[(0,jN n),(1,dI a),(10,dI (i4:Nat)),(11,dI (k:Nat))]) (λ_=>[bI n d2]) (λk=>k) (l) rfl ?_ rfl ?_ rfl ⟨aZ _,by omega,rfl⟩ ?_ ?_
  .simp[cn]<;>omega
  .simp[cn]
  .rintro out k ⟨o,u,t⟩;by_cases y:i4<=k
   .by_cases P:(λx=>!ltInt x d2[a]!) d2[k]! = ab
    .have g:ltInt d2[k]! d2[a]! = ae:=by grind
     refine bk h [(117,ab),(127,ae)] rfl ?_ (AK.aQ (k-1) rfl ?_ ?_ ?_ ?_)
     .simp only[au,bo,bF,g,bq,bc,aF,aE];and_intros<;>omega
     .simp only[au.cat,au,aF,aE];omega
     .simp[cn]
     .exact⟨by omega,by omega,by grind[jQ]⟩
     .omega
    .have g:ltInt d2[k]! d2[a]! = ab:=by grind
     refine bk h [(117,ab),(127,ab)] rfl ?_ (AK.leaveD rfl rfl ?_)
     .simp only[au,bo,bF,g,bq,bc,aF,aE];and_intros<;>omega
     have e:scanDown (λx=>!ltInt x d2[a]!) d2 (i4) (l)=k:=by grind[eY]
     exact out () ar rfl (by simp only[au.cat,au,e,aF,aE]) rfl (by simp[cn])
   .refine bk h [(117,ae)] rfl ?_ (AK.leaveD rfl rfl ?_)
    .simp only[au,bq,bY,aF,aE];omega
    have e:scanDown (λx=>!ltInt x d2[a]!) d2 (i4) (l)=k:=by grind[eY]
    exact out () ar rfl (by simp only[au.cat,au,e,aF,aE]) rfl (by simp[cn])
  rintro⟨⟩ -;have c2:=j3 (p:=λx=>!ltInt x d2[a]!) (d:=d2) (i:=i4) l;obtain⟨z,G⟩:∃z,z=scanDown (λx=>!ltInt x d2[a]!) d2 i4 l:=⟨_,rfl⟩
  rw[<-G]at c2⊢;have q:=partLoop_eq (by omega) C G;by_cases A:z<i4
  .have e:=q;rw[m,bt A]at e;refine bk h [(134,ab)] rfl ?_ (AK.leaveD rfl rfl ?_)
   .simp only[au,bq,bc];omega
   exact D () (by grind) rfl (by simp only[au.cat,au,e,aF,aE]) rfl (by simp[cn,e])
  .have e:=q;rw[m,bh (by omega)]at e;refine bk h [(134,ae),(1000019,ab)] rfl ?_ ?_
   .simp only[au,bo,bF,bq,bY,aF,aE];and_intros<;>omega
   refine AK.norm [bI n (swp d2 i4 z)] rfl ?_ ?_
   .simp only[au.cat,au,bo,bF,aE,aF];exact gG E (by omega) (by omega) (λ_ _=>rfl)
   refine cz h rfl ?_ (AK.aQ (i4+1,z-1,swp d2 i4 z) rfl ?_ ?_ ?_ ?_)
   .simp only[au,bq];and_intros<;>omega
   .simp only[au.cat,au,aF,aE];and_intros<;>omega
   .simp[cn]
   .grind [size_swp]
   grind
 rintro⟨⟩ ⟨U,L⟩;refine bk h [(1000022,ab)] rfl ?_ ?_
 .simp only[au,bo,bF,bq,aF,aE];and_intros<;>omega
 refine AK.norm [bI n (swp r.2 r.1 a)] rfl ?_ ?_
 .simp only[au.cat,au,bo,bF,aE,aF];exact gG L (by omega) (by omega) (λ_ _=>rfl)
 refine cz h rfl ar (AK.dA [0] rfl ?_ rfl rfl rfl gM);simp
def partEqLoop_eq{a:Nat}{d:Array Int}{i2 j2:Nat}(f:1<=i)(hi:i2=scanUp (λx=>!ltInt d[a]! x) d j i)(b:j2=scanDown (λx=>ltInt d[a]! x) d i2 j):
  partEqLoop ltInt a i j d=if i2>j2 then(i2,d)else partEqLoop ltInt a (i2+1) (j2-1) (swp d i2 j2):=by have c:=mz (p:=λx=>!ltInt d[a]! x) (d:=d) (j:=j) (j+1-i) i (aZ _);have e:=j3 (p:=λx=>ltInt d[a]! x) (d:=d) (i:=i2) j;rw[<-hi]at c;rw[<-b]at e;rw[partEqLoop.eq_1,<-hi,<-b];grind
def Gf(n:Nat)(d:Array Int)(a b v:Nat)(I:d.size=n)(H:a<b)(O:b<=n)(M:v<n)(N:n<=4000000):
  Ev X 140 [jN n,dI a,dI b,dI v] [bI n d] (dI (partitionEqual ltInt d a b v).1) [bI n (partitionEqual ltInt d a b v).2]:=by
 have g:bA X [(139,sW)]:=.cons vW .nil;refine Ev.bQ Tryz.func140 rfl λP=>?_;refine bk g [(1000002,ab)] rfl ?_ ?_
 .simp only[au,bo,bF,bq,aF,aE];and_intros<;>omega
 refine AK.norm [bI n (swp d a v)] rfl ?_ ?_
 .simp only[au.cat,au,bo,bF,aE,aF];exact gG I (by omega) (by omega) (λ_ _=>rfl)
 have D:(swp d a v).size=n:=by grind[size_swp]
 unfold partitionEqual;generalize swp d a v=d1 at *;obtain⟨r,G⟩:∃r,partEqLoop ltInt a (a+1) (b-1) d1=r:=⟨_,rfl⟩;rw[G];refine cz g rfl ?_ ?_
 .simp only[au,bq];and_intros<;>omega
 refine AK.jW (S2:=Unit) 0 rfl rfl (λ_=>r.1<=n+1/\r.2.size=n) (λ_=>[(0,jN n),(1,dI a),(9,dI r.1)]) (λ_=>[bI n r.2]) 1 (λs:Nat×Nat×Array Int=>s.2.2.size=n/\a+1<=s.1/\s.1<=n+1/\s.2.1<n/\partEqLoop ltInt a s.1 s.2.1 s.2.2=r) (λs=>[(0,jN n),(1,dI a),(9,dI s.1),(10,dI s.2.1)]) (λs=>[bI n s.2.2]) (λs=>s.2.1+1-s.1) (a+1,b-1,d1) rfl ?_ rfl ?_ rfl ⟨D,by grind,by grind,by grind,G⟩ ?_ ?_
 .simp only[au.cat,au,aF,aE];and_intros<;>omega
 .simp[cn]
 .rintro u ⟨i3,c,d2⟩ ⟨w,E,o,A,h⟩;simp only at w E o A h;refine cz g rfl ar ?_;refine AK.jW (S2:=Unit) 2 rfl rfl (λ_=>True) (λ_=>[(0,jN n),(1,dI a),(9,dI ((scanUp (λx=>!ltInt d2[a]! x) d2 (c) (i3)):Nat)),(10,dI (c:Nat))]) (λ_=>[bI n d2]) 1 (λk:Nat=>i3<=k/\k<=n+1/\scanUp (λx=>!ltInt d2[a]! x) d2 (c) k=scanUp (λx=>!ltInt d2[a]! x) d2 (c) (i3)) (λk=>[(0,jN n),(1,dI a),(9,dI (k:Nat)),(10,dI (c:Nat))]) (λ_=>[bI n d2]) (λk=>c+1-k) (i3) rfl ?_ rfl ?_ rfl ⟨aZ _,by omega,rfl⟩ ?_ ?_
  .simp[cn]<;>omega
  .simp[cn]
  .rintro out k ⟨z,C,B⟩;by_cases F:k<=c
   .by_cases L:(λx=>!ltInt d2[a]! x) d2[k]! = ab
    .have f:ltInt d2[a]! d2[k]! = ae:=by grind
     refine bk g [(31,ab),(41,ae)] rfl ?_ (AK.aQ (k+1) rfl ?_ ?_ ?_ ?_)
     .simp only[au,bo,bF,f,bq,bc,aF,aE];and_intros<;>omega
     .simp only[au.cat,au,aF,aE];omega
     .simp[cn]
     .grind [lN]
     .omega
    .have f:ltInt d2[a]! d2[k]! = ab:=by grind
     refine bk g [(31,ab),(41,ab)] rfl ?_ (AK.leaveD rfl rfl ?_)
     .simp only[au,bo,bF,f,bq,bc,aF,aE];and_intros<;>omega
     have e:scanUp (λx=>!ltInt d2[a]! x) d2 (c) (i3)=k:=by grind[ga]
     exact out () ar rfl (by simp only[au.cat,au,e,aF,aE]) rfl (by simp[cn])
   .refine bk g [(31,ae)] rfl ?_ (AK.leaveD rfl rfl ?_)
    .simp only[au,bq,bY,aF,aE];omega
    have e:scanUp (λx=>!ltInt d2[a]! x) d2 (c) (i3)=k:=by grind[ga]
    exact out () ar rfl (by simp only[au.cat,au,e,aF,aE]) rfl (by simp[cn])
  rintro⟨⟩ -;have c1:=mz (p:=λx=>!ltInt d2[a]! x) (d:=d2) (j:=c) (c+1-i3) i3 (aZ _);obtain⟨i4,t⟩:∃i4,i4=scanUp (λx=>!ltInt d2[a]! x) d2 c i3:=⟨_,rfl⟩
  rw[<-t]at c1⊢;refine cz g rfl ar ?_;refine AK.jW (S2:=Unit) 4 rfl rfl (λ_=>True) (λ_=>[(0,jN n),(1,dI a),(9,dI (i4:Nat)),(10,dI ((scanDown (λx=>ltInt d2[a]! x) d2 (i4) (c)):Nat))]) (λ_=>[bI n d2]) 1 (λk:Nat=>k<=c/\k<=n/\scanDown (λx=>ltInt d2[a]! x) d2 (i4) k=scanDown (λx=>ltInt d2[a]! x) d2 (i4) (c)) (λk=>[(0,jN n),(1,dI a),(9,dI (i4:Nat)),(10,dI (k:Nat))]) (λ_=>[bI n d2]) (λk=>k) (c) rfl ?_ rfl ?_ rfl ⟨aZ _,by omega,rfl⟩ ?_ ?_
  .simp[cn]<;>omega
  .simp[cn]
  .rintro out k ⟨z,C,B⟩;by_cases F:i4<=k
   .by_cases L:(λx=>ltInt d2[a]! x) d2[k]! = ab
    .have f:ltInt d2[a]! d2[k]! = ab:=by grind
     refine bk g [(48,ab),(58,ab)] rfl ?_ (AK.aQ (k-1) rfl ?_ ?_ ?_ ?_)
     .simp only[au,bo,bF,f,bq,bc,aF,aE];and_intros<;>omega
     .simp only[au.cat,au,aF,aE];omega
     .simp[cn]
     .exact⟨by omega,by omega,by grind[jQ]⟩
     .omega
    .have f:ltInt d2[a]! d2[k]! = ae:=by grind
     refine bk g [(48,ab),(58,ae)] rfl ?_ (AK.leaveD rfl rfl ?_)
     .simp only[au,bo,bF,f,bq,bc,aF,aE];and_intros<;>omega
     have e:scanDown (λx=>ltInt d2[a]! x) d2 (i4) (c)=k:=by grind[eY]
     exact out () ar rfl (by simp only[au.cat,au,e,aF,aE]) rfl (by simp[cn])
   .refine bk g [(48,ae)] rfl ?_ (AK.leaveD rfl rfl ?_)
    .simp only[au,bq,bY,aF,aE];omega
    have e:scanDown (λx=>ltInt d2[a]! x) d2 (i4) (c)=k:=by grind[eY]
    exact out () ar rfl (by simp only[au.cat,au,e,aF,aE]) rfl (by simp[cn])
  rintro⟨⟩ -;have c2:=j3 (p:=λx=>ltInt d2[a]! x) (d:=d2) (i:=i4) c;obtain⟨l,y⟩:∃l,l=scanDown (λx=>ltInt d2[a]! x) d2 i4 c:=⟨_,rfl⟩
  rw[<-y]at c2⊢;have q:=partEqLoop_eq (by omega) t y;by_cases m:l<i4
  .have e:=q;rw[h,bt m]at e;refine bk g [(64,ab)] rfl ?_ (AK.leaveD rfl rfl ?_)
   .simp only[au,bq,bc];omega
   exact u () (by grind) rfl (by simp only[au.cat,au,e,aF,aE]) rfl (by simp[cn,e])
  .have e:=q;rw[h,bh (by omega)]at e;refine bk g [(64,ae),(1000009,ab)] rfl ?_ ?_
   .simp only[au,bo,bF,bq,bY,aF,aE];and_intros<;>omega
   refine AK.norm [bI n (swp d2 i4 l)] rfl ?_ ?_
   .simp only[au.cat,au,bo,bF,aE,aF];exact gG w (by omega) (by omega) (λ_ _=>rfl)
   refine cz g rfl ?_ (AK.aQ (i4+1,l-1,swp d2 i4 l) rfl ?_ ?_ ?_ ?_)
   .simp only[au,bq];and_intros<;>omega
   .simp only[au.cat,au,aF,aE];and_intros<;>omega
   .simp[cn]
   .grind [size_swp]
   grind
 rintro⟨⟩ ⟨K,J⟩;refine cz g rfl ar (AK.dA [0] rfl ?_ rfl rfl rfl gM);simp
end
section
open Go.Sort (swp scanSorted shiftDown shiftUp partialIns partialInsertionSort ltInt)
variable {X:Cx ag}
theorem vX{d:Array Int}(h:i<b)(a:ltInt d[i]! d[i-1]! = ae):scanSorted ltInt d b i=scanSorted ltInt d b (i+1):=by rw[scanSorted.eq_1 ltInt d b i,bt (by grind)]
theorem ni{d:Array Int}(h:i<b->ltInt d[i]! d[i-1]! = ab):scanSorted ltInt d b i=i:=by rw[scanSorted,bh];grind
def JR{d:Array Int}:∀(m i:Nat),b-i<=m->i<=b->i<=scanSorted ltInt d b i/\scanSorted ltInt d b i<=b:=by
 intro m;induction m with
 |zero=>grind[ni]
 |succ m f =>
  intro i h a;by_cases c:i<b
  .cases e:ltInt d[i]! d[i-1]! with
   |false=>grind[vX]
   |true=>grind[ni]
  grind
theorem JS{d:Array Int}(b:1<=j)(h:ltInt d[j]! d[j-1]! = ab):shiftDown ltInt j d=shiftDown ltInt (j-1) (swp d j (j-1)):=by
 obtain⟨j,rfl⟩:∃a,j=a+1:=⟨j-1,by omega⟩
 simp only[oy]at h⊢;rw[shiftDown,bh (by simp[h])]
theorem Bq{d:Array Int}(h:1<=j->ltInt d[j]! d[j-1]! = ae):shiftDown ltInt j d=d:=by
 cases j with
 |zero=>rfl
 |succ j =>
  have:=h (by omega);simp only[oy]at this;rw[shiftDown,bt (by grind)]
theorem JU{d:Array Int}(a:j<b)(h:ltInt d[j]! d[j-1]! = ab):shiftUp ltInt b j d=shiftUp ltInt b (j+1) (swp d j (j-1)):=by rw[shiftUp.eq_1 ltInt b j d,bt a,bh (by simp[h])]
theorem Br{d:Array Int}(h:j<b->ltInt d[j]! d[j-1]! = ae):shiftUp ltInt b j d=d:=by rw[shiftUp];grind
abbrev NX(n a b i s:Nat):Fr:=[(0,jN n),(1,dI a),(2,dI b),(7,dI i),(8,dI (5-(s:Int)))]
def MI{a s:Nat}{d:Array Int}:partialIns ltInt a b (s+1) i d=(if scanSorted ltInt d b i=b then(d,ab)else if b-a<50 then(d,ae)else
  partialIns ltInt a b s (scanSorted ltInt d b i) (if b-scanSorted ltInt d b i≥2 then shiftUp ltInt b (scanSorted ltInt d b i+1) (if scanSorted ltInt d b i-a≥2 then shiftDown ltInt (scanSorted ltInt d b i-1) (swp d (scanSorted ltInt d b i) (scanSorted ltInt d b i-1))else swp d (scanSorted ltInt d b i) (scanSorted ltInt d b i-1))else(if scanSorted ltInt d b i-a≥2 then shiftDown ltInt (scanSorted ltInt d b i-1) (swp d (scanSorted ltInt d b i) (scanSorted ltInt d b i-1))else swp d (scanSorted ltInt d b i) (scanSorted ltInt d b i-1)))):=rfl
def vY(n:Nat)(d:Array Int)(a b:Nat)(R:d.size=n)(M:a<b)(V:b<=n)(T:n<=4000000):
  Ev X 138 [jN n,dI a,dI b] [bI n d] (dB (partialInsertionSort ltInt d a b).2) [bI n (partialInsertionSort ltInt d a b).1]:=by
 have g:bA X [(139,sW)]:=.cons vW .nil;refine Ev.bQ Tryz.func138 rfl λY=>?_;obtain⟨r,L⟩:∃r,partialIns ltInt a b 5 (a+1) d=r:=⟨_,rfl⟩;have C:partialInsertionSort ltInt d a b=r:=L;rw[C];refine cz g rfl (by simp only[au,bq];omega) ?_
 refine AK.jW (S2:=Unit) 0 rfl rfl (λ_=>r.2=ae) (λ_=>[(0,jN n)]) (λ_=>[bI n r.1]) 1 (λs:Nat×Nat×Array Int=>s.2.2.size=n/\s.1<=5/\a+1<=s.2.1/\s.2.1<=b/\partialIns ltInt a b s.1 s.2.1 s.2.2=r) (λs=>NX n a b s.2.1 s.1) (λs=>[bI n s.2.2]) (λs=>s.1) (5,a+1,d) rfl ?_ rfl ?_ rfl ⟨R,by grind,by grind,by grind,L⟩ ?_ ?_
 .simp
 .simp[cn]
 .rintro y ⟨s,i,d1⟩ ⟨I,z,hi,t,f⟩;simp only at I z hi t f;cases s with
  |zero =>
   rw[partialIns]at f;refine bk g [(14,ae)] rfl ?_ (AK.leaveD rfl rfl ?_)
   .simp
   exact y () (by grind) rfl (by simp) rfl (by simp[cn,<-f])
  |succ s =>
   rw[MI]at f;refine bk g [(14,ab)] rfl (by simp only[au,bc];omega) ?_;refine AK.jW (S2:=Unit) 2 rfl rfl (λ_=>True) (λ_=>NX n a b (scanSorted ltInt d1 b i) (s+1)) (λ_=>[bI n d1]) 1 (λk:Nat=>i<=k/\k<=b/\scanSorted ltInt d1 b k=scanSorted ltInt d1 b i) (λk=>NX n a b k (s+1)) (λ_=>[bI n d1]) (λk=>b-k) i rfl ?_ rfl ?_ rfl ⟨aZ _,t,rfl⟩ ?_ ?_
   .simp
   .simp[cn]
   .rintro out k ⟨N,Q,P⟩;by_cases S:k<b
    .have x:((k:Int)-1).toNat=k-1:=by omega
     cases p:ltInt d1[k]! d1[k-1]! with
     |false =>
      refine bk g [(19,ab),(30,ae)] rfl ?_ (AK.aQ (k+1) rfl ?_ ?_ ?_ ?_)
      .simp only[au,bo,bF,x,p,bq,bc,aF,aE];and_intros<;>omega
      .simp only[au.cat,au,aF,aE];omega
      .simp[cn]
      .grind [vX]
      .omega
     |true =>
      refine bk g [(19,ab),(30,ab)] rfl ?_ (AK.leaveD rfl rfl ?_)
      .simp only[au,bo,bF,x,p,bq,bc,aF,aE];and_intros<;>omega
      have e:scanSorted ltInt d1 b i=k:=by grind[ni]
      exact out () ar rfl (by simp only[au.cat,au,e,aF,aE]) rfl (by simp[cn])
    .refine bk g [(19,ae)] rfl ?_ (AK.leaveD rfl rfl ?_)
     .simp only[au,bq,bY,aF,aE];omega
     have e:scanSorted ltInt d1 b i=k:=by grind[ni]
     exact out () ar rfl (by simp only[au.cat,au,e,aF,aE]) rfl (by simp[cn])
   rintro⟨⟩ -;have c:=JR (d:=d1) (b:=b) (b-i) i (aZ _) t;obtain⟨i2,E⟩:∃i2,i2=scanSorted ltInt d1 b i:=⟨_,rfl⟩;rw[<-E]at c f⊢
   by_cases q:i2=b
   .rw[bt q]at f;rw[<-f];refine bk g [(37,ab)] rfl ?_ (AK.eK (b7.mk [0] rfl ?_ rfl rfl rfl gM))
    .simp[q]
    .simp
   rw[bh q]at f;by_cases A:b-a<50
   .rw[bt A]at f;rw[<-f];refine bk g [(37,ae),(41,ab)] rfl ?_ (AK.eK (b7.mk [0] rfl ?_ rfl rfl rfl gM))
    .simp[bq];omega
    .simp
   rw[bh A]at f;have x:((i2:Int)-1).toNat=i2-1:=by omega
   refine bk g [(37,ae),(41,ae),(1000012,ab)] rfl ?_ ?_
   .simp only[au,bo,bF,x,bq,bY,eF,dn,aF,aE];and_intros<;>omega
   refine AK.norm [bI n (swp d1 i2 (i2-1))] rfl ?_ ?_
   .simp only[au.cat,au,bo,bF,x,aE,aF];exact gG I (by omega) (by omega) (λ_ _=>rfl)
   have B:(swp d1 i2 (i2-1)).size=n:=by grind[size_swp]
   obtain⟨d2,F⟩:∃d2,d2=swp d1 i2 (i2-1):=⟨_,rfl⟩;rw[<-F]at B f⊢;obtain⟨d3,m⟩:∃d3,d3=if i2-a≥2 then shiftDown ltInt (i2-1) d2 else d2:=⟨_,rfl⟩
   rw[<-m]at f;have U:∀(j:Nat) (d:Array Int),(shiftDown ltInt j d).size=d.size:=by
    intro j;induction j with
    |zero=>intro d;rfl
    |succ j W =>
     intro d;rw[shiftDown];grind[size_swp]
   have D:d3.size=n:=by grind
   apply AK.join (NX n a b i2 (s+1)) [bI n d3]
   .intro out;by_cases K:i2-a≥2
    .rw[bt K]at m;refine bk g [(61,ab)] rfl ?_ ?_
     .simp only[au,bq,bc,aF,aE];and_intros<;>omega
     refine AK.jW (S2:=Unit) 4 rfl rfl (λ_=>True) (λ_=>NX n a b i2 (s+1)) (λ_=>[bI n d3]) 1 (λs:Nat×Array Int=>s.2.size=n/\s.1<b/\shiftDown ltInt s.1 s.2=d3) (λs2=>NX n a b i2 (s+1)++[(9,dI s2.1)]) (λs=>[bI n s.2]) (λs=>s.1) (i2-1,d2) rfl ?_ rfl ?_ rfl ⟨B,by grind,m.symm⟩ ?_ ?_
     .simp only[au.cat,au,aF,aE];omega
     .simp[cn]
     .rintro h ⟨j,d4⟩ ⟨o,G,l⟩;simp only at o G l;by_cases v:1<=j
      .have u:((j:Int)-1).toNat=j-1:=by omega
       cases p:ltInt d4[j]! d4[j-1]! with
       |true =>
        refine bk g [(65,ab),(77,ab)] rfl ?_ (AK.aQ (j-1,swp d4 j (j-1)) rfl ?_ ?_ ?_ ?_)
        .simp only[au,bo,bF,u,p,bq,bc,aF,aE];and_intros<;>omega
        .simp only[au.cat,au,aF,aE];omega
        .simp only[au.cat,au,bo,bF,u,aE,aF];exact gG o (by omega) (by omega) (λ_ _=>rfl)
        .grind [JS]
        grind
       |false =>
        refine bk g [(65,ab),(77,ae)] rfl ?_ (AK.leaveD rfl rfl ?_)
        .simp only[au,bo,bF,u,p,bq,bc,aF,aE];and_intros<;>omega
        have e:d3=d4:=by grind[Bq]
        exact h () ar rfl (by simp) rfl (by simp[cn,e])
      .refine bk g [(65,ae)] rfl ?_ (AK.leaveD rfl rfl ?_)
       .simp only[au,bY];omega
       have e:d3=d4:=by grind[Bq]
       exact h () ar rfl (by simp) rfl (by simp[cn,e])
     rintro⟨⟩ -;refine bk g [(1000018,ab)] rfl ar ?_;exact out _ _ rfl (by simp)
    .rw[bh K]at m;rw[<-m];refine bk g [(61,ae),(1000018,ab)] rfl ?_ ?_
     .simp only[au,bq,bY,aF,aE];and_intros<;>omega
     exact out _ _ rfl (by simp)
   by_cases J:b-i2≥2
   .rw[bt J]at f;obtain⟨d5,w⟩:∃d5,shiftUp ltInt b (i2+1) d3=d5:=⟨_,rfl⟩;rw[w]at f;refine bk g [(98,ab)] rfl ?_ ?_
    .simp only[au,bq,bc,aF,aE];and_intros<;>omega
    refine AK.jW (S2:=Unit) 6 rfl rfl (λ_=>d5.size=n) (λ_=>NX n a b i2 (s+1)) (λ_=>[bI n d5]) 1 (λs:Nat×Array Int=>s.2.size=n/\1<=s.1/\s.1<=b/\shiftUp ltInt b s.1 s.2=d5) (λs2=>NX n a b i2 (s+1)++[(10,dI s2.1)]) (λs=>[bI n s.2]) (λs=>b-s.1) (i2+1,d3) rfl ?_ rfl ?_ rfl ⟨D,by grind,by grind,w⟩ ?_ ?_
    .simp only[au.cat,au,aF,aE];omega
    .simp[cn]
    .rintro h ⟨j,d4⟩ ⟨o,v,G,l⟩;simp only at o v G l;by_cases O:j<b
     .have u:((j:Int)-1).toNat=j-1:=by omega
      cases p:ltInt d4[j]! d4[j-1]! with
      |true =>
       refine bk g [(103,ab),(115,ab)] rfl ?_ (AK.aQ (j+1,swp d4 j (j-1)) rfl ?_ ?_ ?_ ?_)
       .simp only[au,bo,bF,u,p,bq,bc,aF,aE];and_intros<;>omega
       .simp only[au.cat,au,aF,aE];omega
       .simp only[au.cat,au,bo,bF,u,aE,aF];exact gG o (by omega) (by omega) (λ_ _=>rfl)
       .grind [size_swp,JU]
       grind
      |false =>
       refine bk g [(103,ab),(115,ae)] rfl ?_ (AK.leaveD rfl rfl ?_)
       .simp only[au,bo,bF,u,p,bq,bc,aF,aE];and_intros<;>omega
       have e:d5=d4:=by grind[Br]
       exact h () (by grind) rfl (by simp) rfl (by simp[cn,e])
     .refine bk g [(103,ae)] rfl ?_ (AK.leaveD rfl rfl ?_)
      .simp only[au,bY];omega
      have e:d5=d4:=by grind[Br]
      exact h () (by grind) rfl (by simp) rfl (by simp[cn,e])
    rintro⟨⟩ z;refine cz g rfl ?_ (AK.aQ (s,i2,d5) rfl ?_ ?_ ?_ ?_)
    .simp only[au,bq];omega
    .simp only[au.cat,au,aF,aE];omega
    .simp[cn]
    .grind
    grind
   .rw[bh J]at f;refine bk g [(98,ae)] rfl ?_ (AK.aQ (s,i2,d3) rfl ?_ ?_ ?_ ?_)
    .simp only[au,bq,bY,aF,aE];and_intros<;>omega
    .simp only[au.cat,au,aF,aE];omega
    .simp[cn]
    .grind
    grind
 rintro⟨⟩ H;refine cz g rfl ar (AK.dA [0] rfl ?_ rfl rfl rfl gM);simp[H]
end
section
open Go.Sort (swp pdq rd Rd Below SWO insertionSort heapSort breakPatterns choosePivot reverseRange partialInsertionSort partition partitionEqual Hint ltInt PermIn SortedIn)
variable {X:Cx ag}
abbrev Ts(n a b c:Nat)(wb wp:Bool):Fr:=[(0,jN n),(1,dI a),(2,dI b),(3,dI c),(8,dB wb),(9,dB wp)]
def xQ{h:Hint}:mx h=2↔h=.decreasing:=by cases h<;>simp[mx]
def sk{h:Hint}:mx h=1↔h=.increasing:=by cases h<;>simp[mx]
structure PqS where
 a:Nat
 b:Nat
 lim:Nat
 wb:Bool
 wp:Bool
 d:Array Int
def MJ(n:Nat)(d:Array Int){a:Nat}(h:d.size=n)(g:b<=n)(f:a<=n)(c:n<=4000000){r:Array Int}(e:r=insertionSort ltInt d a b):Ev X 133 [jN n,dI a,dI b] [bI n d] (.fe []) [bI n r]:=by grind[Qv]
def JV(n:Nat)(d:Array Int){a:Nat}(i:d.size=n)(c:a<=b)(h:1<=b-a)(g:b<=n)(e:n<=4000000){r:Array Int}(f:r=heapSort ltInt d a b):Ev X 134 [jN n,dI a,dI b] [bI n d] (.fe []) [bI n r]:=by grind[MK]
def Qw(n:Nat)(G:n<=4000000):∀(m:Nat)(d:Array Int)(a b lim:Nat),b-a<=m->d.size=n->a<=b->b<=n->lim<=100->Below ltInt a b d ->
  ∀{x y z:Int},x=a->y=b->z=lim->∀{R:Array Int},R=pdq ltInt d a b lim ab ab->Ev X 99 [jN n,dI x,dI y,dI z] [bI n d] (.fe []) [bI n R]:=by
 have i:bA X [(139,sW)]:=.cons vW .nil;have F:SWO ltInt:=Go.Sort.swo_ltInt;have hpi:=Go.Sort.partialInsertionSort_holds (lt:=ltInt);have hpt:=Go.Sort.partition_holds ltInt;have hpe:=Go.Sort.partitionEqual_holds ltInt;have U:=Go.Sort.reverseRange_holds (α:=Int);have M:=Go.Sort.pdq_sorts ltInt;intro m;induction m using Nat.strongRecOn with
 |_ m ih =>
 intro d a b lim hm hd hab hb hl hB x y z hx hy hz R hR;subst hx hy hz;refine Ev.bQ Tryz.func99 rfl λhf=>?_;refine cz i rfl ar ?_;refine AK.bS 1 (λs:PqS=>s.d.size=n/\s.a<=s.b/\s.b<=n/\s.lim<=100/\s.b-s.a<=b-a/\Below ltInt s.a s.b s.d/\pdq ltInt s.d s.a s.b s.lim s.wb s.wp=R) (λs=>Ts n s.a s.b s.lim s.wb s.wp) (λs=>[bI n s.d]) (λs=>s.b-s.a) ⟨a,b,lim,ab,ab,d⟩ rfl ?_ rfl ?_ rfl ⟨hd,hab,hb,hl,aZ _,hB,hR.symm⟩ ?_
 .simp
 .simp[cn]
 clear hf hB hd hR;rintro⟨f,h,p,wb,wp,d1⟩ ⟨O,A,j,RJ,Vx,hB,k⟩;simp only at O A j RJ Vx hB k;by_cases B:h-f<=12
 .rw[Go.Sort.pdq_small B]at k;refine bk i [(23,ab)] rfl ?_ ?_
  .simp only[au,bq,bc];and_intros<;>omega
  refine AK.cQ (MJ n d1 (a:=f) (b:=h) O j (by omega) G k.symm) [0] rfl ?_;refine cz i rfl ar (AK.eK (b7.mk [0] rfl ar rfl rfl rfl gM))
 by_cases S:p=0
 .rw[Go.Sort.pdq_heap B S]at k;refine bk i [(23,ae),(29,ab)] rfl ?_ ?_
  .simp only[au,bq,bY,gg];and_intros<;>omega
  refine AK.cQ (JV n d1 (a:=f) (b:=h) O A (by omega) j G k.symm) [0] rfl ?_;refine cz i rfl ar (AK.eK (b7.mk [0] rfl ar rfl rfl rfl gM))
 have l:f<h:=by omega
 obtain⟨f1,f2,f3,f4,f5,Y,W,f8⟩:=Go.Sort.rd_facts (limit:=p) (wb:=wb) (wp:=wp) F hpi U l (by grind) hB;have fl:=Go.Sort.rd_lim_le (lt:=ltInt) (d:=d1) (a:=f) (b:=h) (limit:=p) (wb:=wb) (wp:=wp);have N:=Go.Sort.rd_dec (lt:=ltInt) (d:=d1) (a:=f) (b:=h) (limit:=p) (wb:=wb) (wp:=wp);have Q:=Go.Sort.rd_not (lt:=ltInt) (d:=d1) (a:=f) (b:=h) (limit:=p) (wb:=wb) (wp:=wp);have H:=Go.Sort.rd_pi_yes (lt:=ltInt) (d:=d1) (a:=f) (b:=h) (limit:=p) (wb:=wb) (wp:=wp);have fno:=Go.Sort.rd_pi_no (lt:=ltInt) (d:=d1) (a:=f) (b:=h) (limit:=p) (wb:=wb) (wp:=wp);have fc:=Go.Sort.rd_c (lt:=ltInt) (d:=d1) (a:=f) (b:=h) (limit:=p) (wb:=wb) (wp:=wp);have fd1:wb=ae->(rd ltInt d1 f h p wb wp).d1=breakPatterns d1 f h/\(rd ltInt d1 f h p wb wp).lim=p-1:=by grind[Go.Sort.rd_false]
 have fd2:wb=ab->(rd ltInt d1 f h p wb wp).d1=d1/\(rd ltInt d1 f h p wb wp).lim=p:=by grind[Go.Sort.rd_true]
 have E:=Go.Sort.pdq_done (lt:=ltInt) (d:=d1) (wb:=wb) (wp:=wp) B S;have geq:=Go.Sort.pdq_eq (lt:=ltInt) (d:=d1) (wb:=wb) (wp:=wp) B S;have C:=Go.Sort.pdq_left (lt:=ltInt) (d:=d1) (wb:=wb) (wp:=wp) B S;have u:=Go.Sort.pdq_right (lt:=ltInt) (d:=d1) (wb:=wb) (wp:=wp) B S;rw[O]at f1 f4 W;rw[k]at E geq C u;generalize rd ltInt d1 f h p wb wp=r at *;apply AK.join (Ts n f h r.lim wb wp++[(10,dI ((h-f:Nat):Int))]) [bI n r.d1]
 .intro out;cases wb with
  |false =>
   obtain⟨I,J⟩:=fd1 rfl;refine bk i [(23,ae),(29,ae)] rfl ?_ ?_
   .simp only[au,bq,bY,eF,dn];and_intros<;>omega
   refine AK.cQ (JW n d1 f h O A j G) [0] rfl ?_;rw[<-I];refine bk i [(1000010,ab)] rfl ?_ ?_
   .simp only[au,bq];and_intros<;>omega
   exact out _ _ rfl (by simp only[au.cat,au,J,aF,aE];and_intros<;>omega)
  |true =>
   obtain⟨I,J⟩:=fd2 rfl;subst I;refine bk i [(23,ae),(29,ae),(1000010,ab)] rfl ?_ ?_
   .simp only[au,bq,bY,eF,dn];and_intros<;>omega
   exact out _ _ rfl (by simp only[au.cat,au,J,aF,aE];and_intros<;>omega)
 refine cz i rfl ar ?_;refine AK.cQ (Ge n r.d1 f h A j (by omega) G) [0] rfl ?_;rw[<-fc];apply AK.join (Ts n f h r.lim wb wp++[(10,dI ((h-f:Nat):Int)),(11,dI r.pivot),(12,dI (mx r.hint))]) [bI n r.d2]
 .intro out;by_cases w:r.c.2=.decreasing
  .obtain⟨I,J,e3⟩:=N w;refine bk i [(50,ab)] rfl ?_ ?_
   .simp only[au,gg,xQ];exact w
   refine AK.cQ (Qx n r.d1 f h f1 (by omega) (by omega) j G) [0] rfl ?_;rw[<-I];refine bk i [(1000015,ab)] rfl ?_ ?_
   .simp only[au,bq];and_intros<;>omega
   exact out _ _ rfl (by simp only[au.cat,au,J,e3,mx,aF,aE];and_intros<;>omega)
  .obtain⟨I,J,e3⟩:=Q w;rw[<-I];refine bk i [(50,ae),(1000015,ab)] rfl ?_ ?_
   .simp only[au,eF,dn,xQ];exact w
   exact out _ _ rfl (by simp only[au.cat,au,J,e3,aF,aE])
 by_cases q:r.pi.2=ab
 ·
  have t:(wb&&wp&&decide (r.hint=.increasing))=ab:=by grind
  have e:=H t;simp only[bP,bc]at t;obtain⟨⟨rfl,rfl⟩,D⟩:=t;refine bk i [(67,ab)] rfl ?_ ?_
  .simp only[au,gg,sk];exact D
  refine AK.cQ (vY n r.d2 f h f4 l j G) [0] rfl ?_;rw[<-e,q,<-E q];refine cz i rfl ar (AK.eK (b7.mk [0] rfl ar rfl rfl rfl gM))
 rw[nL]at q;apply AK.join (Ts n f h r.lim wb wp++[(10,dI ((h-f:Nat):Int)),(11,dI r.pivot)]) [bI n r.pi.1]
 .intro out;cases o:(wb&&wp&&decide (r.hint=.increasing))with
  |true =>
   have e:=H o;simp only[bP,bc]at o;obtain⟨⟨rfl,rfl⟩,D⟩:=o;refine bk i [(67,ab)] rfl ?_ ?_
   .simp only[au,gg,sk];exact D
   refine AK.cQ (vY n r.d2 f h f4 l j G) [0] rfl ?_;rw[<-e,q];refine bk i [(1000017,ab)] rfl ar ?_;exact out _ _ rfl (by simp)
  |false =>
   have e:r.d2=r.pi.1:=by grind
   rw[e];cases wb with
   |false =>
    refine bk i [(1000017,ab)] rfl ar ?_;exact out _ _ rfl (by simp)
   |true =>
    cases wp with
    |false =>
     refine bk i [(1000017,ab)] rfl ar ?_;exact out _ _ rfl (by simp)
    |true =>
     refine bk i [(67,ae),(1000017,ab)] rfl ?_ ?_
     .simp only[au,eF,dn,sk];grind
     exact out _ _ rfl (by simp)
 have ep:((f:Int)-1).toNat=f-1:=by omega
 cases o:(decide (f>0)&&!ltInt r.pi.1[f-1]! r.pi.1[r.pivot]!)with
 |true =>
  have v:=o;simp only[bP,bc,iC]at v;obtain⟨K,V,L,q4,_⟩:=Go.Sort.round_eq (mid:=(partitionEqual ltInt r.pi.1 f h r.pivot).1) (d4:=(partitionEqual ltInt r.pi.1 f h r.pivot).2) F hpe v.1 Y.1 Y.2 (by grind) f8 v.2 rfl;have g:=geq q o ⟨K,V⟩;refine bk i [(74,ab),(85,ae)] rfl ?_ ?_
  .simp only[au,bo,bF,ep,v.2,bq,bc,aF,aE];and_intros<;>omega
  refine AK.cQ (Gf n r.pi.1 f h r.pivot W l j (by omega) G) [0] rfl ?_;refine cz i rfl ar (AK.aQ ⟨(partitionEqual ltInt r.pi.1 f h r.pivot).1,h,r.lim,wb,wp,(partitionEqual ltInt r.pi.1 f h r.pivot).2⟩ rfl ?_ ?_ ?_ ?_)
  .simp
  .simp[cn]
  .grind
  grind
 |false =>
  obtain⟨K,V,L,q4,q5,q6,q7⟩:=Go.Sort.round_part (mid:=(partition ltInt r.pi.1 f h r.pivot).1) (ap:=(partition ltInt r.pi.1 f h r.pivot).2.1) (d4:=(partition ltInt r.pi.1 f h r.pivot).2.2) F hpt Y.1 Y.2 (by grind) f8 rfl;apply AK.join (Ts n f h r.lim wb wp++[(10,dI ((h-f:Nat):Int)),(11,dI r.pivot)]) [bI n r.pi.1]
  .intro out;by_cases ha0:0<f
   .have Z:ltInt r.pi.1[f-1]! r.pi.1[r.pivot]! = ab:=by grind
    refine bk i [(74,ab),(85,ab),(1000020,ab)] rfl ?_ ?_
    .simp only[au,bo,bF,ep,Z,bq,bc,aF,aE];and_intros<;>omega
    exact out _ _ rfl (by simp)
   .refine bk i [(74,ae),(1000020,ab)] rfl ?_ ?_
    .simp only[au,bY];omega
    exact out _ _ rfl (by simp)
  refine cz i rfl ar ?_;refine AK.cQ (ML n r.pi.1 f h r.pivot W l j (by omega) G) [0] rfl ?_;have gl:=C q o ⟨K,V⟩;have gr:=u q o ⟨K,V⟩;generalize partition ltInt r.pi.1 f h r.pivot=P at *;rw[W]at L;by_cases T:P.1-f<h-P.1
  .have g:=gl T;obtain⟨w1,w2⟩:=M F P.2.2 f P.1 r.lim ab ab K (by grind) q4;obtain⟨w3,_⟩:=q6 _ w1 w2;refine bk i [(113,ab)] rfl ?_ ?_
   .simp only[au,bq,bc,aF,aE];and_intros<;>omega
   refine AK.cQ (ih (P.1-f) (by omega) P.2.2 f P.1 r.lim (aZ _) L K (by omega) (by omega) q4 rfl rfl rfl rfl) [0] rfl ?_;refine cz i rfl ?_ (AK.aQ ⟨P.1+1,h,r.lim,decide (P.1-f≥(h-f) / 8),P.2.1,pdq ltInt P.2.2 f P.1 r.lim ab ab⟩ rfl ?_ ?_ ?_ ?_)
   .simp only[au,bq,aF,aE];and_intros<;>omega
   .simp only[au.cat,au,aF,aE];grind
   .simp[cn]
   .exact⟨by simp only;rw[w1.1,L],by grind,j,by grind,by grind,w3,g.symm⟩
   grind
  .have g:=gr T;obtain⟨w1,w2⟩:=M F P.2.2 (P.1+1) h r.lim ab ab (by omega) (by grind) q5;obtain⟨w3,_⟩:=q7 _ w1 w2;refine bk i [(113,ae)] rfl ?_ ?_
   .simp only[au,bq,bY,aF,aE];and_intros<;>omega
   refine AK.cQ (ih (h-(P.1+1)) (by omega) P.2.2 (P.1+1) h r.lim (aZ _) L (by omega) j (by omega) q5 (x:=(P.1:Int)+1) (by omega) rfl rfl rfl) [0] rfl ?_;refine cz i rfl ?_ (AK.aQ ⟨f,P.1,r.lim,decide (h-P.1≥(h-f) / 8),P.2.1,pdq ltInt P.2.2 (P.1+1) h r.lim ab ab⟩ rfl ?_ ?_ ?_ ?_)
   .trivial
   .simp only[au.cat,au,aF,aE];grind
   .simp[cn]
   .exact⟨by simp only;rw[w1.1,L],by grind,by grind,by grind,by grind,w3,g.symm⟩
   grind
end
section
open Go.Proofs Go.Conc Go.Conc.Lib
open Go.ConcN (WgLive PayAt Has RW AtR0)
open Go.ConcR (KK WgAt stA smA rd wr mk Payload DC0)
instance pay:Payload:=⟨166⟩
def lf(g:Int):di:=λargs σ=>match args,σ with
 |[.e (.one (.c (.int .i64 k))),f,.e (.one (.c (.int .i64 n)))],[]=>match jl 2 f with
  |none=>af
  |some (b,d)=>aa (T4 (du k (cP.list b d) n),[],[cP.fits b d,k=g])
 |_,_=>af
noncomputable def ND:Code:=(Tryz.f121.body).getD .skip
noncomputable def Ir:Array aB:=match ND with|.seq (.region _ o _) _=>o|_=>#[]
noncomputable def Is:Array aB:=match ND with|.seq _ (.region _ o _)=>o|_=>#[]
def Iu:Tryz.f121.body=aa (.seq (.region 0 Ir ae) (.region 1 Is ab)):=by kernel_rfl
def oW(d:Option Nat)(op:Op)(ty:ay)(b:Array Edge):aB:={dst:=d,op:=op,type:=ty,pos:= "l12_snap.go:82",after:=b,guard:=af}
def td:List aB:=[oW (aa 6) (.load 154 (.tmp 4)) 154 #[],oW (aa 7) (.load 3 (.tmp 5)) 3 #[],oW (aa 8) (.load 3 (.tmp 1)) 3 #[],oW (aa 9) (.load 23 (.tmp 2)) 23 #[],oW (aa 10) (.load 3 (.tmp 3)) 3 #[],
 oW (aa 11) (.call {callee:=.value (.func 123),args:=#[.tmp 8,.tmp 9,.tmp 10],argTypes:=#[3,23,3]}) 166 #[⟨2,.data⟩,⟨3,.data⟩,⟨4,.data⟩],
 oW (aa 12) (.indexAddr 154 (.tmp 6) (.tmp 7)) 0 #[⟨0,.data⟩,⟨1,.data⟩,⟨0,.phase⟩,⟨1,.phase⟩,⟨2,.phase⟩,⟨3,.phase⟩,⟨4,.phase⟩,⟨5,.phase⟩],
 oW af (.store 166 (.tmp 12) (.tmp 11)) 0 #[⟨6,.data⟩,⟨5,.data⟩,⟨5,.chain⟩,⟨0,.phase⟩,⟨1,.phase⟩,⟨2,.phase⟩,⟨3,.phase⟩,⟨4,.phase⟩,⟨5,.phase⟩]]
def LO:Is=td.toArray:=by kernel_rfl
def mY(h:td[i]?=aa o):i<8:=(b8.1 h).1
section
variable (k:Int)(ps:List bw)(a:Int)(n x C:Nat)
def Sm(b:aj):Fr:=[(0,.e (.one (.v b))),(1,.e (.one (.c (.rp [.int .i64 k])))),(2,.e (.one (.c (.rp [.sl ae 2 ps.length (cP.fn ps)])))),(3,.e (.one (.c (.rp [.int .i64 a])))),(4,.e (.one (.c (.rp [.val (.slice (aa ⟨C,0,af⟩) n n)])))),(5,.e (.one (.c (.rp [.int .i64 x]))))]
def xW:Nat->D
 |0=>.e (.one (.v (.slice (aa ⟨C,0,af⟩) n n)))
 |1=>dI x
 |2=>dI k
 |3=>cP.sl ps
 |4=>dI a
 |5=>T4 (du k ps a)
 |6=>.e (.one (.v (.pointer (aa ⟨C,x*2,af⟩))))
 |_=>.any
def CH:Nat->Option Nat
 |6=>aa 0|7=>aa 1|8=>aa 2|9=>aa 3|10=>aa 4|11=>aa 5|12=>aa 6|_=>af
def Xk(b:aj):Nat->Fr
 |5=>[(8,dI k),(9,cP.sl ps),(10,dI a)]
 |6=>[(6,.e (.one (.v (.slice (aa ⟨C,0,af⟩) n n)))),(7,dI x)]
 |_=>Sm k ps a n x C b
end
def LP{X:Cx ag}{n x C:Nat}(g:x<n):OA X 13 td (oW (aa 12) (.indexAddr 154 (.tmp 6) (.tmp 7)) 0 #[⟨0,.data⟩,⟨1,.data⟩,⟨0,.phase⟩,⟨1,.phase⟩,⟨2,.phase⟩,⟨3,.phase⟩,⟨4,.phase⟩,⟨5,.phase⟩]) [(6,.e (.one (.v (.slice (aa ⟨C,0,af⟩) n n)))),(7,dI x)] [] (.e (.one (.v (.pointer (aa ⟨C,x*2,af⟩))))) []:=by
 refine .l0 (λ_ _ _ _=>dC rfl) (bx.quiet λs j m f=>?_);have b:=f (.tmp 6);have d:=f (.tmp 7);have l:bH [(6,D.e (.one (.v (.slice (aa ⟨C,0,af⟩) n n)))),(7,dI x)] (.tmp 6)=.e (.one (.v (.slice (aa ⟨C,0,af⟩) n n))):=rfl;have i:bH [(6,D.e (.one (.v (.slice (aa ⟨C,0,af⟩) n n)))),(7,dI x)] (.tmp 7)=dI x:=rfl;rw[l]at b;rw[i]at d;have b:=Rd.eW b;have d:=fp d;generalize c:j (.tmp 7)=vy at d;cases d;have h:=(tok 154 i154 rfl).run_underlying (w:=s.w);refine⟨.pointer (aa ⟨C,x*2,af⟩),?_,Rd.val rfl,?_⟩
 .simp[aq,oW,b,c,Instr.indexAt,asIntOf,h,i154,(tok 166 i166 rfl).run_sizeOf,i166,dh,g]
 .simp[aq,oW,b,c,Instr.indexAt,asIntOf,h,i154,dh,g]
def Sn{X:Cx ag}{k:Int}(p:dw X 123 (lf k))(ps:List bw)(a:Int)(n x C:Nat)(r:x<n)(l:aj):
  HX X 13 td.toArray (Sm k ps a n x C l) [] (xW k ps a n x C) (Xk k ps a n x C l) CH 7:=by
 have u:bA X [(123,lf k)]:=bA.cons p bA.nil;have f:∀(i:Nat) (o:aB) (φ:Fr) (d:D) (obs:List Prop),td[i]?=aa o->wv tt [(123,lf k)] [] td φ [] o=aa (d,af,obs)->au obs->OA X 13 td o φ [] d [] :=
  λi o φ d obs _ h b=>gD tok u h b
 refine⟨?_,?_,?_,?_,?_,?_,by decide⟩
 .intro i o b e m _;simp only[gO]at b;have hi:=mY b
  match i,hi with
  |0,_|1,_|2,_|3,_|4,_|5,_|6,_|7,_ =>
   cases b;simp[oW]at m;try (rcases m with rfl|rfl|rfl|rfl|rfl|rfl|rfl|rfl|rfl<;>decide)
   try (rcases m with rfl|rfl|rfl<;>decide)
 .intro i o d b w;simp only[gO]at b;have hi:=mY b
  match i,hi with
  |0,_|1,_|2,_|3,_|4,_|5,_|6,_|7,_ =>
   cases b;cases w;try exact⟨rfl,by decide⟩
 .intro d i h;unfold CH at h;split at h<;>cases h<;>exact⟨_,rfl,rfl⟩
 .intro i o b g;simp only[gO]at b;have hi:=mY b
  match i,hi with
  |0,_=>cases b;exact f 0 _ _ _ _ rfl rfl ar
  |1,_=>cases b;exact f 1 _ _ _ _ rfl rfl ar
  |2,_=>cases b;exact f 2 _ _ _ _ rfl rfl ar
  |3,_=>cases b;exact f 3 _ _ _ _ rfl rfl ar
  |4,_=>cases b;exact f 4 _ _ _ _ rfl rfl ar
  |5,_ =>
   cases b;have:=f 5 _ (Xk k ps a n x C l 5) _ _ rfl rfl (by simp[cP.aR]);rw[cP.list_fn]at this;exact this
  |6,_=>cases b;exact LP r
  |7,_=>grind
 .intro i o b g t σ s v c;simp only[gO]at b;have hi:=mY b
  match i,hi with
  |0,_|1,_|2,_|3,_|4,_ =>
   match t with
   |0|1|2|3|4|5=>exact c
   |t+6=>trivial
  |5,_ =>
   cases b
   match t with
   |8=>exact(show dc σ s v (xW k ps a n x C 2)from by simpa[CH,oW,cZ,Region.binds]using c)
   |9=>exact(show dc σ s v (xW k ps a n x C 3)from by simpa[CH,oW,cZ,Region.binds]using c)
   |10=>exact(show dc σ s v (xW k ps a n x C 4)from by simpa[CH,oW,cZ,Region.binds]using c)
   |0|1|2|3|4|5|6|7=>trivial
   |t+11=>trivial
  |6,_ =>
   cases b
   match t with
   |6=>exact(show dc σ s v (xW k ps a n x C 0)from by simpa[CH,oW,cZ,Region.binds]using c)
   |7=>exact(show dc σ s v (xW k ps a n x C 1)from by simpa[CH,oW,cZ,Region.binds]using c)
   |0|1|2|3|4|5=>trivial
   |t+8=>trivial
  |7,_=>grind
 .intro o b j q g;simp only[gO]at b;cases b
  match j,q with
  |0,_=>exact⟨⟨0,.phase⟩,by simp[oW],rfl,rfl⟩
  |1,_=>exact⟨⟨1,.phase⟩,by simp[oW],rfl,rfl⟩
  |2,_=>exact⟨⟨2,.phase⟩,by simp[oW],rfl,rfl⟩
  |3,_=>exact⟨⟨3,.phase⟩,by simp[oW],rfl,rfl⟩
  |4,_=>exact⟨⟨4,.phase⟩,by simp[oW],rfl,rfl⟩
  |5,_=>exact⟨⟨5,.phase⟩,by simp[oW],rfl,rfl⟩
  |6,_=>exact⟨⟨6,.data⟩,by simp[oW],rfl,rfl⟩
  |7,_=>grind
noncomputable def te:Frame:={(default:Frame)with fn:=Tryz.prog.funcs.size,defers:=[],mode:=.panicking [goexitEntry]}
def vk(vs:Array aj):Deferred:={target:=.fn (.func 121) vs,args:=#[]}
def Fx(v0 v1 v2 v3 v4 v5:aj)(w:aA):aG ag ae (born ag (vk #[v0,v1,v2,v3,v4,v5])) w =
  .go (G ((baseD 121).at ⟨#[v0,v1,v2,v3,v4,v5,ah,ah,ah,ah,ah,ah,ah],[]⟩ [.code (.seq (.region 0 Ir ae) (.region 1 Is ab))]) [te]) w #[]:=by
 have c:=Iu;have d:Tryz.f121.ntmps=13:=by kernel_rfl
 have b:¬Tryz.f121.name= "runtime.NumGoroutine":=by
  have:(Tryz.f121.name== "runtime.NumGoroutine")=ae:=by kernel_rfl
  grind
 simp[born,vk,aG,unwind,callDeferred,invoke,callFunc,Tryz.func121,c,d,b,seen,GStep.after,G,Frame.enter,Frame.at,baseD,te]
end
section
variable {X:Cx ag}
abbrev pk(ps:List bw)(i:Nat):bw:=ps.getD i (0,[])
def Ik{k n:Int}{ps:List bw}{r:Bs}(hi:i<ps.length)(h:dM k (pk ps i) n=aa r)(a:∀j,j<i->dM k (pk ps j) n=af):du k ps n=aa r:=by
 unfold du;induction ps generalizing i with
 |nil=>grind
 |cons p ps ih =>
  cases i with
  |zero=>grind
  |succ i =>
   have b:=a 0 (by omega);grind
def Cy{k n:Int}{ps:List bw}(a:∀j,j<ps.length->dM k (pk ps j) n=af):du k ps n=af:=by unfold du;grind[List.getElem_of_mem]
theorem zW.TK{P:aK}{φ:Fr}{σ:List ba}{T:List (Nat×TI)}(g:c6 P T){fn:Func}{c:Nat}{res:D}{σ':List ba}(ks:List Nat){ps:List Prop}(h:KP T fn.results.toList ks φ res=aa ps)(k:au ps)(f:jB ks σ=aa σ')(b:kh σ'=ab)(e:dF ks=ab)(i:∀j,j<c->ks[j]?=aa j):
  zW P fn c res σ' .ret φ σ:=by
 refine⟨.inl rfl,ks,?_⟩;unfold KP at h;split at h
 .rename_i ds Vk;split at h
  .rename_i d l;split at h
   .rename_i a;exact⟨d,ps,zV.TK g Vk l,h,k,a,f,b,e,i⟩
   grind
  grind
 grind
def wE{a:List Nat}:∀j,j<0->a[j]?=aa j:=λ_ h=>absurd h (gA _)
def Il(d:dw X 196 od)(k:Int)(ps:List bw)(n:Int)(f:cw k=ab):Ev X 123 [dI k,cP.sl ps,dI n] [] (T4 (du k ps n)) []:=by
 refine Ev.nW Tryz.func123 rfl rfl rfl λm=>?_;have g:=m.sl 1 rfl;have b:bA X [(173,Ct aI (BF eb) aI (λk p n=>y0 (dM k p n)) λk _ _=>[cw k=ab])]:=.cons (Pf d) .nil;refine bR b rfl ar ?_;refine AK.bS 1 (λi=>i<=ps.length/\∀j,j<i->dM k (pk ps j) n=af) (λi:Nat=>[(0,dI k),(2,dI n),(6,.e (.one (.ptr 0 0))),(11,cP.sl ps),(12,dI ps.length),(13,dI i)]) (λ_=>[.cells 166 [.c (.str []),.c (.bool ae)]]) (λi=>ps.length-i) 0 rfl ?_ rfl ?_ rfl ⟨by omega,by omega⟩ ?_
 .simp
 .simp
 rintro i ⟨hi,a⟩;by_cases h:i<ps.length
 .cases l:dM k (pk ps i) n with
  |some r =>
   refine aM b [(14,ab),(24,ab)] rfl ?_ (AK.freeze 6 0 rfl rfl rfl (AK.eK ?_))
   .simp only[au,bF,eb.list_fn];refine⟨?_,eb.aR _,f,by omega,by omega,cV (by omega)⟩;grind
   .refine zW.TK tok [] rfl ?_ rfl rfl rfl wE;rw[Ik h l a];simp only[bF,eb.list_fn];have e:dM k ((ps.getD i cP.bG).1,(ps.getD i cP.bG).2) n=aa r:=l;rw[e];simp
  |none =>
   refine aM b [(14,ab),(24,ae)] rfl ?_ (AK.aQ (i+1) rfl ?_ ?_ ?_ ?_)
   .simp only[au,bF,eb.list_fn];refine⟨by simp only[bq];omega,?_,eb.aR _,f,by omega,by omega,cV (by omega)⟩;grind
   .simp
   .simp
   .grind
   grind
 .refine aM b [(14,ae)] rfl (by simp;omega) (AK.leaveD rfl rfl ?_);refine bR b rfl ar ?_;refine AK.freeze 6 0 rfl rfl rfl ?_;refine AK.BU tok [] rfl ?_ rfl rfl rfl wE;rw[Cy λj o=>a j (by omega)];simp
def Pg(a:dw X 196 od){k:Int}(d:cw k=ab):dw X 123 (lf k):=by
 intro args σ res σ' obs h b;unfold lf at h;split at h
 .rename_i k1 da n;split at h
  .cases h
  .rename_i g f e;cases h;obtain⟨c,rfl⟩:=b;exact(Il a _ _ n d).args λs vs=>cd.imp (λ_ r=>r) (cd.imp (λ_ r=>cP.iF e c r) (cd.imp (λ_ r=>r) (λ_ r=>r))) vs
 grind
def Fh:di:=λargs σ=>match args,σ with
 |[.e (.one (.c (.str [46]))),.e (.one (.c (.int .i64 c)))],[]=>aa (dS (List.replicate c.toNat 46),[],[0<=c/\c<=3])
 |_,_=>af
def t219:dw X 219 (ki aI (λn=>dI (cy n.toNat)) λn=>[0<=n/\n<=4000000]):=.oe λn h=>by
 have a:0<=n/\n<=4000000:=h;obtain⟨m,rfl⟩:∃m:Nat,n=m:=⟨n.toNat,by omega⟩
 exact AD (X:=X) m (by omega)
def Im(b:1<=n)(a:n<=8):n<=cy n/\cy n<=n+3:=by unfold cy;grind
def Io(a:dw X 218 Fh)(p:Bs):Ev X 196 [dS p] [] (dS (fY p)) []:=by
 refine Ev.bQ Tryz.func196 rfl λf=>?_;have d:bA X [(195,ki aS (λs=>dB (bC s)) λ_=>[]),(219,ki aI (λn=>dI (cy n.toNat)) λn=>[0<=n/\n<=4000000]),(218,Fh)]:=.cons t195 (.cons t219 (.cons a .nil));by_cases b:bC p=ab
 .have c:=b;simp only[bC,bP,bc]at c;have e:=Im c.1.1 c.1.2;refine aM d [(5,ae)] rfl ?_ (AK.bg rfl ?_)
  .simp[b,bq];omega
  .simp[fY,b]
 .refine aM d [(5,ab)] rfl ?_ (AK.bg rfl ?_)
  .simp[b]
  .simp[fY,b]
def Sd(a:dw X 218 Fh):dw X 196 od:=.oe λp _=>Io a p
def LH:Ev X 218 [dS [46],dI 0] [] (dS []) []:=by
 refine Ev.bQ Tryz.func218 rfl λa=>?_;refine aV [(12,ab)] rfl ?_ (AK.bg rfl)
 .simp
def LI:Ev X 218 [dS [46],dI 1] [] (dS [46]) []:=by
 refine Ev.bQ Tryz.func218 rfl λa=>?_;refine aV [(12,ae),(14,ab)] rfl ?_ (AK.bg rfl)
 .simp
def Sb(a:Ev X 218 [dS [46],dI 2] [] (dS [46,46]) [])(d:Ev X 218 [dS [46],dI 3] [] (dS [46,46,46]) []):dw X 218 Fh:=by
 intro args σ res σ' obs h b;unfold Fh at h;split at h
 .rename_i c;cases h;have:c=0∨c=1∨c=2∨c=3:=by have:0<=c/\c<=3:=b;omega
  rcases this with rfl|rfl|rfl|rfl
  .exact LH
  .exact LI
  .exact a
  grind
 grind
def Pa(a b:List Bs):Ev X 127 [cS.sl a,cS.sl b] [] (dB (a==b)) []:=by
 refine Ev.bQ Tryz.func127 rfl λk=>?_;have f:=k.sl 0 rfl;by_cases d:a.length=b.length
 .refine aV [(10,ae)] rfl (by simp[d]) ?_;refine AK.iM (λi=>i<=a.length/\∀j,j<i->a.getD j []=b.getD j []) (λi:Nat=>[(0,cS.sl a),(1,cS.sl b),(12,dI a.length),(13,dI i)]) (λ_=>[]) (λi=>a.length-i) 0 rfl ?_ rfl ar ⟨by omega,by omega⟩ ?_
  .simp
  rintro i ⟨hi,c⟩;by_cases h:i<a.length
  .by_cases g:a.getD i []=b.getD i []
   .refine aV [(14,ab),(24,ae)] rfl ?_ (AK.fa (i+1) rfl ?_ rfl ar ?_ ?_)
    .simp only[au,bF];have e:(a.getD i cS.bG==b.getD i cS.bG)=ab:=gg.2 g;exact⟨by simp only[bq];omega,by grind,by omega,by omega,by omega,by omega,cV (by omega)⟩
    .simp
    .grind
    .omega
   .refine aV [(14,ab),(24,ab)] rfl ?_ (AK.gu (b7.zero rfl ?_))
    .simp only[au,bF];grind
    .have:(a==b)=ae:=eF.2 (by grind);simp[this]
  .refine aV [(14,ae)] rfl (by simp;omega) (AK.leave rfl rfl ?_);refine br rfl ar (AK.bg rfl ?_);have:a=b:=tu d λj g l=>by grind
   simp[this]
 .refine aV [(10,ab)] rfl ?_ (AK.bg rfl ?_)
  .simp;omega
  .have:(a==b)=ae:=eF.2 (by grind);simp[this]
end
def CC(h:o.op=.binOp op t x y ty){e:ay}(C:P.underlying t=aa (.pointer e)){b c:Bool}(r:∀s u v,aD σ s->dc σ s u (η x)->dc σ s v (η y)->∃p q,u=.pointer p/\v=.pointer q/\(p==q)=b/\(eqGuard op t x y u v).run P s.w=.ok () s.w/\(∀es,(eqGuard op t x y u v).events P s.w es=es) /\
   (Op.equal t u v).run P s.w=.ok b s.w/\∀es,(Op.equal t u v).events P s.w es=es)(m:kY op b=aa c):bx P o η σ (.e (.one (.c (.bool c)))) σ:=by
 refine .quiet λs A z n=>?_;obtain⟨p,q,f,g,B,j,l,i,k⟩:=r s _ _ z (n x) (n y);rw[f,g]at j i;have d:=l #[];have a:=k #[];rw[f,g]at d a;cases op<;>simp only[kY,reduceCtorEq,dk]at m
 .subst m;exact⟨.bool b,by simp[aq,h,f,g,j,binOp,i],Rd.bool,by simp[aq,h,f,g,j,d,binOp,i,a]⟩
 .subst m;exact⟨.bool (!b),by simp[aq,h,f,g,j,binOp,i],Rd.bool,by simp[aq,h,f,g,j,d,binOp,i,a]⟩
def O5(h:o.op=.binOp op t x (.const (.pointer af)) ty){e:ay}(g:P.underlying t=aa (.pointer e)){c:Bool}(l:η x=.e (.one (.c .nQ)))(j:η (.const (.pointer af))=.e (.one (.c .nQ)))(k:kY op ab=aa c):bx P o η σ (.e (.one (.c (.bool c)))) σ:=by
 refine CC h g (b:=ab) ?_ k;intro s u v _ d a;rw[l]at d;rw[j]at a;replace d:=fp d;replace a:=fp a;cases d;cases a;have i:(Op.equal t (.pointer af) (.pointer af)).run P s.w=.ok ab s.w:=by show(Op.equalIn (9999+1) t _ _).run P s.w=_;unfold Op.equalIn;simp[underlying,g]
 have f:∀es,(Op.equal t (.pointer af) (.pointer af)).events P s.w es=es:=λes=>by show(Op.equalIn (9999+1) t _ _).events P s.w es=es;unfold Op.equalIn;simp[underlying,g]
 exact⟨af,af,rfl,rfl,rfl,by cases op<;>simp[eqGuard],λes=>by cases op<;>simp[eqGuard],i,f⟩
def O6(h:o.op=.binOp op t x (.const (.pointer af)) ty){e:ay}(f:P.underlying t=aa (.pointer e)){c:Bool}(m:η x=.e (.one (.ptr l off)))(j:η (.const (.pointer af))=.e (.one (.c .nQ)))(k:kY op ae=aa c):bx P o η σ (.e (.one (.c (.bool c)))) σ:=by
 refine CC h f (b:=ae) ?_ k;intro s u v _ g a;rw[m]at g;rw[j]at a;replace a:=fp a;cases a;obtain⟨_,L,b,_,_,rfl⟩:=(g:fU σ s u (.ptr l off));have i:(Op.equal t (.pointer (aa ⟨b,off,af⟩)) (.pointer af)).run P s.w=.ok ae s.w:=by show(Op.equalIn (9999+1) t _ _).run P s.w=_;unfold Op.equalIn;simp[underlying,f]
 have d:∀es,(Op.equal t (.pointer (aa ⟨b,off,af⟩)) (.pointer af)).events P s.w es=es:=λes=>by show(Op.equalIn (9999+1) t _ _).events P s.w es=es;unfold Op.equalIn;simp[underlying,f]
 exact⟨_,af,rfl,rfl,rfl,by cases op<;>simp[eqGuard],λes=>by cases op<;>simp[eqGuard],i,d⟩
def Lx(h:o.op=.binOp op t x y ty){e:ay}(j:P.underlying t=aa (.pointer e))(k:n≠0)(p:∀w,(sizeOf e).run P w=.ok n w)(f:∀w es,(sizeOf e).events P w es=es){c:Bool}(C:η x=.e (.one (.ptr l off)))(z:η y=.e (.one (.ptr l off)))(A:kY op ab=aa c):bx P o η σ (.e (.one (.c (.bool c)))) σ:=by
 refine CC h j (b:=ab) ?_ A;intro s u v _ q m;rw[C]at q;rw[z]at m;obtain⟨_,L,b,B,i,rfl⟩:=(q:fU σ s u (.ptr l off));obtain⟨_,D,E,d,a,rfl⟩:=(m:fU σ s v (.ptr l off));rw[B]at d;cases d;rw[i]at a;cases a;have r:(Op.equal t (.pointer (aa ⟨b,off,af⟩)) (.pointer (aa ⟨b,off,af⟩))).run P s.w=.ok ab s.w:=by show(Op.equalIn (9999+1) t _ _).run P s.w=_;unfold Op.equalIn;simp[underlying,j,p,k,sameAddr]
 have g:∀es,(Op.equal t (.pointer (aa ⟨b,off,af⟩)) (.pointer (aa ⟨b,off,af⟩))).events P s.w es=es:=λes=>by show(Op.equalIn (9999+1) t _ _).events P s.w es=es;unfold Op.equalIn;simp[underlying,j,p,f,k,sameAddr]
 exact⟨_,_,rfl,rfl,by simp,by cases op<;>simp[eqGuard],λes=>by cases op<;>simp[eqGuard],r,g⟩
section
variable {X:Cx ag}
abbrev bB(a:Bool)(v1:aj)(bf:Option (Nat×Nat))(xs:Bs)(b:Nat):ba:=.cp (BB 215 5 a v1 bf xs b)
def Ay(v1:aj)(b:cO v1=ab)(bf:Option (Nat×Nat))(xs:Bs)(a:Nat):Ev X 208 [.e (.one (.ptr 0 0))] [bB ae v1 bf xs a] (.fe []) [bB ab v1 bf xs a]:=by
 refine Ev.bQ Tryz.func208 rfl λd=>?_;refine br rfl ar ?_;refine AK.law (bx.N6 tok rfl rfl rfl rfl rfl) rfl rfl ?_;refine AK.law (O5 rfl Tryz.underlying213 rfl rfl rfl) rfl rfl ?_;refine br rfl ar ?_;refine AK.law (bx.Ye rfl rfl Tryz.underlying213 Tryz.underlying199 (ff Tryz.type215) (by simp[Tryz.t215]) rfl) rfl rfl ?_;refine AK.law (bx.Q9 Tryz.func221 (by kernel_rfl) (by kernel_rfl) (by kernel_rfl) (by kernel_rfl) rfl rfl rfl) rfl rfl ?_;refine AK.law (bx.Q8 rfl rfl Tryz.underlying199 Tryz.underlying213 (ff Tryz.type215) (by simp[Tryz.t215]) (by kernel_rfl) rfl) rfl rfl ?_
 refine br rfl ar ?_;refine AK.law (bx.KE tok rfl rfl rfl rfl rfl rfl b) rfl rfl ?_;refine br rfl ar ?_;exact b7.rQ [0] rfl ar rfl rfl rfl (λj c=>by grind)
def Az(v1:aj)(bf:Option (Nat×Nat))(xs:Bs)(a:Nat):Ev X 208 [.e (.one (.ptr 0 0))] [bB ab v1 bf xs a] (.fe []) [bB ab v1 bf xs a]:=by
 refine Ev.bQ Tryz.func208 rfl λc=>?_;refine br rfl ar ?_;refine AK.law (bx.GI tok rfl rfl rfl rfl rfl) rfl rfl ?_;refine AK.law (O6 rfl Tryz.underlying213 rfl rfl rfl) rfl rfl ?_;refine br rfl ar ?_;refine AK.law (bx.GI tok rfl rfl rfl rfl rfl) rfl rfl ?_;refine br rfl ar ?_;refine AK.law (Lx rfl Tryz.underlying213 (n:=2) (by decide) (λw=>by simp[sizeOf,typeInfo,ff Tryz.type215,Tryz.t215]) (λw es=>by simp[sizeOf,typeInfo,ff Tryz.type215]) rfl rfl rfl) rfl rfl ?_
 refine br rfl ar ?_;exact b7.rQ [0] rfl ar rfl rfl rfl (λj b=>by grind)
abbrev bb(a:Bool)(bf:Option (Nat×Nat))(xs:Bs)(b:Nat):ba:=bB a (nO bf xs.length) bf xs b
def mW:∀j,j<1->([0]:List Nat)[j]?=aa j:=λj a=>by grind
def yY(a:Bool)(bf:Option (Nat×Nat))(xs:Bs)(b:Nat)(d:xs.length<=9223372036854775807)(c:bf=af->xs=[]):Ev X 229 [.e (.one (.ptr 0 0))] [bb a bf xs b] (dI xs.length) [bb a bf xs b]:=by
 refine Ev.bQ Tryz.func229 rfl λf=>?_;refine br rfl ar ?_;refine AK.law (bx.eP tok rfl rfl rfl rfl rfl) rfl rfl ?_;cases bf with
 |none =>
  have:=c rfl;subst this;refine AK.law (bx.sZ rfl rfl Tryz.underlying22 rfl (by simp)) rfl rfl ?_;refine br rfl ar (AK.dA [0] rfl ?_ rfl rfl rfl mW);simp
 |some p =>
  refine AK.law (bx.sZ rfl rfl Tryz.underlying22 rfl d) rfl rfl ?_;refine br rfl ar (AK.dA [0] rfl ?_ rfl rfl rfl mW);simp
def Co(g cap:Nat)(xs s:Bs)(b:Nat)(f:s.length<=9223372036854775807)(a:xs.length+s.length<=cap):Ev X 180 [.e (.one (.ptr 0 0)),dS s] [bb ab (aa (g,cap)) xs b] (.fe [.one (.c (.int .i64 s.length)),.one (.c .nS)]) [bb ab (aa (g,cap)) (xs++s) b]:=by
 refine Ev.bQ Tryz.func180 rfl λd=>?_;refine br rfl ar ?_;refine AK.cQ (Az (nO (aa (g,cap)) xs.length) (aa (g,cap)) xs b) [0] rfl ?_;refine br rfl ar ?_;refine AK.law (bx.eP tok rfl rfl rfl rfl rfl) rfl rfl ?_;refine br rfl ar ?_;refine AK.law (bx.KF (l:=0) (g:=g) (cap:=cap) (xs:=xs) rfl Tryz.underlying22 Tryz.underlying9 (ff Tryz.type5) (by simp[Tryz.t5]) rfl rfl rfl rfl a) rfl rfl ?_;refine br rfl ar ?_;refine AK.law (bx.yf tok rfl rfl rfl rfl rfl rfl rfl) rfl rfl ?_;have e:bb ab (aa (g,cap)) (xs++s) b=.cp (BB 215 5 ab (nO (aa (g,cap)) (xs.length+s.length)) (aa (g,cap)) (xs++s) b):=by grind
 rw[e];refine br rfl ar (AK.dA [0] rfl ?_ rfl rfl rfl mW);simp
theorem O7:Ev X 180 [.e (.one (.ptr 0 0)),dS []] [bb ab af [] 0] (.fe [.one (.c (.int .i64 0)),.one (.c .nS)]) [bb ab af [] 0]:=by refine Ev.bQ Tryz.func180 rfl λa=>?_;refine br rfl ar ?_;refine AK.cQ (Az (nO af 0) af [] 0) [0] rfl ?_;refine br rfl ar ?_;refine AK.law (bx.eP tok rfl rfl rfl rfl rfl) rfl rfl ?_;refine br rfl ar ?_;refine AK.law (bx.GL rfl Tryz.underlying22 Tryz.underlying9 (ff Tryz.type5) rfl rfl) rfl rfl ?_;refine br rfl ar ?_;refine AK.law (bx.yf tok rfl rfl rfl rfl rfl rfl rfl) rfl rfl ?_;refine br rfl ar (AK.dA [0] rfl ?_ rfl rfl rfl mW);simp
abbrev dp:D:=.e (.one (.ptr 0 0))
abbrev Kr:D:=.e (.one (.ptr 0 1))
def Cp(g cap:Nat)(xs:Bs)(c:Nat)(a:xs.length<=9223372036854775807)(b:cap≠0):Ev X 181 [.e (.one (.ptr 0 0))] [bb ab (aa (g,cap)) xs c] (dS xs) [bb ab (aa (g,cap)) xs xs.length]:=by
 refine Ev.bQ Tryz.func181 rfl λd=>?_;refine aV [(1000001,ab)] rfl ar ?_;refine AK.Kq de 10 (λi=>bn i 9) (λi=>[dp,dp,Kr,.e (.one (.v (.slice (aa ⟨g,0,af⟩) xs.length cap))),.e (.one (.v (.pointer (aa ⟨g,0,af⟩)))),dp,dp,Kr,.e (.one (.v (.slice (aa ⟨g,0,af⟩) xs.length cap))),dI xs.length].getD i .any) (λ(_:Unit) _=>dS xs)
  (λ_=>[bb ab (aa (g,cap)) xs xs.length]) rfl rfl rfl rfl rfl rfl ?_ ?_ ?_ ?_
 .refine⟨.dg tok bA.nil rfl,.dg tok bA.nil rfl,.dg tok bA.nil rfl,?_,?_,.dg tok bA.nil rfl,.dg tok bA.nil rfl,.dg tok bA.nil rfl,?_,?_,ar,ar,ar⟩
  .exact .law (bx.eP (l:=0) tok rfl rfl rfl rfl rfl) rfl
  .exact .law (bx.Q5 rfl rfl b) rfl
  .exact .law (bx.eP (l:=0) tok rfl rfl rfl rfl rfl) rfl
  .exact .law (bx.sZ rfl rfl Tryz.underlying22 rfl a) rfl
 .intro _;refine⟨.dg tok bA.nil rfl,.dg tok bA.nil rfl,.dg tok bA.nil rfl,?_,?_,.dg tok bA.nil rfl,.dg tok bA.nil rfl,.dg tok bA.nil rfl,?_,?_,ar,.dg tok bA.nil rfl,ar⟩
  .exact .law (bx.eP (l:=0) tok rfl rfl rfl rfl rfl) rfl
  .exact .law (bx.Q5 rfl rfl b) rfl
  .exact .law (bx.eP (l:=0) tok rfl rfl rfl rfl rfl) rfl
  .exact .law (bx.sZ rfl rfl Tryz.underlying22 rfl a) rfl
 .exact .yN (.law (Q3 (l:=0) rfl Tryz.underlying245 (by kernel_rfl) rfl rfl rfl) rfl)
 .intro _;refine br rfl ar (AK.dA [0] rfl ?_ rfl rfl rfl mW);simp
def Sa(h:o.op=.binOp .add t x y ty){b:Int}(e:η x=dI 0)(d:η y=dI b)(a:bq .i64 b):bx ag o η σ (dI b) σ:=by have:=bx.binOp (P:=ag) (σ:=σ) h e d (c:=.int .i64 (0+b)) (obs:=[bq .i64 (0+b)]) rfl (by rw[Int.zero_add];exact a);grind
def dK.Nw{f:aP}{fn:Func}{args:List D}{σ':ι->List ba}(d:Tryz.prog.funcs[f]?=aa fn)(a:(fn.name== "runtime.NumGoroutine")=ae)(hb:fn.body=aa c)(b:bn args.length fn.ntmps=ab)(h:AK X fn.ntmps (λe φ σ1=>∃j,b7 fn σ.length (res j) (σ' j) e φ σ1) [.code c] .normal (iL 0 args) σ):dK X f args σ res σ' :=
 dK.intro d a hb (dy b) (AK.of_code h)
def Ly:Ev X 181 [.e (.one (.ptr 0 0))] [bb ab af [] 0] (dS []) [bb ab af [] 0]:=by
 refine Ev.bQ Tryz.func181 rfl λa=>?_;refine aV [(1000001,ab)] rfl ar ?_;refine AK.Kq de 10 (λi=>bn i 9) (λi=>[dp,dp,Kr,.e (.one (.v (.slice af 0 0))),.e (.one (.v (.pointer af))),dp,dp,Kr,.e (.one (.v (.slice af 0 0))),dI (0:Nat)].getD i .any) (λ(_:Unit) _=>dS [])
  (λ_=>[bb ab af [] 0]) rfl rfl rfl rfl rfl rfl ?_ ?_ ?_ ?_
 .refine⟨.dg tok bA.nil rfl,.dg tok bA.nil rfl,.dg tok bA.nil rfl,?_,?_,.dg tok bA.nil rfl,.dg tok bA.nil rfl,.dg tok bA.nil rfl,?_,?_,ar,ar,ar⟩
  .exact .law (bx.eP (l:=0) tok rfl rfl rfl rfl rfl) rfl
  .exact .law (bx.Q4 rfl rfl) rfl
  .exact .law (bx.eP (l:=0) tok rfl rfl rfl rfl rfl) rfl
  .exact .law (bx.sZ rfl rfl Tryz.underlying22 rfl (by decide)) rfl
 .intro _;refine⟨.dg tok bA.nil rfl,.dg tok bA.nil rfl,.dg tok bA.nil rfl,?_,?_,.dg tok bA.nil rfl,.dg tok bA.nil rfl,.dg tok bA.nil rfl,?_,?_,ar,.dg tok bA.nil rfl,ar⟩
  .exact .law (bx.eP (l:=0) tok rfl rfl rfl rfl rfl) rfl
  .exact .law (bx.Q4 rfl rfl) rfl
  .exact .law (bx.eP (l:=0) tok rfl rfl rfl rfl rfl) rfl
  .exact .law (bx.sZ rfl rfl Tryz.underlying22 rfl (by decide)) rfl
 .exact .yN (.law (bx.Q7 rfl rfl rfl) rfl)
 .intro _;refine br rfl ar (AK.dA [0] rfl ?_ rfl rfl rfl mW);simp
def Lz(n:Nat)(b:0<n)(c:n<=140737488355328):dK (ι:={p:Nat×Nat // n<=p.2}) X 209 [.e (.one (.ptr 0 0)),dI n] [bb ab af [] 0] (λ_=>.fe []) (λj=>[bb ab (aa j.1) [] 0]):=by
 refine dK.Nw Tryz.func209 rfl rfl rfl ?_;refine aV [(1000000,ab)] rfl ar ?_;have a:bq .i64 (n:Int):=by simp only[bq];omega
 have v0:D:=.e (.one (.v (.slice af 0 0)));refine AK.Kq (ι:={p:Nat×Nat // n<=p.2}) de 8 (λi=>bn i 7||(bn 9 i&&bn i 13)) (λi=>[dp,dp,Kr,.e (.one (.v (.slice af 0 0))),dI (0:Nat),dI 0,dI n,dI n,.any,dp,dp,Kr,.e (.one (.v (.slice af 0 0))),dI (0:Nat)].getD i .any)
  (λj i=>[.e (.one (.v (nO (aa j.1) n))),.any,.any,.any,.any,.any,.e (.one (.v (.slice (aa ⟨j.1.1,0,af⟩) 0 j.1.2))),.e (.one (.v (.slice (aa ⟨j.1.1,0,af⟩) 0 j.1.2)))].getD (i-8) .any)
  (λj=>[bB ab (.slice af 0 0) (aa j.1) [] 0]) rfl rfl rfl rfl rfl rfl ?_ ?_ ?_ ?_
 .refine⟨.dg tok bA.nil rfl,.dg tok bA.nil rfl,.dg tok bA.nil rfl,?_,?_,?_,.dg tok bA.nil rfl,?_,ar,.dg tok bA.nil rfl,.dg tok bA.nil rfl,.dg tok bA.nil rfl,?_,?_,ar,ar,ar⟩
  .exact .law (bx.eP (l:=0) tok rfl rfl rfl rfl rfl) rfl
  .exact .law (bx.KG rfl rfl Tryz.underlying22 rfl (by decide)) rfl
  .exact .law (H0 0 rfl rfl rfl (by simp[bq]) (λw=>rfl) (λw=>rfl)) rfl
  .exact .law (Sa rfl rfl rfl a) rfl
  .exact .law (bx.eP (l:=0) tok rfl rfl rfl rfl rfl) rfl
  .exact .law (bx.sZ rfl rfl Tryz.underlying22 rfl (by decide)) rfl
 .intro j;have d:j.1.2≠0:=by grind
  refine⟨.dg tok bA.nil rfl,.dg tok bA.nil rfl,.dg tok bA.nil rfl,?_,?_,?_,.dg tok bA.nil rfl,?_,ar,.dg tok bA.nil rfl,.dg tok bA.nil rfl,.dg tok bA.nil rfl,?_,?_,?_,.dg tok bA.nil rfl,ar⟩
  .exact .law (bx.eP (l:=0) tok rfl rfl rfl rfl rfl) rfl
  .exact .law (bx.KG rfl rfl Tryz.underlying22 rfl (by decide)) rfl
  .exact .law (H0 0 rfl rfl rfl (by simp[bq]) (λw=>rfl) (λw=>rfl)) rfl
  .exact .law (Sa rfl rfl rfl a) rfl
  .exact .law (bx.eP (l:=0) tok rfl rfl rfl rfl rfl) rfl
  .exact .law (bx.sZ rfl rfl Tryz.underlying22 rfl (by decide)) rfl
  .exact .law (bx.Q6 (k:=0) rfl Tryz.underlying22 (ff Tryz.type5) rfl rfl (jJ _) j.2 d (dh _ _ _)) rfl
 .exact .l0 rfl (Q2 (l:=0) (ps:=#[3]) Tryz.underlying22 Tryz.func222 (by kernel_rfl) (by kernel_rfl) (by kernel_rfl) (by kernel_rfl) rfl rfl rfl b c rfl)
 .intro j;refine br rfl ar ?_;refine AK.law (bx.eP (l:=0) tok rfl rfl rfl rfl rfl) rfl rfl ?_;refine AK.law (bx.copyV rfl Tryz.underlying22 (ff Tryz.type5) rfl rfl) rfl rfl ?_;refine br rfl ar ?_;refine AK.law (bx.yf (l:=0) tok rfl rfl rfl rfl rfl rfl rfl) rfl rfl ?_;refine br rfl ar ?_;exact⟨j,b7.rQ [0] rfl ar rfl rfl rfl mW⟩
def D6(n:Nat)(a:0<n)(b:n<=140737488355328):dK (ι:={p:Nat×Nat // n<=p.2}) X 179 [.e (.one (.ptr 0 0)),dI n] [bb ae af [] 0] (λ_=>.fe []) (λj=>[bb ab (aa j.1) [] 0]):=by
 refine dK.Nw Tryz.func179 rfl rfl rfl ?_;refine br rfl ar ?_;refine AK.cQ (Ay (nO af 0) rfl af [] 0) [0] rfl ?_;refine aV [(7,ae),(1000003,ab)] rfl ?_ ?_
 .simp
 refine AK.Kq de 4 (λi=>bn i 3||(bn 5 i&&bn i 9)||av i 11) (λi=>[dp,dp,Kr,.e (.one (.v (.slice af 0 0))),.any,dp,dp,Kr,.e (.one (.v (.slice af 0 0))),dI (0:Nat),.any,dI n].getD i .any)
  (λ(_:Unit) i=>[dI (0:Nat),.any,.any,.any,.any,.any,dI (0-0),.any,dB ab].getD (i-4) .any)
  (λ_=>[bb ab af [] 0]) rfl rfl rfl rfl rfl rfl ?_ ?_ ?_ ?_
 .refine⟨.dg tok bA.nil rfl,.dg tok bA.nil rfl,.dg tok bA.nil rfl,?_,ar,.dg tok bA.nil rfl,.dg tok bA.nil rfl,.dg tok bA.nil rfl,?_,?_,ar,.dg tok bA.nil rfl,ar,ar⟩
  .exact .law (bx.eP (l:=0) tok rfl rfl rfl rfl rfl) rfl
  .exact .law (bx.eP (l:=0) tok rfl rfl rfl rfl rfl) rfl
  .exact .law (bx.sZ rfl rfl Tryz.underlying22 rfl (by decide)) rfl
 .intro _;refine⟨.dg tok bA.nil rfl,.dg tok bA.nil rfl,.dg tok bA.nil rfl,?_,ar,.dg tok bA.nil rfl,.dg tok bA.nil rfl,.dg tok bA.nil rfl,?_,?_,?_,.dg tok bA.nil rfl,?_,ar⟩
  .exact .law (bx.eP (l:=0) tok rfl rfl rfl rfl rfl) rfl
  .exact .law (bx.eP (l:=0) tok rfl rfl rfl rfl rfl) rfl
  .exact .law (bx.sZ rfl rfl Tryz.underlying22 rfl (by decide)) rfl
  .exact .eval (ds:=[]) tok bA.nil (obs:=[bq .i64 (((0:Nat):Int)-((0:Nat):Int))]) rfl (by simp[bq])
  .exact .eval (ds:=[(21,ab)]) tok bA.nil (obs:=[decide ((0:Int)-0<(n:Int))=ab]) rfl (by simp;omega)
 .exact .yN (.law (bx.KG rfl rfl Tryz.underlying22 rfl (by decide)) rfl)
 .intro _;refine br rfl ar ?_;refine AK.cP (Lz n a b) [0] rfl (λ_=>rfl) λj=>?_;refine br rfl ar ?_;exact⟨j,b7.rQ [0] rfl ar rfl rfl rfl mW⟩
def H3:Ev X 179 [.e (.one (.ptr 0 0)),dI (0:Nat)] [bb ae af [] 0] (.fe []) [bb ab af [] 0]:=by
 refine Ev.bQ Tryz.func179 rfl λa=>?_;refine br rfl ar ?_;refine AK.cQ (Ay (nO af 0) rfl af [] 0) [0] rfl ?_;refine aV [(7,ae),(1000003,ab)] rfl ?_ ?_
 .simp
 refine AK.Kq de 4 (λi=>bn i 3||(bn 5 i&&bn i 9)||av i 11) (λi=>[dp,dp,Kr,.e (.one (.v (.slice af 0 0))),.any,dp,dp,Kr,.e (.one (.v (.slice af 0 0))),dI (0:Nat),.any,dI (0:Nat)].getD i .any)
  (λ(_:Unit) i=>[dI (0:Nat),.any,.any,.any,.any,.any,dI (0-0),.any,dB ae].getD (i-4) .any)
  (λ_=>[bb ab af [] 0]) rfl rfl rfl rfl rfl rfl ?_ ?_ ?_ ?_
 .refine⟨.dg tok bA.nil rfl,.dg tok bA.nil rfl,.dg tok bA.nil rfl,?_,ar,.dg tok bA.nil rfl,.dg tok bA.nil rfl,.dg tok bA.nil rfl,?_,?_,ar,.dg tok bA.nil rfl,ar,ar⟩
  .exact .law (bx.eP (l:=0) tok rfl rfl rfl rfl rfl) rfl
  .exact .law (bx.eP (l:=0) tok rfl rfl rfl rfl rfl) rfl
  .exact .law (bx.sZ rfl rfl Tryz.underlying22 rfl (by decide)) rfl
 .intro _;refine⟨.dg tok bA.nil rfl,.dg tok bA.nil rfl,.dg tok bA.nil rfl,?_,ar,.dg tok bA.nil rfl,.dg tok bA.nil rfl,.dg tok bA.nil rfl,?_,?_,?_,.dg tok bA.nil rfl,?_,ar⟩
  .exact .law (bx.eP (l:=0) tok rfl rfl rfl rfl rfl) rfl
  .exact .law (bx.eP (l:=0) tok rfl rfl rfl rfl rfl) rfl
  .exact .law (bx.sZ rfl rfl Tryz.underlying22 rfl (by decide)) rfl
  .exact .eval (ds:=[]) tok bA.nil (obs:=[bq .i64 (((0:Nat):Int)-((0:Nat):Int))]) rfl (by simp[bq])
  .exact .eval (ds:=[(21,ae)]) tok bA.nil (obs:=[decide ((0:Int)-0<((0:Nat):Int))=ae]) rfl (by simp)
 .exact .yN (.law (bx.KG rfl rfl Tryz.underlying22 rfl (by decide)) rfl)
 .intro _;refine br rfl ar ?_;exact b7.rQ [0] rfl ar rfl rfl rfl mW
def H4(h:o.op=.alloc 215):bx ag o η σ (.e (.one (.ptr σ.length 0))) (σ++[bb ae af [] 0]) :=
 bx.N7 h (λw=>by simp[zeroValue,typeInfo,ff Tryz.type215,Tryz.t215]) (λw es=>by simp)
def H5{z:aC}{a b c:Int}(m:Int)(h:o.op=.call {callee:=.builtin .min,args:=#[x,y,z],argTypes:=jK})(t:η x=dI a)(q:η y=dI b)(r:η z=dI c)(v:min (min a b) c=m)(p:bq .i64 m):bx ag o η σ (dI m) σ:=by
 refine .quiet λs n u d=>?_;have l:=d x;have k:=d y;have g:=d z;rw[t]at l;rw[q]at k;rw[r]at g;replace l:=fp l;replace k:=fp k;replace g:=fp g;generalize i:n x=vx at l;generalize f:n y=vy at k;generalize j:n z=vz at g;cases l;cases k;cases g;have e:(if c<(if b<a then b else a)then c else if b<a then b else a)=m:=by grind
 exact⟨.int .i64 m,by simp[aq,h,resolve,invoke,builtin,i,f,j,Builtin.min_,Builtin.min2,e],.int p,by simp[aq,h,resolve,invoke,builtin,i,f,j,Builtin.min_,Builtin.min2]⟩
def H6(n:Nat)(q:2<=n)(l:n<=3):Ev X 218 [dS [46],dI n] [] (dS (List.replicate n 46)) []:=by
 refine Ev.bQ Tryz.func218 rfl λo=>?_;have a:bA X [(228,O8)]:=.cons t228 .nil;refine bk a [(13,ae),(15,ae),(18,ae),(30,ae),(33,ae),(40,ae),(44,ae),(45,ae),(46,ae),(47,ae),(48,ae),(96,ae),(1000035,ab)] rfl ?_ ?_
 .have h:(n:Int)=2∨(n:Int)=3:=by omega
  have e:(ik [46] 0).toNat=46:=rfl;simp[bq,e,h];omega
 refine AK.region ?_;refine AK.law (H4 rfl) rfl rfl ?_;refine cz a rfl ar ?_;refine AK.cP (D6 n (by omega) (by omega)) [0] rfl (λ_=>rfl) λj=>?_;obtain⟨⟨g,cap⟩,b⟩:=j;have b:n<=cap:=b;refine cz a rfl ar ?_;refine AK.cQ (Co g cap [] [46] 0 (by simp) (by simp;omega)) [0] rfl ?_;refine cz a rfl ar ?_;refine AK.iM (λk=>1<=k/\k<=n) (λk:Nat=>[(0,dS [46]),(7,dI n),(8,dI n),(9,.e (.one (.ptr 0 0)))]) (λk=>[bb ab (aa (g,cap)) (List.replicate k 46) (k-1)]) (λk=>n-k) 1 rfl ?_ rfl ?_ ⟨by omega,by omega⟩ ?_
 .simp
 .exact au.cat.2 ⟨rfl,ar⟩
 rintro k ⟨i,f⟩;refine cz a rfl ar ?_;refine AK.cQ (yY ab (aa (g,cap)) (List.replicate k 46) (k-1) (by simp;omega) (by simp)) [0] rfl ?_;by_cases p:k<n
 .refine bk a [(113,ab)] rfl ?_ ?_
  .simp;omega
  refine AK.cQ (yY ab (aa (g,cap)) (List.replicate k 46) (k-1) (by simp;omega) (by simp)) [0] rfl ?_;refine cz a rfl ?_ ?_
  .simp[bq];omega
  refine AK.cQ (yY ab (aa (g,cap)) (List.replicate k 46) (k-1) (by simp;omega) (by simp)) [0] rfl ?_;refine cz a rfl ar ?_;refine AK.law (H5 1 rfl rfl rfl rfl (by simp;omega) (by simp[bq])) rfl rfl ?_;refine cz a rfl ar ?_;refine AK.cQ (Cp g cap (List.replicate k 46) (k-1) (by simp;omega) (by omega)) [0] rfl ?_;have c:qH (List.replicate k (46:UInt8)) af (aa 1)=[46]:=by
   obtain⟨m,rfl⟩:∃m,k=m+1:=⟨k-1,by omega⟩
   simp[qH,List.replicate_succ]
  refine cz a rfl ?_ ?_
  .simp;omega
  rw[c];refine AK.cQ (Co g cap (List.replicate k 46) [46] (List.replicate k 46).length (by simp) (by simp;omega)) [0] rfl ?_;have d:List.replicate k (46:UInt8)++[46]=List.replicate (k+1) 46:=by rw[List.replicate_succ']
  rw[d];refine cz a rfl ar (AK.fa (k+1) rfl ?_ rfl ?_ ⟨by omega,by omega⟩ (by omega))
  .simp
  .refine au.cat.2 ⟨?_,ar⟩;simp
 .refine bk a [(113,ae)] rfl ?_ (AK.leave rfl rfl ?_)
  .simp;omega
  have e:k=n:=by omega
  subst e;refine cz a rfl ar ?_;refine AK.cQ (Cp g cap (List.replicate k 46) (k-1) (by simp;omega) (by omega)) [0] rfl ?_;exact cz a rfl ar (AK.bg rfl)
def VC:dw X 218 Fh:=Sb (H6 2 (by omega) (by omega)) (H6 3 (by omega) (by omega))
def Sc:dw X 196 od:=Sd VC
def Room(bf:Option (Nat×Nat))(n:Nat):Prop:=match bf with|none=>n=0|some (_,cap)=>n<=cap/\0<cap
def _root_.Go.AM.dK.re{b:Type}{X:Cx P}{f:aP}{args:List D}{σ':ι->List ba}{a:b->D}{σ2:b->List ba}(h:dK X f args σ res σ')(g:ι->b)(d:∀i,a (g i)=res i)(c:∀i,σ2 (g i)=σ' i):dK X f args σ a σ2 :=
 ⟨h.1,λs vs h1 h2 S cs hS=>h.2 s vs h1 h2 S cs λi fr v s' k1 k2 k3 k4=>hS (g i) fr v s' k1 (by grind) (by grind) (by grind)⟩
def H7(n:Nat)(a:n<=140737488355328):dK (ι:={bf:Option (Nat×Nat) // Room bf n}) X 179 [.e (.one (.ptr 0 0)),dI n] [bb ae af [] 0] (λ_=>.fe []) (λj=>[bb ab j.1 [] 0]):=by
 by_cases h:n=0
 .subst h;exact H3.KN.re (λ_=>⟨af,rfl⟩) (λ_=>rfl) (λ_=>rfl)
 .exact(D6 n (by omega) a).re (λp=>⟨aa p.1,p.2,by grind⟩) (λ_=>rfl) (λ_=>rfl)
def Cq(bf:Option (Nat×Nat))(xs s:Bs)(a:s.length<=9223372036854775807)(h:Room bf (xs.length+s.length)):Ev X 180 [.e (.one (.ptr 0 0)),dS s] [bb ab bf xs 0] (.fe [.one (.c (.int .i64 s.length)),.one (.c .nS)]) [bb ab bf (xs++s) 0]:=by
 cases bf with
 |none =>
  have h:xs.length+s.length=0:=h;grind[O7]
 |some p=>exact Co p.1 p.2 xs s 0 a h.1
def shown(bf:Option (Nat×Nat))(xs:Bs):Nat:=match bf with|none=>0|some _=>xs.length
def LA(bf:Option (Nat×Nat))(xs:Bs)(a:xs.length<=9223372036854775807)(h:Room bf xs.length):Ev X 181 [.e (.one (.ptr 0 0))] [bb ab bf xs 0] (dS xs) [bb ab bf xs (shown bf xs)]:=by
 cases bf with
 |none =>
  have h:xs.length=0:=h;have b:xs=[]:=jo h;subst b;exact Ly
 |some p=>exact Cp p.1 p.2 xs 0 a (by have:=h.2;omega)
def D8(l:List Bs)(i:Nat):Bs:=(l.take i).flatten
def H8{l:List Bs}(h:i<l.length):D8 l (i+1)=D8 l i++l.getD i []:=by unfold D8;grind[List.take_add_one]
def Se{l:List Bs}:D8 l l.length=l.flatten:=by simp[D8]
def H9{l:List Bs}(i:Nat):(D8 l i).length<=l.flatten.length:=by
 have e:l.flatten=(l.take i).flatten++(l.drop i).flatten:=by grind[List.take_append_drop]
 rw[e,b9];simp only[D8];omega
def LB(l:List Bs)(r:l.flatten.length<=140737488355328):Ev X 125 [cS.sl l,dS []] [] (dS l.flatten) []:=by
 refine Ev.bQ Tryz.func125 rfl λs=>?_;have m:=s.sl 0 rfl;by_cases g:l=[]
 .subst g;refine aV [(14,ab)] rfl ?_ (AK.bg rfl)
  .simp
 by_cases t:l.length=1
 .obtain⟨x,rfl⟩:=List.length_eq_one_iff.1 t;refine aV [(14,ae),(16,ab)] rfl ?_ (AK.bg rfl ?_)
  .simp
  .simp[cS,jX.fn]
 have v:2<=l.length:=by
  have:l.length≠0:=by grind
  omega
 refine aV [(14,ae),(16,ae),(22,ae)] rfl ?_ ?_
 .simp[g];omega
 refine AK.iM (λi=>i<=l.length) (λi:Nat=>[(0,cS.sl l),(1,dS []),(5,dI (D8 l i).length),(39,cS.sl l),(40,dI l.length),(41,dI i)]) (λ_=>[]) (λi=>l.length-i) 0 rfl ?_ rfl ar (by omega) ?_
 .simp[D8]
 .intro i hi;have u:=H9 (l:=l) i;by_cases h:i<l.length
  .have d:=H9 (l:=l) (i+1);rw[H8 h,b9]at d;refine aV [(42,ab),(49,ae)] rfl ?_ (AK.fa (i+1) rfl ?_ rfl ar (by omega) (by omega))
   .have e:(l.getD (i:Int).toNat cS.bG)=l.getD i []:=rfl;simp only[au,bq,e];grind
   .have e:(l.getD (i:Int).toNat cS.bG)=l.getD i []:=rfl;rw[H8 h];rw[e];simp
  .have e:i=l.length:=by omega
   subst e;refine aV [(42,ae),(1000018,ab)] rfl ?_ (AK.leave rfl rfl ?_)
   .simp
   refine aV [(1000018,ab)] rfl ar ?_;refine AK.region ?_;refine AK.law (H4 rfl) rfl rfl ?_;refine dv rfl ar ?_;rw[Se];refine AK.cP (H7 l.flatten.length r) [0] rfl (λ_=>rfl) λj=>?_;obtain⟨bf,b⟩:=j;refine dv rfl ?_ ?_
   .exact⟨by omega,show(0:Int)<(l.length:Int) by omega⟩
   have room:∀n,n<=l.flatten.length->Room bf n:=λn o=>by
    cases bf with
    |none =>
     have:l.flatten.length=0:=b;grind
    |some p=>exact⟨gB o b.1,b.2⟩
   have k:D8 l 1=l.getD 0 []:=by rw[H8 (by omega)];simp[D8]
   have f:=H9 (l:=l) 1;rw[k]at f;refine AK.cQ (Cq bf [] (l.getD 0 []) (by omega) (room _ (by grind))) [0] rfl ?_;refine dv rfl ?_ ?_
   .exact⟨by omega,show(1:Int)<=(l.length:Int) by omega⟩
   refine AK.iM (λi=>i+1<=l.length) (λi:Nat=>[(1,dS []),(8,.e (.one (.ptr 0 0))),(63,.e (.one (.c (.sl ae 1 (l.length-1) (lV 1 (cS.fn l)))))),(64,dI (l.length-1:Nat)),(65,dI i)]) (λi=>[bb ab bf (D8 l (i+1)) 0]) (λi=>l.length-i) 0 rfl ?_ rfl ?_ (by omega) ?_
   .simp[cU]
   .refine au.cat.2 ⟨?_,ar⟩;rw[bo,k];exact rfl
   intro i hi;have q:=H9 (l:=l) (i+1);by_cases h:i+1<l.length
   .have a:=H9 (l:=l) (i+2);rw[H8 h,b9]at a;refine aV [(66,ab)] rfl ?_ ?_
    .exact⟨by omega,by omega,cV (by omega)⟩
    refine AK.cQ (Cq bf (D8 l (i+1)) [] (by simp) (room _ (by grind))) [0] rfl ?_;rw[j7];refine br rfl ar ?_;refine AK.cQ (Cq bf (D8 l (i+1)) (l.getD (1+i) []) (by grind) (room _ (by grind))) [0] rfl ?_;refine br rfl ?_ (AK.fa (i+1) rfl ?_ rfl ?_ (by omega) (by omega))
    .simp only[au,bq];omega
    .simp
    .refine au.cat.2 ⟨?_,ar⟩;rw[H8 h,Nat.add_comm 1 i];exact rfl
   .have e:i+1=l.length:=by omega
    refine aV [(66,ae)] rfl ?_ (AK.leave rfl rfl ?_)
    .exact gf (by omega)
    rw[e,Se];refine br rfl ar ?_;refine AK.cQ (LA bf l.flatten (by omega) (room _ (by omega))) [0] rfl ?_;exact br rfl ar (AK.bg rfl)
def Fp{s:Bs}(h:bX s=ab)(i:Nat)(hi:i<s.length):97<=cq s i/\cq s i<=122:=by have a:=List.all_eq_true.1 h (s.getD i 0) (by grind);simp only[et,bP,bc]at a;unfold cq;omega
def AI(s:Bs)(i:Nat)(a:bX s=ab)(e:3<=i)(hi:i<=s.length)(j:s.length<=4000000):Ev X 223 [dS s,dI i] [] (dB (jh s i)) []:=by
 refine Ev.bQ Tryz.func223 rfl λf=>?_;have k:=Fp a (i-1) (by omega);have g:=Fp a (i-2) (by omega);have h:=Fp a (i-3) (by omega);have b:((ik s ((i:Int)-1)).toNat:Int)=cq s (i-1):=by grind[cr]
 have c:((ik s ((i:Int)-2)).toNat:Int)=cq s (i-2):=by grind[cr]
 have d:((ik s ((i:Int)-3)).toNat:Int)=cq s (i-3):=by grind[cr]
 refine br rfl ?_ (AK.bg rfl ?_)
 .simp only[au,bq,b,c,d];omega
 .simp only[au,au.cat,b,c,d,jh,dl,aE];grind
def Fq:dw X 223 (mX aS aI (λs i=>dB (jh s i.toNat)) λs i=>[bX s=ab,3<=i,i<=s.length,s.length<=4000000]):=.px λs i h=>by
 obtain⟨a,c,d,b⟩:=h;obtain⟨m,rfl⟩:∃m:Nat,i=m:=⟨i.toNat,by omega⟩
 exact AI s m a (by omega) (by omega) b
def y4{a b:Int}(m:Int)(h:o.op=.call {callee:=.builtin .min,args:=#[x,y],argTypes:=jK})(n:η x=dI a)(l:η y=dI b)(q:min a b=m)(k:bq .i64 m):bx ag o η σ (dI m) σ:=by
 refine .quiet λs j p d=>?_;have i:=d x;have g:=d y;rw[n]at i;rw[l]at g;replace i:=fp i;replace g:=fp g;generalize f:j x=vx at i;generalize c:j y=vy at g;cases i;cases g;have e:(if b<a then b else a)=m:=by grind
 exact⟨.int .i64 m,by simp[aq,h,resolve,invoke,builtin,f,c,Builtin.min_,Builtin.min2,e],.int k,by simp[aq,h,resolve,invoke,builtin,f,c,Builtin.min_,Builtin.min2]⟩
theorem Ip{t:Bs}{f:Nat}(h:t.length<=f+3+j)(c:j<=5):rV t f (5-j)=min (f+8) t.length:=by
 rcases cv j 5 with a|a
 .obtain⟨k,b⟩:∃k,5-j=k+1:=⟨4-j,by omega⟩
  rw[b];simp only[rV];grind
 .rw[show 5-j=0 by omega];rfl
def Fs(t:Bs)(f:Nat)(l:bX t=ab)(n:f<=t.length)(r:t.length<=4000000):Ev X 211 [dS t,dI f] [] (dI (cutAt t f)) []:=by
 refine Ev.bQ Tryz.func211 rfl λq=>?_;have a:bA X [(223,mX aS aI (λs i=>dB (jh s i.toNat)) λs i=>[bX s=ab,3<=i,i<=s.length,s.length<=4000000])]:=.cons Fq .nil;refine bR a rfl ?_ ?_
 .simp[bq];omega
 refine AK.iM (λj=>j<=5/\rV t f (5-j)=cutAt t f) (λj:Nat=>[(0,dS t),(1,dI f),(5,dI (f+3+j))]) (λ_=>[]) (λj=>5-j) 0 rfl ?_ rfl ar ⟨by omega,rfl⟩ ?_
 .simp
 rintro j ⟨p,b⟩;by_cases h:j<5/\f+3+j<t.length
 .obtain⟨k,o⟩:∃k,5-j=k+1:=⟨4-j,by omega⟩
  have g:f+(7-k)=f+3+j:=by omega
  rw[o]at b;simp only[rV,g]at b;rw[bh (by omega)]at b;have e:((f:Int)+3+j).toNat=f+3+j:=by omega
  cases c:jh t (f+3+j)with
  |true =>
   rw[c,bt rfl]at b;refine aM a [(11,ab),(16,ab),(22,ab)] rfl ?_ (AK.gu (b7.zero rfl ?_))
   .simp only[au,bq,e,c,l,bc,eq_self,aF,aE];omega
   .simp[<-b]
  |false =>
   rw[c,bh (by simp)]at b;refine aM a [(11,ab),(16,ab),(22,ae)] rfl ?_ (AK.fa (j+1) rfl ?_ rfl ar ⟨by omega,by grind⟩ (by omega))
   .simp only[au,bq,e,c,l,bc,eq_self,aF,aE];omega
   .simp;omega
 .have e:cutAt t f=min (f+8) t.length:=by
   rw[<-b];rcases cv j 5 with d|d
   .grind [Ip]
   .rw[show 5-j=0 by omega];rfl
  have m:bq .i64 ((min (f+8) t.length:Nat):Int):=by simp only[bq];omega
  rcases cv j 5 with d|d
  .refine aM a [(11,ab),(16,ae)] rfl ?_ (AK.leave rfl rfl ?_)
   .simp only[au,bq,bc,bY];omega
   refine bR a rfl ?_ ?_
   .simp only[au,bq];omega
   refine AK.law (y4 ((min (f+8) t.length:Nat):Int) rfl rfl rfl (by omega) m) rfl rfl ?_;refine bR a rfl ar (AK.bg rfl ?_);simp[e]
  .refine aM a [(11,ae)] rfl ?_ (AK.leave rfl rfl ?_)
   .simp only[au,bq,bc,bY];omega
   refine bR a rfl ?_ ?_
   .simp only[au,bq];omega
   refine AK.law (y4 ((min (f+8) t.length:Nat):Int) rfl rfl rfl (by omega) m) rfl rfl ?_;refine bR a rfl ar (AK.bg rfl ?_);simp[e]
def Pj:dw X 211 (mX aS aI (λs i=>dI (cutAt s i.toNat)) λs i=>[bX s=ab,0<=i,i<=s.length,s.length<=4000000]):=.px λs i h=>by
 obtain⟨a,c,d,b⟩:=h;obtain⟨m,rfl⟩:∃m:Nat,i=m:=⟨i.toNat,by omega⟩
 exact Fs s m a (by omega) b
abbrev NA(t:Bs):C:=.fn (.func 210) [] [.rp [.str t]]
theorem LJ(t:Bs):Ev X 183 [dS t] [] (.e (.one (.c (NA t)))) []:=by refine Ev.bQ Tryz.func183 rfl λa=>?_;refine Fl [] 5 rfl ar ?_;refine AK.freeze 1 0 rfl rfl rfl ?_;exact br rfl ar (AK.bg rfl)
def Ft{T:Type}(text:Bs)(r:bX text=ab)(v:text.length<=4000000){l:Nat}{a:Fr}{j:Loop}(g B1 B2:T->ba)(R:Nat->T->Prop)(k:T)(q:R 0 k)(n:∀t,g t≠.pK/\B1 t≠.pK/\B2 t≠.pK)(b:∀f t,f<text.length->R f t->Yields (ι:={d:T // R (cutAt text f) d}) X 3 [dI f,dI (cutAt text f)] [g t,B1 t,B2 t,.loop l a j] ab (λd=>[g d.1,B1 d.1,B2 d.1,.loop l a j])):
  dK (ι:={t:T // R text.length t}) X 210 [.e (.one (.ref 3)),.e (.one (.c (.rp [.str text])))] [g k,B1 k,B2 k,.loop l a j] (λ_=>.fe []) (λi=>[g i.1,B1 i.1,B2 i.1,.loop l a j]):=by
 refine dK.Hz Tryz.func210 rfl rfl rfl (AK.of_code ?_);have m:bA X [(211,mX aS aI (λs i=>dI (cutAt s i.toNat)) λs i=>[bX s=ab,0<=i,i<=s.length,s.length<=4000000])]:=.cons Pj .nil;refine bR m rfl ar ?_;show AW X _ (.loop _) _ _ _;refine AW.loop (S:=T×Nat) (λx=>x.2<=text.length/\R x.2 x.1) (λx=>[(0,.e (.one (.ref 3))),(1,.e (.one (.c (.rp [.str text])))),(3,dI x.2)]) (λx=>[g x.1,B1 x.1,B2 x.1,.loop l a j]) (λx=>text.length-x.2) (k,0) ⟨jJ _,q⟩ (cG rfl (by simp)) rfl ?_;rintro⟨t,f⟩ ⟨u,o⟩;simp only at u o;refine AK.of_code ?_;by_cases h:f<text.length
 .have p:=mh text f h;refine aM m [(8,ab)] rfl ?_ ?_
  .simp only[au,r,bc,eq_self,aF,aE];omega
  refine AK.yield (b f t h o) rfl rfl rfl rfl rfl rfl λd=>?_;refine aM m [(16,ae)] rfl ?_ ?_
  .simp
  refine⟨(d.1,cutAt text f),⟨p.2.1,d.2⟩,?_,cG rfl (by simp),rfl⟩;grind
 .have e:f=text.length:=by omega
  subst e;refine aM m [(8,ae)] rfl ?_ ?_
  .simp
  refine AK.HF rfl rfl ?_;exact⟨⟨t,o⟩,.inr rfl,rfl,jE (n t).1 (jE (n t).2.1 (jE (n t).2.2 rfl)),[],.fe [],[],rfl,rfl,rfl,ar⟩
end
section
open Go.Proofs Go.Conc Go.Conc.Lib Go.ConcR.Gen
open Go.ConcN (WgLive PayAt Has RW AtR0)
open Go.ConcN.Gen
open Go.ConcR (KK WgAt stA smA rd wr mk Payload DC0)
def Iv:Ir=#[{dst:=af,op:=.defer {callee:=.value (.func 122),args:=#[.tmp 0],argTypes:=#[164]},type:=0,pos:= "l12_snap.go:81",after:=#[],guard:=af}]:=by kernel_rfl
def bW(a:aj):Frame:={baseD 121 with defers:=[dcall 122 #[a]]}
abbrev tW(v0 v1 v2 v3 v4 v5:aj):Array aj:=#[v0,v1,v2,v3,v4,v5,ah,ah,ah,ah,ah,ah,ah]
def Pl(v0 v1 v2 v3 v4 v5:aj)(w:aA):Goes ag ae (λ_ _=>True) DC0 (λg _=>g=G ((bW v0).aT ⟨tW v0 v1 v2 v3 v4 v5,[]⟩ [.code (.region 1 Is ab)]) [te]) 8 (born ag (vk #[v0,v1,v2,v3,v4,v5])) w:=by
  have b:True:=ar;have a:True->True->True:=λ_ _=>trivial;refine Goes.step rfl (λw1 h1=>?_);rw[Fx];simp only[goes_go];refine⟨⟨rfl,rfl⟩,?_⟩;clear h1;rw[Iv]
  u_c az a b
  u_reg a b
  u_defer a b
  u_c aw a b
  exact Goes.stop λ_ _=>rfl
def VI(T:Array aj):QuitsD ag 2 0 (G {(baseD 121).at ⟨T,[]⟩ []with mode:=.returning} [te]):=by
  have a:Tryz.f121.results=#[]:=by kernel_rfl
  refine QuitsD.ctl (g':=G te []) rfl (λw=>?_) ?_
  · simp[G,aG,unwind,doReturn,results,Frame.at,baseD,te,Tryz.func121,a,seen,GStep.after,goexitEntry]
  refine QuitsD.ctl (g':={G te []with status:=.finished}) rfl (λw=>?_) ⟨rfl,rfl⟩;simp[G,aG,unwind,te,goexitEntry,Frame.catches];rfl
section
variable {Y:Lay}
def tailW(x:Nat)(d:Y.kc=2)(T:Array aj)(w:aA)(a:WgLive 164 Y.Wg w/\Has Y.C (Y.kc*x+1-1) (val x 0) w):
    ∃m,Goes ag ae (RW 164 Y.Wg Y.C (2*n) 0 (Y.kc*x+1-1)) DC0 (AtR0 ag 164 Y.Wg Y.C (2*n) 0 (Y.kc*x+1) (val x 0)) m (G ((bW (.pointer (aa ⟨Y.Wg,0,af⟩))).aT ⟨T,[]⟩ [.inRegion td.toArray []]) [te]) w:=by
  refine⟨26,?_⟩;have e:(bW (.pointer (aa ⟨Y.Wg,0,af⟩))).aT ⟨T,[]⟩ [.inRegion td.toArray []]=(baseD 121).at ⟨T,[dcall 122 #[.pointer (aa ⟨Y.Wg,0,af⟩)]]⟩ [.inRegion td.toArray []]:=rfl;rw[e]
  u_c aw kn_rely a
  u_c stepG_end kn_rely a
  u_in kn_rely a
  rw[stepG_unwind_enter (c:=body_done NC) rfl AO.f_done (by kernel_rfl) (by kernel_rfl)];simp only[goes_go];refine⟨by u_nil,?_⟩;have b:=So (P:=ag) (L:=NC) (Wg:=Y.Wg) (C:=Y.C) (n:=2*n) (Low:=0) (x:=Y.kc*x+1) (val:=val x 0) (c:={(baseD 121).at ⟨T,[]⟩ []with mode:=.returning}) (cs:=[te]) AO rfl (VI T) _ a;exact b
def rd_str{l:Bs}(h:Rd M v (.str l)):v=.string ⟨l.toArray⟩:=by
  cases h with
  | str h1 h2=>rw[<-h1]
def rd_bool{b:Bool}(h:Rd M v (.bool b)):v=.bool b:=by cases h;rfl
def QQ:aB:=oW af (.store 166 (.tmp 12) (.tmp 11)) 0 #[⟨6,.data⟩,⟨5,.data⟩,⟨5,.chain⟩,⟨0,.phase⟩,⟨1,.phase⟩,⟨2,.phase⟩,⟨3,.phase⟩,⟨4,.phase⟩,⟨5,.phase⟩]
def Sp{x:Nat}(hx:x<n)(F:Y.kc=2){k:Int}{ps:List bw}{J:Int}(E:val x 0=.string ⟨((du k ps J).getD []).toArray⟩)(A:val x 1=.bool (du k ps J).isSome){T:Array aj}(g:dc [] s (T.getD 12 ah) (xW k ps J n x Y.C 6))(p:dc [] s (T.getD 11 ah) (T4 (du k ps J))):
    Hj ag 164 Y (2*n) val x (G ((bW (.pointer (aa ⟨Y.Wg,0,af⟩))).aT ⟨T,[]⟩ [.inRegion td.toArray [7]]) [te]) s:=by
  have g:T.getD 12 ah=.pointer (aa ⟨Y.C,x*2,af⟩):=Rd.eW g;have p:T.getD 11 ah=.agg #[val x 0,val x 1]:=by
    obtain⟨vs,V,d⟩:=p
    match vs,d with
    | [],d=>exact d.elim
    | [_],d=>exact d.2.elim
    | _::_::_::_,d=>exact d.2.2.elim
    | [u0,u1],d =>
      rw[V,rd_str d.1,rd_bool d.2.1,E,A]
  refine⟨rfl,λw1 hr Hq Iw=>?_⟩;obtain⟨cs,c,R⟩:=Hq;have L:Y.kc*x=x*2:=by grind
  have D:∀v∈[val x 0,val x 1],v.oneCell'=ab:=by
    intro v N;simp only[dD,oA,or_false]at N;rcases N with rfl|rfl
    · rw[E];rfl
    · rw[A];rfl
  have r:x*2+0+[val x 0,val x 1].length<=cs.size:=by grind
  have l:=run_storeCells_at ag Y.C (x*2) 166 [val x 0,val x 1] 0 cs w1 c r D;simp only[gT,gd,iS,bo]at l;generalize q:(cs.toList.take (x*2)++[val x 0,val x 1]++cs.toList.drop (x*2+2)).toArray=new at l;have W:new.size=cs.size:=by grind
  have w:=setRow_heap w1 Y.C cs new 166 (0,0) c;have y:∀o,(w1.setRow Y.C new).cell? ⟨Y.C,o,af⟩=new[o]?:=λo=>cell_setRow_same w1 Y.C o cs new 166 (0,0) c;have I:∀o,w1.cell? ⟨Y.C,o,af⟩=cs[o]?:=λo=>by simp[aU,c]
  have S:∀i,i<2->new[x*2+i]?=aa (val x i):=by
    intro i hi;rw[<-q];have M:(cs.toList.take (x*2)).length=x*2:=by grind
    rw[ju];simp only[gO];rw[fh (by omega),M]
    match i,hi with
    | 0,_=>simp
    | 1,_=>simp
  have P:∀o,(o<x*2∨x*2+2<=o)->new[o]?=cs[o]?:=by
    intro o K;rw[<-q];have M:(cs.toList.take (x*2)).length=x*2:=by grind
    rw[ju];simp only[gO];rcases K with K|K
    · grind
    · rw[fh (by omega),M,fh (by grind)]
      simp only[gd,iS,pG];rw[show x*2+2+(o-x*2-(0+1+1))=o by omega];simp
  have H:(Value.agg #[val x 0,val x 1]).cells=#[val x 0,val x 1]:=rfl;have B:(aq (⟨T,[]⟩:Act).eval QQ).run ag w1=.ok .skip (w1.setRow Y.C new):=by have u:(⟨T,[]⟩:Act).eval (.tmp 12)=.pointer (aa ⟨Y.C,x*2,af⟩):=g;have t:(⟨T,[]⟩:Act).eval (.tmp 11)=.agg #[val x 0,val x 1]:=p;simp[aq,QQ,oW,u,t,Instr.storeAt,Instr.sureAddr,storeVar,(tok 166 i166 rfl).run_sizeOf,i166,H,l]
  have f:∀e∈(aq (⟨T,[]⟩:Act).eval QQ).events ag w1 #[],∃j,j<2/\e=EM Y.C (x*2+j):=by
    intro O f;have u:(⟨T,[]⟩:Act).eval (.tmp 12)=.pointer (aa ⟨Y.C,x*2,af⟩):=g;have t:(⟨T,[]⟩:Act).eval (.tmp 11)=.agg #[val x 0,val x 1]:=p;have e:aq (⟨T,[]⟩:Act).eval QQ=(do storeVar 166 ⟨Y.C,x*2,af⟩ (.agg #[val x 0,val x 1]);pure .skip):=by simp[aq,QQ,oW,u,t,Instr.storeAt,Instr.sureAddr]
    rw[e]at f;have z:O∈(storeCells ⟨Y.C,x*2,af⟩ [val x 0,val x 1]).events ag w1 #[]:=by simp only[storeVar,aJ,(tok 166 i166 rfl).run_sizeOf,i166,H,aO,events_sizeOf,dn,bJ,bL,b6,Sem.events_pure]at f;simpa[l]using f
    rcases dW [val x 0,val x 1] 0 cs w1 #[] c r D O z with Z|⟨j,_,hj,rfl⟩
    · grind
    grind
  have m:WgLive 164 Y.Wg (w1.setRow Y.C new):=by
    obtain⟨st,Q,h⟩:=Iw;refine⟨st,Q,?_⟩;show(w1.setRow Y.C new).heap[Y.Wg]?=_;rw[setRow_other w1 Y.C Y.Wg new ?_]
    · exact h
    · intro e
      have d:w1.heap[Y.Wg]?=aa (Go.ConcR.wgBlock 164 st Q):=h;rw[e,c]at d;simp[Go.ConcR.wgBlock]at d;exact absurd d.2 (by decide)
  refine⟨_,w1.setRow Y.C new,_,Dp (b:=bW (.pointer (aa ⟨Y.Wg,0,af⟩))) (a:=⟨T,[]⟩) (k:=[]) (ops:=td.toArray) (i:=7) (rest:=[]) (o:=QQ) rfl rfl (by simp[bW,baseD]) B,?_,?_,?_⟩
  · refine⟨rfl,rfl,rfl,by simp,λb X=>setRow_other w1 Y.C b new X,⟨new,w,by grind⟩,λo K=>?_,λi hi=>?_⟩
    · grind
    · rw[F]at hi
      rw[y,L];grind
  · intro e U
    obtain⟨j,hj,rfl⟩:=f e (Go.Conc.mem_seen U);exact⟨x*2+j,rfl,by omega,by omega⟩
  · exact tailW x F T _ ⟨m,by show(w1.setRow Y.C new).cell? _=_;grind⟩
def worker{k:Int}(f:dw (Cx.work ag) 123 (lf k)){x:Nat}(o:x<n)(j:Y.kc=2){ps:List bw}{d:Int}(i:val x 0=.string ⟨((du k ps d).getD []).toArray⟩)(e:val x 1=.bool (du k ps d).isSome)(y:aD [] s)(F:s.β=[]){v1 v2 v3 v4 v5:aj}(q:Rd s.M v1 (.rp [.int .i64 k]))(u:Rd s.M v2 (.rp [.sl ae 2 ps.length (cP.fn ps)]))(r:Rd s.M v3 (.rp [.int .i64 d]))(p:Rd s.M v4 (.rp [.val (.slice (aa ⟨Y.C,0,af⟩) n n)]))(m:Rd s.M v5 (.rp [.int .i64 x])):
    dT (Cx.work ag) E0 (Hj ag 164 Y (2*n) val x) (born ag (vk #[.pointer (aa ⟨Y.Wg,0,af⟩),v1,v2,v3,v4,v5])) s:=by
  refine dT.goes (X:=Cx.work ag) (R:=λ_ _=>True) (D:=DC0) (Stop:=λg _=>g=G ((bW (.pointer (aa ⟨Y.Wg,0,af⟩))).aT ⟨tW (.pointer (aa ⟨Y.Wg,0,af⟩)) v1 v2 v3 v4 v5,[]⟩ [.code (.region 1 Is ab)]) [te])
    (λb=>aD [] b/\b.M=s.M) (λb s2 h v=>⟨h.1.rely v,v.M.trans h.2⟩) (λ_ _ _ _=>trivial) ?_ (λb h=>b5.uL h.1.mem) ?_ 8 _ s ⟨y,rfl⟩ (Pl _ _ _ _ _ _ _)
  · rintro b es h w' ⟨rfl,rfl⟩
    exact⟨rfl,.inl (.quiet h.1)⟩
  · rintro g b ⟨l,z⟩ rfl
    rw[LO];refine e9.YT (λ_ _ _ h=>h) ?_;refine(Sn f ps d n x Y.C o (.pointer (aa ⟨Y.Wg,0,af⟩))).region (by kernel_rfl) (by simp[bW,baseD]) ⟨by simp[tW],⟨[],ar⟩,λt=>?_⟩ rfl l λs2 a w c B A st=>.stop ?_
    · rw[<-z]at q u r p m
      match t with
      | 0=>exact Rd.val rfl
      | 1=>exact q
      | 2=>exact u
      | 3=>exact r
      | 4=>exact p
      | 5=>exact m
      | t+6=>trivial
    · obtain⟨T,E⟩:=a
      obtain rfl:E=[]:=B;exact Sp o j i e (c 12) (c 11)
end
end
section
open Go.Proofs Go.Conc Go.Conc.Lib
open Go.ConcN (WgLive PayAt Has RW AtR0)
open Go.ConcR (KK WgAt stA smA rd wr mk Payload DC0)
def vl:Code->Code|.seq a _=>a|c=>c
def jZ:Code->Code|.seq _ a=>a|c=>c
def Sq:Code->Code|.block _ a=>a|c=>c
def VJ:Code->Code|.loop a=>a|c=>c
def Pm:Code->Array aB|.region _ o _=>o|_=>#[]
noncomputable def CI:Code:=(Tryz.f96.body).getD .skip
noncomputable def hI:Code:=VJ (Sq (jZ (vl (jZ (jZ (jZ CI))))))
noncomputable def Xl:Code:=vl hI
noncomputable def Pn:Code:=Sq (vl (jZ (jZ hI)))
noncomputable def Xm:Code:=vl Pn
noncomputable def y7:Array aB:=Pm (vl (jZ Pn))
noncomputable def wH:Array aB:=Pm (jZ (jZ Pn))
noncomputable def Kt:Code:=jZ (jZ (jZ hI))
noncomputable def ml:Code:=jZ (jZ (jZ (jZ CI)))
noncomputable def wI:Array aB:=Pm (vl ml)
noncomputable def py:Code:=jZ ml
def AP:hI=.seq Xl (.seq (.cond (.tmp 21) .skip (.exit 0)) (.seq (.block 1 (.seq Xm (.seq (.region 6 y7 ae) (.region 7 wH ae)))) Kt)):=by kernel_rfl
def Ix:ml=.seq (.region 9 wI ae) py:=by kernel_rfl
def NQ(j:Fr)(σ1:List ba):Post:=λe φ σ=>e=.normal/\qP φ j/\σ=σ1
structure At(σ0:List ba)(s0:St)(φ:Fr)(σ:List ba)(a:Act)(s:St):Prop where
 fr:cf 45 σ s φ a
 hh:aD σ s
 st:cJ σ0 s0 σ s
section
variable {σ0:List ba}{s0:St}{φ j:Fr}{σ σ1:List ba}{a:Act}{s:St}
def At.rely(h:At σ0 s0 φ σ a s){d:St}(c:b5 s d):At σ0 s0 φ σ a d:=⟨h.fr.rely c h.hh,h.hh.rely c,h.st.trans c.stepW⟩
structure Ku(b:Nat)(s:St):Prop where
 own:¬s.own b
 β:∀L∈s.β,b∉L.bs
 M:∀o,s.M b o=af
 lt:b<s.w.heap.size
def Ku.step{b:Nat}(h:Ku b s0)(st:cJ σ0 s0 σ s):Ku b s :=
 ⟨by rw[st.own];exact h.own,λL d hb=>by
  rcases st.tB L d b hb with h1|⟨e,c,h1⟩
  .have:=h.lt;omega
  .exact h.β e c h1,λo=>by rw[st.iq b h.lt h.β];exact h.M o,cA h.lt st.size⟩
def At.apart{Wg:Nat}(d:Ku Wg s0):Apart Wg (At σ0 s0 φ σ a) :=
 ⟨λ_ _ h e=>h.rely e,λ_ h=>⟨σ,h.hh⟩,λ_ h=>let c:=d.step h.st;⟨c.own,c.β,c.M⟩⟩
variable {X:Cx ag}{S:ak->St->Prop}{b:Frame}{k:List Item}{cs:List Frame}
def At.ctl(h:At σ0 s0 φ σ a s){g g':ak}(e:g.status=.running)(d:∀w,aG ag X.main g w=.go g' w #[])(kk:∀c,At σ0 s0 φ σ a c->e9 X S g' c):e9 X S g s :=
 .ctl h.hh e d λc h1=>kk c (h.rely h1)
def At.code(h:At σ0 s0 φ σ a s)(hb:b.kind≠.early){c:Code}(g:AW X 45 c (NQ j σ1) φ σ)(kk:∀a1 s1,At σ0 s0 j σ1 a1 s1->e9 X S (G (b.aT a1 k) cs) s1):e9 X S (G (b.aT a (.code c::k)) cs) s:=by refine g s a h.fr h.hh b k cs S hb ?_;rintro e φ' σ' s' a' ⟨rfl,hl,rfl⟩ f i d;exact kk a' s' ⟨f.le hl,i,h.st.trans d⟩
end
def e9.live{Wg:Nat}{E:St->St->Array Event->Prop}{S:ak->St->Prop}{g:ak}{s:St}(h:e9 (Cx.lead ag 164 Wg) S g s)(e:Clear (λb=>b=Wg) s)(hl:WgLive 164 Wg s.w):
  dT (Cx.lead ag 164 Wg) E (λg s=>S g s/\WgLive 164 Wg s.w) g s:=by
 induction h with
 |stop h=>exact⟨.leaf,h,hl⟩
 |@step g s q ns ne hr h1 h2 _ n =>
  refine .step hr λf c=>?_;have i:=c.2 hl;have d:Clear (λb=>b=Wg) f:=⟨λb hb=>by rw[c.1.own];exact e.own b hb,λb hb=>by rw[c.1.β];exact e.β b hb,λb hb o=>by rw[c.1.M];exact e.M b hb o,λb hb=>cA (e.lt b hb) c.1.size⟩
  obtain⟨⟨σ,σ',hh,m,st⟩,l⟩:=h2 f c;refine⟨_,_,_,h1 f c,.inl ⟨⟨σ,σ',hh,m,st⟩,l⟩,n f c (d.step st) ?_⟩;obtain⟨x,y,p⟩:=i;exact⟨x,y,by show(ns f).w.heap[Wg]?=_;rw[st.keep Wg (d.lt Wg rfl) (d.β Wg rfl)];exact p⟩
 |ghost hg _ n=>exact .ghost hg (n (e.ghost hg) (by rw[hg.w];exact hl))
 |forget hx _ _ _=>exact hx.elim
 |wm hj _ _=>exact hj.elim
def Ku.clear{Wg:Nat}{s:St}(h:Ku Wg s):Clear (λb=>b=Wg) s:=⟨λb e=>e▸h.own,λb e=>e▸h.β,λb e=>e▸h.M,λb e=>e▸h.lt⟩
section
variable (k:Int)(ps:List bw)(ns:List Int)(C Wg:Nat)
def lW(i:Nat):Fr:=[(3,.e (.one (.c (.rp [.int .i64 k])))),(4,.e (.one (.c (.rp [.sl ae 2 ps.length (cP.fn ps)])))),(8,.e (.one (.c (.rp [.val (.slice (aa ⟨C,0,af⟩) ns.length ns.length)])))),(9,.e (.one (.v (.pointer (aa ⟨Wg,0,af⟩))))),
 (18,cI.sl ns),(19,dI ns.length),(20,dI i)]
variable {k ps ns C Wg}{X:Cx ag}{σ:List ba}
def Xn{i:Nat}(hi:i<=ns.length):AW X 45 Xl (NQ ((21,dB (decide (i<ns.length)))::lW k ps ns C Wg i) σ) (lW k ps ns C Wg i) σ:=by
 refine AK.of_code ?_;by_cases h:i<ns.length
 .refine aV [(21,ab)] rfl ?_ ⟨rfl,cG rfl ?_,rfl⟩
  .simp;omega
  .simp[h]
 .refine aV [(21,ae)] rfl ?_ ⟨rfl,cG rfl ?_,rfl⟩
  .simp;omega
  .simp[h]
abbrev d5:List ba:=[.dead,.dead,.dead,.dead,.dead]
def Z3{i:Nat}(hi:i<ns.length):AW X 45 Xm (NQ ((10,.e (.one (.ptr 5 0)))::(11,.e (.one (.ptr 6 0)))::lW k ps ns C Wg i) [.dead,.dead,.dead,.dead,.dead,.cells 3 [.c (.int .i64 i)],.cells 3 [.c (.int .i64 (ns.getD i 0))]]) (lW k ps ns C Wg i) d5:=by
 refine AK.of_code ?_;refine br rfl ?_ ⟨rfl,cG rfl ?_,?_⟩
 .simp;omega
 .simp
 grind
def Z4{i:Nat}(hi:i<ns.length)(c:ns.length<=4000000):AW X 45 Kt (NQ (lW k ps ns C Wg (i+1)) d5) (lW k ps ns C Wg i) d5:=by
 refine AK.of_code ?_;refine br rfl ?_ ⟨rfl,cG rfl ?_,rfl⟩
 .simp[bq];omega
 .simp
variable {σ0:List ba}{s0:St}{S:ak->St->Prop}{b:Frame}{kk:List Item}{cs:List Frame}
abbrev d7:List ba:=[.dead,.dead,.dead,.dead,.dead,.dead,.dead]
variable (k ps ns C Wg)in
abbrev pZ(i:Nat):Fr:=(11,.e (.one (.c (.rp [.int .i64 (ns.getD i 0)]))))::(10,.e (.one (.c (.rp [.int .i64 i]))))::lW k ps ns C Wg i
noncomputable abbrev rY(kk:List Item):List Item:=.code (.region 7 wH ae)::.inBlock 1::.code Kt::.inLoop hI::.inBlock 0::kk
def tP{P:aK}{main:Bool}{b:Frame}{a:Act}{k:List Item}{cs:List Frame}{w:aA}{c x y:Code}(h:c=.seq x y):aG P main (G (b.aT a (.code c::k)) cs) w=.go (G (b.aT a (.code x::.code y::k)) cs) w:=by grind[mK]
def toAdd{i:Nat}(hi:i<ns.length)(m:b.kind≠.early){a:Act}{s:St}(h:At σ0 s0 (lW k ps ns C Wg i) d5 a s)(K:∀n l,At σ0 s0 (pZ k ps ns C Wg i) d7 n l->e9 X S (G (b.aT n (.inRegion y7 [0]::rY kk)) cs) l):
  e9 X S (G (b.aT a (.code hI::.inLoop hI::.inBlock 0::kk)) cs) s:=by
 refine h.ctl rfl (λw=>tP AP) λs h=>?_;refine h.code m (Xn (Nat.le_of_lt hi)) λa s h=>?_;refine h.ctl rfl (λw=>mK) λs h=>?_;have q:a.eval (.tmp 21)=.bool ab:=by have:=h.fr.slot 21;simp only[hi,lx]at this;exact rd_bool (fp this)
 refine h.ctl rfl (λw=>tC q) λs h=>?_;refine h.ctl rfl (λw=>Dm) λs h=>?_;refine h.ctl rfl (λw=>mK) λs h=>?_;refine h.ctl rfl (λw=>qx) λs h=>?_;refine h.ctl rfl (λw=>mK) λs h=>?_;have h:At σ0 s0 (lW k ps ns C Wg i) d5 a s:=⟨h.fr.le (cG rfl (by simp)),h.hh,h.st⟩
 refine h.code m (Z3 hi) λa s h=>?_;obtain⟨l,w1,o,d,g⟩:=cf.freeze 10 5 (E:=3) (cs:=[.c (.int .i64 i)]) (cc:=[.int .i64 i]) rfl rfl rfl h.fr h.hh;refine .ghost (.of h.hh d w1 (g.nT h.hh)) ?_;obtain⟨s2,w2,p,f,e⟩:=cf.freeze 11 6 (E:=3) (cs:=[.c (.int .i64 (ns.getD i 0))]) (cc:=[.int .i64 (ns.getD i 0)]) rfl rfl rfl o d;refine .ghost (.of d f w2 (e.nT d)) ?_;have h:At σ0 s0 (pZ k ps ns C Wg i) d7 a s2:=⟨p.le (cG rfl (by simp)),f,h.st.trans ((g.nT h.hh).trans (e.nT d))⟩
 refine h.ctl rfl (λw=>mK) λs h=>?_;refine h.ctl rfl (λw=>oJ) λs h=>?_;exact K a s h
def o6:aB:={dst:=aa 25,op:=.call {callee:=.value (.func 120),args:=#[.tmp 9,.const (.int .i64 1)],argTypes:=#[164,3]},type:=0,pos:= "l12_snap.go:79",after:=#[],guard:=af}
theorem Ed:y7=#[o6]:=by kernel_rfl
def Iy{i:Nat}(m:b.kind≠.early){a:Act}{s:St}(h:At σ0 s0 (pZ k ps ns C Wg i) d7 a s)(K:∀c,At σ0 s0 (pZ k ps ns C Wg i) d7 a c->e9 X S (G (Frame.enter ag 120 #[.pointer (aa ⟨Wg,0,af⟩),.int .i64 1] .normal) (b.aT a (.inRegion y7 [0]::rY kk)::cs)) c):
  e9 X S (G (b.aT a (.inRegion y7 [0]::rY kk)) cs) s:=by
 refine .next rfl λc e=>?_;have d:=h.rely (X.hZ e);have l:a.eval (.tmp 9)=.pointer (aa ⟨Wg,0,af⟩):=Rd.eW (d.fr.slot 9);have g:(aq a.eval o6).run ag c.w=.ok (.enter 120 #[.pointer (aa ⟨Wg,0,af⟩),.int .i64 1]) c.w:=by have:=run_call_body (P:=ag) (a:=a) (w:=c.w) (o:=o6) (f:=120) (fn:=Tryz.f120) rfl Tryz.func120 (by kernel_rfl) (by kernel_rfl);rw[this,<-l];simp only[List.map_toArray,oE,List.map_nil];rfl
 have n:(aq a.eval o6).events ag c.w #[]=#[]:=events_call_body (P:=ag) (a:=a) (w:=c.w) (o:=o6) (f:=120) (fn:=Tryz.f120) rfl Tryz.func120 (by kernel_rfl) (by kernel_rfl) #[];have p:listed ag b.fn a o6 c.w=#[]:=by unfold listed;grind[seen_none]
 refine⟨_,c,#[],?_,.quiet d.hh,K c d⟩;have:=qz (P:=ag) (main:=X.main) (b:=b) (a:=a) (k:=rY kk) (cs:=cs) (w:=c.w) (ops:=y7) (i:=0) (rest:=[]) (o:=o6) (by grind[Ed]) rfl m g;grind
def Sr:aB:={dst:=aa 26,op:=.makeFunc (.func 121) #[] #[.tmp 9,.tmp 3,.tmp 4,.tmp 11,.tmp 8,.tmp 10],type:=1,pos:= "l12_snap.go:80",after:=#[],guard:=af}
def LQ:aB:={dst:=af,op:=.go {callee:=.value (.tmp 26),args:=#[],argTypes:=#[]},type:=0,pos:= "l12_snap.go:80",after:=#[⟨0,.data⟩],guard:=af}
theorem Ee:wH=[Sr,LQ].toArray:=by kernel_rfl
variable (k ps ns C Wg)in
abbrev CJ(i:Nat):AM.C:=.fn (.func 121) [] [.val (.pointer (aa ⟨Wg,0,af⟩)),.rp [.int .i64 k],.rp [.sl ae 2 ps.length (cP.fn ps)],.rp [.int .i64 (ns.getD i 0)],.rp [.val (.slice (aa ⟨C,0,af⟩) ns.length ns.length)],.rp [.int .i64 i]]
def Ss{i:Nat}:OA X 45 [Sr,LQ] Sr ((25,.any)::pZ k ps ns C Wg i) d7 (.e (.one (.c (CJ k ps ns C Wg i)))) d7:=by have h:wv tt [] [] [Sr,LQ] ((25,.any)::pZ k ps ns C Wg i) d7 Sr=aa (.e (.one (.c (CJ k ps ns C Wg i))),af,[]):=rfl;exact gD tok bA.nil h ar
def VK{i:Nat}(p:b.kind≠.early){a:Act}{s:St}(h:At σ0 s0 (pZ k ps ns C Wg i) d7 a s)(K:∀v m c,At σ0 s0 (pZ k ps ns C Wg i) d7 m c->Rd c.M v (CJ k ps ns C Wg i)->m.tmps.getD 26 ah=v->e9 X S (G (b.aT m (.inRegion wH [1]::.inBlock 1::.code Kt::.inLoop hI::.inBlock 0::kk)) cs) c):
  e9 X S (G (b.aT (a.put (aa 25) (.tuple #[])) (.inRegion y7 []::rY kk)) cs) s:=by
 have o:At σ0 s0 ((25,.any)::pZ k ps ns C Wg i) d7 (a.put (aa 25) (.tuple #[])) s:=⟨h.fr.put (by decide) ar,h.hh,h.st⟩
 refine o.ctl rfl (λw=>iu) λs h=>?_;refine h.ctl rfl (λw=>oJ) λs h=>?_;rw[Ee];refine Ss s _ h.fr h.hh b _ cs S 0 [1] p rfl λv c f l e=>?_;have f:Rd c.M v (CJ k ps ns C Wg i):=fp f;have n:=((h.fr.mono e h.hh.len).put (d:=26) (v:=v) (x:=.any) (by decide) ar)
 have g:26<(a.put (aa 25) (.tuple #[])).tmps.size:=by rw[h.fr.size];decide
 refine K v _ c ⟨n.le (cG rfl ?_),l,h.st.trans e⟩ f (Ht g);simp
def Po{i:Nat}(hi:i<ns.length)(n:ns.length<=4000000)(e:b.kind≠.early)(c:σ0.length<=5){a:Act}{s:St}(h:At σ0 s0 (pZ k ps ns C Wg i) d7 a s)(K:∀m l,At σ0 s0 (lW k ps ns C Wg (i+1)) d5 m l->e9 X S (G (b.aT m (.code hI::.inLoop hI::.inBlock 0::kk)) cs) l):
  e9 X S (G (b.aT a (.inRegion wH []::.inBlock 1::.code Kt::.inLoop hI::.inBlock 0::kk)) cs) s:=by
 have f:cf 45 (d5++[.dead,.dead]) s (lW k ps ns C Wg i) a:=h.fr.le (cG rfl (by simp));have d:aD (d5++[.dead,.dead]) s:=h.hh;have g:cJ σ0 s0 (d5++[.dead,.dead]) s:=h.st;have o:ey s (s.cut d5.length):=⟨rfl,λ_ _ _ h=>h,λ_ _ _=>rfl,d.mem,λb e=>e.imp id λ⟨L,q,e⟩=>⟨L,jr q,e⟩⟩
 refine .ghost o ?_;have h:At σ0 s0 (lW k ps ns C Wg i) d5 a (s.cut d5.length):=⟨⟨f.size,f.defers.imp λ_ p=>p.drop rfl,λt=>(f.slot t).drop (oV rfl)⟩,d.drop rfl,g.drop c⟩
 refine h.ctl rfl (λw=>iu) λs h=>?_;refine h.ctl rfl (λw=>pL) λs h=>?_;refine h.code e (Z4 hi n) λa s h=>?_;exact h.ctl rfl (λw=>wV) λs h=>K a s h
end
theorem vm{b:Frame}(c:b.roundOf=af)(a:Act)(t:List Item):b.aT a t=b.at ⟨a.tmps,a.defers++b.defers⟩ t:=by cases b;simp only at c;subst c;rfl
section
variable {k:Int}{ps:List bw}{ns:List Int}{Y:Lay}{val:Nat->Nat->aj}{σ0:List ba}{s0:St}{b:Frame}{kk:List Item}{cs:List Frame}
def NF{a:Act}{w:aA}{c c1 c2 c3 c4 c5:aj}(d:a.tmps.getD 26 ah=.func (.func 121) #[] #[c,c1,c2,c3,c4,c5]):(aq a.eval LQ).run ag w=.ok (.spawn (vk #[c,c1,c2,c3,c4,c5])) w/\(aq a.eval LQ).events ag w #[]=#[]:=by
 have e:a.eval (.tmp 26)=.func (.func 121) #[] #[c,c1,c2,c3,c4,c5]:=d;constructor
 .simp[aq,LQ,resolve,Deferred.ofValue,e,vk]
 .simp[aq,LQ,resolve,Deferred.ofValue,e]
def Su(l:dw (Cx.work ag) 123 (lf k))(n:Y.kc=2)(f:b.roundOf=af)(A:b.kind≠.early){i:Nat}(hi:i<ns.length)(m:val i 0=.string ⟨((du k ps (ns.getD i 0)).getD []).toArray⟩)(g:val i 1=.bool (du k ps (ns.getD i 0)).isSome){v:aj}{a:Act}{s:St}(h:At σ0 s0 (pZ k ps ns Y.C Y.Wg i) d7 a s)(B:WgLive 164 Y.Wg s.w)(D:Rd s.M v (CJ k ps ns Y.C Y.Wg i))(u:a.tmps.getD 26 ah=v){Next:ak->St->Prop}(K:∀c,At σ0 s0 (pZ k ps ns Y.C Y.Wg i) d7 a c->WgLive 164 Y.Wg c.w->Next (G (b.aT a (.inRegion wH []::.inBlock 1::.code Kt::.inLoop hI::.inBlock 0::kk)) cs) c):
  AtGo ag 164 Y (2*ns.length) val i Next (G (b.aT a (.inRegion wH [1]::.inBlock 1::.code Kt::.inLoop hI::.inBlock 0::kk)) cs) s:=by
 refine⟨rfl,λc d=>?_⟩;have x:=h.rely d.1;have t:Rd c.M v (CJ k ps ns Y.C Y.Wg i):=by rw[d.1.M];exact D
 cases t with
 |fn fs cc RJ RL f1 f2 g1 g2 r1 r2 =>
 have q:fs=[]:=jo RJ;subst q;have r:cc=[f2 0,f2 1,f2 2,f2 3,f2 4,f2 5]:=by
  apply gR;intro j;have RL:cc.length=6:=RL
  match j with
  |0=>grind
  |1=>grind
  |2=>grind
  |3=>grind
  |4=>grind
  |5=>grind
  |j+6=>grind
 subst r;have y:f2 0=.pointer (aa ⟨Y.Wg,0,af⟩):=Rd.eW (r2 0 _ rfl);obtain⟨z,E⟩:=NF (a:=a) (w:=c.w) u;have e:Go.Conc.listed ag b.fn ⟨a.tmps,a.defers++b.defers⟩ LQ c.w=#[]:=by unfold Go.Conc.listed;have:=(NF (a:=⟨a.tmps,a.defers++b.defers⟩) (w:=c.w) u).2;grind[seen_none]
 have p:=stepG_spawn (P:=ag) (main:=ab) (b:=b) (a:=⟨a.tmps,a.defers++b.defers⟩) (k:=.inBlock 1::.code Kt::.inLoop hI::.inBlock 0::kk) (cs:=cs) (w:=c.w) (ops:=wH) (i:=1) (rest:=[]) (o:=LQ) (by grind[Ee]) rfl A z rfl;refine⟨G (b.aT a (.inRegion wH []::.inBlock 1::.code Kt::.inLoop hI::.inBlock 0::kk)) cs,born ag (vk #[f2 0,f2 1,f2 2,f2 3,f2 4,f2 5]),?_,rfl,?_,K c x (d.2 B)⟩
 .rw[vm f,vm f,p,e];rfl
 .rw[y];exact worker l hi n m g (s:=c.child) ⟨x.hh.mem,rfl,by simp,by simp[St.child],by simp[St.child],by simp[St.child]⟩ rfl (r2 1 _ rfl) (r2 2 _ rfl) (r2 3 _ rfl) (r2 4 _ rfl) (r2 5 _ rfl)
def o9:aB:={dst:=aa 28,op:=.call {callee:=.value (.func 124),args:=#[.tmp 9],argTypes:=#[164]},type:=0,pos:= "l12_snap.go:85",after:=#[],guard:=af}
theorem Ef:wI=#[o9]:=by kernel_rfl
variable {X:Cx ag}{S:ak->St->Prop}
def Pp(g:b.kind≠.early){C Wg:Nat}{a:Act}{s:St}(h:At σ0 s0 (lW k ps ns C Wg ns.length) d5 a s)(K:∀j c,At σ0 s0 (lW k ps ns C Wg ns.length) d5 j c->e9 X S (G (Frame.enter ag 124 #[.pointer (aa ⟨Wg,0,af⟩)] .normal) (b.aT j (.inRegion wI [0]::.code py::kk)::cs)) c):
  e9 X S (G (b.aT a (.code hI::.inLoop hI::.inBlock 0::.code ml::kk)) cs) s:=by
 refine h.ctl rfl (λw=>tP AP) λs h=>?_;refine h.code g (Xn (aZ _)) λa s h=>?_;refine h.ctl rfl (λw=>mK) λs h=>?_;have n:a.eval (.tmp 21)=.bool ae:=by have:=h.fr.slot 21;simp only[Nat.lt_irrefl,kr]at this;exact rd_bool (fp this)
 refine h.ctl rfl (λw=>tC n) λs h=>?_;refine h.ctl rfl (λw=>ye (k':=.code ml::kk) rfl) λs h=>?_;refine h.ctl rfl (λw=>tP Ix) λs h=>?_;refine h.ctl rfl (λw=>oJ) λs h=>?_;have h:At σ0 s0 (lW k ps ns C Wg ns.length) d5 a s:=⟨h.fr.le (cG rfl (by simp)),h.hh,h.st⟩
 refine .next rfl λc d=>?_;have e:=h.rely (X.hZ d);have q:a.eval (.tmp 9)=.pointer (aa ⟨Wg,0,af⟩):=Rd.eW (e.fr.slot 9);have l:(aq a.eval o9).run ag c.w=.ok (.enter 124 #[.pointer (aa ⟨Wg,0,af⟩)]) c.w:=by have:=run_call_body (P:=ag) (a:=a) (w:=c.w) (o:=o9) (f:=124) (fn:=Tryz.f124) rfl Tryz.func124 (by kernel_rfl) (by kernel_rfl);grind
 have p:(aq a.eval o9).events ag c.w #[]=#[]:=events_call_body (P:=ag) (a:=a) (w:=c.w) (o:=o9) (f:=124) (fn:=Tryz.f124) rfl Tryz.func124 (by kernel_rfl) (by kernel_rfl) #[];have m:Go.Conc.listed ag b.fn a o9 c.w=#[]:=by unfold Go.Conc.listed;grind[seen_none]
 refine⟨_,c,#[],?_,.quiet e.hh,K a c e⟩;have:=qz (P:=ag) (main:=X.main) (b:=b) (a:=a) (k:=.code py::kk) (cs:=cs) (w:=c.w) (ops:=wI) (i:=0) (rest:=[]) (o:=o9) (by grind[Ef]) rfl g l;rw[m]at this;exact this
section
variable (k ps ns Y σ0 s0 b kk cs)
def T6(g:ak)(s:St):Prop:=∃a,D5 ag NC Y (At σ0 s0 (lW k ps ns Y.C Y.Wg ns.length) d5 a) (b.aT a (.inRegion wI [0]::.code py::kk)) cs g s
def TF(g:ak)(s:St):Prop:=∃a,TW ag NC Y (At σ0 s0 (lW k ps ns Y.C Y.Wg ns.length) d5 a) (G (b.aT (a.put (aa 28) (.tuple #[])) (.inRegion wI []::.code py::kk)) cs) g s
end
def Z5(f:Ku Y.Wg s0)(c:b.roundOf=af){g:ak}{s:St}(h:T6 k ps ns Y σ0 s0 b kk cs g s):
  dT (Cx.lead ag 164 Y.Wg) (Es Y.Wg) (AtW1 ag 164 Y (TF k ps ns Y σ0 s0 b kk cs) (T6 k ps ns Y σ0 s0 b kk cs)) g s:=by
 obtain⟨a,h⟩:=h;have e:(wI[0]?).bind (·.dst)=aa 28:=by rw[Ef];rfl
 rw[vm c]at h;refine R6 (P:=ag) (L:=NC) (b₀:=b) (a₀:=⟨a.tmps,a.defers++b.defers⟩) (ops₀:=wI) (i₀:=0) (rest₀:=[]) (k₀:=.code py::kk) (cs:=cs) AO (At.apart f) (λg s d=>⟨a,?_⟩) (λg s i=>⟨a,?_⟩) h
 .rw[vm c];rw[e]at d;exact d
 grind[vm]
def Fy{P:aK}{ty:ay}{N n:Nat}{a:ak->St->Prop}:∀(r:Nat){g:ak}{s:St},dT (Cx.lead P ty Y.Wg) (Es Y.Wg) (λg s=>Spawns P ty Y N val n a r g s) g s->Spawns P ty Y N val n a r g s
 |0,_,_,h=>dT.bind h λ_ _ x=>x
 |_+1,_,_,h=>dT.bind h λ_ _ x=>x
def LR(u:dw (Cx.work ag) 123 (lf k))(A:Y.kc=2)(l:Ku Y.Wg s0)(f:b.roundOf=af)(m:b.kind≠.early)(n:σ0.length<=5)(B:ns.length<=4000000)(z:∀i,i<ns.length->val i 0=.string ⟨((du k ps (ns.getD i 0)).getD []).toArray⟩)(t:∀i,i<ns.length->val i 1=.bool (du k ps (ns.getD i 0)).isSome):
  ∀(r:Nat),r<=ns.length->∀(a:Act) (s:St),At σ0 s0 (lW k ps ns Y.C Y.Wg (ns.length-r)) d5 a s->WgLive 164 Y.Wg s.w ->
   Spawns ag 164 Y (2*ns.length) val ns.length (T6 k ps ns Y σ0 s0 b kk cs) r (G (b.aT a (.code hI::.inLoop hI::.inBlock 0::.code ml::kk)) cs) s:=by
 intro r;induction r with
 |zero =>
  intro _ a s h c;rw[kt]at h;have:=e9.live (E:=Es Y.Wg) (Pp (X:=Cx.lead ag 164 Y.Wg) (kk:=kk) (cs:=cs) (S:=λg s=>∃a,g=G (Frame.enter ag 124 #[.pointer (aa ⟨Y.Wg,0,af⟩)] .normal) (b.aT a (.inRegion wI [0]::.code py::kk)::cs)/\At σ0 s0 (lW k ps ns Y.C Y.Wg ns.length) d5 a s) m h λj o d=>.stop ⟨j,rfl,d⟩) (l.step h.st).clear c;refine dT.bind this ?_;rintro g s ⟨⟨a,rfl,h⟩,c⟩;exact R8 (P:=ag) (L:=NC) (Y:=Y) AO (At.apart l) (λg s D=>⟨a,D⟩) ⟨h,c⟩
 |succ r I =>
  intro J a s h c;have hi:ns.length-(r+1)<ns.length:=by omega
  generalize q:ns.length-(r+1)=i at h hi;have:=e9.live (E:=Es Y.Wg) (toAdd (X:=Cx.lead ag 164 Y.Wg) (kk:=.code ml::kk) (cs:=cs) (S:=λg s=>∃a,g=G (Frame.enter ag 120 #[.pointer (aa ⟨Y.Wg,0,af⟩),.int .i64 1] .normal) (b.aT a (.inRegion y7 [0]::rY (.code ml::kk))::cs)/\At σ0 s0 (pZ k ps ns Y.C Y.Wg i) d7 a s) hi m h λj o d=>Iy m d λs2 h2=>.stop ⟨j,rfl,h2⟩) (l.step h.st).clear c;refine dT.bind this ?_;rintro g s ⟨⟨a,rfl,h⟩,c⟩;have H:(y7[0]?).bind (·.dst)=aa 25:=by rw[Ed];rfl
  rw[vm f];refine Vz (P:=ag) (L:=NC) (Y:=Y) (F:=At σ0 s0 (pZ k ps ns Y.C Y.Wg i) d7 a) AO (At.apart l) (λs y=>?_) ⟨h,c⟩;rw[H];have:=e9.live (E:=Es Y.Wg) (VK (X:=Cx.lead ag 164 Y.Wg) (kk:=.code ml::kk) (cs:=cs) (S:=λg s=>∃v a,g=G (b.aT a (.inRegion wH [1]::.inBlock 1::.code Kt::.inLoop hI::.inBlock 0::.code ml::kk)) cs/\At σ0 s0 (pZ k ps ns Y.C Y.Wg i) d7 a s/\Rd s.M v (CJ k ps ns Y.C Y.Wg i)/\a.tmps.getD 26 ah=v) m y.1 λv j o d p e=>.stop ⟨v,j,rfl,d,p,e⟩) (l.step y.1.st).clear y.2;rw[vm f]at this;refine dT.bind this ?_;rintro g s ⟨⟨v,a,rfl,h,p,e⟩,c⟩;rw[q];refine⟨.leaf,Su u A f m hi (z i hi) (t i hi) h c p e λo d x=>?_⟩;refine Fy r ?_;have:=e9.live (E:=Es Y.Wg) (Po (X:=Cx.lead ag 164 Y.Wg) (kk:=.code ml::kk) (cs:=cs) (S:=λg s=>∃a,g=G (b.aT a (.code hI::.inLoop hI::.inBlock 0::.code ml::kk)) cs/\At σ0 s0 (lW k ps ns Y.C Y.Wg (i+1)) d5 a s) hi B m n d λj o d=>.stop ⟨j,rfl,d⟩) (l.step d.st).clear x;refine dT.bind this ?_;rintro g s ⟨⟨a,rfl,h⟩,c⟩;refine⟨.leaf,I (by omega) a s ?_ c⟩;grind
end
end
section
variable {X:Cx ag}[X.gY]
def Qd(t:List bu):∀i,i<t.length->(cF.fn t i).length=2/\∀c∈cF.fn t i,s8 c=ab:=by intro i _;refine⟨rfl,λc a=>?_⟩;simp only[jX.fn,xo,cF,dD,oA,or_false]at a;rcases a with rfl|rfl<;>rfl
abbrev JE(t:List bu)(xs:List aj):Prop:=gZ 2 t.length (cF.fn t) xs
abbrev bK(bf:s9)(n:Nat)(xs:List aj):ba:=.cp (iv 110 2 bf n xs)
abbrev tKB(bf:s9)(n:Nat)(b:Bool):D:=.fe [.one (.v (rz bf n)),.one (.c (.bool b))]
def Bl(t:List bu)(p x:Bs):dK (ι:={q:s9×List aj // JE (dN t p x).1 q.2}) X 86 [cF.sl t,dS p,dS x] [] (λq=>tKB q.1.1 (dN t p x).1.length (dN t p x).2) (λq=>[bK q.1.1 (dN t p x).1.length q.1.2]) :=
 (sV t p x).thaw Tryz.func86 rfl (by simp[tM,oc,o0,lH,ud,s8]) (Qd _)
def gZ.nil:gZ k 0 es []:=⟨by simp,λi hi=>by omega,λi hi=>by omega⟩
def Ga{t:List bu}{p x:Bs}(h:(dN t p x).2=ab):(dN t p x).1.length<=6:=by
 unfold dN at h⊢;split at h
 .rename_i b;rw[bt b];split at h
  .rename_i a;rw[bt a];exact m9 a
  grind
 grind
def Tg(h:o.op=.call {callee:=.builtin .append,args:=#[x,y],argTypes:=#[69,69]}):kQ ag o x y 110 i110 :=
 ⟨⟨69,69,i69,i69,h,(tok _ _ rfl),rfl,(tok _ _ rfl),rfl⟩,(tok _ _ rfl),by decide,by decide⟩
def JF{p:Bs}(h:p.length<=9223372036854775807):Rd M (GB p) (.str p):=Rd.str rfl h
def JE.snoc{t:List bu}{xs:List aj}(h:JE t xs)(p x:Bs)(b:p.length<=9223372036854775807)(d:x.length<=9223372036854775807):JE (t++[(p,x)]) (xs++[GB p,GB x]):=by
 unfold JE;rw[b9];refine gZ.snoc h (λi hi=>?_) rfl rfl λq c a=>?_
 .simp[jX.fn,xo,ai,jq hi]
 .have e:cF.fn (t++[(p,x)]) t.length=[.str p,.str x]:=by simp[jX.fn,xo,cF]
  rw[e]at a;rcases q with _|_|q
  .simp at a;subst a;exact⟨GB p,rfl,λM=>JF b⟩
  .simp at a;subst a;exact⟨GB x,rfl,λM=>JF d⟩
  grind
def JE.MA{t:List bu}{xs:List aj}(h:JE t xs)(i:Nat)(hi:i<t.length)(x:Bs)(d:mN vs [.c (.str x)]):JE (t.set i ((t.getD i cF.bG).1,x)) (xs.take (i*2+1)++vs++xs.drop (i*2+1+vs.length)):=by
 unfold JE;rw[List.length_set];refine gZ.eQ h i 1 hi d (aZ _) (λg f a=>?_) rfl λq c b=>?_
 .simp[jX.fn,xo,ai,Ne.symm a]
 .have e:cF.fn (t.set i ((t.getD i cF.bG).1,x)) i=[.str (t.getD i cF.bG).1,.str x]:=by simp[jX.fn,xo,cF,ai,hi]
  rw[e]at b;rcases q with _|_|q
  .right;simp at b;subst b;exact⟨by omega,rfl⟩
  .grind
  grind
structure Th(k c:Nat) where
 t:List bu
 bf:s9
 xs:List aj
 k1:Nat
 fl:JE t xs
 hl:t.length<=7
 h1:k<=k1
 h2:k1<=k+c
set_option maxRecDepth 20000 in
def Mb(m:Nat)(b:Nat->Int)(r:Bytes b)(k:Nat)(U:k<=50000)(i:m<=1048576):
  dK (ι:=Th k 400) X 103 [.e (.one (.ptr 0 0))] [j0 m b k] (λq=>.e (.one (.v (rz q.bf q.t.length)))) (λq=>[j0 m b q.k1,bK q.bf q.t.length q.xs]):=by
 refine dK.nw Tryz.func103 rfl rfl rfl λL=>?_;refine Fl [] 9 rfl ar ?_;refine AK.KM 3 110 2 rfl λA=>?_;refine br rfl ar ?_;refine AK.cP (gm m b r k 6 (by omega) i (by omega)) [0] rfl (λ_=>rfl) ?_;rintro⟨v,v0,v1⟩;refine br rfl ar ?_;refine AK.bS 2 (λs:Nat×List bu×s9×List aj×Nat=>s.1<=5/\JE s.2.1 s.2.2.2.1/\s.2.1.length<=6/\k<=s.2.2.2.2/\s.2.2.2.2+70*s.1<=k+351) (λs=>[(0,.e (.one (.ptr 0 0))),(4,dI s.1),(3,.e (.one (.v (rz s.2.2.1 s.2.1.length))))]) (λs=>[j0 m b s.2.2.2.2,bK s.2.2.1 s.2.1.length s.2.2.2.1]) (λs=>s.1) (v.toNat,[],A,[],k+1) rfl ?_ rfl ?_ rfl ⟨by omega,gZ.nil,by simp,by simp,by grind⟩ ?_
 .simp;omega
 .simp
 rintro⟨n,t,bf,xs,k1⟩ ⟨K,f,N,J,G⟩;simp only at K f N J G;by_cases H:0<n
 .refine aV [(11,ab)] rfl (by simp[H]) ?_;refine AK.cP (tX m b r k1 (by omega) i) [0] rfl (λ_=>rfl) ?_;rintro⟨p,Q⟩;refine br rfl ar ?_;refine AK.cP (Ey m b r (k1+1+1) (by omega) i) [0] rfl (λ_=>rfl) ?_;rintro⟨⟨x,F⟩,I,B,w⟩;simp only at I B w;refine br rfl ar ?_;refine AK.HD (Bl t p x) 1 0 rfl rfl rfl rfl (iv.Du rfl (cF.fn t) f.rd) rfl ?_ rfl (λ_=>rfl) (λ_=>rfl) rfl ?_
  .simp
  rintro⟨⟨d,xs'⟩,g⟩;simp only at g⊢;cases z:(dN t p x).2 with
  |true =>
   have C:=Ga z;generalize(dN t p x).1=t' at g C⊢;refine Fl [] 6 rfl ar ?_;refine AK.swap 1 2 (by decide) rfl rfl (λv P h=>h.1) (λv P h=>h.1) ?_;refine aV [(23,ab)] rfl ?_ (AK.aQ (n-1,t',d,xs',F) rfl ?_ ?_ ?_ ?_)
   .simp[bq];omega
   .simp;omega
   .simp
   .grind
   grind
  |false =>
   refine aV [(23,ae)] rfl ?_ (AK.aQ (n-1,t,bf,xs,F) rfl ?_ ?_ ?_ ?_)
   .simp[bq];omega
   .simp;omega
   .simp
   .grind
   grind
 .obtain rfl:n=0:=by omega
  refine aV [(11,ae)] rfl (by simp) (AK.leaveD rfl rfl ?_);refine br rfl ar ?_;refine AK.cP (gm m b r k1 40 (by omega) i (by omega)) [0] rfl (λ_=>rfl) ?_;rintro⟨u,T,R⟩;by_cases E:u=0
  .refine aV [(27,ab)] rfl (by simp[E]) ?_;refine AK.cP (tX m b r (k1+1) (by omega) i) [0] rfl (λ_=>rfl) ?_;rintro⟨p,Q⟩;refine br rfl ar ?_;refine AK.pM (l:=1) (bf:=bf) (xs:=xs) (n:=t.length) (xv:=[GB p,GB [97]]) (Tg rfl) rfl rfl rfl rfl rfl rfl rfl rfl (λM v j c V S=>?_) (by show _*32<=_;omega) λd=>?_
   .grind [str_val]
   refine br rfl ar (AK.kl ⟨t++[(p,[97])],d,xs++[GB p,GB [97]],k1+1+1+1,f.snoc p [97] (by omega) (by decide),by grind,by omega,by omega⟩ (AK.dA [0,1] rfl ?_ ?_ rfl rfl ?_))
   .simp
   .simp;rfl
   grind
  by_cases a:u=1
  .by_cases y:0<t.length
   .refine AK.M6 (iv.len (l:=1) rfl) λD=>?_;obtain⟨O,cap,rfl⟩:=D.2.2.1 y;refine aV [(27,ae),(35,ab),(39,ab)] rfl ?_ ?_
    .simp[y,a];omega
    refine AK.BS tok 1 rfl rfl rfl rfl rfl rfl rfl ?_ rfl rfl λvs M5=>?_
    .grind
    have o:=f.MA 0 y [65] M5;refine br rfl ar (AK.kl ⟨t.set 0 ((t.getD 0 cF.bG).1,[65]),.row O cap,_,k1+1,o,by grind,by omega,by omega⟩ (AK.dA [0,1] rfl ?_ ?_ rfl rfl ?_))
    .simp
    .simp;rfl
    grind
   .cases bf;all_goals
     refine aV [(27,ae),(35,ab),(39,ae)] rfl ?_ (AK.kl ⟨t,_,xs,k1+1,f,by omega,by omega,by omega⟩ (AK.dA [0,1] rfl ?_ rfl rfl rfl ?_))
     .simp[y,a]<;>omega
     .simp
     grind
  .refine aV [(27,ae),(35,ae)] rfl (by simp[E,a]) (AK.kl ⟨t,bf,xs,k1+1,f,by omega,by omega,by omega⟩ (AK.dA [0,1] rfl ?_ rfl rfl rfl ?_))
   .simp
   grind
end
end R1
abbrev MD(a b:Bs)(c:Bool):D:=.fe [.one (.c (.str a)),.one (.c (.str b)),.one (.c (.bool c))]
namespace R1
variable {X:Cx ag}
def wN(s:Bs)(c:Int)(h:0<=c/\c<=255):Ev X 231 [dS s,dU c] [] (dI (Lib.indexByte s (UInt8.ofNat (Int.toNat c)))) []:=by
 have e:c=((UInt8.ofNat c.toNat).toNat:Int):=by grind[UInt8.toNat_ofNat']
 grind[zq]
def Qg:di:=λargs σ=>match args,σ with
 |[.e (.one (.c (.str a))),.e (.one (.c (.int .u8 b)))],[]=>aa (dI (Lib.indexByte a (UInt8.ofNat (Int.toNat b))),[],[0<=b/\b<=255])
 |_,_=>af
def t231:dw X 231 Qg:=by
 intro args σ res σ' obs h a;unfold Qg at h;split at h
 .cases h;exact(wN _ _ (a)).args (λ_ _ r=>r)
 .cases h
def Ti:List (Nat×di):=(231,Qg)::XC
def JH:bA X Ti:=bA.cons t231 (Wl)
def hO(s:Bs):Int:=Lib.indexByte s 47
theorem JI(s:Bs):Ev X 224 [dS s,dS [47]] [] (dI (hO s)) []:=by
 refine Ev.bQ Tryz.func224 rfl λa=>?_;by_cases h:s=[47]
 .subst h;refine aM JH [(18,ae),(22,ab)] rfl ?_ (AK.bg rfl ?_)
  .simp
  .simp[hO,Lib.indexByte.eq_def]
 .refine aM JH [(18,ae),(22,ae),(26,ab)] rfl ?_ (AK.bg rfl ?_)
  .simp[cr,cq];grind
  .simp[hO,ik]
def Qh:di:=λargs σ=>match args,σ with
 |[.e (.one (.c (.str a))),.e (.one (.c (.str [47])))],[]=>aa (dI (hO a),[],[])
 |_,_=>af
def t224:dw X 224 Qh:=by intro args σ res σ' obs h a;unfold Qh at h;grind[JI]
def Tj:List (Nat×di):=(224,Qh)::Ti
def JJ:bA X Tj:=bA.cons t224 (JH)
def iN(s:Bs):Bs:=if 0<=hO s then s.take (hO s).toNat else s
def lL(s:Bs):Bs:=if 0<=hO s then s.drop ((hO s).toNat+1)else[]
def jm(s:Bs):Bool:=decide (0<=hO s)
theorem JK(s:Bs):Ev X 212 [dS s,dS [47]] [] (MD (iN s) (lL s) (jm s)) []:=by
 refine Ev.bQ Tryz.func212 rfl λc=>?_;have d:=c.str 0 rfl;have a:=kH s 47;change hO s<s.length∨hO s=-1 at a;by_cases h:0<=hO s
 .have b:(hO s+1).toNat=(hO s).toNat+1:=by omega
  refine aM JJ [(12,ab)] rfl ?_ (AK.bg rfl ?_)
  .simp[h,bq];omega
  .simp[iN,lL,jm,h,qH,b]
 .refine aM JJ [(12,ae)] rfl ?_ (AK.bg rfl ?_)
  .simp;omega
  .simp[iN,lL,jm,h]
def Qi:di:=λargs σ=>match args,σ with
 |[.e (.one (.c (.str a))),.e (.one (.c (.str [47])))],[]=>aa (MD (iN a) (lL a) (jm a),[],[])
 |_,_=>af
def t212:dw X 212 Qi:=by intro args σ res σ' obs h a;unfold Qi at h;grind[JK]
def Tk:List (Nat×di):=(212,Qi)::Tj
def NT:bA X Tk:=bA.cons t212 (JJ)
theorem Qj(s:Bs):Ev X 184 [dS s,dS [47]] [] (MD (iN s) (lL s) (jm s)) []:=by refine Ev.bQ Tryz.func184 rfl λa=>?_;exact bR NT rfl ar (AK.bg rfl)
def Qk:di:=λargs σ=>match args,σ with
 |[.e (.one (.c (.str a))),.e (.one (.c (.str [47])))],[]=>aa (MD (iN a) (lL a) (jm a),[],[])
 |_,_=>af
def t184:dw X 184 Qk:=by intro args σ res σ' obs h a;unfold Qk at h;grind[Qj]
def cj(s:Bs):Bool:=decide (s.length=1)&&decide (97<=cq s 0)&&decide (cq s 0<=101)
theorem tj(s:Bs):Ev X 185 [dS s] [] (dB (cj s)) []:=by
 refine Ev.bQ Tryz.func185 rfl λc=>?_;by_cases b:s.length=1
 .by_cases a:97<=cq s 0
  .refine aV [(5,ab),(9,ab)] rfl ?_ (AK.bg rfl ?_)
   .simp only[au,bc];grind[cr]
   .show decide (cq s 0<=101)=cj s;simp[cj,b,a]
  .refine aV [(5,ab),(9,ae)] rfl ?_ (AK.bg rfl ?_)
   .simp only[au,bY];grind[cr]
   .simp[cj,a]
 .refine aV [(5,ae)] rfl ?_ (AK.bg rfl ?_)
  .simp;omega
  .simp[cj,b]
def Ql:di:=λargs σ=>match args,σ with
 |[.e (.one (.c (.str a)))],[]=>aa (dB (cj a),[],[])
 |_,_=>af
def t185:dw X 185 Ql:=by intro args σ res σ' obs h a;unfold Ql at h;grind[tj]
def Tl:List (Nat×di):=(184,Qk)::(185,Ql)::Tk
def EA:bA X Tl:=bA.cons t184 (bA.cons t185 (NT))
def eD(s:Bs):Bool:=cj (iN s)&&(!jm s||cj (lL s))
theorem Da(s:Bs):Ev X 129 [dS s] [] (dB (eD s)) []:=by
 refine Ev.bQ Tryz.func129 rfl λc=>?_;cases a:cj (iN s)with
 |false =>
  refine aM EA [(13,ae)] rfl ?_ (AK.bg rfl ?_)
  .simp[a]
  .simp[eD,a]
 |true =>
  cases b:jm s with
  |false =>
   refine aM EA [(13,ab),(15,ae)] rfl ?_ (AK.bg rfl ?_)
   .simp[a,b]
   .simp[eD,a,b]
  |true =>
   refine aM EA [(13,ab),(15,ab)] rfl ?_ (AK.bg rfl ?_)
   .simp[a,b]
   .simp[eD,a,b]
def Qm:di:=λargs σ=>match args,σ with
 |[.e (.one (.c (.str a)))],[]=>aa (dB (eD a),[],[])
 |_,_=>af
def t129:dw X 129 Qm:=by intro args σ res σ' obs h a;unfold Qm at h;grind[Da]
theorem Bo(s:Bs):Ev X 182 [dS s] [] (dB (bX s)) []:=by
 refine Ev.bQ Tryz.func182 rfl λe=>?_;have f:=e.str 0 rfl;refine br rfl ar ?_;refine AK.iM (λi=>i<=s.length/\∀j,j<i->et (s.getD j 0)=ab) (λi:Nat=>[(0,dS s),(5,dI s.length),(6,dI i)]) (λ_=>[]) (λi=>s.length-i) 0 rfl ?_ rfl ar ⟨by omega,by omega⟩ ?_
 .simp
 rintro i ⟨hi,c⟩;by_cases h:i<s.length
 .generalize a:s.getD i 0=b;by_cases k:b.toNat<97
  .refine aV [(7,ab),(12,ab)] rfl ?_ (AK.gu (b7.zero rfl ?_))
   .simp only[au,jH,bc,a];omega
   .rw[au,jO h (by rw[a];simp only[et,qh,bY];omega)]
  .by_cases g:b.toNat>122
   .refine aV [(7,ab),(12,ae),(17,ab)] rfl ?_ (AK.gu (b7.zero rfl ?_))
    .simp only[au,jH,bc,bY,a];omega
    .rw[au,jO h (by rw[a];simp only[et,qh,bY];omega)]
   .refine aV [(7,ab),(12,ae),(17,ae)] rfl ?_ (AK.fa (i+1) rfl ?_ rfl ar ?_ ?_)
    .simp only[au,jH,bc,bY,a,bq];omega
    .simp
    .refine⟨by omega,λj d=>?_⟩;rcases tm.1 d with d|rfl
     .grind
     .rw[a];simp only[et,bP,bc];omega
    .omega
 .refine aV [(7,ae)] rfl (by simp;omega) (AK.leave rfl rfl ?_);refine br rfl ar (AK.bg rfl ?_);rw[au,ri (λj d=>c j (by omega))]
def Qn:di:=λargs σ=>match args,σ with
 |[.e (.one (.c (.str a)))],[]=>aa (dB (bX a),[],[])
 |_,_=>af
def t182:dw X 182 Qn:=by intro args σ res σ' obs h a;unfold Qn at h;grind[Bo]
def Tm:List (Nat×di):=(129,Qm)::(182,Qn)::Tl
def JL:bA X Tm:=bA.cons t129 (bA.cons t182 (EA))
theorem vh(s:Bs):Ev X 126 [dS s] [] (dB (dO s)) []:=by
 refine Ev.bQ Tryz.func126 rfl λb=>?_;by_cases a:s.length<=40
 .refine aM JL [(5,ab)] rfl ?_ (AK.bg rfl ?_)
  .simp;omega
  .simp[dO,a]
 .refine aM JL [(5,ae)] rfl ?_ (AK.bg rfl ?_)
  .simp;omega
  .simp[dO,a]
def Qo:di:=λargs σ=>match args,σ with
 |[.e (.one (.c (.str a)))],[]=>aa (dB (dO a),[],[])
 |_,_=>af
def t126:dw X 126 Qo:=by intro args σ res σ' obs h a;unfold Qo at h;grind[vh]
def ko(s p:Bs):Bool:=decide (p.length<=s.length)&&(s.take p.length==p)
theorem Bp(s p:Bs):Ev X 187 [dS s,dS p] [] (dB (ko s p)) []:=by
 refine Ev.bQ Tryz.func187 rfl λb=>?_;by_cases a:p.length<=s.length
 .refine aV [(9,ab)] rfl ?_ (AK.bg rfl ?_)
  .simp[a]
  .simp[ko,a,qH]
 .refine aV [(9,ae)] rfl ?_ (AK.bg rfl ?_)
  .simp;omega
  .simp[ko,a]
def Qp:di:=λargs σ=>match args,σ with
 |[.e (.one (.c (.str a))),.e (.one (.c (.str b)))],[]=>aa (dB (ko a b),[],[])
 |_,_=>af
def t187:dw X 187 Qp:=by intro args σ res σ' obs h a;unfold Qp at h;grind[Bp]
def Tn:List (Nat×di):=(126,Qo)::(187,Qp)::Tm
def NU:bA X Tn:=bA.cons t126 (bA.cons t187 (JL))
theorem Gd(s p:Bs):Ev X 132 [dS s,dS p] [] (dB (ko s p)) []:=by refine Ev.bQ Tryz.func132 rfl λa=>?_;exact bR NU rfl ar (AK.bg rfl)
def Qq:di:=λargs σ=>match args,σ with
 |[.e (.one (.c (.str a))),.e (.one (.c (.str b)))],[]=>aa (dB (ko a b),[],[])
 |_,_=>af
def t132:dw X 132 Qq:=by intro args σ res σ' obs h a;unfold Qq at h;grind[Gd]
def To:List (Nat×di):=(132,Qq)::Tn
def NV:bA X To:=bA.cons t132 (NU)
end R1
def jX.JM(c:jX α)(l:List α)(k n:Nat)(h:k+n<=l.length):c.list n (lV k (c.fn l))=(l.drop k).take n:=by
 apply tu
 .simp[jX.list];omega
 .intro i h1 h2;have hi:i<n:=by grind
  simp[jX.list,lV,jX.fn,xo,ai,bd (by omega:k+i<l.length),c.inv]
def jX.JN(c:jX α)(l:List α):c.fits n (lV k (c.fn l)):=λi _=>by simp[lV,jX.fn,xo,c.inv]
abbrev dR(p x:Bs):D:=.e (.one (.c (.rp [.str p,.str x])))
namespace R1
variable {X:Cx ag}
def under(p q:Bs):Bool:=ko p (q++[47])
def JO(a:bu)(p x:Bs)(h:a.1.length<=4000000):Ev X 131 [dP a,dR p x] [] (dB (under p a.1)) []:=by
 refine Ev.bQ Tryz.func131 rfl λb=>?_;refine bR NV rfl ?_ (AK.bg rfl ?_)
 .simp;omega
 .simp[under]
def Qs:di:=λargs σ=>match args,σ with
 |[.e (.agg [.c (.str a0),.c (.str a1)]),.e (.one (.c (.rp [.str p,.str x])))],[]=>aa (dB (under p a0),[],[a0.length<=4000000/\a1=a1/\x=x])
 |_,_=>af
def t131:dw X 131 Qs:=by
 intro args σ res σ' obs h a;unfold Qs at h;split at h
 .rename_i c b p x;cases h;exact JO (c,b) p x a.1
 grind
def Tp:List (Nat×di):=(131,Qs)::To
def xO:bA X Tp:=bA.cons t131 (NV)
abbrev JP(p x:Bs):D:=.e (.one (.c (.fn (.func 131) [] [.rp [.str p,.str x]])))
def tk(t:List bu)(p:Bs):Int:=match t.findIdx? (λf=>under p f.1)with|some i=>i|none=>-1
def ME{t:List bu}{p:Bs}(hi:i<t.length)(h:under p (eL t i)=ab)(a:∀j,j<i->under p (eL t j)=ae):tk t p=i:=by
 have:t.findIdx? (λf=>under p f.1)=aa i:=by grind[List.findIdx?_eq_some_iff_getElem,fileAt]
 rw[tk,this]
theorem xP{t:List bu}{p:Bs}(a:∀j,j<t.length->under p (eL t j)=ae):tk t p=-1:=by
 have:t.findIdx? (λf=>under p f.1)=af:=by grind[List.getElem_of_mem,fileAt]
 rw[tk,this]
def MF(t:List bu)(p x:Bs)(f:∀j,j<t.length->(eL t j).length<=4000000):Ev X 186 [cF.sl t,JP p x] [] (dI (tk t p)) []:=by
 refine Ev.bQ Tryz.func186 rfl λe=>?_;have c:=e.sl 0 rfl;refine bR xO rfl ar ?_;refine AK.iM (λi=>i<=t.length/\∀j,j<i->under p (eL t j)=ae) (λi:Nat=>[(0,cF.sl t),(1,JP p x),(7,dI t.length),(8,dI i)]) (λ_=>[]) (λi=>t.length-i) 0 rfl ?_ rfl ar ⟨by omega,by omega⟩ ?_
 .simp
 rintro i ⟨hi,a⟩;by_cases h:i<t.length
 .have d:=f i h;cases b:under p (eL t i)with
  |true =>
   refine aM xO [(9,ab),(16,ab)] rfl ?_ (AK.gu (b7.zero rfl ?_))
   .simp[-ai,h,fT,b];omega
   .simp[ME h b a]
  |false =>
   refine aM xO [(9,ab),(16,ae)] rfl ?_ (AK.fa (i+1) rfl ?_ rfl ar ?_ ?_)
   .simp[-ai,h,fT,b,bq];omega
   .simp
   .grind
   .omega
 .refine aM xO [(9,ae)] rfl (by simp;omega) (AK.leave rfl rfl ?_);refine bR xO rfl ar (AK.bg rfl ?_);simp[xP (λj g=>a j (by omega))]
def zr(t:List bu):Prop:=∀j,j<t.length->(eL t j).length<=4000000
def Qt:di:=λargs σ=>match args,σ with
 |[d,.e (.one (.c (.fn (.func 131) [] [.rp [.str p,.str x]])))],[]=>match jl 2 d with
  |none=>af
  |some (n,es)=>aa (dI (tk (cF.list n es) p),[],[cF.fits n es,zr (cF.list n es),x=x])
 |_,_=>af
def t186:dw X 186 Qt:=by
 intro args σ res σ' obs h a;unfold Qt at h;split at h
 .rename_i d p x;split at h
  .cases h
  rename_i n es hd;cases h;exact(MF _ p x a.2.1).args (λ_ vs=>cd.imp (λ_=>cF.iF hd a.1) (cd.imp (λ_ r=>r) (λ_ r=>r)) vs)
 grind
def Tq:List (Nat×di):=(186,Qt)::Tp
def NW:bA X Tq:=bA.cons t186 (xO)
def MG(t:List bu)(p x:Bs)(a:zr t):Ev X 130 [cF.sl t,JP p x] [] (dB (decide (0<=tk t p))) []:=by
 refine Ev.bQ Tryz.func130 rfl λb=>?_;refine bR NW rfl ?_ (AK.bg rfl ?_)
 .simp[cF.aR,cF.list_fn,a]
 .simp[cF.list_fn]
def Qu:di:=λargs σ=>match args,σ with
 |[d,.e (.one (.c (.fn (.func 131) [] [.rp [.str p,.str x]])))],[]=>match jl 2 d with
  |none=>af
  |some (n,es)=>aa (dB (decide (0<=tk (cF.list n es) p)),[],[cF.fits n es,zr (cF.list n es),x=x])
 |_,_=>af
def t130:dw X 130 Qu:=by
 intro args σ res σ' obs h a;unfold Qu at h;split at h
 .rename_i d p x;split at h
  .cases h
  rename_i n es hd;cases h;exact(MG _ p x a.2.1).args (λ_ vs=>cd.imp (λ_=>cF.iF hd a.1) (cd.imp (λ_ r=>r) (λ_ r=>r)) vs)
 grind
def Wm:List (Nat×di):=(130,Qu)::Tq
def pA:bA X Wm:=bA.cons t130 (NW)
def iA(t:List bu)(i:Nat):Bool :=
 eD (eL t i)&&dO (tg t i)&&(i==0||!(aY (eL t i) (eL t (i-1))||eL t i==eL t (i-1)))&&(a9 i).all λj=>!under (eL t i) (eL t j)
def m0(t:List bu):Bool:=(a9 t.length).all (iA t)&&decide (t.length<=6)
def jP{t:List bu}(hi:i<t.length)(h:iA t i=ae):m0 t=ae:=by
 cases a:m0 t with
 |false=>rfl
 |true =>
  simp only[m0,bP]at a;grind
theorem sQ{s:Bs}(h:eD s=ab):s.length<=3:=by
 simp only[eD,cj,bP,lS,bc,iC]at h;obtain⟨⟨⟨d,_⟩,_⟩,a⟩:=h;have c:=kH s 47;change hO s<s.length∨hO s=-1 at c;by_cases b:0<=hO s
 .simp only[iN,b,bZ,List.length_take]at d;rcases a with a|a
  .simp[jm,b]at a
  .have:=a.1.1;simp only[lL,b,bZ,qk]at this;omega
 .simp only[iN,b,bJ]at d;omega
def Db{t:List bu}{p:Bs}(hi:i<=t.length):decide (0<=tk (t.take i) p)=!(a9 i).all λj=>!under p (eL t j):=by
 have e:∀j,j<i->eL (t.take i) j=eL t j:=by intro j c;simp[eL,ai,c]
 cases g:(a9 i).all λj=>!under p (eL t j)with
 |true =>
  grind[xP]
 |false =>
  have b:∃j,j<i/\under p (eL t j)=ab:=by grind
  have:∃k:Nat,tk (t.take i) p=k:=by
   unfold tk;cases d:(t.take i).findIdx? (λf=>under p f.1)with
   |some k=>grind
   |none =>
    obtain⟨j,c,h⟩:=b;rw[xY]at d;have a:j<(t.take i).length:=by grind
    have:=d _ (ql a);grind[fileAt]
  grind
def CF(t:List bu):Ev X 98 [cF.sl t] [] (dB (m0 t)) []:=by
 refine Ev.bQ Tryz.func98 rfl λz=>?_;have r:=z.sl 0 rfl;refine bR pA rfl ar ?_;refine AK.bS 0 (λi=>i<=t.length/\∀j,j<i->iA t j=ab) (λi:Nat=>[(0,cF.sl t),(5,cF.sl t),(6,dI t.length),(7,dI i)]) (λ_=>[]) (λi=>t.length-i) 0 rfl ?_ rfl ar rfl ⟨by omega,by omega⟩ ?_
 .simp
 rintro i ⟨hi,g⟩;by_cases h:i<t.length
 .cases d:eD (eL t i)with
  |false =>
   refine bk pA [(8,ab),(14,ae)] rfl ?_ (AK.eK (b7.zero rfl ?_))
   .simp[-ai,h,fT,d]
   .simp[au,jP h (by simp[iA,d])]
  |true =>
   cases f:dO (tg t i)with
   |false =>
    refine bk pA [(8,ab),(14,ab),(19,ae)] rfl ?_ (AK.eK (b7.zero rfl ?_))
    .simp[-ai,h,fT,ov,d,f]
    .simp[au,jP h (by simp[iA,f])]
   |true =>
    have w:zr (t.take i):=by
     intro j y;simp only[List.length_take]at y;have e:eL (t.take i) j=eL t j:=by simp[eL,ai,(by omega:j<i)]
     rw[e];have:=g j (by omega);simp only[iA,bP]at this;grind[sQ]
    have x:cF.list ((i:Int).toNat-0) (lV 0 (cF.fn t))=t.take i:=by rw[cF.JM t 0 _ (by grind)];simp
    cases u:(i==0||!(aY (eL t i) (eL t (i-1))||eL t i==eL t (i-1)))with
    |false =>
     have a:iA t i=ae:=by simp only[iA,u];simp
     have l:i≠0:=by grind
     have n:(aY (eL t i) (eL t (i-1))||eL t i==eL t (i-1))=ab:=by grind
     have b:bq .i64 ((i:Int)-1):=by simp only[bq];omega
     have m:((i:Int)-1).toNat=i-1:=by omega
     refine bk pA [(8,ab),(14,ab),(19,ab),(24,ab),(34,ab)] rfl ?_ (AK.eK (b7.zero rfl ?_))
     .simp only[au,fT,ov,bF,m,n,d,f,bc,b];grind
     .simp[jP h a]
    |true =>
     have a:iA t i=(a9 i).all λj=>!under (eL t i) (eL t j):=by simp only[iA,u,d,f];simp
     apply AK.join [(0,cF.sl t),(3,dI i),(5,cF.sl t),(6,dI t.length),(7,dI i),(4,.e (.one (.ptr 0 0)))] [.cells 110 [.c (.str (eL t i)),.c (.str (tg t i))]]
     .intro q;by_cases l:i=0
      .refine bk pA [(8,ab),(14,ab),(19,ab),(24,ae),(1000006,ab)] rfl ?_ (q _ _ rfl ?_)
       .simp only[au,fT,ov,bF,d,f,bc,bY];grind
       .simp
      .have n:(aY (eL t i) (eL t (i-1))||eL t i==eL t (i-1))=ae:=by grind
       have b:bq .i64 ((i:Int)-1):=by simp only[bq];omega
       have m:((i:Int)-1).toNat=i-1:=by omega
       refine bk pA [(8,ab),(14,ab),(19,ab),(24,ab),(34,ae),(1000006,ab)] rfl ?_ (q _ _ rfl ?_)
       .simp only[au,fT,ov,bF,m,n,d,f,bc,b];grind
       .simp
     .refine AK.freeze 4 0 rfl rfl rfl ?_;have v:=Db (t:=t) (p:=eL t i) (i:=i) hi;have k:cF.fits ((i:Int).toNat-0) (lV 0 (cF.fn t)):=cF.JN t;cases s:(a9 i).all λj=>!under (eL t i) (eL t j)with
      |false =>
       rw[s]at v a;refine bk pA [(41,ab)] rfl ?_ (AK.eK (b7.zero rfl ?_))
       .simp only[au,cU];grind
       .simp[jP h a]
      |true =>
       rw[s]at v a;refine bk pA [(41,ae)] rfl ?_ (AK.aQ (i+1) rfl ?_ ?_ ?_ ?_)
       .simp only[au,cU];have o:decide (0<=tk (cF.list ((i:Int).toNat-0) (lV 0 (cF.fn t))) (eL t i))=ae:=by grind
        exact⟨by simp only[bq];omega,k,by grind,ar,o,by omega,by omega⟩
       .simp
       .trivial
       .grind
       .omega
 .have:i=t.length:=by omega
  subst this;refine aM pA [(8,ae)] rfl (by simp) (AK.leaveD rfl rfl ?_);refine bR pA rfl ar (AK.bg rfl ?_);simp only[au,m0];grind
end R1
section
open Go.Conc
def aD.Sv(hh:aD σ s){B:ba}{L:Loc}(j:σ[l]?=aa B)(k:s.β[l]?=aa L)(p:(∃E cs,B=.cells E cs)∨∃H,B=.cp H):
  aD (σ.set l .dead) {s with β:=s.β.set l ⟨L.v,[]⟩}/\Step σ s (σ.set l .dead) {s with β:=s.β.set l ⟨L.v,[]⟩}:=by
 have i:l<σ.length:=(b8.1 j).1;have f:l<s.β.length:=(b8.1 k).1;have c:∀l',(s.β.set l ⟨L.v,[]⟩)[l']?=if l=l' then aa ⟨L.v,[]⟩else s.β[l']?:=by grind
 have a:∀L'∈s.β.set l ⟨L.v,[]⟩,∀b∈L'.bs,L'∈s.β:=by grind
 have st:Step σ s (σ.set l .dead) {s with β:=s.β.set l ⟨L.v,[]⟩}:=by
  refine⟨aZ _,λ_ _ _=>rfl,λ_ _ _ h=>h,λ_ _ _ _=>rfl,λL' fC b hb=>.inr ⟨L',a L' fC b hb,hb⟩,?_,rfl,rfl,rfl,rfl⟩;intro l' B' L' lz fC;by_cases e:l=l'
  .subst e;rw[j]at lz;cases lz;rw[k]at fC;cases fC;refine⟨.dead,⟨L.v,[]⟩,by grind,by grind,?_⟩;rcases p with⟨E,cs,rfl⟩|⟨H,rfl⟩<;>rfl
  .exact⟨B',L',by grind,by grind,.refl _ _⟩
 refine⟨⟨hh.mem,by simp[hh.len],?_,?_,λL' fC b hb=>hh.lt L' (a L' fC b hb) b hb,λb hb=>⟨(hh.own b hb).1,λL' fC oH=>(hh.own b hb).2 L' (a L' fC b oH) oH⟩⟩,st⟩
 .intro l' B' L' lz fC;by_cases e:l=l'
  .subst e;rw[fJ i]at lz;cases lz;trivial
  .rw[j5 e]at lz;rw[c,bh e]at fC;exact(hh.box l' B' L' lz fC).carry st.ext hh.len λb hb=>⟨rfl,λo=>rfl⟩
 .intro m n L1 L2 h1 h2 b g d;rw[c]at h1 h2;split at h1
  .grind
  .split at h2
   .grind
   .exact hh.eH m n L1 L2 h1 h2 b g d
def dc.closed(a:s'.M=s.M){d:D}(h:dc σ s v d)(e:uh 0 d=ab):dc σ' s' v d:=by have h1:=dc.drop (σ1:=[]) (rest:=σ) h e;refine dc.mono (σ:=[]) (s:=s.cut 0) ⟨λb o v c=>by rw[a];exact c,λl B L f _=>by grind⟩ (by simp[St.cut]) h1
end
namespace R1
section
variable {X:Cx ag}
def kE(t:Bs):List Bs:=if dO t then pieces t else[]
def NB(t:Bs)(f:Nat)(acc:List Bs):Prop:=∃k,eT t t.length 0=acc++eT t k f/\t.length<=f+k/\acc.length<=f
def Eb:dw X 126 (ki aS (λs=>dB (dO s)) λ_=>[]):=.oe λs _=>vh s
def Iq:di:=λargs σ=>match args,σ with
 |[.e (.one (.c (.str t)))],[]=>aa (.e (.one (.c (NA t))),[],[])
 |_,_=>af
def Pk:dw X 183 Iq:=by intro args σ res σ' obs h a;unfold Iq at h;grind[LJ]
def Fu(t:Bs):Ev X 128 [dS t] [] (cS.sl (kE t)) []:=by
 refine(dK.yL (ι:=Unit) (σ':=λ_=>[]) (res:=λ_=>cS.sl (kE t)) Tryz.func128 rfl rfl rfl λu=>?_).EO;have l:bA X [(126,ki aS (λs=>dB (dO s)) λ_=>[])]:=.cons Eb .nil;refine mT.seq (AW.top (AK.of_code ?_));refine bR l rfl ar ?_;refine mT.seq (AW.top (AK.of_code ?_));cases b:dO t with
 |false =>
  refine aM l [(8,ab)] rfl ?_ (AK.ret ⟨(),b7.zero rfl ?_⟩)
  .simp[b]
  .simp[kE,b]
 |true =>
  have d:=b;simp only[dO,bP,bc]at d;refine aM l [(8,ae)] rfl ?_ ?_
  .simp[b]
  refine mT.seq (AW.top (AK.of_code ?_));refine bR l rfl ar ?_;refine mT.seq (mT.seq (AW.top (AK.of_code (AK.gx 1 0 9 1 (cS.fn []) rfl rfl ?_))));refine bR (.cons Pk .nil) rfl ar ?_;refine mT.block ?_;refine mT.rangeFunc (capD:=fu [.rp [.str t]]) (cf.callee rfl) (Ft (T:=List Bs) t d.2 (by omega) (λ_=>.cells 9 [.c (.str t)]) (λacc=>.cells 128 [.vec 2 1 acc.length (cS.fn acc)]) (λacc=>.vec 9 1 acc.length (cS.fn acc)) (NB t) [] ?_ (λt=>⟨by simp,by simp,by simp⟩) ?_) (λi=>⟨rfl,by simp⟩) λi=>⟨.normal,rfl,?_⟩
  .exact⟨t.length,by simp,by omega,by simp⟩
  .rintro f acc hf hR;have h:=mh t f hf;refine Yields.intro (j:=af) rfl rfl rfl rfl (AK.of_code ?_);refine br rfl ar ?_;refine⟨rfl,rfl,AK.of_code ?_⟩;refine br rfl ?_ ?_
   .obtain⟨k,_,_,o⟩:=hR;have v:=h.1;have q:=h.2.1;refine⟨rfl,rfl,?_,Int.natCast_nonneg _,Int.ofNat_le.2 (Nat.le_of_lt v),Int.ofNat_le.2 q⟩;show(acc.length+1)*16<=_;omega
   have n:NB t (cutAt t f) (acc++[(t.drop f).take (cutAt t f-f)]):=by
    obtain⟨k,m,r,o⟩:=hR;obtain⟨k',rfl⟩:∃k',k=k'+1:=⟨k-1,by omega⟩
    refine⟨k',?_,by omega,by grind⟩;rw[m];simp only[eT];grind
   refine⟨rfl,rfl,⟨_,n⟩,kD rfl ?_⟩;have e:qH t (aa (f:Int)) (aa (cutAt t f:Int))=(t.drop f).take (cutAt t f-f):=by simp[qH,List.drop_take]
   have p:cn (acc.length+1) (cD acc.length (cS.fn acc) λi=>[[C.str (qH t (aa (f:Int)) (aa (cutAt t f:Int)))]].getD i []) (cS.fn (acc++[(t.drop f).take (cutAt t f-f)])):=by rw[e];exact jX.cg cS acc _
   have a:acc.length+1=(acc++[(t.drop f).take (cutAt t f-f)]).length:=by simp
   refine au.cat.2 ⟨by simp,au.cat.2 ⟨au.cat.2 ⟨⟨a,p⟩,ar⟩,au.cat.2 ⟨⟨a,p⟩,au.cat.2 ⟨rfl,ar⟩⟩⟩⟩
  .obtain⟨acc,k,m,r,o⟩:=i;have g:eT t k t.length=[]:=by cases k<;>simp[eT]
   rw[g,j7]at m;have e:kE t=acc:=by simp only[kE,b,bZ,pieces,m]
   rw[e];show mT X _ _ _ _ _;refine AW.top (AK.of_code ?_);refine br rfl ar ?_;refine AK.ret ⟨(),b7.zero rfl ?_⟩;exact⟨rfl,cn.same⟩
def LK:dw X 128 (ki aS (λs=>cS.sl (kE s)) λ_=>[]):=.oe λs _=>Fu s
def Sl:dw X 125 (mX (aL cS) aS (λl _=>dS l.flatten) λl s=>[s=[],l.flatten.length<=140737488355328]):=.px λl s h=>by obtain⟨rfl,h⟩:=h;exact LB l h
def LL:di:=mX (aL cS) (aL cS) (λa b=>dB (a==b)) λ_ _=>[]
def VH:dw X 127 LL:=.px λa b _=>Pa a b
def CE(l:List Bs)(h:l.flatten.length<=140737488355328):Ev X 97 [cS.sl l] [] (y0 (fI l)) []:=by
 refine Ev.bQ Tryz.func97 rfl λd=>?_;have c:bA X [(125,mX (aL cS) aS (λl _=>dS l.flatten) λl s=>[s=[],l.flatten.length<=140737488355328]),(126,ki aS (λs=>dB (dO s)) λ_=>[]),(127,LL),(128,ki aS (λs=>cS.sl (kE s)) λ_=>[])]:=.cons Sl (.cons Eb (.cons VH (.cons LK .nil)));have el:cS.list l.length (cS.fn l)=l:=cS.list_fn l;cases a:dO l.flatten with
 |false =>
  refine aM c [(8,ae),(9,ab),(16,ab)] rfl ?_ (AK.bg rfl ?_)
  .simp only[au,el,a,cS.aR,eq_self,aF,aE];grind
  .simp[fI,a]
 |true =>
  cases b:(pieces l.flatten==l)with
  |false =>
   refine aM c [(8,ab),(9,ae),(14,ae),(16,ab)] rfl ?_ (AK.bg rfl ?_)
   .simp only[au,el,cS.list_fn,a,cS.aR];simp[h,kE,a,b,-List.length_flatten]
   .simp[fI,b]
  |true =>
   refine aM c [(8,ab),(9,ae),(14,ab),(16,ae)] rfl ?_ (AK.bg rfl ?_)
   .simp only[au,el,cS.list_fn,a,cS.aR];simp[h,kE,a,b,-List.length_flatten]
   .simp[fI,a,b,el]
end
section
open Go.Proofs Go.Conc Go.Conc.Lib
open Go.ConcN (WgLive PayAt Has RW AtR0)
open Go.ConcR (KK WgAt stA smA rd wr mk Payload DC0)
noncomputable def Sw:Code:=vl (jZ (jZ (jZ CI)))
noncomputable def Xo:Code:=vl Sw
noncomputable def VL:Code:=jZ (jZ (jZ CI))
def Pq:VL=.seq (.seq Xo (.block 0 (.loop hI))) ml:=by kernel_rfl
section
variable {σ0:List ba}{s0:St}{φ:Fr}{σ:List ba}{a:Act}{s:St}{S:ak->St->Prop}
def At.goes{Wg:Nat}{j:ak}:∀(m:Nat)(g:ak)(s:St),At σ0 s0 φ σ a s->WgLive 164 Wg s.w->Goes ag ab (eX 164 Wg) DC0 (λg _=>g=j) m g s.w ->
  (∀c,At σ0 s0 φ σ a c->e9 (Cx.beside ag) S j c)->e9 (Cx.beside ag) S g s
 |0,g,s,h,_,f,K=>by obtain rfl:g=j:=f s.w (.refl _);grind
 |m+1,g,s,h,hl,f,K=>by
  rcases f with f|⟨l,f⟩
  .obtain rfl:g=j:=f s.w (.refl _);grind
  .refine .next l λc b=>?_;have h1:=h.rely b.1;obtain⟨d,o⟩:=b.2;have i:WgLive 164 Wg c.w:=by rw[o];exact hl
   have h2:=f c.w (λ_=>i);cases e:aG ag ab g c.w with
   |go g' w' es =>
    rw[e,goes_go]at h2;obtain⟨⟨rfl,rfl⟩,n⟩:=h2;exact⟨g',c,#[],e,.quiet h1.hh,At.goes m g' c h1 i n K⟩
   |_=>rw[e]at h2;exact h2.elim
def kz{σ:List ba}{s:St}(b:∀B∈σ,B=.dead){ds:List Deferred}{ls:List Nat}(h:nB σ s ds ls):ds=[]:=by
 cases ds with
 |nil=>rfl
 |cons d ds =>
  cases ls with
  |nil=>exact h.elim
  |cons l ls =>
   have:=b _ (bD h.1.1);cases this
end
section
variable {k:Int}{ps:List bw}{ns:List Int}{C:Nat}{xs:List aj}
variable (k ps ns C)in
def LS:Fr:=[(2,cI.sl ns),(3,.e (.one (.ptr 0 0))),(4,.e (.one (.ptr 1 0))),(8,.e (.one (.ptr 3 0))),(9,.e (.one (.ptr 4 0)))]
variable (k ps ns C xs)in
def y8:List ba:=[.cells 3 [.c (.int .i64 k)],.cells 23 [.c (.sl ae 2 ps.length (cP.fn ps))],.cp (iv 166 2 (.row C ns.length) ns.length xs),.cells 154 [.c (.val (.slice (aa ⟨C,0,af⟩) ns.length ns.length))],.cells 164 [.c (.int .u64 0),.c (.int .u32 0)]]
variable (k ps ns)in
def KL(x i:Nat):aj:=if i=0 then .string ⟨((du k ps (ns.getD x 0)).getD []).toArray⟩else .bool (du k ps (ns.getD x 0)).isSome
variable (k ps ns)in
def lg:List aj:=ns.flatMap λn=>[.string ⟨((du k ps n).getD []).toArray⟩,.bool (du k ps n).isSome]
variable (k ps ns C)in
def CK:List ba:=[.dead,.dead,.cp (iv 166 2 (.row C ns.length) ns.length (lg k ps ns)),.dead,.dead]
def Z6{X:Cx ag}:AW X 45 Xo (NQ ((18,cI.sl ns)::(19,dI ns.length)::(20,dI 0)::LS ns) (y8 k ps ns C xs)) (LS ns) (y8 k ps ns C xs):=by refine AK.of_code ?_;refine br rfl ar ⟨rfl,cG rfl ?_,rfl⟩;simp
theorem AQ:(lg k ps ns).length=ns.length*2:=by
 unfold lg;induction ns with
 |nil=>rfl
 |cons n r b=>grind
def y9:∀{ns:List Int}{x i:Nat},x<ns.length->i<2->(lg k ps ns)[2*x+i]?=aa (KL k ps ns x i)
 |[],x,i,h,_=>by grind
 |n::r,0,i,_,hi=>by
  match i,hi with
  |0,_=>rfl
  |1,_=>rfl
 |n::r,x+1,i,h,hi=>by have:=y9 (ns:=r) (x:=x) (i:=i) (by grind) hi;unfold lg at this⊢;rw[tr,fh (by grind)];rw[show 2*(x+1)+i - [Value.string ⟨((du k ps n).getD []).toArray⟩,Value.bool (du k ps n).isSome].length=2*x+i by grind];rw[this];simp[KL]
def _root_.Go.AM.cf.seen{N b:Nat}{d:D}{σ:List ba}{s:St}{φ:Fr}{a:Act}(f:cf N σ s φ a)(h:dc σ s (a.tmps.getD b ah) d):cf N σ s ((b,d)::φ) a:=by
 refine⟨f.size,f.defers,λt=>?_⟩;simp only[look];cases hb:av b t with
 |false=>exact f.slot t
 |true=>grind[Nat.eq_of_beq_eq_true]
abbrev Iz(n C:Nat):Fr:=[(8,.e (.one (.c (.rp [.val (.slice (aa ⟨C,0,af⟩) n n)]))))]
variable (k ps ns C)in
abbrev Sx:Fr:=(8,.e (.one (.c (.rp [.val (.slice (aa ⟨C,0,af⟩) ns.length ns.length)]))))::(4,.e (.one (.c (.rp [.sl ae 2 ps.length (cP.fn ps)]))))::(3,.e (.one (.c (.rp [.int .i64 k]))))::(18,cI.sl ns)::(19,dI ns.length)::(20,dI 0)::[(9,.e (.one (.ptr 4 0)))]
def Sy(Z7:dw (Cx.work ag) 123 (lf k)){Q:Post}(hn:ns.length<=4000000)(Sz:mT (Cx.beside ag) 45 py Q (Iz ns.length C) (CK k ps ns C)):mT (Cx.beside ag) 45 VL Q (LS ns) (y8 k ps ns C xs):=by
 intro so ao hf Z8 b kk cs S hb Kp hQ;have h:At (y8 k ps ns C xs) so (LS ns) (y8 k ps ns C xs) ao so:=⟨hf,Z8,.refl _ _⟩;refine h.ctl rfl (λw=>tP Pq) λs h=>?_
 refine h.ctl rfl (λw=>mK) λs h=>?_;refine h.code hb Z6 λa s h=>?_;obtain⟨s1,w1,f1,D,Og⟩:=cf.freeze 3 0 (E:=3) (cs:=[.c (.int .i64 k)]) (cc:=[.int .i64 k]) rfl rfl rfl h.fr h.hh;refine .ghost (.of h.hh D w1 (Og.nT h.hh)) ?_;obtain⟨s2,w2,f2,A,nU⟩:=cf.freeze 4 1 (E:=23) (cs:=[.c (.sl ae 2 ps.length (cP.fn ps))]) (cc:=[.sl ae 2 ps.length (cP.fn ps)]) rfl rfl rfl f1 D;refine .ghost (.of D A w2 (nU.nT D)) ?_;obtain⟨s3,w3,f3,VM,R4⟩:=cf.freeze 8 3 (E:=154) (cs:=[.c (.val (.slice (aa ⟨C,0,af⟩) ns.length ns.length))]) (cc:=[.val (.slice (aa ⟨C,0,af⟩) ns.length ns.length)]) rfl rfl rfl f2 A;refine .ghost (.of A VM w3 (R4.nT A)) ?_;have h:At (y8 k ps ns C xs) so (Sx k ps ns C)
   [.dead,.dead,.cp (iv 166 2 (.row C ns.length) ns.length xs),.dead,.cells 164 [.c (.int .u64 0),.c (.int .u32 0)]] a s3 :=
  ⟨f3.le (cG rfl (by simp)),VM,h.st.trans ((Og.nT h.hh).trans ((nU.nT D).trans (R4.nT A)))⟩
 clear Og nU R4 f1 f2 f3 D A VM;refine h.ctl rfl (λw=>qx) λs h=>?_;refine h.ctl rfl (λw=>Dn) λs h=>?_;have hlen:=h.hh.len;simp only[gd,iS]at hlen;obtain⟨F,y⟩:∃L,s.β[2]?=aa L:=⟨_,bd (by omega)⟩
 obtain⟨W,H⟩:∃L,s.β[4]?=aa L:=⟨_,bd (by omega)⟩
 obtain⟨ch,hH,SA,QZ,Vw⟩:=h.hh.box 2 _ F rfl y;obtain⟨zs,Uo,VN,Rb⟩:=iv.lookup hH;obtain⟨TJ,_,Yo,_,_,_⟩:=hH;have U:C∈F.bs:=(QZ C).2 (by grind);have SB:=SA C _ VN;obtain⟨Wg,vs,Z9,K,M5,hM4⟩:=h.hh.box 4 _ W rfl H;have VO:vs=[.int .u64 0,.int .u32 0]:=by
  match vs,M5 with
  |[],r=>exact r.elim
  |[_],r=>exact r.2.elim
  |_::_::_::_,r=>exact r.2.2.elim
  |[u0,u1],r =>
   have r0:Rd s.M u0 (.int .u64 0):=r.1;have r1:Rd s.M u1 (.int .u32 0):=r.2.1;cases r0;cases r1;rfl
 subst VO;have zC:C≠Wg:=by grind
 have hv9:a.tmps.getD 9 ah=.pointer (aa ⟨Wg,0,af⟩):=by obtain⟨_,L,bb,q1,q2,q3⟩:=h.fr.slot 9;grind
 obtain⟨g1,t1⟩:=h.hh.Sv (l:=2) rfl y (.inr ⟨_,rfl⟩);have VP:(s.β.set 2 ⟨F.v,[]⟩)[4]?=aa W:=by grind
 obtain⟨g2,t2⟩:=g1.Sv (l:=4) (B:=.cells 164 [.c (.int .u64 0),.c (.int .u32 0)]) rfl VP (.inl ⟨_,_,rfl⟩);generalize hsB:({s with β:=(s.β.set 2 ⟨F.v,[]⟩).set 4 ⟨W.v,[]⟩}:St)=sB at g2 t2;have eβ:sB.β=(s.β.set 2 ⟨F.v,[]⟩).set 4 ⟨W.v,[]⟩:=by grind
 have eM:sB.M=s.M:=by grind
 have ew:sB.w=s.w:=by grind
 have eo:sB.own=s.own:=by grind
 have Xp:aD d5 sB:=g2;have Kv:=(t1.nT h.hh).trans (t2.nT g1);have VQ:sB.β[2]?=aa ⟨F.v,[]⟩:=by grind
 have p:∀L∈sB.β,∀x∈L.bs,∃l,l≠2/\l≠4/\s.β[l]?=aa L:=by grind[List.mem_iff_getElem?]
 have BE:C<s.w.heap.size:=h.hh.lt F (bD y) C U;have zD:Wg<s.w.heap.size:=h.hh.lt W (bD H) Wg (by grind)
 have VR:Ku C sB:=⟨by rw[eo];exactλho=>(h.hh.own C ho).2 F (bD y) U,λL d f=>by obtain⟨l,n2,n4,hl⟩:=p L d C f;exact n2 (h.hh.eH l 2 L F hl y C f U),λo=>by rw[eM];grind,by grind⟩
 have P:Ku Wg sB:=⟨by rw[eo];exactλho=>(h.hh.own Wg ho).2 W (bD H) (by grind),λL d f=>by obtain⟨l,n2,n4,hl⟩:=p L d Wg f;exact n4 (h.hh.eH l 4 L W hl H Wg f (by grind)),λo=>by rw[eM];grind,by grind⟩
 have fB:cf 45 d5 sB (lW k ps ns C Wg 0) a:=by have q:=h.fr.mono Kv h.hh.len;have q9:cf 45 d5 sB ((9,.e (.one (.v (.pointer (aa ⟨Wg,0,af⟩)))))::Sx k ps ns C) a:=q.seen (by rw[hv9];exact Rd.val rfl);exact q9.le (cG rfl (by simp))
 have R:(xs++zs).toArray.size=2*ns.length:=by grind
 have Lj:∀x,(s.own x∨∃L∈s.β,x∈L.bs)->x<s.w.heap.size:=λx f=>f.elim (λq=>(h.hh.own x q).1) λ⟨L,d,q⟩=>h.hh.lt L d x q;refine .wm (T:=λg' s'=>∃a4 m,At (y8 k ps ns C xs) so (Iz ns.length C) (CK k ps ns C) a4 s'/\WgLive 164 Wg s'.w/\Goes ag ab (eX 164 Wg) DC0 (λg _=>g=G (b.aT (a4.put (aa 28) (.tuple #[])) (.inRegion wI []::.code py::kk)) cs) m g' s'.w)
  (Q1.fork (n:=ns.length) (ty:=164) (val:=KL k ps ns) (N:=2*ns.length) (s0:=sB) 2 (by omega) Wg C (by omega) zC (.of h.hh Xp ew Kv) rfl ⟨F,bD y,U⟩ ⟨W,bD H,by grind⟩ Lj ?_ K ⟨_,SB,R⟩ ?_) ?_
 .rintro x (rfl|rfl)
  .exact⟨VR.own,VR.β,VR.M⟩
  .exact⟨P.own,P.β,P.M⟩
 .intro Y hYW hYC hYk;subst hYW hYC;refine⟨TF k ps ns Y d5 sB b kk cs,T6 k ps ns Y d5 sB b kk cs,λg s f=>Z5 P Kp f,?_,?_⟩
  .refine LR Z7 hYk P Kp hb (by decide) hn (λi hi=>rfl) (λi hi=>rfl) ns.length (aZ _) a sB ⟨by grind,Xp,.refl _ _⟩ ⟨_,_,by rw[ew];exact K⟩
  .rintro g' s' ⟨a4,⟨j,Iw⟩,m,hgo⟩ hm' SC Pr RH DG;obtain⟨o1,o2,o3⟩:=DG Y.C (.inl rfl);obtain⟨lZ,J,aae⟩:=SC;have RI:lZ=(lg k ps ns).toArray:=by
    apply Array.ext_getElem?;intro o;have eo':(lg k ps ns).toArray[o]?=(lg k ps ns)[o]?:=by simp
    rw[eo'];rcases cv o (2*ns.length)with ho|ho
    .have q1:=Pr (o / 2) (by omega) (o % 2) (by omega);have q2:=y9 (k:=k) (ps:=ps) (ns:=ns) (x:=o / 2) (i:=o % 2) (by omega) (by omega);rw[show 2*(o / 2)+o % 2=o by omega]at q1 q2;rw[q2];simpa[aU,J]using q1
    grind[AQ]
   subst RI;have Dk:s'.β.length=5:=j.hh.len;obtain⟨B2',Xq,p1,p2,p3⟩:=j.st.box 2 .dead ⟨F.v,[]⟩ rfl VQ;have aag:Xq.v=.nilFunc:=by cases p1;exact(show Xq.v=F.v from p3).trans TJ
   have I:∀(l:Nat) (B:ba),d5[l]?=aa B->B=.dead:=by
    intro l B u
    match l,u with
    |0,u|1,u|2,u|3,u|4,u=>cases u;rfl
   have X:∀l,(s'.β.set 2 ⟨.nilFunc,[Y.C]⟩)[l]?=if l=2 then aa ⟨.nilFunc,[Y.C]⟩else s'.β[l]?:=by grind
   have z:∀L∈s'.β.set 2 ⟨.nilFunc,[Y.C]⟩,L=⟨.nilFunc,[Y.C]⟩∨L∈s'.β:=λL d=>by grind
   have hh4:aD (CK k ps ns Y.C) {s' with β:=s'.β.set 2 ⟨.nilFunc,[Y.C]⟩}:=by
    refine⟨j.hh.mem,by simp[Dk,CK],?_,?_,?_,λx f=>⟨(j.hh.own x f).1,λL d O=>?_⟩⟩
    .intro l B L u d;rw[X]at d;by_cases e:l=2
     .subst e;rw[bt rfl]at d;cases d;cases u;refine⟨λb'=>if b'=Y.C then aa (.cells (lg k ps ns++[]).toArray 166 (0,0))else af,⟨rfl,?_,AQ,aZ _,by omega,[],by grind,rfl⟩,λb' ob Z=>?_,λb'=>?_,λb' Z o=>?_⟩
      .intro x f;simp only[lg,List.mem_flatMap]at f;obtain⟨_,_,f⟩:=f;simp only[dD,oA,or_false]at f;rcases f with rfl|rfl<;>rfl
      .by_cases e:b'=Y.C
       .subst e;simp only[bZ]at Z;cases Z;rw[j7];exact J
       grind
      .by_cases e:b'=Y.C<;>simp[e]
      grind
     .match l,u,e with
      |0,u,_|1,u,_|3,u,_|4,u,_=>cases u;trivial
      |2,_,e=>grind
    .intro l l' L L' d fC x f Nk;rw[X]at d fC;by_cases e:l=2
     .grind
     .rw[bh e]at d;by_cases e':l'=2
      .grind
      .rw[bh e']at fC;exact j.hh.eH l l' L L' d fC x f Nk
    .intro L d x f;rcases z L d with rfl|d
     .grind
     .exact j.hh.lt L d x f
    .rcases z L d with rfl|d
     .grind
     .exact(j.hh.own x f).2 L d O
   have VS:cJ [.dead,.dead,.cp (iv 166 2 (.row Y.C ns.length) ns.length xs),.dead,.cells 164 [.c (.int .u64 0),.c (.int .u32 0)]] s (CK k ps ns Y.C) {s' with β:=s'.β.set 2 ⟨.nilFunc,[Y.C]⟩}:=by
    have q:=j.st;refine⟨by have:=q.size;grind,λx f=>by have:=q.keep x (by grind);grind,λx o v f=>q.mem x o v (by grind),λx f hnx o=>?_,λL d x f=>?_,?_,by rw[q.os,ew],by rw[q.tape,ew],by rw[q.output,ew],by rw[q.own,eo]⟩
    .rw[q.iq x (by grind) (λL d O=>by
      obtain⟨l,_,_,hl⟩:=p L d x O
      grind) o,eM]
    .rcases z L d with rfl|d
     .grind
     .rcases q.tB L d x f with r1|⟨L0,r1,r2⟩
      .grind
      .obtain⟨l,_,_,hl⟩:=p L0 r1 x r2;grind
    .intro l B L u d;obtain⟨B1,L1,r1,r2,r3⟩:=Kv.box l B L u d;obtain⟨B3,L3,u1,u2,u3⟩:=q.box l B1 L1 r1 r2;have eB1:=I l B1 r1;have eB3:=I l B3 u1;subst eB1 eB3;by_cases e:l=2
     .subst e;cases u;rw[y]at d;cases d;exact⟨_,⟨.nilFunc,[Y.C]⟩,rfl,by grind,TJ.symm⟩
     .refine⟨.dead,L3,?_,by grind,r3.trans u3⟩
      match l,u1,e with
      |0,_,_|1,_,_|3,_,_|4,_,_=>rfl
      |2,_,e=>grind
   refine⟨{s' with β:=s'.β.set 2 ⟨.nilFunc,[Y.C]⟩},⟨a4,m,⟨⟨j.fr.size,⟨[],?_⟩,λt=>?_⟩,hh4,h.st.trans VS⟩,Iw,hgo⟩,rfl,hm',λSh V hnC=>⟨V.own,λx f L d O=>?_,V.M,V.lt⟩⟩
   .obtain⟨ls,OM⟩:=j.fr.defers;rw[kz (λB u=>by grind) OM];trivial
   .have fq:cf 45 d5 s' (Iz ns.length Y.C) a4:=j.fr.le (cG rfl (by simp));exact dc.closed (s:=s') (s':={s' with β:=s'.β.set 2 ⟨.nilFunc,[Y.C]⟩}) rfl (fq.slot t) (oV rfl)
   .rcases z L d with rfl|d
    .grind
    .exact V.β x f L d O
 .rintro g' s' ⟨a4,m,h4,hl4,hgo⟩;refine At.goes m g' s' h4 hl4 hgo λs1 h1=>?_;have h2:At (y8 k ps ns C xs) so ((28,.any)::Iz ns.length C) (CK k ps ns C) (a4.put (aa 28) (.tuple #[])) s1:=⟨h1.fr.put (by decide) ar,h1.hh,h1.st⟩
  refine h2.ctl rfl (λw=>iu) λs2 h3=>?_;refine Sz s2 _ (h3.fr.le (cG rfl (by simp))) h3.hh b kk cs S hb Kp λe φ' σ' s' a' q f' h' pj=>hQ e φ' σ' s' a' q f' h' (h3.st.trans pj)
end
end
abbrev VT(a:List Bs)(b:Bool):D:=.fe [.one (.c (.sl ae 1 a.length (cS.fn a))),.one (.c (.bool b))]
def eg(k:Int)(ps:List bw)(ns:List Int):Option (List Bs):=if ns.all (λn=>(du k ps n).isSome)then aa (ns.map λn=>(du k ps n).getD [])else af
noncomputable def cR0:Code:=vl CI
noncomputable def cR1:Code:=vl (jZ CI)
noncomputable def cR2:Code:=vl (jZ (jZ CI))
def LU:Tryz.f96.body=aa (.seq cR0 (.seq cR1 (.seq cR2 VL))):=by kernel_rfl
def Ps(k:Int)(ps:List bw)(ns:List Int)(i:Nat):List AM.C:=[.str ((du k ps (ns.getD i 0)).getD []),.bool (du k ps (ns.getD i 0)).isSome]
def tf(k:Int)(ps:List bw)(ns:List Int):List Bs:=ns.map λn=>(du k ps n).getD []
theorem AR{b p:Bs}(h:eR b=aa p):p.length<=8:=by
 unfold eR at h;split at h
 .rename_i a;cases h;simp only[bP,bC,bc]at a;omega
 grind
theorem Fz{k:Int}{x:ck}{p:Bs}(h:chunk k x=aa p):p.length<=8:=by unfold chunk at h;grind[AR]
theorem xl{k:Int}{ps:List bw}{n:Int}:((du k ps n).getD []).length<=8:=by
 cases h:du k ps n with
 |none=>simp
 |some p =>
  obtain⟨q,_,a⟩:=List.exists_of_findSome?_eq_some h;unfold dM at a;grind[Fz]
theorem Pt{k:Int}{ps:List bw}{ns:List Int}(hi:i<ns.length){c:AM.C}{x:aj}(a:(Ps k ps ns i)[j]?=aa c)(d:(lg k ps ns)[i*2+j]?=aa x):Rd M x c:=by
 have b:j<2:=(b8.1 a).1;have:=y9 (k:=k) (ps:=ps) hi b;rw[Nat.mul_comm,this]at d;cases d
 match j,b with
 |0,_ =>
  cases a;have:=xl (k:=k) (ps:=ps) (n:=ns.getD i 0);exact .str rfl (by omega)
 |1,_=>cases a;exact .bool
def _root_.Go.AM.mT.le{P:aK}{X:Cx P}{N:Nat}{Q:Post}{φ φ':Fr}{σ:List ba}{c:Code}(h:mT X N c Q φ' σ)(hl:qP φ φ'):mT X N c Q φ σ:=λs a f hh=>h s a (f.le hl) hh
def AN{k:Int}(g:dw (Cx.work ag) 123 (lf k))(ps:List bw)(ns:List Int)(p:ns.length<=4000000):
  Ev (Cx.beside ag) 96 [dI k,cP.sl ps,cI.sl ns] [] (VT ((eg k ps ns).getD []) (eg k ps ns).isSome) []:=by
 refine dK.EO (dK.yL (ι:=Unit) Tryz.func96 rfl LU rfl λt=>?_);show mT _ 45 _ _ _ _;refine mT.seq (AW.top (AK.of_code ?_));refine br rfl ar ?_;show mT _ 45 _ _ _ _;refine mT.seq (AW.top (AK.of_code ?_));refine br rfl ar ?_;refine AK.GO (E:=166) (n:=ns.length) tok rfl rfl rfl rfl rfl rfl (by show _*24<=_;omega) (by omega) rfl rfl λC xs=>?_;refine br rfl ar ?_;show mT _ 45 _ _ _ _;refine mT.seq (AW.top (AK.of_code ?_));refine br rfl ar ?_;show mT _ 45 _ _ _ _;have a:mT (Cx.beside ag) 45 py (λe φ σ1=>∃_:Unit,b7 Tryz.f96 0 (VT ((eg k ps ns).getD []) (eg k ps ns).isSome) [] e φ σ1) (Iz ns.length C) (CK k ps ns C):=by
  refine AW.top (AW.mono (Q:=b7 Tryz.f96 0 (VT ((eg k ps ns).getD []) (eg k ps ns).isSome) []) (AK.of_code ?_) λ_ _ _ q=>⟨(),q⟩);refine br rfl (show _<=_ by omega) ?_;refine AK.ue 29 2 (bf:=.row C ns.length) (n:=ns.length) (k:=2) (Ps k ps ns) rfl rfl (λi hi=>⟨rfl,λM j c x s u=>?_⟩) ?_
  .grind [Pt]
  refine AK.g8 12 9 1 rfl rfl ?_;refine AK.bS 6 (λi=>i<=ns.length/\∀j,j<i->(du k ps (ns.getD j 0)).isSome=ab) (λi:Nat=>[(29,.e (.one (.c (.sl ae 2 ns.length (Ps k ps ns))))),(30,dI ns.length),(31,dI i),(12,.e (.one (.vec 5 1 (tf k ps (ns.take i)).length (cS.fn (tf k ps (ns.take i))))))]) (λi=>[.dead,.dead,.dead,.dead,.dead,.vec 9 1 (tf k ps (ns.take i)).length (cS.fn (tf k ps (ns.take i)))]) (λi=>ns.length-i) 0 rfl ?_ rfl ?_ rfl ⟨by omega,by omega⟩ ?_
  .simp[cn,tf]
  .simp[cn,tf]
  rintro i ⟨hi,m⟩;by_cases h:i<ns.length
  .cases o:(du k ps (ns.getD i 0)).isSome with
   |true =>
    have b:tf k ps (ns.take (i+1))=tf k ps (ns.take i)++[(du k ps (ns.getD i 0)).getD []]:=by unfold tf;grind[List.take_add_one]
    have r:(tf k ps (ns.take i)).length<=4000000:=by simp[tf];omega
    refine bE [(32,ab),(37,ae)] rfl ?_ (AK.aQ (i+1) rfl ?_ ?_ ?_ ?_)
    .simp[-ai,h,Ps,o,bq];have:i9.bytes=16:=rfl;grind
    .rw[b];simp[-ai,Ps];exact cS.cg _ _
    .rw[b];simp[-ai,Ps];exact cS.cg _ _
    .grind
    .omega
   |false =>
    refine bE [(32,ab),(37,ab)] rfl ?_ (AK.eK (b7.zero rfl ?_))
    .simp[-ai,h,Ps,o]
    .have l:eg k ps ns=af:=by unfold eg;rw[bh];grind
     simp[l]
  .have f:i=ns.length:=by omega
   subst f;refine bE [(32,ae)] rfl (by simp) (AK.leaveD rfl rfl ?_);refine dv rfl ar (AK.bg rfl ?_);have d:eg k ps ns=aa (tf k ps ns):=by
    unfold eg;rw[bt]
    .rfl
    grind[List.mem_iff_getElem]
   simp[d]
 exact mT.le (σ:=y8 k ps ns C xs) (Sy (xs:=xs) g p a) (cG rfl (by simp))
end R1
end Go.AM
namespace Go.AM.R1
def je(a:UInt8)(s:Bs):hO (a::s)=if a=47 then 0 else if hO s=-1 then -1 else hO s+1:=by unfold hO;grind[Lib.indexByte.eq_def]
def tR:hO []=-1:=by unfold hO;rw[Lib.indexByte.eq_def]
def FO(s:Bs):eD s=dr s:=by
 by_cases i:s.length<=3
 .match s,i with
  |[],_=>simp[eD,dr,cj,iN,tR]
  |[a],_ =>
   by_cases d:a=47
   .subst d;simp[eD,dr,cj,iN,lL,jm,je,lh,cq]
   .simp[eD,dr,cj,iN,jm,je,tR,d,lh,cq]
  |[a,b],_ =>
   by_cases d:a=47
   .subst d;simp[eD,dr,cj,iN,lL,jm,je]
   .by_cases e:b=47
    .subst e;simp[eD,dr,cj,iN,lL,jm,je,d]
    .simp[eD,dr,cj,iN,jm,je,tR,d,e]
  |[a,b,c],_ =>
   by_cases d:a=47
   .subst d;simp[eD,dr,cj,iN,lL,jm,je,lh,cq]
   .by_cases e:b=47
    .subst e;simp[eD,dr,cj,iN,lL,jm,je,d,lh,cq]
    .have f:¬(b.toNat:Int)=47:=by intro h;apply e;apply oB.1;grind
     by_cases g:c=47
     .subst g;simp[eD,dr,cj,iN,lL,jm,je,d,e,lh,cq]
     .simp[eD,dr,cj,iN,jm,je,tR,d,e,g,f,lh,cq]
  |_::_::_::_::_,h=>grind
 .have j:dr s=ae:=by unfold dr;grind
  grind[sQ]
end Go.AM.R1
namespace Go.AM
theorem qZ(a:Bs):aY a []=ae:=by rw[Op.bytesLess.eq_def]
def vE(b:UInt8)(l:Bs):aY [] (b::l)=ab:=by rw[Op.bytesLess.eq_def]
theorem q8(a b:UInt8)(x y:Bs):aY (a::x) (b::y)=(decide (a<b)||a==b&&aY x y):=by rw[Op.bytesLess.eq_def]
theorem pe:∀a:Bs,aY a a=ae
 |[]=>qZ []
 |a::l=>by rw[q8,pe l];simp
def AY:∀a b:Bs,aY a b=ab∨a=b∨aY b a=ab
 |[],[]=>.inr (.inl rfl)
 |[],b::y=>.inl (vE b y)
 |a::x,[]=>.inr (.inr (vE a x))
 |a::x,b::y=>by
  rw[q8,q8];rcases AY x y with h|h|h
  .grind
  .grind
  grind
theorem vF:∀{a b c:Bs},aY a b=ab->aY b c=ab->aY a c=ab
 |a,b,[],_,d=>by grind[qZ]
 |a,[],c::z,e,_=>by grind[qZ]
 |[],b::y,c::z,_,_=>vE c z
 |a::x,b::y,c::z,e,d=>by
  rw[q8,lS,bP,bc,gg]at e d⊢;rcases e with e|⟨rfl,e⟩
  .grind
  .rcases d with d|⟨rfl,d⟩
   .grind
   .exact .inr ⟨rfl,vF e d⟩
theorem AZ{a b:Bs}(h:aY a b=ab):aY b a=ae:=by grind[vF,pe]
def PW{a b:Bs}:(!(aY b a||b==a))=aY a b:=by
 rcases AY a b with h|h|h
 .have c:(b==a)=ae:=by simp only[eF,dn];grind[pe]
  grind[AZ]
 .grind [pe]
 grind[AZ]
namespace R1
def S8{t:List bu}{i:Nat}(h:∀k,0<k->k<=i->aY (eL t (k-1)) (eL t k)=ab):∀j,j<i->aY (eL t j) (eL t i)=ab:=by
 intro j f;induction i with
 |zero=>omega
 |succ i d =>
  have c:=h (i+1) (by omega) (aZ _);simp only[oy]at c;by_cases e:j=i
  .grind
  .exact vF (d (λk a b=>h k a (by omega)) (by omega)) c
def sR{s:Bs}(h:dr s=ab):(∃a,s=[a])∨∃a b,s=[a,47,b]:=by
 unfold dr at h;split at h
 .rename_i d
  match s,d with
  |[a],_=>grind
 .split at h
  .rename_i d
   match s,d with
   |[a,b,c],_ =>
    right;simp[lh,cq]at h;have e:b=47:=by apply oB.1;grind
    grind
  grind
theorem A0{p q:Bs}(i:dr p=ab)(f:dr q=ab)(g:aY p q=ab):clash p q=under q p:=by
 rcases sR i with⟨a,rfl⟩|⟨a,b,rfl⟩<;>rcases sR f with⟨c,rfl⟩|⟨c,d,rfl⟩
 .simp[clash,under,ko]
 .by_cases e:a=c
  .subst e;simp[clash,under,ko,cq]
  .have:¬(a.toNat:Int)=c.toNat:=λh=>e (oB.1 (by omega));have k:((a.toNat:Int)==(c.toNat:Int))=ae:=by grind
   have j:(c==a)=ae:=by grind
   simp[clash,under,ko,cq];grind
 .have:¬(a.toNat:Int)=c.toNat:=by grind[UInt8.toNat_inj,q8,qZ]
  simp[clash,under,ko,cq,this]
 .simp[clash,under,ko]
theorem xB{t:List bu}{i:Nat}(a:∀j,j<i->fR t j=ab):iA t i=fR t i:=by
 unfold iA fR;rw[FO,PW];cases n:dr (eL t i)with
 |false=>simp
 |true =>
  cases m:dO (tg t i)with
  |false=>simp
  |true =>
   cases g:(i==0||aY (eL t (i-1)) (eL t i))with
   |false=>simp
   |true =>
    simp only[eZ];have f:∀j,j<i->aY (eL t j) (eL t i)=ab:=by
     apply S8;intro k l c;by_cases e:k=i
     .grind
     .have:=a k (by omega);simp only[fR,bP,lS,gg]at this;grind
    rw[oC,c7,c7];have h:∀j,j<i->clash (eL t j) (eL t i)=under (eL t i) (eL t j):=by
     intro j b;have d:dr (eL t j)=ab:=by have:=a j b;simp only[fR,bP]at this;exact this.1.1.1
     grind[A0]
    grind
def Fv(t:List bu):m0 t=db t:=by
 unfold m0 db;congr 1;rw[oC,c7,c7];constructor
 .intro h i;induction i using Nat.strongRecOn with
  |_ i a=>grind[xB]
 grind[xB]
end R1
end Go.AM
namespace Go.AM
variable {n k l b i j:Nat}{E:ay}{H:aj->(Nat->Option Obj)->Prop}{L:Array Bool}{M:Mem}{N:Nat}{P:aK}{S:ak->St->Prop}{c:Code}{g:ak}{o:aB}{s:St}{t:ay}{v:aj}{w:aA}{x y:aC}{α:Type}{η:aC->D}{ι:Type}{σ:List ba}{φ:Fr}{all:List aB}{jK:Array ay}{cap:List C}{cu:List D}{cs:List Frame}{ds:List (Nat×Bool)}{es:Nat->List C}{fo:aC}{obs:List Prop}{off:Nat}{op:BinOp}{ops:Array aB}{ps:List Prop}{rest:List aB}{s':St}{ty:ay}{val:Nat->Nat->aj}{vs:List aj}{w':aA}{xs:Array aC}{σ' σs:List ba}{res:ι->D}{σ1:ι->List ba}
variable {CT:List (Nat×di)}{K:List It}{Qf:Post}{T:List (Nat×TI)}{ie:TI}
namespace R1
section
variable {X:Cx ag}
def fileOf(k:Int)(ps:List bw)(x:gj):Option bu:=match eg k ps x.2 with
 |none=>af
 |some l=>match fI l with
  |none=>af
  |some t=>aa (x.1,t)
def cX(k:Int)(ps:List bw)(l:List gj):List bu:=l.map λx=>(fileOf k ps x).getD ([],[])
def cE(k:Int)(s:cm)(ps:List bw):Option (List bu) :=
 if cw k&&s.2.all (λx=>(fileOf k ps x).isSome)&&db (cX k ps s.2)then aa (cX k ps s.2)else af
abbrev LM(a:List bu)(b:Bool):D:=.fe [.one (.c (.sl ae 2 a.length (cF.fn a))),.one (.c (.bool b))]
abbrev AJ(s:cm):D:=.e (.agg [.c (.int .i64 s.1),.c (.sl ae 2 s.2.length (cL.fn s.2))])
theorem oh{k:Int}{ps:List bw}{l:List gj}(h:i<l.length):cX k ps (l.take (i+1))=cX k ps (l.take i)++[(fileOf k ps (l.getD i ([],[]))).getD ([],[])]:=by unfold cX;grind[List.take_add_one]
def oi{k:Int}{ps:List bw}{s:cm}(h:i<s.2.length)(a:fileOf k ps (s.2.getD i ([],[]))=af):cE k s ps=af:=by unfold cE;rw[bh];grind
def wG{k:Int}{ps:List bw}{ns:List Int}{l:List Bs}(h:eg k ps ns=aa l)(a:ns.length<=4000000):l.flatten.length<=140737488355328/\l.length<=4000000:=by
 unfold eg at h;split at h
 .rename_i b;cases h;refine⟨?_,by grind⟩;have key:∀ns:List Int,(ns.all λn=>(du k ps n).isSome)=ab->(ns.map λn=>(du k ps n).getD []).flatten.length<=8*ns.length:=by
   intro ns;induction ns with
   |nil=>grind
   |cons n ns ih =>
    intro h;simp only[List.all_cons,bP]at h;grind[xl]
  grind
 grind
def AL(k:Int)(s:cm)(ps:List bw)(J:s.2.length<=4000000)(D:∀x∈s.2,x.2.length<=4000000):
  Ev (Cx.beside ag) 70 [dI k,AJ s,cP.sl ps] [] (LM ((cE k s ps).getD []) (cE k s ps).isSome) []:=by
 refine Ev.bQ Tryz.func70 rfl λH=>?_;have z:=H.sl 2 rfl;have a:bA (Cx.beside ag) [(49,ki aI (λk=>dB (cw k)) λ_=>[])]:=.cons t49 .nil;cases g:cw k with
 |false =>
  refine aM a [(15,ae),(16,ab)] rfl ?_ (AK.bg rfl ?_)
  .simp[g]
  .simp[cE,g]
 |true =>
  have p:dw (Cx.work ag) 123 (lf k):=Pg Sc g;refine aM a [(15,ab),(16,ae),(1000004,ab)] rfl ?_ ?_
  .simp[g]
  refine AK.g8 8 110 2 rfl rfl ?_;refine bR a rfl ar ?_;refine AK.bS 2 (λi=>i<=s.2.length/\∀j,j<i->(fileOf k ps (s.2.getD j ([],[]))).isSome=ab) (λi:Nat=>[(0,dI k),(2,cP.sl ps),(4,.e (.one (.ptr 0 0))),(8,.e (.one (.vec 1 2 (cX k ps (s.2.take i)).length (cF.fn (cX k ps (s.2.take i)))))),(18,cL.sl s.2),(19,dI s.2.length),(20,dI i)]) (λi=>[.cells 39 [.c (.int .i64 s.1),.c (.sl ae 2 s.2.length (cL.fn s.2))],.vec 110 2 (cX k ps (s.2.take i)).length (cF.fn (cX k ps (s.2.take i)))]) (λi=>s.2.length-i) 0 rfl ?_ rfl ?_ rfl ⟨by omega,by omega⟩ ?_
  .simp[cX]
  .simp[cX]
  rintro i ⟨hi,w⟩;by_cases h:i<s.2.length
  .have o:s.2.getD i ([],[])∈s.2:=by grind
   generalize f:s.2.getD i ([],[])=x at o;have n:=D x o;have d:=AN p ps x.2 n;cases b:eg k ps x.2 with
   |none =>
    rw[b]at d;refine aM a [(21,ab)] rfl ?_ ?_
    .exact⟨by omega,by omega,cV (by omega)⟩
    refine AK.cQ (f▸d) [] rfl ?_;refine aM a [(33,ab)] rfl ?_ (AK.eK (b7.zero rfl ?_))
    .simp
    .have e:fileOf k ps x=af:=by simp[fileOf,b]
     rw[oi h (by grind)];simp
   |some l =>
    obtain⟨r,I⟩:=wG b n;rw[b]at d;have q:=CE (X:=Cx.beside ag) l r;refine aM a [(21,ab)] rfl ?_ ?_
    .exact⟨by omega,by omega,cV (by omega)⟩
    refine AK.cQ (f▸d) [] rfl ?_;refine aM a [(33,ae)] rfl ?_ ?_
    .simp
    refine AK.cQ q [] rfl ?_;cases A:fI l with
    |none =>
     refine aM a [(40,ab)] rfl ?_ (AK.eK (b7.zero rfl ?_))
     .simp
     .have e:fileOf k ps x=af:=by simp[fileOf,b,A]
      rw[oi h (by grind)];simp
    |some t =>
     have e:fileOf k ps x=aa (x.1,t):=by simp[fileOf,b,A]
     have G:s.2.getD (i:Int).toNat cL.bG=x:=f;have E:(cX k ps (s.2.take i)).length<=4000000:=by simp[cX];omega
     have B:cn ((cX k ps (s.2.take i)).length+1) (cD (cX k ps (s.2.take i)).length (cF.fn (cX k ps (s.2.take i))) λu=>[[C.str (s.2.getD (i:Int).toNat cL.bG).1,C.str ((aa t).getD [])]].getD u []) (cF.fn (cX k ps (s.2.take (i+1)))):=by rw[oh h,f,e,G];exact cF.cg (cX k ps (s.2.take i)) (x.1,t)
     have v:(cX k ps (s.2.take i)).length+1=(cX k ps (s.2.take (i+1))).length:=by grind[oh]
     refine aM a [(40,ae)] rfl ?_ (AK.aQ (i+1) rfl ?_ ?_ ?_ ?_)
     .refine⟨by simp only[bq];omega,rfl,rfl,?_,rfl⟩;show _*32<=_;omega
     .refine au.cat.2 ⟨rfl,au.cat.2 ⟨⟨rfl,cn.same⟩,au.cat.2 ⟨ar,au.cat.2 ⟨⟨v,B⟩,au.cat.2 ⟨⟨rfl,cn.same⟩,au.cat.2 ⟨rfl,au.cat.2 ⟨?_,ar⟩⟩⟩⟩⟩⟩⟩;simp
     .exact au.cat.2 ⟨au.cat.2 ⟨rfl,au.cat.2 ⟨⟨rfl,cn.same⟩,ar⟩⟩,au.cat.2 ⟨⟨v,B⟩,ar⟩⟩
     .grind
     .omega
  .have e:i=s.2.length:=by omega
   subst e;refine aM a [(21,ae)] rfl (by simp) (AK.leaveD rfl rfl ?_);rw[cB];have m:=CF (X:=Cx.beside ag) (cX k ps s.2);rw[Fv]at m;refine bR a rfl ar ?_;refine AK.cQ m [] rfl ?_;have F:s.2.all (λx=>(fileOf k ps x).isSome)=ab:=List.all_eq_true.2 λx o=>by grind[List.mem_iff_getElem]
   cases y:db (cX k ps s.2)with
   |false =>
    refine aM a [(51,ab)] rfl ?_ (AK.bg rfl ?_)
    .simp
    .simp[cE,y]
   |true =>
    refine aM a [(51,ae)] rfl ?_ (AK.bg rfl ?_)
    .simp
    .simp[cE,y,g,F]
abbrev bl:=List bw×List cm×List (Int×Int)
def il(s:bl):Prop:=∀x∈s.2.1,x.2.length<=4000000/\∀y∈x.2,y.2.length<=4000000
abbrev o8(s:bl):D:=.e (.agg [.c (.sl ae 2 s.1.length (cP.fn s.1)),.c (.sl ae 2 s.2.1.length (dZ.fn s.2.1)),.c (.sl ae 2 s.2.2.length (cH.fn s.2.2))])
def eB(k:Int)(s:bl)(no:Int):Option (List bu):=match s.2.1.find? (λx=>x.1==no)with
 |none=>af
 |some x=>cE k x s.1
def rW:di:=Ct aI (BF cL) (aL cP) (λk s ps=>LM ((cE k s ps).getD []) (cE k s ps).isSome) λ_ s _=>[s.2.length<=4000000,∀x∈s.2,x.2.length<=4000000]
def xm:dw (Cx.beside ag) 70 rW:=.Ig λk s ps h=>AL k s ps h.1 h.2
def y5(k:Int)(s:bl)(no:Int)(g:il s):
  Ev (Cx.beside ag) 36 [dI k,o8 s,dI no] [] (LM ((eB k s no).getD []) (eB k s no).isSome) []:=by
 refine Ev.bQ Tryz.func36 rfl λm=>?_;have a:bA (Cx.beside ag) [(65,VF),(70,rW)]:=.cons t65 (.cons xm .nil);have d:dZ.list s.2.1.length (dZ.fn s.2.1)=s.2.1:=dZ.list_fn _;refine aM a [(1000001,ab)] rfl ar ?_;refine AK.freeze 5 1 rfl rfl rfl ?_;rcases AF s.2.1 no with⟨c,b⟩|⟨i,hi,c,b⟩
 .refine aM a [(14,ab)] rfl ?_ (AK.bg rfl ?_)
  .simp only[au,d,c];exact⟨rfl,dZ.aR _⟩
  .simp[eB,b]
 .have j:s.2.1.getD i (0,[])∈s.2.1:=by grind
  obtain⟨l,h⟩:=g _ j;have e:eB k s no=cE k (s.2.1.getD i (0,[])) s.1:=by simp only[eB,b]
  have f:s.2.1.getD (pw (dZ.list s.2.1.length (dZ.fn s.2.1)) no).toNat dZ.bG=s.2.1.getD i (0,[]):=by grind
  refine aM a [(14,ae)] rfl ?_ (AK.bg rfl ?_)
  .simp only[au,f,cL.list_fn,d,c];exact⟨cL.aR _,cP.aR _,l,h,by omega,by omega,gf (by omega),dZ.aR _⟩
  .simp only[f,cL.list_fn,cP.list_fn,e];exact au.cat.2 ⟨⟨ar,cn.same⟩,au.cat.2 ⟨ar,ar⟩⟩
def Ks:Arg bl:=⟨o8,λd=>match d with
 |.e (.agg [.c a,.c b,.c c])=>match jl 2 (.e (.one (.c a)))with
  |some (k,g)=>match jl 2 (.e (.one (.c b)))with
   |some (j,i)=>match jl 2 (.e (.one (.c c)))with
    |some (l,m)=>aa ((cP.list k g,dZ.list j i,cH.list l m),[cP.fits k g,dZ.fits j i,cH.fits l m])
    |none=>af
   |none=>af
  |none=>af
 |_=>af,λ{d a o} h n σ s v r=>by
 split at h
 .split at h
  .rename_i k g y;split at h
   .rename_i j i x;split at h
    .rename_i l m u;cases h;obtain⟨vs,p,f⟩:=r
     match vs,f with
     |[],f=>exact f.elim
     |[_],f=>exact f.2.elim
     |[_,_],f=>exact f.2.2.elim
     |_::_::_::_::_,f=>exact f.2.2.2.elim
     |[t,q,w],f =>
      exact⟨_,p,cP.iF (σ:=[]) (s:=s) (v:=t) y n.1 f.1,dZ.iF (σ:=[]) (s:=s) (v:=q) x n.2.1 f.2.1,cH.iF (σ:=[]) (s:=s) (v:=w) u n.2.2 f.2.2.1,ar⟩
    grind
   grind
  grind
 grind⟩
def vj:di:=Ct aI Ks aI (λk s n=>LM ((eB k s n).getD []) (eB k s n).isSome) λ_ s _=>[il s]
def CG:dw (Cx.beside ag) 36 vj:=.Ig λk s n h=>y5 k s n h
abbrev gk(p:bw)(i:Nat):ck:=p.2.getD i (0,[])
def ia(k:Int)(p:bw)(i:Nat):Bool:=right k (gk p i)&&(i==0||decide ((gk p (i-1)).1<(gk p i).1))
theorem rX(k:Int)(p:bw):iG k p=((a9 p.2.length).all (ia k p)&&(cw k&&decide (1<=p.1)&&decide (p.1<=99)&&decide (1<=p.2.length)&&decide (p.2.length<=4))):=by
 have e:(p.2.all (right k)&&y6 (p.2.map (·.1)))=(a9 p.2.length).all (ia k p):=by
  rw[oC,bP,List.all_eq_true,List.all_eq_true];unfold y6;rw[List.all_eq_true];have a:∀i,i<p.2.length->(p.2.map (·.1)).getD i 0=(gk p i).1:=λi hi=>by grind
  constructor
  .rintro⟨d,c⟩ i hi;have hi:=qp.1 hi;have q:=c i (by grind);rw[a i hi]at q;unfold ia;rw[d (gk p i) (by grind),eZ];rcases nI i with rfl|f
   .rfl
   grind
  .intro h;refine⟨λx b=>?_,λi hi=>?_⟩
   .obtain⟨i,hi,rfl⟩:=kN.1 b;have:=h i (qp.2 hi);simp only[ia,bP]at this;grind
   .have hi:i<p.2.length:=by grind
    have:=h i (qp.2 hi);simp only[ia,bP]at this;grind
 rw[<-e];unfold iG;cases cw k<;>cases decide (1<=p.1)<;>cases decide (p.1<=99)<;>cases decide (1<=p.2.length)<;>cases decide (p.2.length<=4)<;>simp
def xn{k:Int}{p:bw}(hi:i<p.2.length)(h:ia k p i=ae):iG k p=ae:=by grind[rX]
theorem pY{k:Int}{x:ck}(a:cw k=ab):(chunk k x).isSome=right k x:=by unfold chunk right;grind
def Fw(k:Int)(p:bw)(d:cw k=ab)(w:p.2.length<=4000000):Ev X 80 [dI k,D9 p] [] (dB (iG k p)) []:=by
 refine Ev.bQ Tryz.func80 rfl λy=>?_;have a:bA X [(49,ki aI (λk=>dB (cw k)) λ_=>[]),(101,mX QP aI (λx k=>y0 (chunk k x)) λ_ k=>[cw k=ab])]:=.cons t49 (.cons (Ii Sc) .nil);refine bR a rfl ar ?_;refine AK.bS 1 (λi=>i<=p.2.length/\∀j,j<i->ia k p j=ab) (λi:Nat=>[(0,dI k),(3,.e (.one (.ptr 0 0))),(10,eb.sl p.2),(11,dI p.2.length),(12,dI i)]) (λ_=>[.cells 43 [.c (.int .i64 p.1),.c (sP p)]]) (λi=>p.2.length-i) 0 rfl ?_ rfl ?_ rfl ⟨by omega,by omega⟩ ?_
 .simp
 .simp
 rintro i ⟨hi,g⟩;by_cases h:i<p.2.length
 .cases m:right k (gk p i)with
  |false =>
   have q:(chunk k (gk p i)).isSome=ae:=by grind[pY]
   refine aM a [(13,ab),(24,ab),(40,ab)] rfl ?_ (AK.eK (b7.zero rfl ?_))
   .refine⟨rfl,?_,d,by omega,by omega,cV (by omega)⟩;grind
   .rw[xn h (by simp only[ia,m,qq])];simp
  |true =>
   have q:(!(chunk k (gk p i)).isSome)=ae:=by grind[pY]
   by_cases u:i=0
   .subst u;refine aM a [(13,ab),(24,ae),(27,ae),(40,ae)] rfl ?_ (AK.aQ 1 rfl ?_ ?_ ⟨by omega,λj l=>?_⟩ (by omega))
    .simp only[au,bq];grind
    .simp
    .simp
    .have:j=0:=by omega
     subst this;simp only[ia,m,eZ];rfl
   .have r:((i:Int)-1).toNat=i-1:=by omega
    cases t:decide ((gk p (i-1)).1<(gk p i).1)with
    |false =>
     refine aM a [(13,ab),(24,ae),(27,ab),(38,ab),(40,ab)] rfl ?_ (AK.eK (b7.zero rfl ?_))
     .have o:(p.2.getD ((i:Int)-1).toNat eb.bG).1=(gk p (i-1)).1:=by rw[r];rfl
      refine⟨rfl,cV ?_,by omega,by omega,by simp only[bq];omega,cV (by omega),q,d,by omega,by omega,cV (by omega)⟩;rw[o];show(gk p i).1<=_;grind
     .rw[xn h (by simp only[ia,m,t,eZ,Bool.or_false];grind)];simp
    |true =>
     refine aM a [(13,ab),(24,ae),(27,ab),(38,ae),(40,ae)] rfl ?_ (AK.aQ (i+1) rfl ?_ ?_ ⟨by omega,λj l=>?_⟩ (by omega))
     .have o:(p.2.getD ((i:Int)-1).toNat eb.bG).1=(gk p (i-1)).1:=by rw[r];rfl
      refine⟨by simp only[bq];omega,rfl,gf ?_,by omega,by omega,by simp only[bq];omega,cV (by omega),q,d,by omega,by omega,cV (by omega)⟩;rw[o];show¬(gk p i).1<=_;grind
     .simp
     .simp
     .rcases tm.1 l with l|rfl
      .grind
      .simp only[ia,m,t,eZ,Bool.or_true]
 .have e:i=p.2.length:=by omega
  subst e;refine aM a [(13,ae)] rfl (by simp) (AK.leaveD rfl rfl ?_);have v:(a9 p.2.length).all (ia k p)=ab:=List.all_eq_true.2 λj l=>g j (qp.1 l);rw[rX,v,d];by_cases b:1<=p.1
  .by_cases f:p.1<=99
   .by_cases n:1<=p.2.length
    .by_cases s:p.2.length<=4
     .refine aM a [(43,ab),(47,ab),(52,ab),(58,ab),(64,ab)] rfl ?_ (AK.bg rfl ?_)
      .exact⟨cV (by omega),cV (by omega),cV f,cV b,d⟩
      .simp[b,f,n,s]
     .refine aM a [(43,ab),(47,ab),(52,ab),(58,ab),(64,ae)] rfl ?_ (AK.bg rfl ?_)
      .exact⟨gf (by omega),cV (by omega),cV f,cV b,d⟩
      .simp[b,f,n,s]
    .refine aM a [(43,ab),(47,ab),(52,ab),(58,ae)] rfl ?_ (AK.bg rfl ?_)
     .exact⟨gf (by omega),cV f,cV b,d⟩
     .simp[b,f,n]
   .refine aM a [(43,ab),(47,ab),(52,ae)] rfl ?_ (AK.bg rfl ?_)
    .exact⟨gf f,cV b,d⟩
    .simp[b,f]
  .refine aM a [(43,ab),(47,ae)] rfl ?_ (AK.bg rfl ?_)
   .exact⟨gf b,d⟩
   .simp[b]
def Ec:di:=mX aI (BF eb) (λk p=>dB (iG k p)) λk p=>[cw k=ab,p.2.length<=4000000]
def LN:dw X 80 Ec:=.px λk p h=>Fw k p h.1 h.2
def CL(l:List (Int×Int))(c:l.length<=4000000):Ev X 64 [cH.sl l] [] (cH.sl l) []:=by
 refine Ev.bQ Tryz.func64 rfl λd=>?_;refine br rfl ar ?_;refine AK.HH tok rfl rfl rfl rfl rfl rfl λb a=>?_;cases b with
 |true =>
  obtain rfl:=jo (a rfl);refine br rfl ar ?_;refine AK.bg rfl ?_;simp[cn]
 |false =>
  refine br rfl ⟨show(0+l.length)*16<=_ by omega,.inl rfl⟩ ?_;refine AK.bg rfl ?_;simp[cn,cD]
def CM(l:List ck)(c:l.length<=4000000):Ev X 93 [eb.sl l] [] (eb.sl l) []:=by
 refine Ev.bQ Tryz.func93 rfl λd=>?_;refine br rfl ar ?_;refine AK.HH tok rfl rfl rfl rfl rfl rfl λb a=>?_;cases b with
 |true =>
  obtain rfl:=jo (a rfl);refine br rfl ar ?_;refine AK.bg rfl ?_;simp[cn]
 |false =>
  refine br rfl ⟨show(0+l.length)*24<=_ by omega,.inl rfl⟩ ?_;refine AK.bg rfl ?_;simp[cn,cD]
def CN(l:List Int)(c:l.length<=4000000):Ev X 75 [cI.sl l] [] (cI.sl l) []:=by
 refine Ev.bQ Tryz.func75 rfl λd=>?_;refine br rfl ar ?_;refine AK.HH tok rfl rfl rfl rfl rfl rfl λb a=>?_;cases b with
 |true =>
  obtain rfl:=jo (a rfl);refine br rfl ar ?_;refine AK.bg rfl ?_;simp[cn]
 |false =>
  refine br rfl ⟨show(0+l.length)*8<=_ by omega,.inl rfl⟩ ?_;refine AK.bg rfl ?_;simp[cn,cD]
def _root_.Go.AM.jX.lI(c:jX α)(l:List α)(h:i<l.length)(d:α):cn (i+1) (cD i (c.fn (l.take i)) (λq=>[c.enc (l.getD i d)].getD q [])) (c.fn (l.take (i+1))):=by
 have e:l.take (i+1)=l.take i++[l.getD i d]:=by grind[List.take_add_one]
 have:=c.cg (l.take i) (l.getD i d);grind
abbrev SD:di:=ki (aL eb) (λl=>eb.sl l) λl=>[l.length<=4000000]
def VV:dw X 93 SD:=.oe λl h=>CM l h
abbrev SE:di:=ki (aL cI) (λl=>cI.sl l) λl=>[l.length<=4000000]
def VW:dw X 75 SE:=.oe λl h=>CN l h
def za(p:bw)(a:p.2.length<=4000000):Ev X 62 [D9 p] [] (D9 p) []:=by
 refine Ev.As tok Tryz.func62 rfl rfl rfl λd=>?_;have b:bA X [(93,SD)]:=.cons VV .nil;refine bR b rfl ?_ ?_
 .simp only[au,eb.list_fn];exact⟨eb.aR _,a⟩
 refine AK.mg () [] rfl rfl rfl rfl rfl rfl rfl rfl ?_ rfl rfl rfl rfl (λj c=>absurd c (by simp));simp[eb.list_fn]
abbrev NG:di:=ki (BF eb) (λp=>D9 p) λp=>[p.2.length<=4000000]
def SF:dw X 62 NG:=.oe λp h=>za p h
def zb(x:cm)(l:x.2.length<=4000000)(g:∀y∈x.2,y.2.length<=4000000):Ev X 63 [AJ x] [] (AJ x) []:=by
 refine Ev.As tok Tryz.func63 rfl rfl rfl λk=>?_;have a:bA X [(75,SE)]:=.cons VW .nil;refine aM a [(1000002,ab)] rfl ar ?_;refine AK.gx 2 1 95 2 (cL.fn []) rfl rfl ?_;refine bR a rfl ar ?_;refine AK.bS 4 (λi=>i<=x.2.length) (λi:Nat=>[(2,.e (.one (.ptr 1 0))),(3,.e (.one (.ptr 2 0))),(10,cL.sl x.2),(11,dI x.2.length),(12,dI i)])
  (λi=>[.cells 39 [.c (.int .i64 x.1),.c (.sl ae 2 x.2.length (cL.fn x.2))],.cells 39 [.c (.int .i64 0),.c (.sl ab 0 0 λ_=>[])],.cells 39 [.c (.int .i64 x.1),.vec 3 2 i (cL.fn (x.2.take i))],.vec 95 2 i (cL.fn (x.2.take i))]) (λi=>x.2.length-i) 0 rfl ?_ rfl ?_ rfl (by omega) ?_
 .simp
 .simp[cn]
 intro i hi;by_cases h:i<x.2.length
 .have f:x.2.getD i ([],[])∈x.2:=by grind
  refine aM a [(13,ab)] rfl ?_ (AK.aQ (i+1) rfl ?_ ?_ ?_ ?_)
  .have q:=g _ f;have b:x.2.getD (i:Int).toNat cL.bG=x.2.getD i ([],[]):=by grind
   simp only[au,b,cI.list_fn,bq];exact⟨by omega,ar,ar,show(i+1)*40<=_ by omega,cI.aR _,q,by omega,by omega,cV (by omega)⟩
  .simp
  .have b:x.2.getD (i:Int).toNat cL.bG=x.2.getD i ([],[]):=by grind
   have e:=cL.lI x.2 h ([],[]);simp only[au.cat,au,b,cI.list_fn,aE,aF];exact⟨cn.same,cn.same,e,e⟩
  .grind
  .omega
 .obtain rfl:i=x.2.length:=by omega
  refine aM a [(13,ae)] rfl (by simp) (AK.leaveD rfl rfl ?_);refine bR a rfl ar ?_;refine AK.mg () [] rfl rfl rfl rfl rfl rfl rfl rfl ?_ rfl rfl rfl rfl (λj d=>absurd d (by simp));simp[cn]
abbrev NH:di:=ki (BF cL) (λx=>AJ x) λx=>[x.2.length<=4000000,∀y∈x.2,y.2.length<=4000000]
def SG:dw X 63 NH:=.oe λx h=>zb x h.1 h.2
abbrev iH:A:=.c (.sl ab 0 0 λ_=>[])
def vn(s:bl)(o:s.1.length<=4000000)(d:∀p∈s.1,p.2.length<=4000000)(m:s.2.1.length<=4000000)(f:il s)(l:s.2.2.length<=4000000):
  Ev X 28 [o8 s] [] (.e (.agg [.bp 0 (.sl s.1.length 2 0 s.1.length),.bp 1 (.sl s.2.1.length 2 0 s.2.1.length),.c (.sl ae 2 s.2.2.length (cH.fn s.2.2))])) [.buf 43 2 s.1.length (cP.fn s.1),.buf 39 2 s.2.1.length (dZ.fn s.2.1)]:=by
 refine Ev.As tok Tryz.func28 rfl rfl rfl λn=>?_;have a:bA X [(62,NG),(63,NH)]:=.cons SF (.cons SG .nil);refine aM a [(1000002,ab)] rfl ar ?_;refine AK.u7 2 0 43 2 (cP.fn []) rfl rfl ?_;refine AK.u7 2 1 39 2 (dZ.fn []) rfl rfl ?_;refine bR a rfl ar ?_;refine AK.bS 5 (λi=>i<=s.1.length) (λi:Nat=>[(1,.e (.one (.ptr 0 0))),(2,.e (.one (.ptr 1 0))),(3,.e (.one (.ptr 2 0))),(9,cP.sl s.1),(10,dI s.1.length),(11,dI i)])
  (λi=>[.cells 27 [.c (.sl ae 2 s.1.length (cP.fn s.1)),.c (.sl ae 2 s.2.1.length (dZ.fn s.2.1)),.c (.sl ae 2 s.2.2.length (cH.fn s.2.2))],.cells 27 [iH,iH,iH],.cells 27 [.bp 3 (.sl i 2 0 i),.bp 4 (.sl 0 2 0 0),iH],.buf 43 2 i (cP.fn (s.1.take i)),.buf 39 2 0 (dZ.fn [])]) (λi=>s.1.length-i) 0 rfl ?_ rfl ?_ rfl (by omega) ?_
 .simp
 .simp[cn]
 intro i hi;by_cases h:i<s.1.length
 .have g:s.1.getD i (0,[])∈s.1:=by grind
  have b:s.1.getD (i:Int).toNat cP.bG=s.1.getD i (0,[]):=by grind
  refine aM a [(12,ab)] rfl ?_ (AK.aQ (i+1) rfl ?_ ?_ ?_ ?_)
  .have q:=d _ g;simp only[au,b,eb.list_fn,bq];exact⟨by omega,ar,ar,show(i+1)*32<=_ by omega,eb.aR _,q,by omega,by omega,cV (by omega)⟩
  .simp
  .have e:=cP.lI s.1 h (0,[]);simp only[au.cat,au,b,eb.list_fn,aE,aF];exact⟨⟨cn.same,cn.same,cn.same⟩,⟨cn.same,cn.same,cn.same⟩,⟨rfl,cn.same⟩,e,cn.same⟩
  .grind
  .omega
 obtain rfl:i=s.1.length:=by omega
 rw[cB];refine aM a [(12,ae)] rfl (by simp) (AK.leaveD rfl rfl ?_);refine bR a rfl ar ?_;refine AK.bS 5 (λi=>i<=s.2.1.length) (λi:Nat=>[(1,.e (.one (.ptr 0 0))),(2,.e (.one (.ptr 1 0))),(3,.e (.one (.ptr 2 0))),(24,dZ.sl s.2.1),(25,dI s.2.1.length),(26,dI i)])
  (λi=>[.cells 27 [.c (.sl ae 2 s.1.length (cP.fn s.1)),.c (.sl ae 2 s.2.1.length (dZ.fn s.2.1)),.c (.sl ae 2 s.2.2.length (cH.fn s.2.2))],.cells 27 [iH,iH,iH],.cells 27 [.bp 3 (.sl s.1.length 2 0 s.1.length),.bp 4 (.sl i 2 0 i),iH],.buf 43 2 s.1.length (cP.fn s.1),.buf 39 2 i (dZ.fn (s.2.1.take i))]) (λi=>s.2.1.length-i) 0 rfl ?_ rfl ?_ rfl (by omega) ?_
 .simp
 .simp[cn]
 intro i hi;by_cases h:i<s.2.1.length
 .have g:s.2.1.getD i (0,[])∈s.2.1:=by grind
  have b:s.2.1.getD (i:Int).toNat dZ.bG=s.2.1.getD i (0,[]):=by grind
  refine aM a [(27,ab)] rfl ?_ (AK.aQ (i+1) rfl ?_ ?_ ?_ ?_)
  .have q:=f _ g;simp only[au,b,cL.list_fn,bq];exact⟨by omega,ar,ar,show(i+1)*32<=_ by omega,cL.aR _,q.1,q.2,by omega,by omega,cV (by omega)⟩
  .simp
  .have e:=dZ.lI s.2.1 h (0,[]);simp only[au.cat,au,b,cL.list_fn,aE,aF];exact⟨⟨cn.same,cn.same,cn.same⟩,⟨cn.same,cn.same,cn.same⟩,⟨rfl,cn.same⟩,cn.same,e⟩
  .grind
  .omega
 obtain rfl:i=s.2.1.length:=by omega
 rw[cB];refine aM a [(27,ae)] rfl (by simp) (AK.leaveD rfl rfl ?_);refine bR a rfl ar ?_;refine AK.cQ (CL s.2.2 l) [] rfl ?_;refine bR a rfl ar ?_;refine AK.mg () [3,4] rfl rfl rfl rfl rfl rfl rfl rfl ?_ rfl rfl rfl rfl (λj k=>absurd k (by simp))
 .simp
def p0(q:α->Bool)(l:List α):Int:=match l.findIdx? q with|some i=>i|none=>-1
def tQ{q:α->Bool}{t:List α}{d:α}(hi:i<t.length)(h:q (t.getD i d)=ab)(a:∀j,j<i->q (t.getD j d)=ae):p0 q t=i:=by
 have:t.findIdx? q=aa i:=by grind[List.findIdx?_eq_some_iff_getElem]
 rw[p0,this]
def pb{q:α->Bool}{t:List α}{d:α}(a:∀j,j<t.length->q (t.getD j d)=ae):p0 q t=-1:=by
 have:t.findIdx? q=af:=by grind[List.getElem_of_mem]
 rw[p0,this]
def LV(l:List cm)(o:l.length<=4000000)(b:Nat)(cs:List C)(q:cm->Bool)(d:∀x,x∈l->Ev X b [AJ x,.e (.one (.c (.rp cs)))] [] (dB (q x)) []):
  Ev X 65 [.e (.one (.bp 0 (.sl l.length 2 0 l.length))),.e (.one (.c (.fn (.func b) [] [.rp cs])))] [.buf 39 2 l.length (dZ.fn l)] (dI (p0 q l)) [.buf 39 2 l.length (dZ.fn l)]:=by
 refine Ev.bQ Tryz.func65 rfl λn=>?_;refine br rfl ar ?_;refine AK.bS 1 (λi=>i<=l.length/\∀j,j<i->q (l.getD j (0,[]))=ae) (λi:Nat=>[(0,.e (.one (.bp 0 (.sl l.length 2 0 l.length)))),(1,.e (.one (.c (.fn (.func b) [] [.rp cs])))),(7,dI l.length),(8,dI i)]) (λ_=>[.buf 39 2 l.length (dZ.fn l)]) (λi=>l.length-i) 0 rfl ?_ rfl ?_ rfl ⟨by omega,by omega⟩ ?_
 .simp
 .simp
 rintro i ⟨hi,a⟩;by_cases h:i<l.length
 .have g:l.getD i (0,[])∈l:=by grind
  have k:l.getD ((0+(i:Int).toNat:Nat)) dZ.bG=l.getD i (0,[]):=by simp;rfl
  refine aV [(9,ab)] rfl ?_ ?_
  .simp only[au];grind
  rw[k];refine AK.cQ (d _ g) [] rfl ?_;cases f:q (l.getD i (0,[]))with
  |true =>
   refine aV [(16,ab)] rfl ?_ (AK.eK (b7.mk [0] rfl ?_ rfl rfl rfl mW))
   .simp
   .simp[tQ h f a]
  |false =>
   refine aV [(16,ae)] rfl ?_ (AK.aQ (i+1) rfl ?_ ?_ ?_ ?_)
   .simp[bq];omega
   .simp
   .simp
   .grind
   .omega
 .refine aV [(9,ae)] rfl (by simp;omega) (AK.leaveD rfl rfl ?_);refine br rfl ar (AK.dA [0] rfl ?_ rfl rfl rfl mW);simp[pb (λj m=>a j (by omega))]
def CO(q:α->Bool)(l:List α):(p0 q l=-1/\∀x∈l,q x=ae)∨∃i:Nat,i<l.length/\p0 q l=i/\(∀x∈l.take i,q x=ae)/\(∀x,l[i]?=aa x->q x=ab):=by unfold p0;grind[List.findIdx?_eq_some_iff_getElem,List.getElem_of_mem]
def vo{lo hi:Nat}{z:List C}(h:¬(lo<=j/\j<hi)):pQ lo hi z es j=es j:=bh h
theorem bm{l:List α}(h:i<l.length)(d:α):l.take (i+1)=l.take i++[l.getD i d]:=by grind[List.take_add_one]
def qS{l:List α}{q:α->Bool}(hi:i<l.length)(a:∀x∈l.take i,q x=ae)(b:∀x,l[i]?=aa x->q x=ab):(l.take (i+1)).filter (λx=>!q x)=l.take i:=by grind[List.take_add_one,List.filter_eq_self]
def _root_.Go.AM.jX.IC(c:jX α)(l:List α)(i:Nat)(x:α)(n:Nat)(a:n<=l.length):cn n (n5 i (c.enc x) (c.fn l)) (c.fn (l.set i x)):=by intro q b;simp only[n5,jX.fn,xo];grind
structure VX(l:List cm)(q:cm->Bool)(j:Nat)(ys:List cm):Prop where
 hj:j<=l.length
 len:ys.length=l.length
 done:ys.take ((l.take j).filter λx=>!q x).length=(l.take j).filter λx=>!q x
 rest:∀i,j<=i->ys[i]?=l[i]?
def LW(l:List cm)(B:l.length<=4000000)(b:Nat)(cs:List C)(q:cm->Bool)(t:∀x,x∈l->Ev X b [AJ x,.e (.one (.c (.rp cs)))] [] (dB (q x)) []):
  dK (ι:={es:Nat->List C // ∀i,i<(l.filter λx=>!q x).length->es i=dZ.fn (l.filter λx=>!q x) i}) X 29 [.e (.one (.bp 0 (.sl l.length 2 0 l.length))),.e (.one (.c (.fn (.func b) [] [.rp cs])))] [.buf 39 2 l.length (dZ.fn l)]
   (λ_=>.e (.one (.bp 0 (.sl l.length 2 0 (l.filter λx=>!q x).length)))) (λes=>[.buf 39 2 l.length es.1]):=by
 refine dK.nw Tryz.func29 rfl rfl rfl λF=>?_;refine br rfl ar ?_;refine AK.cQ (LV l B b cs q t) [0] rfl ?_;rcases CO q l with⟨o,p⟩|⟨m,f,o,p,v⟩
 .rw[o];have n:l.filter (λx=>!q x)=l:=x9.2 λx u=>by grind
  refine aV [(12,ab)] rfl (by simp) (AK.kl ⟨dZ.fn l,λi _=>by grind⟩ (AK.dA [0] rfl ?_ rfl rfl rfl mW));simp[n]
 rw[o];refine aV [(12,ae)] rfl ?_ ?_
 .simp[bq];omega
 refine AK.bS 1 (λs:Nat×List cm=>VX l q s.1 s.2) (λs=>[(0,.e (.one (.bp 0 (.sl l.length 2 0 l.length)))),(1,.e (.one (.c (.fn (.func b) [] [.rp cs])))),(5,dI ((l.take s.1).filter λx=>!q x).length),(6,dI s.1)])
  (λs=>[.buf 39 2 l.length (dZ.fn s.2)]) (λs=>l.length-s.1) (m+1,l) rfl ?_ rfl ?_ rfl ?_ ?_
 .have e:((l.take (m+1)).filter λx=>!q x).length=m:=by rw[qS f p v];grind
  simp[e]
 .simp
 .have e:=qS f p v;refine⟨by omega,rfl,?_,λ_ _=>rfl⟩;grind
 rintro⟨j,d⟩ ⟨z,y,r,w⟩;simp only at z y r w;by_cases h:j<l.length
 .have u:l.getD j (0,[])∈l:=by grind
  have g:((l.take j).filter λx=>!q x).length<=j:=gB (ru _ _) (by grind);have E:d.getD (0+(j:Int).toNat) dZ.bG=l.getD j (0,[]):=by grind
  refine aV [(19,ab)] rfl ?_ ?_
  .simp only[au];grind
  rw[E];refine AK.cQ (t _ u) [] rfl ?_;cases D:q (l.getD j (0,[]))with
  |false =>
   have k:(l.take (j+1)).filter (λx=>!q x)=(l.take j).filter (λx=>!q x)++[l.getD j (0,[])]:=by grind[bm]
   refine aV [(29,ab)] rfl ?_ (AK.aQ (j+1,d.set ((l.take j).filter λx=>!q x).length (l.getD j (0,[]))) rfl ?_ ?_ ?_ ?_)
   .simp only[au,bq];grind
   .simp[k]
   .have e:=dZ.IC d ((l.take j).filter λx=>!q x).length (l.getD j (0,[])) l.length (by omega);have A:0+((((l.take j).filter λx=>!q x).length:Nat):Int).toNat=((l.take j).filter λx=>!q x).length:=by omega
    simp only[au.cat,au,A,aE,aF];exact e
   .refine⟨by grind,by grind,?_,λi hi=>?_⟩
    .simp only;rw[k,b9,show ∀a,[a].length=1 fromλ_=>rfl,js,List.take_set,List.set_eq_of_length_le (by grind),r,fJ (by omega)];rfl
    grind
   grind
  |true =>
   have k:(l.take (j+1)).filter (λx=>!q x)=(l.take j).filter (λx=>!q x):=by grind[bm]
   refine aV [(29,ae)] rfl ?_ (AK.aQ (j+1,d) rfl ?_ ?_ ?_ ?_)
   .simp[bq];omega
   .simp[k]
   .simp
   .refine⟨by grind,y,by grind,λi hi=>w i (by grind)⟩
   grind
 .obtain rfl:j=l.length:=by omega
  rw[cB]at r⊢;have g:(l.filter λx=>!q x).length<=l.length:=ru _ _;refine aV [(19,ae)] rfl (by simp) (AK.leaveD rfl rfl ?_);refine br rfl ?_ ?_
  .simp only[au];grind
  refine AK.law (bx.GU tok rfl rfl rfl rfl rfl rfl ?_) rfl rfl ?_
  .simp only[cU,bF];omega
  refine br rfl ?_ (AK.kl ⟨pQ (0+cU 0 (aa ((l.filter λx=>!q x).length:Int))) (0+cU 0 (aa ((l.filter λx=>!q x).length:Int))+(cU l.length af-cU 0 (aa ((l.filter λx=>!q x).length:Int)))) i39.zero (dZ.fn d),λi hi=>?_⟩ (AK.dA [0] rfl ?_ rfl rfl rfl mW))
  .simp only[au];grind
  .have e:d[i]?=(l.filter λx=>!q x)[i]?:=by grind
   refine(vo (by simp only[cU,bF];omega)).trans ?_;simp only[jX.fn,xo,ai,e]
  .simp[cU];rfl
abbrev VY:=Int×Int×Int×Bs
abbrev QR(cs:List C):D:=.e (.one (.c (.rp cs)))
abbrev Pu(ps:List bw):C:=.sl ae 2 ps.length (cP.fn ps)
abbrev LX(a:List cm):C:=.sl ae 2 a.length (dZ.fn a)
abbrev LY(a:List (Int×Int)):C:=.sl ae 2 a.length (cH.fn a)
def QK(s:bl)(l:VY)(n:Nat)(a:l.2.1=n)(h:n<=s.2.2.length):au (gh s.2.2.length (aa l.2.1) af):=by show 0<=l.2.1/\l.2.1<=(s.2.2.length:Int);omega
def Pv(n lo hi:Int):Ev X 56 [dI n,dI lo,dI hi] [] (dB (decide (lo<=n/\n<=hi))) []:=by
 refine Ev.bQ Tryz.func56 rfl λc=>?_;by_cases b:lo<=n
 .by_cases a:n<=hi
  .refine aV [(10,ab),(14,ab)] rfl (by simp;omega) (AK.bg rfl ?_);simp[b,a]
  .refine aV [(10,ab),(14,ae)] rfl (by simp;omega) (AK.bg rfl ?_);simp;omega
 .refine aV [(10,ae),(14,ae)] rfl (by simp;omega) (AK.bg rfl ?_);simp;omega
abbrev CP:di:=Ct aI aI aI (λn lo hi=>dB (decide (lo<=n/\n<=hi))) λ_ _ _=>[]
def FC:dw X 56 CP:=.Ig λn lo hi _=>Pv n lo hi
def FD(n:Nat)(e:n<=4000000):Ev X 199 [dI n] [] (dI (cy n)) []:=by
 refine Ev.bQ Tryz.func199 rfl λf=>?_;by_cases d:n<1
 .refine aV [(6,ab),(9,ab)] rfl (by simp;omega) (AK.bg rfl ?_);have:cy n=0:=by simp[cy,d]
  simp[this]
 by_cases c:8<n
 .refine aV [(6,ae),(9,ab)] rfl (by simp;omega) (AK.bg rfl ?_);have:cy n=0:=by simp[cy,c]
  simp[this]
 by_cases a:n<=2
 .refine aV [(6,ae),(9,ae),(10,ab)] rfl (by simp;omega) (AK.bg rfl ?_);have:cy n=2:=by simp only[cy,bh (show¬(n<1∨8<n) by omega),bt a]
  simp[this]
 by_cases b:n<=4
 .refine aV [(6,ae),(9,ae),(10,ae),(13,ab)] rfl (by simp;omega) (AK.bg rfl ?_);have:cy n=4:=by simp only[cy,bh (show¬(n<1∨8<n) by omega),bh a,bt b]
  simp[this]
 .refine aV [(6,ae),(9,ae),(10,ae),(13,ae)] rfl (by simp;omega) (AK.bg rfl ?_);have:cy n=8:=by simp only[cy,bh (show¬(n<1∨8<n) by omega),bh a,bh b]
  simp[this]
def LZ(l:List Bs)(p:Bs)(c:l.length<=4000000):Ev X 149 [cS.sl l,dS p] [] (dB (l.contains p)) []:=by
 refine Ev.bQ Tryz.func149 rfl λe=>?_;refine br rfl ar ?_;refine AK.bS 0 (λi=>i<=l.length/\∀j,j<i->l.getD j []≠p) (λi:Nat=>[(0,cS.sl l),(1,dS p),(5,dI i)]) (λ_=>[]) (λi=>l.length-i) 0 rfl ?_ rfl ?_ rfl ⟨by omega,by omega⟩ ?_
 .simp
 .simp
 rintro i ⟨hi,a⟩;by_cases h:i<l.length
 .have b:l.getD (i:Int).toNat cS.bG=l.getD i []:=by grind
  by_cases f:l.getD i []=p
  .refine aV [(9,ab),(17,ab)] rfl ?_ (AK.eK (b7.zero rfl ?_))
   .simp only[au,b];grind
   .have:p∈l:=by grind
    simp[this]
  .refine aV [(9,ab),(17,ae)] rfl ?_ (AK.aQ (i+1) rfl ?_ ?_ ?_ ?_)
   .simp only[au,b,bq];grind
   .simp
   .simp
   .grind
   .omega
 .refine aV [(9,ae)] rfl (by simp;omega) (AK.leaveD rfl rfl ?_);refine br rfl ar (AK.bg rfl ?_);have:¬p∈l:=λd=>by grind[List.getElem_of_mem]
  simp[this]
end
end R1
end Go.AM
