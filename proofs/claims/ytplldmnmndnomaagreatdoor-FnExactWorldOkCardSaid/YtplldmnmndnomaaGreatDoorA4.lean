/-
  Part 4 of a machine of values without memory, proved sound over the model, and of contracts of the functions that the laws reach. Nothing is taken for granted: no condition.
-/
import Derived.Test.YtplldmnmndnomaaGreatDoorA3
import Derived.Sort.LotD5
import Derived.Sort.Walk13a
import Derived.Conc.CrowdRun
set_option linter.unusedVariables false
set_option linter.unusedSimpArgs false
set_option linter.defProp false
set_option linter.deprecated false
namespace Go.AM.R1
open Go.Proofs
variable {X:Cx Tryz.prog}
theorem Ew(k:Int):Ev X 53 [dI k] [] (dB (bO k)) []:=by
 refine Ev.body Tryz.func53 rfl rfl rfl λc=>?_
 by_cases a:1<=k
 ·by_cases b:k<=99
  ·refine aF [(4,true),(7,true)] 100 rfl ?_ (AK.au rfl ?_)
   ·simp[aa,a,b]
   ·simp[aa,bO,a,b]
  ·refine aF [(4,true),(7,false)] 100 rfl ?_ (AK.au rfl ?_)
   ·simp[aa,a];omega
   ·simp[aa,bO,a,b]
 ·refine aF [(4,false)] 100 rfl ?_ (AK.au rfl ?_)
  ·simp[aa];omega
  ·simp[aa,bO,a]
theorem t53:bU X 53 (fY aI (λk=>dB (bO k)) λ_=>[]):=.jo λk _=>Ew k
theorem u5{s:Bs}{i:Nat}(h:i<s.length):bn (s.take (i+1))=(bn (s.take i)&&cW (s.getD i 0)):=by
 unfold bn;rw[lA,aj h];simp only[List.all_append,nd,List.all_cons,List.all_nil,Bool.and_true,List.getD_eq_getElem?_getD,aj h,cp]
theorem lY{b:UInt8}:cW b=true↔97<=(b.toNat:Int)/\(b.toNat:Int)<=122:=by simp[cW];omega
theorem rf{s:Bs}{i:Nat}(h:i<s.length)(a:cW (s.getD i 0)=false):bn s=false:=by
 cases b:bn s with
 |false=>rfl
 |true =>
  have:=List.all_eq_true.1 b (s.getD i 0) (by simp[List.getD_eq_getElem?_getD,aj h])
  rw[a] at this;cases this
theorem wF(s:Bs):Ev X 178 [dS s] [] (dB (bn s)) []:=by
 refine Ev.body Tryz.func178 rfl rfl rfl λg=>?_
 have f:=g.str 0 rfl;refine bw rfl ab ?_;refine AK.qQ (λi=>i<=s.length/\bn (s.take i)=true) (λi:Nat=>[(0,dS s),(5,dI s.length),(6,dI i)]) (λ_=>[]) (λi=>s.length-i) 0 rfl (by simp[aa.cat,aa]) ⟨by omega,by simp[bn]⟩ rfl ?_
 rintro i ⟨hi,a⟩
 by_cases h:i<s.length
 ·by_cases b:bd s i<97
  ·refine aF [(7,true),(12,true)] 100 rfl ?_ (AK.dW (aW.zero rfl ?_))
   ·simp[-List.getD_eq_getElem?_getD,aa,h,bl,b]
   ·have:cW (s.getD i 0)=false:=by
     cases c:cW (s.getD i 0) with
     |false=>rfl
     |true=>have:=lY.1 c;unfold bd at b;omega
    simp[aa.cat,aa,rf h this]
  ·by_cases d:bd s i<=122
   ·refine aF [(7,true),(12,false),(17,false)] 100 rfl ?_ (AK.again (i+1) rfl ?_ ?_ ?_ rfl)
    ·simp[-List.getD_eq_getElem?_getD,aa,h,bl,b,d,aB];exact⟨by omega,bV (by omega)⟩
    ·simp[aa.cat,aa]
    ·refine⟨by omega,?_⟩
     rw[u5 h,a,ck];exact lY.2 (by unfold bd at b d;omega)
    ·omega
   ·refine aF [(7,true),(12,false),(17,true)] 100 rfl ?_ (AK.dW (aW.zero rfl ?_))
    ·simp[-List.getD_eq_getElem?_getD,aa,h,bl,b];exact aQ (by omega)
    ·have:cW (s.getD i 0)=false:=by
      cases c:cW (s.getD i 0) with
      |false=>rfl
      |true=>have:=lY.1 c;unfold bd at d;omega
     simp[aa.cat,aa,rf h this]
 ·have e:i=s.length:=by omega
  subst e;refine aF [(7,false)] 100 rfl (by simp[aa]) (AK.leave rfl rfl ?_)
  refine bw rfl ab (AK.au rfl ?_);rw[cZ] at a;simp[aa.cat,aa,a]
theorem No:bU X 178 (fY aS (λs=>dB (bn s)) λ_=>[]):=.jo λk _=>wF k
abbrev Un:List (Nat×bH):=[(53,fY aI (λk=>dB (bO k)) λ_=>[]),(178,fY aS (λs=>dB (bn s)) λ_=>[])]
theorem Qm:aO X Un:=.cons t53 (.cons No .nil)
theorem wG(p:Bs):Ev X 147 [dS p] [] (dB (aY p)) []:=by
 refine Ev.body Tryz.func147 rfl rfl rfl λc=>?_
 by_cases a:1<=p.length
 ·by_cases b:p.length<=8
  ·refine af Qm [(5,true),(9,true),(11,true)] 100 rfl ?_ (AK.au rfl ?_)
   ·simp[aa];omega
   ·simp[aa,aY,a,b]
  ·refine af Qm [(5,true),(9,false),(11,false)] 100 rfl ?_ (AK.au rfl ?_)
   ·simp[aa];omega
   ·simp[aa,aY,a,b]
 ·refine af Qm [(5,false),(11,false)] 100 rfl ?_ (AK.au rfl ?_)
  ·simp[aa];omega
  ·simp[aa,aY,a]
theorem t147:bU X 147 (fY aS (λs=>dB (aY s)) λ_=>[]):=.jo λk _=>wG k
theorem wH(n:Nat)(h:n<=4000000):Ev X 191 [dI n] [] (dI (bo n)) []:=by
 refine Ev.body Tryz.func191 rfl rfl rfl λj=>?_
 by_cases f:n<1
 ·refine aF [(5,true),(9,true)] 100 rfl ?_ (AK.au rfl ?_)
  ·simp[aa];omega
  ·simp[aa,bo,f]
 ·by_cases e:8<n
  ·refine aF [(5,false),(8,true)] 100 rfl ?_ (AK.au rfl ?_)
   ·simp[aa];omega
   ·simp[aa,bo,e]
  ·refine aF [(5,false),(8,false)] 100 rfl ?_ ?_
   ·simp[aa];omega
   have g:bo n=2∨bo n=4∨bo n=8:=by unfold bo;split;omega;split;simp;split <;> simp
   refine AK.qQ (λi:Nat=>(i=2∨i=4∨i=8)/\i<=bo n) (λi:Nat=>[(0,dI n),(3,dI i)]) (λ_=>[]) (λi=>8-i) 2 rfl (by simp[aa.cat,aa]) ⟨by simp,by omega⟩ rfl ?_
   rintro i ⟨hi,a⟩
   by_cases h:i<n
   ·refine aF [(12,true)] 100 rfl ?_ (AK.again (2*i) rfl ?_ ?_ ?_ rfl)
    ·simp[aa,aB];omega
    ·simp[aa.cat,aa];omega
    ·unfold bo at a ⊢;split at a
     ·omega
     ·rename_i d;rw[an d]
      split at a
      ·omega
      ·rename_i c;rw[an c]
       split at a
       ·rename_i b;rw[aq b];omega
       ·rename_i b;rw[an b];omega
    ·omega
   ·refine aF [(12,false)] 100 rfl (by simp[aa];omega) (AK.leave rfl rfl ?_)
    refine bw rfl ab (AK.au rfl ?_);have:i=bo n:=by
     unfold bo at a ⊢;split at a
     ·omega
     ·rename_i d;rw[an d]
      split at a
      ·rename_i c;rw[aq c];omega
      ·rename_i c;rw[an c]
       split at a
       ·rename_i b;rw[aq b];omega
       ·rename_i b;rw[an b];omega
    simp[aa.cat,aa,this]
theorem yH(s:Bs)(b:UInt8):strip (s++[b])=if b=46 then strip s else s++[b]:=by
 unfold strip;rw[List.reverse_append];simp only[List.reverse_cons,List.reverse_nil,List.nil_append,List.singleton_append,List.dropWhile_cons]
 by_cases h:b=46
 ·simp[h]
 ·have:(b==46)=false:=by simpa using h
  simp[this,h]
theorem rh{s:Bs}{n:Nat}(h:n<s.length):strip (s.take (n+1))=if s.getD n 0=46 then strip (s.take n) else s.take (n+1):=by
 have e:s.take (n+1)=s.take n++[s.getD n 0]:=by
  rw[lA,aj h];simp only[nd,List.getD_eq_getElem?_getD,aj h,cp]
 rw[e,yH]
theorem wI(s:Bs):Ev X 186 [dS s,dU 46] [] (dS (strip s)) []:=by
 refine Ev.body Tryz.func186 rfl rfl rfl λj=>?_
 have i:=j.str 0 rfl;refine bw rfl ab ?_;refine AK.qQ (λn=>n<=s.length/\strip (s.take n)=strip s) (λn:Nat=>[(0,dS (s.take n)),(1,dU 46)]) (λ_=>[]) (λn=>n) s.length rfl (by simp[aa.cat,aa]) ⟨by omega,by simp⟩ rfl ?_
 rintro n ⟨k,a⟩;cases n with
 |zero =>
  refine aF [(7,false),(16,false)] 100 rfl ?_ (AK.leave rfl rfl ?_)
  ·simp[aa]
  refine bw rfl ab (AK.au rfl ?_);have:strip s=[]:=by rw[<-a];rfl
  simp[aa.cat,aa,this]
 |succ n =>
  have f:(s.take (n+1)).length=n+1:=by simp;omega
  have g:bd (s.take (n+1)) n=bd s n:=by simp[bd,List.getD_eq_getElem?_getD,dx]
  have h:=rh (s:=s) (n:=n) (by omega)
  have b:((n:Int)+1-1).toNat=n:=by omega
  by_cases c:s.getD n 0=46
  ·refine aF [(7,true),(15,true),(16,true)] 100 rfl ?_ (AK.again n rfl ?_ ?_ ?_ rfl)
   ·have d:bd s n=46:=by unfold bd;rw[c];rfl
    simp[-List.getD_eq_getElem?_getD,-List.length_take,aa,f,bl,b,g,d,aB];omega
   ·simp[aa.cat,aa];show (s.take (n+1)).take _=_;rw[show (((min (n+1) s.length:Nat):Int)-1).toNat=n by omega,List.take_take]
    congr 1
    omega
   ·refine⟨by omega,?_⟩
    rw[h,aq c] at a;exact a
   ·omega
  ·refine aF [(7,true),(15,false),(16,false)] 100 rfl ?_ (AK.leave rfl rfl ?_)
   ·have d:bd s n≠46:=by
     unfold bd;intro e;exact c (l7.1 (by show _=46;omega))
    simp[-List.getD_eq_getElem?_getD,-List.length_take,aa,f,bl,b,g,d,aB];omega
   refine bw rfl ab (AK.au rfl ?_);rw[h,an c] at a;simp[aa.cat,aa,a]
def Np:bH:=λargs σ=>match args,σ with
 |[.e (.one (.c (.str s))),.e (.one (.c (.int .u8 46)))],[]=>some (dS (strip s),[],[])
 |_,_=>none
theorem t186:bU X 186 Np:=by
 intro args σ res σ' obs h _;unfold Np at h;split at h
 ·cases h;exact wI _
 ·cases h
theorem HA(s:Bs):Ev X 146 [dS s,dS [46]] [] (dS (strip s)) []:=by
 refine Ev.body Tryz.func146 rfl rfl rfl λb=>?_
 by_cases h:s=[]
 ·subst h;refine af (aO.cons t186 .nil) [(8,true),(12,true)] 100 rfl ?_ (AK.au rfl ?_)
  ·simp[aa]
  ·simp[aa,strip]
 ·refine af (aO.cons t186 .nil) [(8,false),(11,false),(12,false),(16,true),(20,true),(21,true)] 100 rfl ?_ (AK.au rfl ?_)
  ·cases s with
   |nil=>exact absurd rfl h
   |cons a r=>simp[aa];decide
  ·simp[aa]
def Ku:bH:=λargs σ=>match args,σ with
 |[.e (.one (.c (.str s))),.e (.one (.c (.str [46])))],[]=>some (dS (strip s),[],[])
 |_,_=>none
theorem t146:bU X 146 Ku:=by
 intro args σ res σ' obs h _;unfold Ku at h;split at h
 ·cases h;exact HA _
 ·cases h
theorem o7{p:Bs}{i:Nat}(h:i<p.length):codeOf (p.take (i+1))=27*codeOf (p.take i)+(bd p i-97) % 256+1:=by
 unfold codeOf;rw[lA,aj h];simp only[nh,nd,kO,List.foldl_nil,bd,List.getD_eq_getElem?_getD,aj h,cp]
theorem gm{p:Bs}(h:aY p=true){i:Nat}(hi:i<=p.length):0<=codeOf (p.take i)/\codeOf (p.take i)<282429536481:=by
 simp only[aY,bF,aD] at h;obtain⟨c,a⟩:=ri (p.take i) 0 1 0 (λb d=>hZ h.2 b (jU d)) (by omega) (by omega) (by omega)
 have:=Jd (n:=(p.take i).length) (by rw[List.length_take];omega)
 rw[Int.one_mul] at a;exact⟨c,Int.lt_of_lt_of_le a this⟩
theorem rj{p:Bs}{i:Nat}(h:i<p.length):p.getD i 0∈p:=by
 rw[List.getD_eq_getElem?_getD,aj h];exact gF h
abbrev Uo:List (Nat×bH):=[(53,fY aI (λk=>dB (bO k)) λ_=>[]),(147,fY aS (λs=>dB (aY s)) λ_=>[])]
theorem mr:aO X Uo:=.cons t53 (.cons t147 .nil)
abbrev Sk(n:Int):D:=.eD [.one (.c (.int .i64 n)),.one (.c .kW)]
theorem Ex(k:Int)(p:Bs)(g:bO k=true)(b:aY p=true):Ev X 149 [dI k,dS p] [] (Sk (kz k p)) []:=by
 refine Ev.body Tryz.func149 rfl rfl rfl λq=>?_
 have a:=b;simp only[aY,bF,aD] at a;have c:=g;simp only[bO,bF,aD] at c;refine af mr [(8,false),(13,false)] 100 rfl (by simp[aa,g,b]) ?_
 refine AK.qQ (λi=>i<=p.length) (λi:Nat=>[(0,dI k),(1,dS p),(6,dI (codeOf (p.take i))),(19,dI p.length),(20,dI i)]) (λ_=>[]) (λi=>p.length-i) 0 rfl (by simp[aa.cat,aa,codeOf]) (by omega) rfl ?_
 intro i hi
 by_cases h:i<p.length
 ·have f:=gm b hi;have r:=gm b (i:=i+1) (by omega)
  have e:=o7 h;refine aF [(21,true)] 100 rfl ?_ (AK.again (i+1) rfl ?_ ?_ ?_ rfl)
  ·simp only[aa,bl,aB];simp[-List.getD_eq_getElem?_getD,h,bl];have l:=hZ a.2 (p.getD i 0) (rj h);have d:97<=bd p i/\bd p i<=122:=by unfold bd;omega
   omega
  ·have l:=hZ a.2 (p.getD i 0) (rj h);have d:97<=bd p i/\bd p i<=122:=by unfold bd;omega
   have n:(bd p i-97) % 256=bd p i-97:=lC (by omega) (by omega)
   rw[n] at e;simp[-List.getD_eq_getElem?_getD,aa.cat,aa,bl,e]
  ·show i+1<=p.length;omega
  ·show p.length-(i+1)<p.length-i;omega
 ·have e:i=p.length:=by omega
  subst e;have f:=tc b;refine aF [(21,false)] 100 rfl (by simp[aa]) (AK.leave rfl rfl ?_)
  refine bw rfl ?_ (AK.au rfl ?_)
  ·rw[cZ];have j:0<=codeOf p*(2*k+1):=Int.mul_nonneg f.1 (by omega)
   have o:codeOf p*(2*k+1)<=282429536481*199:=Int.mul_le_mul (by omega) (by omega) (by omega) (by omega)
   generalize codeOf p*(2*k+1)=m at j o;simp only[aa,aB];simp;omega
  ·rw[cZ];refine aa.cat.2 ⟨?_,aa.cat.2 ⟨rfl,ab⟩⟩;show (_:Int)=_;rw[Int.mul_comm 7919 k];rfl
theorem t149:bU X 149 (ga aI aS (λk p=>Sk (kz k p)) λk p=>[bO k=true,aY p=true]):=.gX λk p h=>Ex k p h.1 h.2
theorem Kw{P:Program}{o:Oper}{k:Operand->D}{σ:List ak}{op:BinOp}{t ty:TypeId}{x:Operand}(h:o.op=.binOp op t x (.const .nilIface) ty){c:Bool}{q:Array (String×TypeId)}(m:P.underlying t=some (.interface q))
  (p:k x=.e (.one (.c .kW))) (r:k (.const .nilIface)=.e (.one (.c .kW)))
  (j:ja op true=some c):aH P o k σ (.e (.one (.c (.bool c)))) σ:=by
 refine .quiet λs l u n=>?_
 have g:=n x;have f:=n (.const .nilIface);rw[p] at g;rw[r] at f
 replace g:=eB g
 replace f:=eB f
 generalize b:l x=vx at g;generalize a:l (.const .nilIface)=vy at f;cases g;cases f;have i:(Op.equal t .nilIface .nilIface).run P s.w=.ok true s.w:=by
  show (Op.equalIn (9999+1) t _ _).run P s.w=_;unfold Op.equalIn;simp[underlying,m]
 have d:∀ es,(Op.equal t .nilIface .nilIface).events P s.w es=es:=λes=>by
  show (Op.equalIn (9999+1) t _ _).events P s.w es=es;unfold Op.equalIn;simp[underlying,m]
 cases op <;> simp only[ja,reduceCtorEq,bL] at j
 ·subst j;exact⟨.bool true,by simp[execOp,h,b,a,eqGuard,binOp,i],Rd.bool,by simp[execOp,h,b,a,eqGuard,binOp,i,d]⟩
 ·subst j;exact⟨.bool false,by simp[execOp,h,b,a,eqGuard,binOp,i],Rd.bool,by simp[execOp,h,b,a,eqGuard,binOp,i,d]⟩
theorem BE(k:Int)(p:Bs) (n:Int)(b:bO k=true)(a:aY p=true):Ev X 114 [dI k,dS p,dI n] [] (dB (kz k p==n)) []:=by
 refine Ev.body Tryz.func114 rfl rfl rfl λc=>?_
 refine af (aO.cons t149 .nil) [(17,true)] 100 rfl ?_ ?_
 ·simp[aa,b,a]
 refine AK.law (Kw rfl Tryz.underlying212 rfl rfl rfl) rfl rfl ?_;refine af (aO.cons t149 .nil) [(17,true)] 100 rfl ?_ (AK.au rfl ?_)
 ·rfl
 ·rfl
theorem t114:bU X 114 (CY aI aS aI (λk p n=>dB (kz k p==n)) λk p _=>[bO k=true,aY p=true]):=.Je λk p n h=>BE k p n h.1 h.2
abbrev dQ(n:Int):D:=.e (.one (.c (.int .u64 n)))
theorem _root_.Go.AM.AW.Aw{P:Program}{X:Cx P}{N:Nat}{Q:Post}{φ:Fr}{σ:List ak}{x y:Code}(h:AW X N y Q φ σ):AW X N (.cond (.const (.bool false)) x y) Q φ σ:=by
 intro s a f hh b k cs S d i;refine .ctl hh rfl (λ_=>pU (t:=false) rfl) λj h1=>?_
 exact h j a (f.rely h1 hh) (hh.rely h1) b k cs S d λe φ' σ' s' a' q g c st=>i e φ' σ' s' a' q g c (h1.stepW.trans st)
theorem _root_.Go.AM.AK.Aw{P:Program}{X:Cx P}{N:Nat}{Qf:Post}{K:List It}{φ:Fr}{σ:List ak}{x y:Code}(h:AK X N Qf (.code y::K) .normal φ σ):AK X N Qf (.code (.cond (.const (.bool false)) x y)::K) .normal φ σ:=AW.Aw h
theorem El{P:Program}{o:Oper}{p:Operand->D}{σ:List ak}{op:BinOp}{t ty:TypeId}{x y:Operand}{k m:IntKind}{a b:Int} (c:Int)(h:o.op=.binOp op t x y ty)
  (u:p x=.e (.one (.c (.int k a)))) (v:p y=.e (.one (.c (.int m b)))) (l:aB k c)
  (d:∀ w,(binOp op t (.int k a) (.int m b)).run P w=.ok (.int k c) w) (n:∀ w,(binOp op t (.int k a) (.int m b)).events P w #[]=#[]) :
  aH P o p σ (.e (.one (.c (.int k c)))) σ:=by
 refine .quiet λs q z r=>?_
 have j:=r x;have g:=r y;rw[u] at j;rw[v] at g
 replace j:=eB j
 replace g:=eB g
 generalize i:q x=vx at j;generalize f:q y=vy at g;cases j;cases g;exact⟨.int k c,by simp only[execOp,h,aU,i,f,eu,bj,d,cd],.int l,by simp[execOp,h,i,f,eu,gg,d,n]⟩
theorem yN:Ev X 219 [dQ 1,dQ 2] [] (.eD [.one (.c (.int .u64 0)),.one (.c (.int .u64 2))]) []:=by
 refine Ev.body Tryz.func219 rfl rfl rfl λa=>?_
 refine eX rfl (by simp[aa,aB]) (AK.au rfl ?_)
 simp[aa,aa.cat]
theorem yO:Ev X 219 [dQ 1,dQ 3] [] (.eD [.one (.c (.int .u64 0)),.one (.c (.int .u64 3))]) []:=by
 refine Ev.body Tryz.func219 rfl rfl rfl λa=>?_
 refine eX rfl (by simp[aa,aB]) (AK.au rfl ?_)
 simp[aa,aa.cat]
def Ns:bH:=λargs σ=>match args,σ with
 |[.e (.one (.c (.int .u64 1))),.e (.one (.c (.int .u64 c)))],[]=>some (.eD [.one (.c (.int .u64 0)),.one (.c (.int .u64 c))],[],[c=2∨c=3])
 |_,_=>none
theorem t219:bU X 219 Ns:=by
 intro args σ res σ' obs h a;unfold Ns at h;split at h
 ·cases h;rcases a with rfl|rfl
  ·exact yN
  ·exact yO
 ·cases h
theorem KC(c:Int)(a:c=2∨c=3):Ev X 209 [dQ 1,dQ c] [] (.eD [.one (.c (.int .u64 0)),.one (.c (.int .u64 c))]) []:=by
 refine Ev.body Tryz.func209 rfl rfl rfl λb=>?_
 refine af (aO.cons t219 .nil) [] 100 rfl ab ?_;refine AK.Aw ?_;refine af (aO.cons t219 .nil) [] 100 rfl ?_ (AK.au rfl ?_)
 ·simp[aa,a]
 ·simp[aa,aa.cat]
def Kt:bH:=λargs σ=>match args,σ with
 |[.e (.one (.c (.int .u64 1))),.e (.one (.c (.int .u64 c)))],[]=>some (.eD [.one (.c (.int .u64 0)),.one (.c (.int .u64 c))],[],[c=2∨c=3])
 |_,_=>none
theorem t209:bU X 209 Kt:=by
 intro args σ res σ' obs h a;unfold Kt at h;split at h
 ·cases h;exact KC _ a
 ·cases h
end Go.AM.R1
namespace Go.AM.R1
open Go.Proofs
open Go.Sort (bitsLen)
variable {X:Cx Tryz.prog}
def sC:List UInt8:=(List.range 256).map λi=>UInt8.ofNat (bitsLen i)
theorem gR{x k:Nat}(h:x<2 ^ k):bitsLen x<=k:=by
 unfold bitsLen;split
 ·omega
 ·rename_i a
  have:=(Nat.log2_lt a).2 h;omega
theorem Ip{x:Nat}(h:x<256):(fA sC x).toNat=bitsLen x:=by
 unfold fA sC;rw[az,List.getD_eq_getElem?_getD,kM,List.getElem?_range h];have:=gR (x:=x) (k:=8) h;simp only[gG,cp];rw[UInt8.toNat_ofNat'];omega
theorem pf{n k:Nat}(h:2 ^ k<=n):bitsLen n=k+bitsLen (n / 2 ^ k):=by
 have a:0<2 ^ k:=Nat.two_pow_pos k;have e:0<n / 2 ^ k:=Nat.div_pos h a;unfold bitsLen;rw[an (by omega),an (by omega)]
 have d:Nat.log2 n=k+Nat.log2 (n / 2 ^ k):=by
  rw[Nat.log2_eq_iff (by omega)]
  have c:=Nat.log2_self_le (n:=n / 2 ^ k) (by omega)
  have b:=Nat.lt_log2_self (n:=n / 2 ^ k)
  constructor
  ·rw[Nat.pow_add,iA];exact gd (eb _ c) (Nat.div_mul_le_self n _)
  ·rw[show k+Nat.log2 (n / 2 ^ k)+1=k+(Nat.log2 (n / 2 ^ k)+1) by omega,Nat.pow_add]
   have:=(Nat.div_lt_iff_lt_mul a).1 b
   rwa [iA] at this
 omega
set_option maxRecDepth 100000 in
theorem FY(n:Nat)(l:n<=4000000):Ev X 125 [dQ n] [] (dI (bitsLen n)) []:=by
 refine Ev.body Tryz.func125 rfl rfl rfl λj=>?_
 have fin:∀ {T:List UInt8} {x:Nat},T=sC->x<256->(fA T (x:Int)).toNat=bitsLen x:=λb g=>by rw[b];exact Ip g
 have d:∀ {T:List UInt8},T=sC->T.length=256:=λb=>by rw[b];rfl
 by_cases i:65536<=n
 ·have c:((n:Int).toNat / 2 ^ Int.toNat 16)=n / 65536:=by simp
  have e:bitsLen n=16+bitsLen (n / 65536):=pf (n:=n) (k:=16) i;have f:=gR (x:=n / 65536) (k:=8) (by simp;omega)
  refine aF [(4,false),(8,true),(14,false)] 200 rfl ?_ (AK.au rfl ?_)
  ·generalize b:(ByteArray.data _).toList=T;have a:T=sC:=by rw[<-b];decide +kernel
   simp only[aa,c,fin a (show n / 65536<256 by omega),d a,aB,aD,a9];and_intros <;> omega
  ·generalize b:(ByteArray.data _).toList=T;have a:T=sC:=by rw[<-b];decide +kernel
   simp only[aa,aa.cat,c,fin a (show n / 65536<256 by omega),ai,ah]
   omega
 by_cases h:256<=n
 ·have c:((n:Int).toNat / 2 ^ Int.toNat 8)=n / 256:=by simp
  have e:bitsLen n=8+bitsLen (n / 256):=pf (n:=n) (k:=8) h;have f:=gR (x:=n / 256) (k:=8) (by simp;omega)
  refine aF [(4,false),(8,false),(14,true)] 200 rfl ?_ (AK.au rfl ?_)
  ·generalize b:(ByteArray.data _).toList=T;have a:T=sC:=by rw[<-b];decide +kernel
   simp only[aa,c,fin a (show n / 256<256 by omega),d a,aB,aD,a9];and_intros <;> omega
  ·generalize b:(ByteArray.data _).toList=T;have a:T=sC:=by rw[<-b];decide +kernel
   simp only[aa,aa.cat,c,fin a (show n / 256<256 by omega),ai,ah]
   omega
 ·have f:=gR (x:=n) (k:=8) (by simp;omega)
  refine aF [(4,false),(8,false),(14,false)] 200 rfl ?_ (AK.au rfl ?_)
  ·generalize b:(ByteArray.data _).toList=T;have a:T=sC:=by rw[<-b];decide +kernel
   simp only[aa,fin a (show n<256 by omega),d a,aB,aD,a9];and_intros <;> omega
  ·generalize b:(ByteArray.data _).toList=T;have a:T=sC:=by rw[<-b];decide +kernel
   simp only[aa,aa.cat,fin a (show n<256 by omega),ai,ah]
   omega
theorem FR(n:Nat)(a:n<=4000000):Ev X 94 [dQ n] [] (dI (bitsLen n)) []:=by
 refine Ev.body Tryz.func94 rfl rfl rfl λb=>?_
 refine eX rfl ab ?_;refine AK.Aw ?_;refine eX rfl ab ?_;refine AK.aP (FY n a) [] rfl rfl rfl rfl rfl rfl rfl rfl rfl rfl rfl ?_;refine eX rfl ab (AK.au rfl ?_);simp[aa,aa.cat]
end Go.AM.R1
namespace Go.AM.R1
open Go.Proofs
open Go.Sort (swp bitsLen xorNextN xorNextN_lt xorNext xorNext_toNat breakStep breakPatterns)
variable {X:Cx Tryz.prog}
abbrev bQ(r:Nat):ak:=.cells 215 [.c (.int .u64 r)]
theorem Iq(r:Nat):Ev X 152 [.e (.one (.ptr 0 0))] [bQ r] (dQ (xorNextN r)) [bQ (xorNextN r)]:=by
 refine Ev.body Tryz.func152 rfl rfl rfl λd=>?_
 have a:(2:Nat) ^ Int.toNat 13=8192:=by decide
 have c:(2:Nat) ^ Int.toNat 7=128:=by decide
 have b:(2:Nat) ^ Int.toNat 17=131072:=by decide
 refine eX rfl ?_ ?_
 ·simp only[aa];omega
 refine AK.norm [bQ (xorNextN r)] rfl ?_ (AK.eK [0] rfl ?_ rfl rfl rfl gz)
 ·simp only[aa,aa.cat,xorNextN,az,a,c,b,ah]
 ·simp only[aa,aa.cat,xorNextN,az,a,c,b]
theorem Ir(n:Nat)(a:n<=4000000):Ev X 151 [dI n] [] (dQ ((1 <<< bitsLen n:Nat):Int)) []:=by
 refine Ev.body Tryz.func151 rfl rfl rfl λc=>?_
 have l:=gR (x:=n) (k:=22) (by simp;omega)
 refine eX rfl (by simp only[aa,aB];and_intros <;> omega) ?_
 refine AK.aP (FR n a) [] rfl rfl rfl rfl rfl rfl rfl rfl rfl rfl rfl ?_;refine eX rfl ?_ (AK.au rfl ?_)
 ·simp only[aa];omega
 ·have b:2 ^ bitsLen n<=2 ^ 22:=Nat.pow_le_pow_right (by omega) l
  simp only[aa,aa.cat,Nat.shiftLeft_eq,az];have e:Int.toNat 1*2 ^ bitsLen n % 18446744073709551616=1*2 ^ bitsLen n:=by
   rw[show Int.toNat 1=1 from rfl,l9]
   exact Nat.mod_eq_of_lt (by omega)
  rw[e]
theorem xr{L:Nat}(h:0<L):1 <<< bitsLen L<=2*L:=by
 rw[Nat.shiftLeft_eq,l9];unfold bitsLen;rw[an (by omega),Nat.pow_succ]
 have:=Nat.log2_self_le (n:=L) (by omega)
 omega
theorem FZ(L:Nat):1<=1 <<< bitsLen L:=by
 rw[Nat.shiftLeft_eq,l9];exact Nat.two_pow_pos _
def LZ(a L M:Nat):Nat->Nat->UInt64×Array Int->UInt64×Array Int
 |0,_,st=>st
 |k+1,idx,st=>LZ a L M k (idx+1) (breakStep a L M st idx)
theorem oQ{d:Array Int}{a L:Nat}(h:8<=L):breakPatterns d a (a+L)=(LZ a L (1 <<< bitsLen L) 3 (a+L / 4*2-1) (UInt64.ofNat L,d)).2:=by
 unfold breakPatterns;simp only[kG];rw[aq h];rfl
theorem vu{a L M idx:Nat}{r:UInt64}{d:Array Int}:breakStep a L M (r,d) idx=(xorNext r,swp d idx (a+if (xorNextN r.toNat &&& (M-1))≥L then (xorNextN r.toNat &&& (M-1))-L else (xorNextN r.toNat &&& (M-1)))):=by
 unfold breakStep;simp only[xorNext_toNat]
abbrev Rs(n a L M:Nat)(k:Nat):Fr:=[(0,gY n),(1,dI a),(6,dI L),(7,.e (.one (.ptr 1 0))),(8,dQ M),(9,dI ((a+L / 4*2-1+(3-k):Nat):Int))]
set_option maxHeartbeats 2000000 in
theorem FP(n:Nat)(d:Array Int)(a b:Nat)(q:d.size=n)(v:a<=b)(y:b<=n)(B:n<=4000000) :
  Ev X 117 [gY n,dI a,dI b] [bI n d] (.eD []) [bI n (breakPatterns d a b)]:=by
 refine Ev.body Tryz.func117 rfl rfl rfl λC=>?_
 obtain⟨L,rfl⟩:∃ L,b=a+L:=⟨b-a,by omega⟩
 by_cases p:8<=L
 ·rw[oQ p];have z:=xr (L:=L) (by omega)
  have u:=FZ L;have m:(UInt64.ofNat L).toNat=L:=by rw[UInt64.toNat_ofNat'];omega
  refine aF [(15,true)] 200 rfl ?_ ?_
  ·simp only[aa,aB,aD,ai,ah];and_intros <;> omega
  have key:∀ x:Int,x=(L:Int)->Ev X 151 [dI x] [] (dQ ((1 <<< bitsLen L:Nat):Int)) []:=by
   rintro x rfl;exact Ir L (by omega)
  refine AK.aP (key _ (by omega)) [] rfl rfl rfl rfl rfl rfl rfl rfl rfl rfl rfl ?_
  refine eX rfl ?_ ?_
  ·simp only[aa,aB,aD,ai,ah];and_intros <;> omega
  generalize w:1 <<< bitsLen L=M at *;refine AK.bY 2 (λs:Nat×UInt64×Array Int=>s.2.2.size=n/\s.1<=3/\(LZ a L M s.1 (a+L / 4*2-1+(3-s.1)) s.2).2=(LZ a L M 3 (a+L / 4*2-1) (UInt64.ofNat L,d)).2) (λs=>Rs n a L M s.1) (λs=>[bI n s.2.2,bQ s.2.1.toNat]) (λs=>s.1) (3,UInt64.ofNat L,d) rfl ?_ rfl ?_ rfl ⟨q,ar _,rfl⟩ ?_
  ·simp only[aa.cat,aa,ai,ah];and_intros <;> omega
  ·simp only[aa.cat,aa,ay,m,ai,ah];exact⟨λ_ _=>trivial,by omega⟩
  rintro⟨k,r,d1⟩ ⟨g,t,c⟩;simp only at g t c;cases k with
  |zero =>
   rw[<-c];refine aF [(33,false)] 200 rfl ?_ (AK.leaveD rfl rfl ?_)
   ·simp only[aa,aB,a9,ai,ah];and_intros <;> omega
   exact aW.oz [0] rfl ab rfl rfl rfl gz
  |succ k =>
   have A:xorNextN r.toNat<18446744073709551616:=xorNextN_lt _ (UInt64.toNat_lt r);have o:xorNextN r.toNat &&& (M-1)<=M-1:=Nat.and_le_right;have j:((M:Int)-1).toNat=M-1:=by omega
   refine aF [(33,true)] 200 rfl ?_ ?_
   ·simp only[aa,aB,aD,ai,ah];and_intros <;> omega
   refine AK.aP (Iq r.toNat) [1] rfl rfl rfl rfl rfl rfl rfl rfl rfl rfl rfl ?_;have f:=vu (a:=a) (L:=L) (M:=M) (idx:=a+L / 4*2-1+(3-(k+1))) (r:=r) (d:=d1);generalize l:xorNextN r.toNat &&& (M-1)=O at *
   by_cases i:L<=O
   ·rw[aq i] at f;have h:((a:Int)+((O:Int)-(L:Int))).toNat=a+(O-L):=by omega
    refine aF [(43,true)] 200 rfl ?_ (AK.aA (k,xorNext r,swp d1 (a+L / 4*2-1+(3-(k+1))) (a+(O-L))) rfl ?_ rfl rfl rfl ?_ rfl ?_ ?_)
    ·simp only[aa,aw,az,j,l,h,aB,aD,ai,ah];and_intros <;> omega
    ·simp only[aa.cat,aa,ai,ah];omega
    ·simp only[aa.cat,aa,aw,az,j,l,h,xorNext_toNat,ah,ai];exact eP g (by omega) (by omega) (λ_ _=>rfl)
    ·refine⟨by rw[size_swp];exact g,by simp only;omega,?_⟩
     rw[<-c,LZ,f,show a+L / 4*2-1+(3-(k+1))+1=a+L / 4*2-1+(3-k) by omega]
    ·simp
   ·rw[an i] at f;have h:((a:Int)+(O:Int)).toNat=a+O:=by omega
    refine aF [(43,false)] 200 rfl ?_ (AK.aA (k,xorNext r,swp d1 (a+L / 4*2-1+(3-(k+1))) (a+O)) rfl ?_ rfl rfl rfl ?_ rfl ?_ ?_)
    ·simp only[aa,aw,az,j,l,h,aB,a9,ai,ah];and_intros <;> omega
    ·simp only[aa.cat,aa,ai,ah];omega
    ·simp only[aa.cat,aa,aw,az,j,l,h,xorNext_toNat,ah,ai];exact eP g (by omega) (by omega) (λ_ _=>rfl)
    ·refine⟨by rw[size_swp];exact g,by simp only;omega,?_⟩
     rw[<-c,LZ,f,show a+L / 4*2-1+(3-(k+1))+1=a+L / 4*2-1+(3-k) by omega]
    ·simp
 ·have e:breakPatterns d a (a+L)=d:=by unfold breakPatterns;simp only[kG];rw[an p]
  rw[e];refine aF [(15,false)] 200 rfl ?_ ?_
  ·simp only[aa,aB,a9,ai,ah];and_intros <;> omega
  exact aW.oz [0] rfl ab rfl rfl rfl gz
end Go.AM.R1
namespace Go.AM.R1
open Go.Proofs
open Go.Sort (swp scanUp scanDown partLoop partEqLoop partition partitionEqual ltInt)
variable {X:Cx Tryz.prog}
theorem jP{p:Int->Bool}{d:Array Int}{j i:Nat}(h:i<=j)(a:p d[i]! = true):scanUp p d j i=scanUp p d j (i+1):=by
 rw[scanUp.eq_1 p d j i,aq (by simp[h,a])]
theorem dD{p:Int->Bool}{d:Array Int}{j i:Nat}(h:i<=j->p d[i]! = false):scanUp p d j i=i:=by
 rw[scanUp,an];intro a;rw[bF,aD] at a;rw[h a.1] at a;cases a.2
theorem g7{p:Int->Bool}{d:Array Int}{j i:Nat}(c:1<=j)(h:i<=j)(a:p d[j]! = true):scanDown p d i j=scanDown p d i (j-1):=by
 obtain⟨j,rfl⟩:∃ b,j=b+1:=⟨j-1,by omega⟩
 rw[scanDown,aq (by simp[h,a]),lz]
theorem dt{p:Int->Bool}{d:Array Int}{j i:Nat}(h:i<=j->p d[j]! = false):scanDown p d i j=j:=by
 cases j with
 |zero=>rfl
 |succ j =>
  rw[scanDown,an];intro a;rw[bF,aD] at a;rw[h a.1] at a;cases a.2
theorem kF{p:Int->Bool}{d:Array Int}{j:Nat}:∀ (m i:Nat),j+1-i<=m->i<=scanUp p d j i/\(scanUp p d j i<=j+1∨scanUp p d j i=i):=by
 intro m
 induction m with
 |zero=>intro i h;rw[dD (λa=>by omega)];omega
 |succ m c =>
  intro i h
  by_cases b:i<=j
  ·cases a:p d[i]! with
   |true=>rw[jP b a];have:=c (i+1) (by omega);omega
   |false=>rw[dD λ_=>a];omega
  ·rw[dD λx=>absurd x b];omega
theorem ib{p:Int->Bool}{d:Array Int}{i:Nat}:∀ j:Nat,scanDown p d i j<=j/\(i<=scanDown p d i j+1∨scanDown p d i j=j):=by
 intro j
 induction j with
 |zero=>rw[show scanDown p d i 0=0 from rfl];omega
 |succ j c =>
  by_cases b:i<=j+1
  ·cases a:p d[j+1]! with
   |true=>rw[g7 (by omega) b a,lz];omega
   |false=>rw[dt λ_=>a];omega
  ·rw[dt λx=>absurd x b];omega
theorem partLoop_eq{a i j:Nat}{d:Array Int}{b c:Nat}(k:1<=i)(hi:b=scanUp (λx=>ltInt x d[a]!) d j i)(e:c=scanDown (λx=>!ltInt x d[a]!) d b j) :
  partLoop ltInt a i j d=if b>c then (c,d) else partLoop ltInt a (b+1) (c-1) (swp d b c):=by
 have f:=kF (p:=λx=>ltInt x d[a]!) (d:=d) (j:=j) (j+1-i) i (ar _)
 have g:=ib (p:=λx=>!ltInt x d[a]!) (d:=d) (i:=b) j
 rw[<-hi] at f;rw[<-e] at g;rw[partLoop.eq_1,<-hi,<-e]
 by_cases h:b>c
 ·rw[aq h,aq h]
 ·rw[an h,an h,dif_pos (by omega)]
theorem xu{d c:Array Int}{a b v i j:Nat}(f:c=swp d a v)(hi:i=scanUp (λx=>ltInt x c[a]!) c (b-1) (a+1))(e:j=scanDown (λx=>!ltInt x c[a]!) c i (b-1))(h:i>j):partition ltInt d a b v=(j,true,swp c j a):=by
 unfold partition;simp only;rw[<-f,<-hi,<-e,aq h]
theorem xv{d c:Array Int}{a b v i j:Nat}(g:c=swp d a v)(hi:i=scanUp (λx=>ltInt x c[a]!) c (b-1) (a+1))(e:j=scanDown (λx=>!ltInt x c[a]!) c i (b-1))(h:¬i>j){r:Nat×Array Int}(f:partLoop ltInt a (i+1) (j-1) (swp c i j)=r):partition ltInt d a b v=(r.1,false,swp r.2 r.1 a):=by
 subst f;unfold partition;simp only;rw[<-g,<-hi,<-e,an h]
set_option maxHeartbeats 8000000 in
theorem Il(n:Nat)(d:Array Int)(a b v:Nat)(Q:d.size=n)(S:a<b)(Y:b<=n)(W:v<n)(Z:n<=4000000) :
  Ev X 123 [gY n,dI a,dI b,dI v] [bI n d] (.eD [.one (.c (.int .i64 (partition ltInt d a b v).1)),.one (.c (.bool (partition ltInt d a b v).2.1))]) [bI n (partition ltInt d a b v).2.2]:=by
 have l:aO X [(121,pe)]:=.cons rP .nil;refine Ev.body Tryz.func123 rfl rfl rfl λhf=>?_
 refine af l [(1000002,true)] 200 rfl ?_ ?_
 ·simp only[aa,aw,az,aB,ai,ah];and_intros <;> omega
 refine AK.norm [bI n (swp d a v)] rfl ?_ ?_
 ·simp only[aa.cat,aa,aw,az,ah,ai];exact eP Q (by omega) (by omega) (λ_ _=>rfl)
 have w:(swp d a v).size=n:=by rw[size_swp];exact Q
 obtain⟨f,J⟩:∃ f,f=swp d a v:=⟨_,rfl⟩;rw[<-J] at w ⊢;refine af l [] 200 rfl ?_ ?_
 ·simp only[aa,aB];and_intros <;> omega
 refine AK.iv (S2:=Unit) 0 rfl rfl (λ_=>True) (λ_=>[(0,gY n),(1,dI a),(10,dI ((scanUp (λx=>ltInt x f[a]!) f (b-1) (a+1)):Nat)),(11,dI (b-1:Nat))]) (λ_=>[bI n f]) 1 (λk:Nat=>a+1<=k/\k<=n+1/\scanUp (λx=>ltInt x f[a]!) f (b-1) k=scanUp (λx=>ltInt x f[a]!) f (b-1) (a+1)) (λk=>[(0,gY n),(1,dI a),(10,dI (k:Nat)),(11,dI (b-1:Nat))]) (λ_=>[bI n f]) (λk=>b-1+1-k) (a+1) rfl ?_ rfl ?_ rfl ⟨ar _,by omega,rfl⟩ ?_ ?_
 ·simp[aa.cat,aa,ay] <;> omega
 ·simp[aa.cat,aa,ay]
 ·rintro out k ⟨z,A,h⟩
  by_cases m:k<=b-1
  ·by_cases t:(λx=>ltInt x f[a]!) f[k]! = true
   ·have g:ltInt f[k]! f[a]! = true:=by simpa using t
    refine af l [(32,true),(42,true)] 200 rfl ?_ (AK.aA (k+1) rfl ?_ rfl rfl rfl ?_ rfl ?_ ?_)
    ·simp only[aa,aw,az,g,aB,aD,ai,ah];and_intros <;> omega
    ·simp only[aa.cat,aa,ai,ah];omega
    ·simp[aa.cat,aa,ay]
    ·exact⟨by omega,by omega,by rw[<-h,jP m t]⟩
    ·omega
   ·have g:ltInt f[k]! f[a]! = false:=by simpa using t
    refine af l [(32,true),(42,false)] 200 rfl ?_ (AK.leaveD rfl rfl ?_)
    ·simp only[aa,aw,az,g,aB,aD,ai,ah];and_intros <;> omega
    have e:scanUp (λx=>ltInt x f[a]!) f (b-1) (a+1)=k:=by rw[<-h];exact dD λ_=>by simpa using t
    exact out () ab rfl (by simp only[aa.cat,aa,e,ai,ah]) rfl (by simp[aa.cat,aa,ay])
  ·refine af l [(32,false)] 200 rfl ?_ (AK.leaveD rfl rfl ?_)
   ·simp only[aa,aB,a9,ai,ah];omega
   have e:scanUp (λx=>ltInt x f[a]!) f (b-1) (a+1)=k:=by rw[<-h];exact dD λx=>absurd x m
   exact out () ab rfl (by simp only[aa.cat,aa,e,ai,ah]) rfl (by simp[aa.cat,aa,ay])
 rintro⟨⟩ -;have V:=kF (p:=λx=>ltInt x f[a]!) (d:=f) (j:=b-1) (b-1+1-(a+1)) (a+1) (ar _)
 obtain⟨i,hi⟩:∃ i,i=scanUp (λx=>ltInt x f[a]!) f (b-1) (a+1):=⟨_,rfl⟩
 rw[<-hi] at V ⊢;refine af l [] 200 rfl ab ?_;refine AK.iv (S2:=Unit) 2 rfl rfl (λ_=>True) (λ_=>[(0,gY n),(1,dI a),(10,dI (i:Nat)),(11,dI ((scanDown (λx=>!ltInt x f[a]!) f (i) (b-1)):Nat))]) (λ_=>[bI n f]) 1 (λk:Nat=>k<=b-1/\k<=n/\scanDown (λx=>!ltInt x f[a]!) f (i) k=scanDown (λx=>!ltInt x f[a]!) f (i) (b-1)) (λk=>[(0,gY n),(1,dI a),(10,dI (i:Nat)),(11,dI (k:Nat))]) (λ_=>[bI n f]) (λk=>k) (b-1) rfl ?_ rfl ?_ rfl ⟨ar _,by omega,rfl⟩ ?_ ?_
 ·simp[aa.cat,aa,ay] <;> omega
 ·simp[aa.cat,aa,ay]
 ·rintro out k ⟨z,A,h⟩
  by_cases m:i<=k
  ·by_cases t:(λx=>!ltInt x f[a]!) f[k]! = true
   ·have g:ltInt f[k]! f[a]! = false:=by simpa using t
    refine af l [(48,true),(58,false)] 200 rfl ?_ (AK.aA (k-1) rfl ?_ rfl rfl rfl ?_ rfl ?_ ?_)
    ·simp only[aa,aw,az,g,aB,aD,ai,ah];and_intros <;> omega
    ·simp only[aa.cat,aa,ai,ah];omega
    ·simp[aa.cat,aa,ay]
    ·exact⟨by omega,by omega,by rw[<-h,g7 (by omega) m t]⟩
    ·omega
   ·have g:ltInt f[k]! f[a]! = true:=by simpa using t
    refine af l [(48,true),(58,true)] 200 rfl ?_ (AK.leaveD rfl rfl ?_)
    ·simp only[aa,aw,az,g,aB,aD,ai,ah];and_intros <;> omega
    have e:scanDown (λx=>!ltInt x f[a]!) f (i) (b-1)=k:=by rw[<-h];exact dt λ_=>by simpa using t
    exact out () ab rfl (by simp only[aa.cat,aa,e,ai,ah]) rfl (by simp[aa.cat,aa,ay])
  ·refine af l [(48,false)] 200 rfl ?_ (AK.leaveD rfl rfl ?_)
   ·simp only[aa,aB,a9,ai,ah];omega
   have e:scanDown (λx=>!ltInt x f[a]!) f (i) (b-1)=k:=by rw[<-h];exact dt λx=>absurd x m
   exact out () ab rfl (by simp only[aa.cat,aa,e,ai,ah]) rfl (by simp[aa.cat,aa,ay])
 rintro⟨⟩ -;have R:=ib (p:=λx=>!ltInt x f[a]!) (d:=f) (i:=i) (b-1)
 obtain⟨j,I⟩:∃ j,j=scanDown (λx=>!ltInt x f[a]!) f i (b-1):=⟨_,rfl⟩
 rw[<-I] at R ⊢
 by_cases K:j<i
 ·rw[xu J hi I K];refine af l [(65,true),(1000009,true)] 200 rfl ?_ ?_
  ·simp only[aa,aw,az,aB,aD,ai,ah];and_intros <;> omega
  refine AK.norm [bI n (swp f j a)] rfl ?_ ?_
  ·simp only[aa.cat,aa,aw,az,ah,ai];exact eP w (by omega) (by omega) (λ_ _=>rfl)
  refine af l [] 200 rfl ab (AK.eK [0] rfl ?_ rfl rfl rfl gz);simp[aa.cat,aa]
 refine af l [(65,false),(1000011,true)] 200 rfl ?_ ?_
 ·simp only[aa,aw,az,aB,a9,ai,ah];and_intros <;> omega
 refine AK.norm [bI n (swp f i j)] rfl ?_ ?_
 ·simp only[aa.cat,aa,aw,az,ah,ai];exact eP w (by omega) (by omega) (λ_ _=>rfl)
 refine af l [] 200 rfl ?_ ?_
 ·simp only[aa,aB];and_intros <;> omega
 have E:(swp f i j).size=n:=by rw[size_swp];exact w
 obtain⟨r,M⟩:∃ r,partLoop ltInt a (i+1) (j-1) (swp f i j)=r:=⟨_,rfl⟩;rw[xv J hi I (by omega) M]
 obtain⟨d1,P⟩:∃ d1,d1=swp f i j:=⟨_,rfl⟩;rw[<-P] at E M ⊢;refine AK.iv (S2:=Unit) 4 rfl rfl (λ_=>r.1<n/\r.2.size=n) (λ_=>[(0,gY n),(1,dI a),(11,dI r.1)]) (λ_=>[bI n r.2]) 1 (λs:Nat×Nat×Array Int=>s.2.2.size=n/\a+1<=s.1/\s.1<=n+1/\s.2.1<n/\partLoop ltInt a s.1 s.2.1 s.2.2=r) (λs=>[(0,gY n),(1,dI a),(10,dI s.1),(11,dI s.2.1)]) (λs=>[bI n s.2.2]) (λs=>s.2.1+1-s.1) (i+1,j-1,d1) rfl ?_ rfl ?_ rfl ⟨E,by simp only;omega,by simp only;omega,by simp only;omega,M⟩ ?_ ?_
 ·simp only[aa.cat,aa,ai,ah];and_intros <;> omega
 ·simp[aa.cat,aa,ay]
 ·rintro F ⟨i3,o,d2⟩ ⟨y,N,H,O,u⟩;simp only at y N H O u;refine af l [] 200 rfl ab ?_;refine AK.iv (S2:=Unit) 6 rfl rfl (λ_=>True) (λ_=>[(0,gY n),(1,dI a),(10,dI ((scanUp (λx=>ltInt x d2[a]!) d2 (o) (i3)):Nat)),(11,dI (o:Nat))]) (λ_=>[bI n d2]) 1 (λk:Nat=>i3<=k/\k<=n+1/\scanUp (λx=>ltInt x d2[a]!) d2 (o) k=scanUp (λx=>ltInt x d2[a]!) d2 (o) (i3)) (λk=>[(0,gY n),(1,dI a),(10,dI (k:Nat)),(11,dI (o:Nat))]) (λ_=>[bI n d2]) (λk=>o+1-k) (i3) rfl ?_ rfl ?_ rfl ⟨ar _,by omega,rfl⟩ ?_ ?_
  ·simp[aa.cat,aa,ay] <;> omega
  ·simp[aa.cat,aa,ay]
  ·rintro out k ⟨z,A,h⟩
   by_cases m:k<=o
   ·by_cases t:(λx=>ltInt x d2[a]!) d2[k]! = true
    ·have g:ltInt d2[k]! d2[a]! = true:=by simpa using t
     refine af l [(101,true),(111,true)] 200 rfl ?_ (AK.aA (k+1) rfl ?_ rfl rfl rfl ?_ rfl ?_ ?_)
     ·simp only[aa,aw,az,g,aB,aD,ai,ah];and_intros <;> omega
     ·simp only[aa.cat,aa,ai,ah];omega
     ·simp[aa.cat,aa,ay]
     ·exact⟨by omega,by omega,by rw[<-h,jP m t]⟩
     ·omega
    ·have g:ltInt d2[k]! d2[a]! = false:=by simpa using t
     refine af l [(101,true),(111,false)] 200 rfl ?_ (AK.leaveD rfl rfl ?_)
     ·simp only[aa,aw,az,g,aB,aD,ai,ah];and_intros <;> omega
     have e:scanUp (λx=>ltInt x d2[a]!) d2 (o) (i3)=k:=by rw[<-h];exact dD λ_=>by simpa using t
     exact out () ab rfl (by simp only[aa.cat,aa,e,ai,ah]) rfl (by simp[aa.cat,aa,ay])
   ·refine af l [(101,false)] 200 rfl ?_ (AK.leaveD rfl rfl ?_)
    ·simp only[aa,aB,a9,ai,ah];omega
    have e:scanUp (λx=>ltInt x d2[a]!) d2 (o) (i3)=k:=by rw[<-h];exact dD λx=>absurd x m
    exact out () ab rfl (by simp only[aa.cat,aa,e,ai,ah]) rfl (by simp[aa.cat,aa,ay])
  rintro⟨⟩ -;have T:=kF (p:=λx=>ltInt x d2[a]!) (d:=d2) (j:=o) (o+1-i3) i3 (ar _)
  obtain⟨i4,G⟩:∃ i4,i4=scanUp (λx=>ltInt x d2[a]!) d2 o i3:=⟨_,rfl⟩
  rw[<-G] at T ⊢;refine af l [] 200 rfl ab ?_;refine AK.iv (S2:=Unit) 8 rfl rfl (λ_=>True) (λ_=>[(0,gY n),(1,dI a),(10,dI (i4:Nat)),(11,dI ((scanDown (λx=>!ltInt x d2[a]!) d2 (i4) (o)):Nat))]) (λ_=>[bI n d2]) 1 (λk:Nat=>k<=o/\k<=n/\scanDown (λx=>!ltInt x d2[a]!) d2 (i4) k=scanDown (λx=>!ltInt x d2[a]!) d2 (i4) (o)) (λk=>[(0,gY n),(1,dI a),(10,dI (i4:Nat)),(11,dI (k:Nat))]) (λ_=>[bI n d2]) (λk=>k) (o) rfl ?_ rfl ?_ rfl ⟨ar _,by omega,rfl⟩ ?_ ?_
  ·simp[aa.cat,aa,ay] <;> omega
  ·simp[aa.cat,aa,ay]
  ·rintro out k ⟨z,A,h⟩
   by_cases m:i4<=k
   ·by_cases t:(λx=>!ltInt x d2[a]!) d2[k]! = true
    ·have g:ltInt d2[k]! d2[a]! = false:=by simpa using t
     refine af l [(117,true),(127,false)] 200 rfl ?_ (AK.aA (k-1) rfl ?_ rfl rfl rfl ?_ rfl ?_ ?_)
     ·simp only[aa,aw,az,g,aB,aD,ai,ah];and_intros <;> omega
     ·simp only[aa.cat,aa,ai,ah];omega
     ·simp[aa.cat,aa,ay]
     ·exact⟨by omega,by omega,by rw[<-h,g7 (by omega) m t]⟩
     ·omega
    ·have g:ltInt d2[k]! d2[a]! = true:=by simpa using t
     refine af l [(117,true),(127,true)] 200 rfl ?_ (AK.leaveD rfl rfl ?_)
     ·simp only[aa,aw,az,g,aB,aD,ai,ah];and_intros <;> omega
     have e:scanDown (λx=>!ltInt x d2[a]!) d2 (i4) (o)=k:=by rw[<-h];exact dt λ_=>by simpa using t
     exact out () ab rfl (by simp only[aa.cat,aa,e,ai,ah]) rfl (by simp[aa.cat,aa,ay])
   ·refine af l [(117,false)] 200 rfl ?_ (AK.leaveD rfl rfl ?_)
    ·simp only[aa,aB,a9,ai,ah];omega
    have e:scanDown (λx=>!ltInt x d2[a]!) d2 (i4) (o)=k:=by rw[<-h];exact dt λx=>absurd x m
    exact out () ab rfl (by simp only[aa.cat,aa,e,ai,ah]) rfl (by simp[aa.cat,aa,ay])
  rintro⟨⟩ -;have c2:=ib (p:=λx=>!ltInt x d2[a]!) (d:=d2) (i:=i4) o
  obtain⟨B,C⟩:∃ B,B=scanDown (λx=>!ltInt x d2[a]!) d2 i4 o:=⟨_,rfl⟩
  rw[<-C] at c2 ⊢;have q:=partLoop_eq (by omega) G C
  by_cases D:B<i4
  ·have e:=q;rw[u,aq D] at e;refine af l [(134,true)] 200 rfl ?_ (AK.leaveD rfl rfl ?_)
   ·simp only[aa,aB,aD];omega
   exact F () (by rw[e];exact⟨by simp only;omega,y⟩) rfl (by simp only[aa.cat,aa,e,ai,ah]) rfl (by simp[aa.cat,aa,ay,e])
  ·have e:=q;rw[u,an (by omega)] at e
   refine af l [(134,false),(1000019,true)] 200 rfl ?_ ?_
   ·simp only[aa,aw,az,aB,a9,ai,ah];and_intros <;> omega
   refine AK.norm [bI n (swp d2 i4 B)] rfl ?_ ?_
   ·simp only[aa.cat,aa,aw,az,ah,ai];exact eP y (by omega) (by omega) (λ_ _=>rfl)
   refine af l [] 200 rfl ?_ (AK.aA (i4+1,B-1,swp d2 i4 B) rfl ?_ rfl rfl rfl ?_ rfl ?_ ?_)
   ·simp only[aa,aB];and_intros <;> omega
   ·simp only[aa.cat,aa,ai,ah];and_intros <;> omega
   ·simp[aa.cat,aa,ay]
   ·exact⟨by rw[size_swp];exact y,by simp only;omega,by simp only;omega,by simp only;omega,e.symm⟩
   ·simp only;omega
 rintro⟨⟩ ⟨U,L⟩;refine af l [(1000022,true)] 200 rfl ?_ ?_
 ·simp only[aa,aw,az,aB,ai,ah];and_intros <;> omega
 refine AK.norm [bI n (swp r.2 r.1 a)] rfl ?_ ?_
 ·simp only[aa.cat,aa,aw,az,ah,ai];exact eP L (by omega) (by omega) (λ_ _=>rfl)
 refine af l [] 200 rfl ab (AK.eK [0] rfl ?_ rfl rfl rfl gz);simp[aa.cat,aa]
theorem partEqLoop_eq{a i j:Nat}{d:Array Int}{b c:Nat}(k:1<=i)(hi:b=scanUp (λx=>!ltInt d[a]! x) d j i)(e:c=scanDown (λx=>ltInt d[a]! x) d b j) :
  partEqLoop ltInt a i j d=if b>c then (b,d) else partEqLoop ltInt a (b+1) (c-1) (swp d b c):=by
 have f:=kF (p:=λx=>!ltInt d[a]! x) (d:=d) (j:=j) (j+1-i) i (ar _)
 have g:=ib (p:=λx=>ltInt d[a]! x) (d:=d) (i:=b) j
 rw[<-hi] at f;rw[<-e] at g;rw[partEqLoop.eq_1,<-hi,<-e]
 by_cases h:b>c
 ·rw[aq h,aq h]
 ·rw[an h,an h,dif_pos (by omega)]
set_option maxHeartbeats 8000000 in
theorem Cs(n:Nat)(d:Array Int)(a b v:Nat)(H:d.size=n)(K:a<b)(O:b<=n)(N:v<n)(P:n<=4000000) :
  Ev X 122 [gY n,dI a,dI b,dI v] [bI n d] (dI (partitionEqual ltInt d a b v).1) [bI n (partitionEqual ltInt d a b v).2]:=by
 have h:aO X [(121,pe)]:=.cons rP .nil;refine Ev.body Tryz.func122 rfl rfl rfl λQ=>?_
 refine af h [(1000002,true)] 200 rfl ?_ ?_
 ·simp only[aa,aw,az,aB,ai,ah];and_intros <;> omega
 refine AK.norm [bI n (swp d a v)] rfl ?_ ?_
 ·simp only[aa.cat,aa,aw,az,ah,ai];exact eP H (by omega) (by omega) (λ_ _=>rfl)
 have C:(swp d a v).size=n:=by rw[size_swp];exact H
 unfold partitionEqual;generalize swp d a v=d1 at *;obtain⟨r,I⟩:∃ r,partEqLoop ltInt a (a+1) (b-1) d1=r:=⟨_,rfl⟩;rw[I];refine af h [] 200 rfl ?_ ?_
 ·simp only[aa,aB];and_intros <;> omega
 refine AK.iv (S2:=Unit) 0 rfl rfl (λ_=>r.1<=n+1/\r.2.size=n) (λ_=>[(0,gY n),(1,dI a),(9,dI r.1)]) (λ_=>[bI n r.2]) 1 (λs:Nat×Nat×Array Int=>s.2.2.size=n/\a+1<=s.1/\s.1<=n+1/\s.2.1<n/\partEqLoop ltInt a s.1 s.2.1 s.2.2=r) (λs=>[(0,gY n),(1,dI a),(9,dI s.1),(10,dI s.2.1)]) (λs=>[bI n s.2.2]) (λs=>s.2.1+1-s.1) (a+1,b-1,d1) rfl ?_ rfl ?_ rfl ⟨C,by simp only;omega,by simp only;omega,by simp only;omega,I⟩ ?_ ?_
 ·simp only[aa.cat,aa,ai,ah];and_intros <;> omega
 ·simp[aa.cat,aa,ay]
 ·rintro z ⟨i3,c,d2⟩ ⟨t,D,B,E,l⟩;simp only at t D B E l;refine af h [] 200 rfl ab ?_;refine AK.iv (S2:=Unit) 2 rfl rfl (λ_=>True) (λ_=>[(0,gY n),(1,dI a),(9,dI ((scanUp (λx=>!ltInt d2[a]! x) d2 (c) (i3)):Nat)),(10,dI (c:Nat))]) (λ_=>[bI n d2]) 1 (λk:Nat=>i3<=k/\k<=n+1/\scanUp (λx=>!ltInt d2[a]! x) d2 (c) k=scanUp (λx=>!ltInt d2[a]! x) d2 (c) (i3)) (λk=>[(0,gY n),(1,dI a),(9,dI (k:Nat)),(10,dI (c:Nat))]) (λ_=>[bI n d2]) (λk=>c+1-k) (i3) rfl ?_ rfl ?_ rfl ⟨ar _,by omega,rfl⟩ ?_ ?_
  ·simp[aa.cat,aa,ay] <;> omega
  ·simp[aa.cat,aa,ay]
  ·rintro out k ⟨F,G,g⟩
   by_cases m:k<=c
   ·by_cases o:(λx=>!ltInt d2[a]! x) d2[k]! = true
    ·have f:ltInt d2[a]! d2[k]! = false:=by simpa using o
     refine af h [(31,true),(41,false)] 200 rfl ?_ (AK.aA (k+1) rfl ?_ rfl rfl rfl ?_ rfl ?_ ?_)
     ·simp only[aa,aw,az,f,aB,aD,ai,ah];and_intros <;> omega
     ·simp only[aa.cat,aa,ai,ah];omega
     ·simp[aa.cat,aa,ay]
     ·exact⟨by omega,by omega,by rw[<-g,jP m o]⟩
     ·omega
    ·have f:ltInt d2[a]! d2[k]! = true:=by simpa using o
     refine af h [(31,true),(41,true)] 200 rfl ?_ (AK.leaveD rfl rfl ?_)
     ·simp only[aa,aw,az,f,aB,aD,ai,ah];and_intros <;> omega
     have e:scanUp (λx=>!ltInt d2[a]! x) d2 (c) (i3)=k:=by rw[<-g];exact dD λ_=>by simpa using o
     exact out () ab rfl (by simp only[aa.cat,aa,e,ai,ah]) rfl (by simp[aa.cat,aa,ay])
   ·refine af h [(31,false)] 200 rfl ?_ (AK.leaveD rfl rfl ?_)
    ·simp only[aa,aB,a9,ai,ah];omega
    have e:scanUp (λx=>!ltInt d2[a]! x) d2 (c) (i3)=k:=by rw[<-g];exact dD λx=>absurd x m
    exact out () ab rfl (by simp only[aa.cat,aa,e,ai,ah]) rfl (by simp[aa.cat,aa,ay])
  rintro⟨⟩ -;have L:=kF (p:=λx=>!ltInt d2[a]! x) (d:=d2) (j:=c) (c+1-i3) i3 (ar _)
  obtain⟨i4,A⟩:∃ i4,i4=scanUp (λx=>!ltInt d2[a]! x) d2 c i3:=⟨_,rfl⟩
  rw[<-A] at L ⊢;refine af h [] 200 rfl ab ?_;refine AK.iv (S2:=Unit) 4 rfl rfl (λ_=>True) (λ_=>[(0,gY n),(1,dI a),(9,dI (i4:Nat)),(10,dI ((scanDown (λx=>ltInt d2[a]! x) d2 (i4) (c)):Nat))]) (λ_=>[bI n d2]) 1 (λk:Nat=>k<=c/\k<=n/\scanDown (λx=>ltInt d2[a]! x) d2 (i4) k=scanDown (λx=>ltInt d2[a]! x) d2 (i4) (c)) (λk=>[(0,gY n),(1,dI a),(9,dI (i4:Nat)),(10,dI (k:Nat))]) (λ_=>[bI n d2]) (λk=>k) (c) rfl ?_ rfl ?_ rfl ⟨ar _,by omega,rfl⟩ ?_ ?_
  ·simp[aa.cat,aa,ay] <;> omega
  ·simp[aa.cat,aa,ay]
  ·rintro out k ⟨F,G,g⟩
   by_cases m:i4<=k
   ·by_cases o:(λx=>ltInt d2[a]! x) d2[k]! = true
    ·have f:ltInt d2[a]! d2[k]! = true:=by simpa using o
     refine af h [(48,true),(58,true)] 200 rfl ?_ (AK.aA (k-1) rfl ?_ rfl rfl rfl ?_ rfl ?_ ?_)
     ·simp only[aa,aw,az,f,aB,aD,ai,ah];and_intros <;> omega
     ·simp only[aa.cat,aa,ai,ah];omega
     ·simp[aa.cat,aa,ay]
     ·exact⟨by omega,by omega,by rw[<-g,g7 (by omega) m o]⟩
     ·omega
    ·have f:ltInt d2[a]! d2[k]! = false:=by simpa using o
     refine af h [(48,true),(58,false)] 200 rfl ?_ (AK.leaveD rfl rfl ?_)
     ·simp only[aa,aw,az,f,aB,aD,ai,ah];and_intros <;> omega
     have e:scanDown (λx=>ltInt d2[a]! x) d2 (i4) (c)=k:=by rw[<-g];exact dt λ_=>by simpa using o
     exact out () ab rfl (by simp only[aa.cat,aa,e,ai,ah]) rfl (by simp[aa.cat,aa,ay])
   ·refine af h [(48,false)] 200 rfl ?_ (AK.leaveD rfl rfl ?_)
    ·simp only[aa,aB,a9,ai,ah];omega
    have e:scanDown (λx=>ltInt d2[a]! x) d2 (i4) (c)=k:=by rw[<-g];exact dt λx=>absurd x m
    exact out () ab rfl (by simp only[aa.cat,aa,e,ai,ah]) rfl (by simp[aa.cat,aa,ay])
  rintro⟨⟩ -;have c2:=ib (p:=λx=>ltInt d2[a]! x) (d:=d2) (i:=i4) c
  obtain⟨u,w⟩:∃ u,u=scanDown (λx=>ltInt d2[a]! x) d2 i4 c:=⟨_,rfl⟩
  rw[<-w] at c2 ⊢;have q:=partEqLoop_eq (by omega) A w
  by_cases y:u<i4
  ·have e:=q;rw[l,aq y] at e;refine af h [(64,true)] 200 rfl ?_ (AK.leaveD rfl rfl ?_)
   ·simp only[aa,aB,aD];omega
   exact z () (by rw[e];exact⟨by simp only;omega,t⟩) rfl (by simp only[aa.cat,aa,e,ai,ah]) rfl (by simp[aa.cat,aa,ay,e])
  ·have e:=q;rw[l,an (by omega)] at e
   refine af h [(64,false),(1000009,true)] 200 rfl ?_ ?_
   ·simp only[aa,aw,az,aB,a9,ai,ah];and_intros <;> omega
   refine AK.norm [bI n (swp d2 i4 u)] rfl ?_ ?_
   ·simp only[aa.cat,aa,aw,az,ah,ai];exact eP t (by omega) (by omega) (λ_ _=>rfl)
   refine af h [] 200 rfl ?_ (AK.aA (i4+1,u-1,swp d2 i4 u) rfl ?_ rfl rfl rfl ?_ rfl ?_ ?_)
   ·simp only[aa,aB];and_intros <;> omega
   ·simp only[aa.cat,aa,ai,ah];and_intros <;> omega
   ·simp[aa.cat,aa,ay]
   ·exact⟨by rw[size_swp];exact t,by simp only;omega,by simp only;omega,by simp only;omega,e.symm⟩
   ·simp only;omega
 rintro⟨⟩ ⟨M,J⟩;refine af h [] 200 rfl ab (AK.eK [0] rfl ?_ rfl rfl rfl gz);simp[aa.cat,aa]
end Go.AM.R1
namespace Go.AM.R1
open Go.Proofs
open Go.Sort (swp scanSorted shiftDown shiftUp partialIns partialInsertionSort ltInt)
variable {X:Cx Tryz.prog}
theorem rQ{d:Array Int}{b i:Nat}(h:i<b)(a:ltInt d[i]! d[i-1]! = false):scanSorted ltInt d b i=scanSorted ltInt d b (i+1):=by
 rw[scanSorted.eq_1 ltInt d b i,aq (by simp[h,a])]
theorem jk{d:Array Int}{b i:Nat}(h:i<b->ltInt d[i]! d[i-1]! = true):scanSorted ltInt d b i=i:=by
 rw[scanSorted,an];intro a;rw[bF,aD] at a;rw[h a.1] at a;cases a.2
theorem FL{d:Array Int}{b:Nat}:∀ (m i:Nat),b-i<=m->i<=b->i<=scanSorted ltInt d b i/\scanSorted ltInt d b i<=b:=by
 intro m
 induction m with
 |zero=>intro i h f;rw[jk λx=>by omega];omega
 |succ m e =>
  intro i h f
  by_cases a:i<b
  ·cases c:ltInt d[i]! d[i-1]! with
   |false=>rw[rQ a c];have:=e (i+1) (by omega) (by omega);omega
   |true=>rw[jk λ_=>c];omega
  ·rw[jk λx=>absurd x a];omega
theorem FM{d:Array Int}{j:Nat}(b:1<=j)(h:ltInt d[j]! d[j-1]! = true):shiftDown ltInt j d=shiftDown ltInt (j-1) (swp d j (j-1)):=by
 obtain⟨j,rfl⟩:∃ a,j=a+1:=⟨j-1,by omega⟩
 simp only[lz] at h ⊢;rw[shiftDown,an (by simp[h])]
theorem xo{d:Array Int}{j:Nat}(h:1<=j->ltInt d[j]! d[j-1]! = false):shiftDown ltInt j d=d:=by
 cases j with
 |zero=>rfl
 |succ j =>
  have:=h (by omega)
  simp only[lz] at this;rw[shiftDown,aq (by simp[this])]
theorem FN{d:Array Int}{b j:Nat}(a:j<b)(h:ltInt d[j]! d[j-1]! = true):shiftUp ltInt b j d=shiftUp ltInt b (j+1) (swp d j (j-1)):=by
 rw[shiftUp.eq_1 ltInt b j d,aq a,an (by simp[h])]
theorem xp{d:Array Int}{b j:Nat}(h:j<b->ltInt d[j]! d[j-1]! = false):shiftUp ltInt b j d=d:=by
 rw[shiftUp]
 by_cases a:j<b
 ·rw[aq a,aq (by simp[h a])]
 ·rw[an a]
abbrev Jy(n a b i s:Nat):Fr:=[(0,gY n),(1,dI a),(2,dI b),(7,dI i),(8,dI (5-(s:Int)))]
theorem Ii{a b s i:Nat}{d:Array Int}:partialIns ltInt a b (s+1) i d=(if scanSorted ltInt d b i=b then (d,true) else if b-a<50 then (d,false) else
  partialIns ltInt a b s (scanSorted ltInt d b i) (if b-scanSorted ltInt d b i≥2 then shiftUp ltInt b (scanSorted ltInt d b i+1) (if scanSorted ltInt d b i-a≥2 then shiftDown ltInt (scanSorted ltInt d b i-1) (swp d (scanSorted ltInt d b i) (scanSorted ltInt d b i-1)) else swp d (scanSorted ltInt d b i) (scanSorted ltInt d b i-1)) else (if scanSorted ltInt d b i-a≥2 then shiftDown ltInt (scanSorted ltInt d b i-1) (swp d (scanSorted ltInt d b i) (scanSorted ltInt d b i-1)) else swp d (scanSorted ltInt d b i) (scanSorted ltInt d b i-1)))):=rfl
set_option maxHeartbeats 8000000 in
theorem rR(n:Nat)(d:Array Int)(a b:Nat)(R:d.size=n)(S:a<b)(Y:b<=n)(Z:n<=4000000) :
  Ev X 120 [gY n,dI a,dI b] [bI n d] (dB (partialInsertionSort ltInt d a b).2) [bI n (partialInsertionSort ltInt d a b).1]:=by
 have l:aO X [(121,pe)]:=.cons rP .nil;refine Ev.body Tryz.func120 rfl rfl rfl λhf=>?_
 obtain⟨r,Q⟩:∃ r,partialIns ltInt a b 5 (a+1) d=r:=⟨_,rfl⟩;have N:partialInsertionSort ltInt d a b=r:=Q;rw[N];refine af l [] 200 rfl (by simp only[aa,aB];omega) ?_
 refine AK.iv (S2:=Unit) 0 rfl rfl (λ_=>r.2=false) (λ_=>[(0,gY n)]) (λ_=>[bI n r.1]) 1 (λs:Nat×Nat×Array Int=>s.2.2.size=n/\s.1<=5/\a+1<=s.2.1/\s.2.1<=b/\partialIns ltInt a b s.1 s.2.1 s.2.2=r) (λs=>Jy n a b s.2.1 s.1) (λs=>[bI n s.2.2]) (λs=>s.1) (5,a+1,d) rfl ?_ rfl ?_ rfl ⟨R,by simp only;omega,by simp only;omega,by simp only;omega,Q⟩ ?_ ?_
 ·simp[aa.cat,aa]
 ·simp[aa.cat,aa,ay]
 ·rintro G ⟨s,i,d1⟩ ⟨I,z,hi,A,f⟩;simp only at I z hi A f;cases s with
  |zero =>
   rw[partialIns] at f;refine af l [(14,false)] 200 rfl ?_ (AK.leaveD rfl rfl ?_)
   ·simp[aa]
   exact G () (by rw[<-f]) rfl (by simp[aa.cat,aa]) rfl (by simp[aa.cat,aa,ay,<-f])
  |succ s =>
   rw[Ii] at f;refine af l [(14,true)] 200 rfl (by simp only[aa,aD];omega) ?_
   refine AK.iv (S2:=Unit) 2 rfl rfl (λ_=>True) (λ_=>Jy n a b (scanSorted ltInt d1 b i) (s+1)) (λ_=>[bI n d1]) 1 (λk:Nat=>i<=k/\k<=b/\scanSorted ltInt d1 b k=scanSorted ltInt d1 b i) (λk=>Jy n a b k (s+1)) (λ_=>[bI n d1]) (λk=>b-k) i rfl ?_ rfl ?_ rfl ⟨ar _,A,rfl⟩ ?_ ?_
   ·simp[aa.cat,aa]
   ·simp[aa.cat,aa,ay]
   ·rintro out k ⟨T,W,y⟩
    by_cases H:k<b
    ·have C:((k:Int)-1).toNat=k-1:=by omega
     cases p:ltInt d1[k]! d1[k-1]! with
     |false =>
      refine af l [(19,true),(30,false)] 200 rfl ?_ (AK.aA (k+1) rfl ?_ rfl rfl rfl ?_ rfl ?_ ?_)
      ·simp only[aa,aw,az,C,p,aB,aD,ai,ah];and_intros <;> omega
      ·simp only[aa.cat,aa,ai,ah];omega
      ·simp[aa.cat,aa,ay]
      ·exact⟨by omega,by omega,by rw[<-y,rQ H p]⟩
      ·omega
     |true =>
      refine af l [(19,true),(30,true)] 200 rfl ?_ (AK.leaveD rfl rfl ?_)
      ·simp only[aa,aw,az,C,p,aB,aD,ai,ah];and_intros <;> omega
      have e:scanSorted ltInt d1 b i=k:=by rw[<-y];exact jk λ_=>p
      exact out () ab rfl (by simp only[aa.cat,aa,e,ai,ah]) rfl (by simp[aa.cat,aa,ay])
    ·refine af l [(19,false)] 200 rfl ?_ (AK.leaveD rfl rfl ?_)
     ·simp only[aa,aB,a9,ai,ah];omega
     have e:scanSorted ltInt d1 b i=k:=by rw[<-y];exact jk λx=>absurd x H
     exact out () ab rfl (by simp only[aa.cat,aa,e,ai,ah]) rfl (by simp[aa.cat,aa,ay])
   rintro⟨⟩ -;have c:=FL (d:=d1) (b:=b) (b-i) i (ar _) A;obtain⟨h,K⟩:∃ h,h=scanSorted ltInt d1 b i:=⟨_,rfl⟩;rw[<-K] at c f ⊢
   by_cases w:h=b
   ·rw[aq w] at f;rw[<-f];refine af l [(37,true)] 200 rfl ?_ (AK.cV (aW.mk [0] rfl ?_ rfl rfl rfl gz))
    ·simp[aa,w]
    ·simp[aa,aa.cat]
   rw[an w] at f
   by_cases F:b-a<50
   ·rw[aq F] at f;rw[<-f];refine af l [(37,false),(41,true)] 200 rfl ?_ (AK.cV (aW.mk [0] rfl ?_ rfl rfl rfl gz))
    ·simp[aa,aB];omega
    ·simp[aa,aa.cat]
   rw[an F] at f;have C:((h:Int)-1).toNat=h-1:=by omega
   refine af l [(37,false),(41,false),(1000012,true)] 200 rfl ?_ ?_
   ·simp only[aa,aw,az,C,aB,a9,eZ,cf,ai,ah];and_intros <;> omega
   refine AK.norm [bI n (swp d1 h (h-1))] rfl ?_ ?_
   ·simp only[aa.cat,aa,aw,az,C,ah,ai];exact eP I (by omega) (by omega) (λ_ _=>rfl)
   have t:(swp d1 h (h-1)).size=n:=by rw[size_swp];exact I
   obtain⟨d2,L⟩:∃ d2,d2=swp d1 h (h-1):=⟨_,rfl⟩;rw[<-L] at t f ⊢;obtain⟨d3,q⟩:∃ d3,d3=if h-a≥2 then shiftDown ltInt (h-1) d2 else d2:=⟨_,rfl⟩
   rw[<-q] at f;have V:∀ (j:Nat) (d:Array Int),(shiftDown ltInt j d).size=d.size:=by
    intro j
    induction j with
    |zero=>intro d;rfl
    |succ j U =>
     intro d;rw[shiftDown];split;· rfl
     ·rw[U,size_swp]
   have D:d3.size=n:=by
    rw[q];split
    ·rw[V];exact t
    ·exact t
   apply AK.join (Jy n a b h (s+1)) [bI n d3]
   ·intro out
    by_cases P:h-a≥2
    ·rw[aq P] at q;refine af l [(61,true)] 200 rfl ?_ ?_
     ·simp only[aa,aB,aD,ai,ah];and_intros <;> omega
     refine AK.iv (S2:=Unit) 4 rfl rfl (λ_=>True) (λ_=>Jy n a b h (s+1)) (λ_=>[bI n d3]) 1 (λs:Nat×Array Int=>s.2.size=n/\s.1<b/\shiftDown ltInt s.1 s.2=d3) (λs2=>Jy n a b h (s+1)++[(9,dI s2.1)]) (λs=>[bI n s.2]) (λs=>s.1) (h-1,d2) rfl ?_ rfl ?_ rfl ⟨t,by simp only;omega,q.symm⟩ ?_ ?_
     ·simp only[aa.cat,aa,ai,ah];omega
     ·simp[aa.cat,aa,ay]
     ·rintro o ⟨j,d4⟩ ⟨m,J,g⟩;simp only at m J g
      by_cases u:1<=j
      ·have v:((j:Int)-1).toNat=j-1:=by omega
       cases p:ltInt d4[j]! d4[j-1]! with
       |true =>
        refine af l [(65,true),(77,true)] 200 rfl ?_ (AK.aA (j-1,swp d4 j (j-1)) rfl ?_ rfl rfl rfl ?_ rfl ?_ ?_)
        ·simp only[aa,aw,az,v,p,aB,aD,ai,ah];and_intros <;> omega
        ·simp only[aa.cat,aa,ai,ah];omega
        ·simp only[aa.cat,aa,aw,az,v,ah,ai];exact eP m (by omega) (by omega) (λ_ _=>rfl)
        ·exact⟨by rw[size_swp];exact m,by simp only;omega,by rw[<-g,FM u p]⟩
        ·simp only;omega
       |false =>
        refine af l [(65,true),(77,false)] 200 rfl ?_ (AK.leaveD rfl rfl ?_)
        ·simp only[aa,aw,az,v,p,aB,aD,ai,ah];and_intros <;> omega
        have e:d3=d4:=by rw[<-g];exact xo λ_=>p
        exact o () ab rfl (by simp[aa.cat,aa]) rfl (by simp[aa.cat,aa,ay,e])
      ·refine af l [(65,false)] 200 rfl ?_ (AK.leaveD rfl rfl ?_)
       ·simp only[aa,a9];omega
       have e:d3=d4:=by rw[<-g];exact xo λx=>absurd x u
       exact o () ab rfl (by simp[aa.cat,aa]) rfl (by simp[aa.cat,aa,ay,e])
     rintro⟨⟩ -;refine af l [(1000018,true)] 200 rfl ab ?_;exact out _ _ rfl (by simp[aa.cat,aa])
    ·rw[an P] at q;rw[<-q];refine af l [(61,false),(1000018,true)] 200 rfl ?_ ?_
     ·simp only[aa,aB,a9,ai,ah];and_intros <;> omega
     exact out _ _ rfl (by simp[aa.cat,aa])
   by_cases O:b-h≥2
   ·rw[aq O] at f;obtain⟨d5,E⟩:∃ d5,shiftUp ltInt b (h+1) d3=d5:=⟨_,rfl⟩;rw[E] at f;refine af l [(98,true)] 200 rfl ?_ ?_
    ·simp only[aa,aB,aD,ai,ah];and_intros <;> omega
    refine AK.iv (S2:=Unit) 6 rfl rfl (λ_=>d5.size=n) (λ_=>Jy n a b h (s+1)) (λ_=>[bI n d5]) 1 (λs:Nat×Array Int=>s.2.size=n/\1<=s.1/\s.1<=b/\shiftUp ltInt b s.1 s.2=d5) (λs2=>Jy n a b h (s+1)++[(10,dI s2.1)]) (λs=>[bI n s.2]) (λs=>b-s.1) (h+1,d3) rfl ?_ rfl ?_ rfl ⟨D,by simp only;omega,by simp only;omega,E⟩ ?_ ?_
    ·simp only[aa.cat,aa,ai,ah];omega
    ·simp[aa.cat,aa,ay]
    ·rintro o ⟨j,d4⟩ ⟨m,u,J,g⟩;simp only at m u J g
     by_cases B:j<b
     ·have v:((j:Int)-1).toNat=j-1:=by omega
      cases p:ltInt d4[j]! d4[j-1]! with
      |true =>
       refine af l [(103,true),(115,true)] 200 rfl ?_ (AK.aA (j+1,swp d4 j (j-1)) rfl ?_ rfl rfl rfl ?_ rfl ?_ ?_)
       ·simp only[aa,aw,az,v,p,aB,aD,ai,ah];and_intros <;> omega
       ·simp only[aa.cat,aa,ai,ah];omega
       ·simp only[aa.cat,aa,aw,az,v,ah,ai];exact eP m (by omega) (by omega) (λ_ _=>rfl)
       ·exact⟨by rw[size_swp];exact m,by simp only;omega,by simp only;omega,by rw[<-g,FN B p]⟩
       ·simp only;omega
      |false =>
       refine af l [(103,true),(115,false)] 200 rfl ?_ (AK.leaveD rfl rfl ?_)
       ·simp only[aa,aw,az,v,p,aB,aD,ai,ah];and_intros <;> omega
       have e:d5=d4:=by rw[<-g];exact xp λ_=>p
       exact o () (by rw[e];exact m) rfl (by simp[aa.cat,aa]) rfl (by simp[aa.cat,aa,ay,e])
     ·refine af l [(103,false)] 200 rfl ?_ (AK.leaveD rfl rfl ?_)
      ·simp only[aa,a9];omega
      have e:d5=d4:=by rw[<-g];exact xp λx=>absurd x B
      exact o () (by rw[e];exact m) rfl (by simp[aa.cat,aa]) rfl (by simp[aa.cat,aa,ay,e])
    rintro⟨⟩ z;refine af l [] 200 rfl ?_ (AK.aA (s,h,d5) rfl ?_ rfl rfl rfl ?_ rfl ?_ ?_)
    ·simp only[aa,aB];omega
    ·simp only[aa.cat,aa,ai,ah];omega
    ·simp[aa.cat,aa,ay]
    ·exact⟨z,by simp only;omega,by simp only;omega,by simp only;omega,f⟩
    ·simp only;omega
   ·rw[an O] at f;refine af l [(98,false)] 200 rfl ?_ (AK.aA (s,h,d3) rfl ?_ rfl rfl rfl ?_ rfl ?_ ?_)
    ·simp only[aa,aB,a9,ai,ah];and_intros <;> omega
    ·simp only[aa.cat,aa,ai,ah];omega
    ·simp[aa.cat,aa,ay]
    ·exact⟨D,by simp only;omega,by simp only;omega,by simp only;omega,f⟩
    ·simp only;omega
 rintro⟨⟩ M;refine af l [] 200 rfl ab (AK.eK [0] rfl ?_ rfl rfl rfl gz);simp[aa,aa.cat,M]
end Go.AM.R1
namespace Go.AM.R1
open Go.Proofs
open Go.Sort (swp pdq rd Rd Below SWO insertionSort heapSort breakPatterns choosePivot reverseRange partialInsertionSort partition partitionEqual Hint ltInt PermIn SortedIn)
variable {X:Cx Tryz.prog}
abbrev Od(n a b c:Nat)(wb wp:Bool):Fr:=[(0,gY n),(1,dI a),(2,dI b),(3,dI c),(8,dB wb),(9,dB wp)]
theorem tH{h:Hint}:kD h=2↔h=.decreasing:=by cases h <;> simp[kD]
theorem oO{h:Hint}:kD h=1↔h=.increasing:=by cases h <;> simp[kD]
structure Vp where
 a:Nat
 b:Nat
 lim:Nat
 wb:Bool
 wp:Bool
 d:Array Int
theorem Ij(n:Nat)(d:Array Int){a b:Nat}(e:d.size=n)(c:b<=n)(g:a<=n)(h:n<=4000000){r:Array Int}(f:r=insertionSort ltInt d a b):Ev X 115 [gY n,dI a,dI b] [bI n d] (.eD []) [bI n r]:=by
 subst f;exact Ly n d a b e c g h
theorem FO(n:Nat)(d:Array Int){a b:Nat}(f:d.size=n)(c:a<=b)(h:1<=b-a)(e:b<=n)(i:n<=4000000){r:Array Int}(g:r=heapSort ltInt d a b):Ev X 116 [gY n,dI a,dI b] [bI n d] (.eD []) [bI n r]:=by
 subst g;exact Ik n d a b f c h e i
set_option maxHeartbeats 8000000 in
theorem Lz(n:Nat)(G:n<=4000000):∀ (m:Nat)(d:Array Int)(a b lim:Nat),b-a<=m->d.size=n->a<=b->b<=n->lim<=100->Below ltInt a b d ->
  ∀ {x y z:Int},x=a->y=b->z=lim->∀ {R:Array Int},R=pdq ltInt d a b lim true true->Ev X 93 [gY n,dI x,dI y,dI z] [bI n d] (.eD []) [bI n R]:=by
 have k:aO X [(121,pe)]:=.cons rP .nil;have C:SWO ltInt:=Go.Sort.swo_ltInt;have Vq:=Go.Sort.partialInsertionSort_holds (lt:=ltInt);have Vr:=Go.Sort.partition_holds ltInt;have Vs:=Go.Sort.partitionEqual_holds ltInt;have V:=Go.Sort.reverseRange_holds (α:=Int);have Y:=Go.Sort.pdq_sorts ltInt;intro m
 induction m using Nat.strongRecOn with
 |_ m ih =>
 intro d a b lim hm hd Vt hb hl hB x y z hx hy hz R hR;subst hx hy hz;refine Ev.body Tryz.func93 rfl rfl rfl λhf=>?_
 refine af k [] 200 rfl ab ?_;refine AK.bY 1 (λs:Vp=>s.d.size=n/\s.a<=s.b/\s.b<=n/\s.lim<=100/\s.b-s.a<=b-a/\Below ltInt s.a s.b s.d/\pdq ltInt s.d s.a s.b s.lim s.wb s.wp=R) (λs=>Od n s.a s.b s.lim s.wb s.wp) (λs=>[bI n s.d]) (λs=>s.b-s.a) ⟨a,b,lim,true,true,d⟩ rfl ?_ rfl ?_ rfl ⟨hd,Vt,hb,hl,ar _,hB,hR.symm⟩ ?_
 ·simp[aa.cat,aa]
 ·simp[aa.cat,aa,ay]
 clear hf hB hd hR;rintro⟨f,h,q,wb,wp,d1⟩ ⟨M,v,i,IN,L9,hB,l⟩;simp only at M v i IN L9 hB l
 by_cases B:h-f<=12
 ·rw[Go.Sort.pdq_small B] at l;refine af k [(23,true)] 200 rfl ?_ ?_
  ·simp only[aa,aB,aD];and_intros <;> omega
  refine AK.aP (Ij n d1 (a:=f) (b:=h) M i (by omega) G l.symm) [0] rfl rfl rfl rfl rfl rfl rfl rfl rfl rfl rfl ?_
  refine af k [] 200 rfl ab (AK.cV (aW.mk [0] rfl ab rfl rfl rfl gz))
 by_cases O:q=0
 ·rw[Go.Sort.pdq_heap B O] at l;refine af k [(23,false),(29,true)] 200 rfl ?_ ?_
  ·simp only[aa,aB,a9,gf];and_intros <;> omega
  refine AK.aP (FO n d1 (a:=f) (b:=h) M v (by omega) i G l.symm) [0] rfl rfl rfl rfl rfl rfl rfl rfl rfl rfl rfl ?_
  refine af k [] 200 rfl ab (AK.cV (aW.mk [0] rfl ab rfl rfl rfl gz))
 have p:f<h:=by omega
 obtain⟨f1,f2,f3,f4,f5,f6,L,f8⟩:=Go.Sort.rd_facts (limit:=q) (wb:=wb) (wp:=wp) C Vq V p (by rw[M];exact i) hB
 have fl:=Go.Sort.rd_lim_le (lt:=ltInt) (d:=d1) (a:=f) (b:=h) (limit:=q) (wb:=wb) (wp:=wp);have U:=Go.Sort.rd_dec (lt:=ltInt) (d:=d1) (a:=f) (b:=h) (limit:=q) (wb:=wb) (wp:=wp);have T:=Go.Sort.rd_not (lt:=ltInt) (d:=d1) (a:=f) (b:=h) (limit:=q) (wb:=wb) (wp:=wp);have I:=Go.Sort.rd_pi_yes (lt:=ltInt) (d:=d1) (a:=f) (b:=h) (limit:=q) (wb:=wb) (wp:=wp);have Q:=Go.Sort.rd_pi_no (lt:=ltInt) (d:=d1) (a:=f) (b:=h) (limit:=q) (wb:=wb) (wp:=wp);have fc:=Go.Sort.rd_c (lt:=ltInt) (d:=d1) (a:=f) (b:=h) (limit:=q) (wb:=wb) (wp:=wp);have Vu:wb=false->(rd ltInt d1 f h q wb wp).d1=breakPatterns d1 f h/\(rd ltInt d1 f h q wb wp).lim=q-1:=by rintro rfl;exact Go.Sort.rd_false
 have Vv:wb=true->(rd ltInt d1 f h q wb wp).d1=d1/\(rd ltInt d1 f h q wb wp).lim=q:=by rintro rfl;exact Go.Sort.rd_true
 have E:=Go.Sort.pdq_done (lt:=ltInt) (d:=d1) (wb:=wb) (wp:=wp) B O;have geq:=Go.Sort.pdq_eq (lt:=ltInt) (d:=d1) (wb:=wb) (wp:=wp) B O;have F:=Go.Sort.pdq_left (lt:=ltInt) (d:=d1) (wb:=wb) (wp:=wp) B O;have w:=Go.Sort.pdq_right (lt:=ltInt) (d:=d1) (wb:=wb) (wp:=wp) B O;rw[M] at f1 f4 L;rw[l] at E geq F w;generalize rd ltInt d1 f h q wb wp=r at *
 apply AK.join (Od n f h r.lim wb wp++[(10,dI ((h-f:Nat):Int))]) [bI n r.d1]
 ·intro out;cases wb with
  |false =>
   obtain⟨J,K⟩:=Vu rfl;refine af k [(23,false),(29,false)] 200 rfl ?_ ?_
   ·simp only[aa,aB,a9,eZ,cf];and_intros <;> omega
   refine AK.aP (FP n d1 f h M v i G) [0] rfl rfl rfl rfl rfl rfl rfl rfl rfl rfl rfl ?_;rw[<-J];refine af k [(1000010,true)] 200 rfl ?_ ?_
   ·simp only[aa,aB];and_intros <;> omega
   exact out _ _ rfl (by simp only[aa.cat,aa,K,ai,ah];and_intros <;> omega)
  |true =>
   obtain⟨J,K⟩:=Vv rfl;subst J;refine af k [(23,false),(29,false),(1000010,true)] 200 rfl ?_ ?_
   ·simp only[aa,aB,a9,eZ,cf];and_intros <;> omega
   exact out _ _ rfl (by simp only[aa.cat,aa,K,ai,ah];and_intros <;> omega)
 refine af k [] 200 rfl ab ?_;refine AK.aP (Cr n r.d1 f h v i (by omega) G) [0] rfl rfl rfl rfl rfl rfl rfl rfl rfl rfl rfl ?_
 rw[<-fc]
 apply AK.join (Od n f h r.lim wb wp++[(10,dI ((h-f:Nat):Int)),(11,dI r.pivot),(12,dI (kD r.hint))]) [bI n r.d2]
 ·intro out
  by_cases u:r.c.2=.decreasing
  ·obtain⟨J,K,e3⟩:=U u;refine af k [(50,true)] 200 rfl ?_ ?_
   ·simp only[aa,gf,tH];exact u
   refine AK.aP (LA n r.d1 f h f1 (by omega) (by omega) i G) [0] rfl rfl rfl rfl rfl rfl rfl rfl rfl rfl rfl ?_
   rw[<-J];refine af k [(1000015,true)] 200 rfl ?_ ?_
   ·simp only[aa,aB];and_intros <;> omega
   exact out _ _ rfl (by simp only[aa.cat,aa,K,e3,kD,ai,ah];and_intros <;> omega)
  ·obtain⟨J,K,e3⟩:=T u;rw[<-J];refine af k [(50,false),(1000015,true)] 200 rfl ?_ ?_
   ·simp only[aa,eZ,cf,tH];exact u
   exact out _ _ rfl (by simp only[aa.cat,aa,K,e3,ai,ah])
 by_cases o:r.pi.2=true
 ·
  have t:(wb&&wp&&decide (r.hint=.increasing))=true:=by
   cases j:(wb&&wp&&decide (r.hint=.increasing)) with
   |true=>rfl
   |false=>rw[Q j] at o;cases o
  have e:=I t;simp only[bF,aD] at t;obtain⟨⟨rfl,rfl⟩,D⟩:=t;refine af k [(67,true)] 200 rfl ?_ ?_
  ·simp only[aa,gf,oO];exact D
  refine AK.aP (rR n r.d2 f h f4 p i G) [0] rfl rfl rfl rfl rfl rfl rfl rfl rfl rfl rfl ?_;rw[<-e,o,<-E o];refine af k [] 200 rfl ab (AK.cV (aW.mk [0] rfl ab rfl rfl rfl gz))
 rw[kJ] at o
 apply AK.join (Od n f h r.lim wb wp++[(10,dI ((h-f:Nat):Int)),(11,dI r.pivot)]) [bI n r.pi.1]
 ·intro out;cases j:(wb&&wp&&decide (r.hint=.increasing)) with
  |true =>
   have e:=I j;simp only[bF,aD] at j;obtain⟨⟨rfl,rfl⟩,D⟩:=j;refine af k [(67,true)] 200 rfl ?_ ?_
   ·simp only[aa,gf,oO];exact D
   refine AK.aP (rR n r.d2 f h f4 p i G) [0] rfl rfl rfl rfl rfl rfl rfl rfl rfl rfl rfl ?_;rw[<-e,o];refine af k [(1000017,true)] 200 rfl ab ?_;exact out _ _ rfl (by simp[aa.cat,aa])
  |false =>
   have e:r.d2=r.pi.1:=by rw[Q j]
   rw[e];cases wb with
   |false =>
    refine af k [(1000017,true)] 200 rfl ab ?_;exact out _ _ rfl (by simp[aa.cat,aa])
   |true =>
    cases wp with
    |false =>
     refine af k [(1000017,true)] 200 rfl ab ?_;exact out _ _ rfl (by simp[aa.cat,aa])
    |true =>
     refine af k [(67,false),(1000017,true)] 200 rfl ?_ ?_
     ·simp only[aa,eZ,cf,oO];simpa using j
     exact out _ _ rfl (by simp[aa.cat,aa])
 have ep:((f:Int)-1).toNat=f-1:=by omega
 cases j:(decide (f>0)&&!ltInt r.pi.1[f-1]! r.pi.1[r.pivot]!) with
 |true =>
  have A:=j;simp only[bF,aD,iM] at A;obtain⟨N,W,H,Z,_⟩:=Go.Sort.round_eq (mid:=(partitionEqual ltInt r.pi.1 f h r.pivot).1) (d4:=(partitionEqual ltInt r.pi.1 f h r.pivot).2) C Vs A.1 f6.1 f6.2 (by rw[L];exact i) f8 A.2 rfl
  have g:=geq o j ⟨N,W⟩;refine af k [(74,true),(85,false)] 200 rfl ?_ ?_
  ·simp only[aa,aw,az,ep,A.2,aB,aD,ai,ah];and_intros <;> omega
  refine AK.aP (Cs n r.pi.1 f h r.pivot L p i (by omega) G) [0] rfl rfl rfl rfl rfl rfl rfl rfl rfl rfl rfl ?_
  refine af k [] 200 rfl ab (AK.aA ⟨(partitionEqual ltInt r.pi.1 f h r.pivot).1,h,r.lim,wb,wp,(partitionEqual ltInt r.pi.1 f h r.pivot).2⟩ rfl ?_ rfl rfl rfl ?_ rfl ?_ ?_)
  ·simp[aa.cat,aa]
  ·simp[aa.cat,aa,ay]
  ·exact⟨by simp only;rw[H,L],W,i,by simp only;omega,by simp only;omega,Z,g.symm⟩
  ·simp only;omega
 |false =>
  obtain⟨N,W,H,Z,q5,q6,q7⟩:=Go.Sort.round_part (mid:=(partition ltInt r.pi.1 f h r.pivot).1) (ap:=(partition ltInt r.pi.1 f h r.pivot).2.1) (d4:=(partition ltInt r.pi.1 f h r.pivot).2.2) C Vr f6.1 f6.2 (by rw[L];exact i) f8 rfl
  apply AK.join (Od n f h r.lim wb wp++[(10,dI ((h-f:Nat):Int)),(11,dI r.pivot)]) [bI n r.pi.1]
  ·intro out
   by_cases Vw:0<f
   ·have oR:ltInt r.pi.1[f-1]! r.pi.1[r.pivot]! = true:=by
     cases hl:ltInt r.pi.1[f-1]! r.pi.1[r.pivot]! with
     |true=>rfl
     |false=>rw[hl] at j;simp[Vw] at j
    refine af k [(74,true),(85,true),(1000020,true)] 200 rfl ?_ ?_
    ·simp only[aa,aw,az,ep,oR,aB,aD,ai,ah];and_intros <;> omega
    exact out _ _ rfl (by simp[aa.cat,aa])
   ·refine af k [(74,false),(1000020,true)] 200 rfl ?_ ?_
    ·simp only[aa,a9];omega
    exact out _ _ rfl (by simp[aa.cat,aa])
  refine af k [] 200 rfl ab ?_;refine AK.aP (Il n r.pi.1 f h r.pivot L p i (by omega) G) [0] rfl rfl rfl rfl rfl rfl rfl rfl rfl rfl rfl ?_
  have gl:=F o j ⟨N,W⟩;have gr:=w o j ⟨N,W⟩;generalize partition ltInt r.pi.1 f h r.pivot=P at *;rw[L] at H
  by_cases S:P.1-f<h-P.1
  ·have g:=gl S;obtain⟨w1,w2⟩:=Y C P.2.2 f P.1 r.lim true true N (by rw[H];omega) Z
   obtain⟨w3,_⟩:=q6 _ w1 w2;refine af k [(113,true)] 200 rfl ?_ ?_
   ·simp only[aa,aB,aD,ai,ah];and_intros <;> omega
   refine AK.aP (ih (P.1-f) (by omega) P.2.2 f P.1 r.lim (ar _) H N (by omega) (by omega) Z rfl rfl rfl rfl) [0] rfl rfl rfl rfl rfl rfl rfl rfl rfl rfl rfl ?_
   refine af k [] 200 rfl ?_ (AK.aA ⟨P.1+1,h,r.lim,decide (P.1-f≥(h-f) / 8),P.2.1,pdq ltInt P.2.2 f P.1 r.lim true true⟩ rfl ?_ rfl rfl rfl ?_ rfl ?_ ?_)
   ·simp only[aa,aB,ai,ah];and_intros <;> omega
   ·simp only[aa.cat,aa,ai,ah];refine⟨by omega,?_⟩
    rw[decide_eq_decide];omega
   ·simp[aa.cat,aa,ay]
   ·exact⟨by simp only;rw[w1.1,H],by simp only;omega,i,by simp only;omega,by simp only;omega,w3,g.symm⟩
   ·simp only;omega
  ·have g:=gr S;obtain⟨w1,w2⟩:=Y C P.2.2 (P.1+1) h r.lim true true (by omega) (by rw[H];omega) q5
   obtain⟨w3,_⟩:=q7 _ w1 w2;refine af k [(113,false)] 200 rfl ?_ ?_
   ·simp only[aa,aB,a9,ai,ah];and_intros <;> omega
   refine AK.aP (ih (h-(P.1+1)) (by omega) P.2.2 (P.1+1) h r.lim (ar _) H (by omega) i (by omega) q5 (x:=(P.1:Int)+1) (by omega) rfl rfl rfl) [0] rfl rfl rfl rfl rfl rfl rfl rfl rfl rfl rfl ?_
   refine af k [] 200 rfl ?_ (AK.aA ⟨f,P.1,r.lim,decide (h-P.1≥(h-f) / 8),P.2.1,pdq ltInt P.2.2 (P.1+1) h r.lim true true⟩ rfl ?_ rfl rfl rfl ?_ rfl ?_ ?_)
   ·trivial
   ·simp only[aa.cat,aa,ai,ah];rw[decide_eq_decide];omega
   ·simp[aa.cat,aa,ay]
   ·exact⟨by simp only;rw[w1.1,H],by simp only;omega,by simp only;omega,by simp only;omega,by simp only;omega,w3,g.symm⟩
   ·simp only;omega
end Go.AM.R1
namespace Go.AM.R1
open Go.Proofs
variable {X:Cx Tryz.prog}
abbrev lX:bH:=fY aS (λp=>dS (gn p)) λ_=>[]
abbrev u6(r:Option Bs):D:=.eD [.one (.c (.str (r.getD []))),.one (.c (.bool r.isSome))]
theorem yI(c:bU X 148 lX)(b:Bs):Ev X 113 [dS b] [] (u6 (c8 b)) []:=by
 refine Ev.body Tryz.func113 rfl rfl rfl λf=>?_
 have e:aO X [(146,Ku),(147,fY aS (λs=>dB (aY s)) λ_=>[]),(148,lX)]:=.cons t146 (.cons t147 (.cons c .nil))
 by_cases a:aY (strip b)=true
 ·by_cases d:gn (strip b)=b
  ·refine af e [(10,false),(15,false)] 100 rfl ?_ (AK.au rfl ?_)
   ·simp[aa,a,d]
   ·simp[aa,aa.cat,c8,a,d]
  ·refine af e [(10,false),(15,true)] 100 rfl ?_ (AK.au rfl ?_)
   ·simp[aa,a,d]
   ·simp[aa,aa.cat,c8,a,d]
 ·refine af e [(10,true),(15,true)] 100 rfl ?_ (AK.au rfl ?_)
  ·simp[aa,a]
  ·simp[aa,aa.cat,c8,a]
theorem Nq(a:bU X 148 lX):bU X 113 (fY aS (λb=>u6 (c8 b)) λ_=>[]):=.jo λb _=>yI a b
theorem rl{b p:Bs}(h:c8 b=some p):aY p=true:=by
 unfold c8 at h;split at h
 ·rename_i a;cases h;exact(bF _ _▸a).1
 ·cases h
abbrev Qn(x:ew):D:=yJ.enc x
theorem Ey(c:bU X 148 lX)(x:ew) (k:Int)(e:bO k=true):Ev X 91 [Qn x,dI k] [] (u6 (chunk k x)) []:=by
 refine Ev.body Tryz.func91 rfl rfl rfl λh=>?_
 have f:aO X [(113,fY aS (λb=>u6 (c8 b)) λ_=>[]),(114,CY aI aS aI (λk p n=>dB (kz k p==n)) λk p _=>[bO k=true,aY p=true])]:=.cons (Nq c) (.cons t114 .nil)
 cases a:c8 x.2 with
 |none =>
  refine af f [(16,true),(23,true)] 100 rfl ?_ (AK.au rfl ?_)
  ·simp[aa,a]
  ·simp[aa,aa.cat,chunk,a]
 |some p =>
  have g:=rl a
  by_cases d:kz k p=x.1
  ·refine af f [(16,false),(23,false)] 100 rfl ?_ (AK.au rfl ?_)
   ·simp[aa,a,d,e,g]
   ·simp[aa,aa.cat,chunk,a,d,e]
  ·refine af f [(16,false),(23,true)] 100 rfl ?_ (AK.au rfl ?_)
   ·simp[aa,a,d,e,g]
   ·simp[aa,aa.cat,chunk,a,d,e]
theorem Ez(a:bU X 148 lX):bU X 91 (ga yJ aI (λx k=>u6 (chunk k x)) λ_ k=>[bO k=true]):=.gX λx k h=>Ey a x k h
end Go.AM.R1
namespace Go.AM
open Go.Conc (G)
section
variable {P:Program}{X:Cx P}
def Yields{ι:Type}(X:Cx P)(lb:Nat)(ds:List D)(σ:List ak)(res:Bool)(σ':ι->List ak):Prop :=
 ∀ s (vs:List Value) (l:Nat),bZ σ s vs ds->ag σ s->(∃ L,s.β[lb]?=some L/\L.v=.func (.yield l) #[] #[]) ->
  ∃ fn tmps assign body,(Instr.yield l vs.toArray).run P s.w=.ok (.round l fn tmps assign body) s.w/\(Instr.yield l vs.toArray).events P s.w #[]=#[⟨.obj l,false,false⟩] /\
  ∀ (S:Goroutine->St->Prop) (c:Frame) (cs:List Frame),(∀ i s',ag (σ' i) s'->bq σ s (σ' i) s'->db X S (G (c.finish (.bool res)) cs) s') ->
   db X S (G (Frame.round l fn tmps assign body .normal) (c::cs)) s
theorem jH{w:World}{l:Nat}{r:Loop}(h:w.heap[l]?=some (.loop r)):(Instr.getLoop l).run P w=.ok r w/\∀ es,(Instr.getLoop l).events P w es=es.push ⟨.obj l,false,false⟩:=by
 have c:(getObj l).run P w=.ok (.loop r) w:=by simp only[getObj,Sem.run,h]
 have d:∀ es,(getObj l).events P w es=es.push ⟨.obj l,false,false⟩:=λes=>by simp only[getObj,Sem.events,Sem.runT,h];rfl
 constructor
 ·simp[Instr.getLoop,c]
 ·intro es;simp[Instr.getLoop,c,d]
theorem lR{w:World}{l:Nat}{r r':Loop}(h:w.heap[l]?=some (.loop r)):(setObj l (.loop r')).run P w=.ok () { w with heap:=w.heap.setIfInBounds l (.loop r') }/\∀ es,(setObj l (.loop r')).events P w es=es.push ⟨.obj l,true,false⟩:=by
 constructor
 ·simp only[setObj,Sem.run,h]
 ·intro es;simp only[setObj,Sem.events,Sem.runT,h];rfl
theorem Br{w:World}{l:Nat}{r:Loop}{args:Array Value}(h:w.heap[l]?=some (.loop r))(c:args.size=r.params.size) :
  (Instr.yield l args).run P w=.ok (.round l r.fn ((r.params.zip args).foldl (λtmps (t,a)=>tmps.setIfInBounds t a) r.tmps) r.assign r.body) w/\(Instr.yield l args).events P w #[]=#[⟨.obj l,false,false⟩]:=by
 obtain⟨d,e⟩:=jH (P:=P) h
 constructor
 ·simp[Instr.yield,d,c]
 ·simp[Instr.yield,d,e,c]
theorem Bt{w:World}{l:Nat}{r:Loop}(h:w.heap[l]?=some (.loop r))(d:r.state=.ready) :
  (Instr.beginRound l).run P w=.ok () { w with heap:=w.heap.setIfInBounds l (.loop { r with state:=.busy }) }/\(Instr.beginRound l).events P w #[]=#[⟨.obj l,false,false⟩,⟨.obj l,true,false⟩]:=by
 obtain⟨e,g⟩:=jH (P:=P) h;obtain⟨c,f⟩:=lR (P:=P) (r':={ r with state:=.busy }) h
 constructor
 ·simp[Instr.beginRound,e,c,d]
 ·simp[Instr.beginRound,e,g,c,f,d]
theorem uN{w:World}{l:Nat}{r:Loop}(h:w.heap[l]?=some (.loop r))(j:Option Code) :
  (Instr.endRound l j).run P w=.ok (.bool j.isNone) { w with heap:=w.heap.setIfInBounds l (.loop { r with state:=if j.isNone then .ready else .done,pending:=j }) }/\(Instr.endRound l j).events P w #[]=#[⟨.obj l,false,false⟩,⟨.obj l,true,false⟩]:=by
 obtain⟨c,f⟩:=jH (P:=P) h;obtain⟨d,e⟩:=lR (P:=P) (r':={ r with state:=if j.isNone then .ready else .done,pending:=j }) h
 constructor
 ·simp only[Instr.endRound,aU,c,d,bj,cd]
 ·simp only[Instr.endRound,Sem.events_bind,c,f,d,e,Result.evThen_ok,Sem.events_pure];rfl
theorem wi{w:World}{l:Nat}{r:Loop}(h:w.heap[l]?=some (.loop r))(c:r.state≠.busy) :
  (Instr.endLoop l).run P w=.ok r.pending { w with heap:=w.heap.setIfInBounds l (.loop { r with state:=.exhausted }) }/\(Instr.endLoop l).events P w #[]=#[⟨.obj l,false,false⟩,⟨.obj l,true,false⟩]:=by
 obtain⟨d,g⟩:=jH (P:=P) h;obtain⟨f,e⟩:=lR (P:=P) (r':={ r with state:=.exhausted }) h;have i:(r.state==.busy)=false:=by cases j:r.state <;> simp_all
 constructor
 ·simp[Instr.endLoop,d,f,c]
 ·simp[Instr.endLoop,d,g,e,c]
section steps
variable {b:Frame}{a:Act}{k:List Item}{cs:List Frame}{w:World}{main:Bool}
theorem wj{o:Oper}{g:Operand}{xs:Array Operand}{c:Array TypeId}{l:Nat}(e:o.op=.call { callee:=.value g,args:=xs,argTypes:=c })(d:a.eval g=.func (.yield l) #[] #[]) :
  (execOp a.eval o).run P w=(Instr.yield l (xs.toList.map a.eval).toArray).run P w/\(execOp a.eval o).events P w #[]=(Instr.yield l (xs.toList.map a.eval).toArray).events P w #[]:=by
 have f:xs.map a.eval=(xs.toList.map a.eval).toArray:=by apply gI;simp
 constructor
 ·simp[execOp,e,resolve,d,Deferred.ofValue,invoke,f]
 ·simp[execOp,e,resolve,d,Deferred.ofValue,invoke,f]
theorem DS{ops:Array Oper}{i:Nat}{rest:List Nat}{o:Oper}{l:Nat}{fn:FuncId}{tmps:Array Value}{assign body:Code}{w':World}(g:ops[i]?=some o)(m:Region.wanted o (yielded ops a.tmps)=true)
  (n:b.kind≠.early) (f:(execOp a.eval o).run P w=.ok (.round l fn tmps assign body) w') :
  stepG P main (G (b.aT a (.inRegion ops (i::rest)::k)) cs) w=.go (G (Frame.round l fn tmps assign body .normal) (b.aT a (.inRegion ops (i::rest)::k)::cs)) w' (Go.Conc.listed P b.fn a o w):=by
 have e:(b.kind==CallKind.early)=false:=by simpa using n
 rw[pV g m (λc h=>by obtain⟨d,j⟩:=nu h f;cases j)]
 simp[stepG.apply,f,G,Frame.aT,e,GStep.after,Go.Conc.listed]
theorem DT{l:Nat}{r:Loop}(d:b.roundOf=some l)(i:b.kind≠.early)(h:w.heap[l]?=some (.loop r))(e:r.state=.ready) :
  stepG P main (G (b.aT a (.beginRound::k)) cs) w=.go (G (b.aT a k) cs) { w with heap:=w.heap.setIfInBounds l (.loop { r with state:=.busy }) } (seen P b.fn #[⟨.obj l,false,false⟩,⟨.obj l,true,false⟩]):=by
 obtain⟨g,f⟩:=Bt (P:=P) h e;have c:(b.kind==CallKind.early)=false:=by simpa using i
 simp[G,stepG,stepG.exec,stepG.apply,Frame.aT,d,c,g,f,GStep.after,Frame.finish]
theorem wm{l:Nat}{r:Loop}{j:Option Code}{e:List Item}{c:Frame}(f:b.roundOf=some l)(i:b.kind=.normal)(h:w.heap[l]?=some (.loop r))
  (m:(j=none/\e=[])∨(j=some .ret/\∃ k1,e=.code .ret::k1)∨(∃ id k1,j=some (.exit id)/\e=.code (.exit id)::k1/\exitTo id k1=none)) :
  stepG P main (G (b.aT a e) (c::cs)) w=.go (G (c.finish (.bool j.isNone)) cs) { w with heap:=w.heap.setIfInBounds l (.loop { r with state:=if j.isNone then .ready else .done,pending:=j }) } (seen P b.fn #[⟨.obj l,false,false⟩,⟨.obj l,true,false⟩]):=by
 obtain⟨d,g⟩:=uN (P:=P) h j;rcases m with⟨rfl,rfl⟩|⟨rfl,k1,rfl⟩|⟨id,k1,rfl,rfl,n⟩
 ·simp only[Option.isNone_none,aV] at d;simp[G,stepG,stepG.exec,Frame.aT,f,d,g,GStep.after,doReturn,i]
 ·simp only[Option.isNone_some,aM,fO] at d;simp[G,stepG,stepG.exec,Frame.aT,f,d,g,GStep.after,doReturn,i]
 ·simp only[Option.isNone_some,aM,fO] at d;simp[G,stepG,stepG.exec,Frame.aT,f,d,g,GStep.after,doReturn,i,n]
theorem yt{l:Nat}{r:Loop}(h:w.heap[l]?=some (.loop r))(e:r.state≠.busy) :
  stepG P main (G (b.aT a (.endRangeFunc l::k)) cs) w=.go (G (b.aT a ((r.pending.map Item.code).toList++k)) cs) { w with heap:=w.heap.setIfInBounds l (.loop { r with state:=.exhausted }) } (seen P b.fn #[⟨.obj l,false,false⟩,⟨.obj l,true,false⟩]):=by
 obtain⟨d,c⟩:=wi (P:=P) h e;simp[G,stepG,stepG.exec,Frame.aT,d,c,GStep.after]
theorem si{fn:FuncId}{tmps:Array Value}{params:Array Tmp}{assign body:Code} :
  (Instr.enterLoop fn tmps params assign body none).run P w=.ok (w.heap.size+1,[{ target:=.collected w.heap.size,args:=#[] }]) { w with heap:=(w.heap.push (.deferred (some []))).push (.loop { state:=.ready,pending:=none,fn,tmps,params,assign,body,defers:=w.heap.size }) } /\
  (Instr.enterLoop fn tmps params assign body none).events P w #[]=#[]:=by
 have c:∀ (o:Obj) (w:World),(newObj o).run P w=.ok w.heap.size { w with heap:=w.heap.push o }:=λo w=>by simp only[newObj,Sem.run]
 have d:∀ (o:Obj) (w:World) es,(newObj o).events P w es=es:=λo w es=>by simp only[newObj,Sem.events,Sem.runT]
 constructor
 ·simp[Instr.enterLoop,c];rfl
 ·simp[Instr.enterLoop,c,d]
theorem uO{f:Operand}{ps:Array Tmp}{assign body:Code}{F:FuncId}{fn:Func}{c:List Value}(q:b.roundOf=none)(u:b.kind≠.early)(n:P.funcs[F]?=some fn)(j:(fn.name== "runtime.NumGoroutine")=false)(g:fn.body.isNone=false)
  (p:a.eval f=.func (.func F) #[] c.toArray) :
  stepG P main (G (b.aT a (.code (.rangeFunc f ps assign body)::k)) cs) w =
   .go (G (Frame.enter P F (Value.func (.yield (w.heap.size+1)) #[] #[]::c).toArray .normal) (b.aT { a with defers:={ target:=.collected w.heap.size,args:=#[] }::a.defers } (.inRangeFunc (w.heap.size+1)::k)::cs))
    { w with heap:=(w.heap.push (.deferred (some []))).push (.loop { state:=.ready,pending:=none,fn:=b.fn,tmps:=a.tmps,params:=ps,assign,body,defers:=w.heap.size }) } #[]:=by
 obtain⟨s,r⟩:=si (P:=P) (w:=w) (fn:=b.fn) (tmps:=a.tmps) (params:=ps) (assign:=assign) (body:=body);have l:(b.kind==CallKind.early)=false:=by simpa using u
 have i:fn.name≠ "runtime.NumGoroutine":=by simpa using j
 have h:fn.body≠none:=by intro e;rw[e] at g;cases g
 have o:∀ (d:List Deferred) (t:List Item) (m:FrameMode),({ fn:=b.fn,tmps:=a.tmps,todo:=t,defers:=d,mode:=m,kind:=b.kind,roundOf:=b.roundOf }:Frame).eval f=.func (.func F) #[] c.toArray:=by
  intro d t m;rw[<-p];cases f <;> rfl
 simp only[G,stepG,stepG.exec,Frame.aT,q] at o ⊢;simp[s,r,GStep.after,stepG.apply,resolve,o,Deferred.ofValue,invoke,callFunc,n,i,h,l,seen];rfl
end steps
end
section
variable {P:Program}{X:Cx P}
theorem ag.uP{σ:List ak}{s:St}(hh:ag σ s){lb N:Nat}{a:Fr}{r:Loop}(b:σ[lb]?=some (.loop N a r)){l:Nat}(hl:∃ L,s.β[lb]?=some L/\L.v=.func (.yield l) #[] #[]) :
  ∃ tmps fn df,s.β[lb]?=some ⟨.func (.yield l) #[] #[],[l]⟩/\s.w.heap[l]?=some (.loop { r with tmps:=tmps,fn:=fn,defers:=df })/\tmps.size=N/\(∀ t,b5 σ s (tmps.getD t undef) (look a t))/\(∀ o,s.M l o=none):=by
 obtain⟨L,h1,h2⟩:=hl;obtain⟨l',tmps,fn,df,e,d,c,f,g⟩:=hh.box lb _ L b h1;subst e;simp at h2;subst h2;exact⟨tmps,fn,df,h1,d,c,f,g⟩
theorem ag.uQ{σ:List ak}{s:St}(hh:ag σ s){lb N:Nat}{a:Fr}{r r':Loop}{B':ak}(q:σ[lb]?=some (.loop N a r)){l:Nat}{tmps:Array Value}{fn df:Nat}(f:s.β[lb]?=some ⟨.func (.yield l) #[] #[],[l]⟩)
  (D:s.w.heap[l]?=some (.loop { r with tmps:=tmps,fn:=fn,defers:=df })) (C:tmps.size=N) (u:∀ t,b5 σ s (tmps.getD t undef) (look a t)) (z:∀ o,s.M l o=none) (j:B'=.dead∨B'=.loop N a r') :
  ag (σ.set lb B') { s with w:={ s.w with heap:=s.w.heap.setIfInBounds l (.loop { r' with tmps:=tmps,fn:=fn,defers:=df }) } }/\Step σ s (σ.set lb B') { s with w:={ s.w with heap:=s.w.heap.setIfInBounds l (.loop { r' with tmps:=tmps,fn:=fn,defers:=df }) } }:=by
 have p:l<s.w.heap.size:=hh.lt _ (aG f) l (by simp)
 have A:∀ b,b≠l->(s.w.heap.setIfInBounds l (.loop { r' with tmps:=tmps,fn:=fn,defers:=df }))[b]?=s.w.heap[b]?:=λb g=>by rw[ic (λe=>g e.symm)]
 have n:s.β.set lb ⟨.func (.yield l) #[] #[],[l]⟩=s.β:=by
  apply lB
  intro i
  by_cases e:lb=i
  ·subst e;rw[br (aE.1 f).1,f]
  ·rw[b7 e]
 have k:lb<σ.length:=(aE.1 q).1;have m:fW (.loop N a r) ⟨.func (.yield l) #[] #[],[l]⟩ B' ⟨.func (.yield l) #[] #[],[l]⟩:=by rcases j with rfl|rfl <;> rfl
 have ex:Ext σ s (σ.set lb B') { s with w:={ s.w with heap:=s.w.heap.setIfInBounds l (.loop { r' with tmps:=tmps,fn:=fn,defers:=df }) } }:=by
  refine⟨λ_ _ _ h=>h,λi B L c d=>?_⟩
  by_cases e:lb=i
  ·subst e;rw[q] at c;cases c;rw[f] at d;cases d;exact⟨B',_,by rw[br k],f,m⟩
  ·exact⟨B,L,by rw[b7 e];exact c,d,.refl _ _⟩
 have:=hh.iP (M':=s.M) (w':={ s.w with heap:=s.w.heap.setIfInBounds l (.loop { r' with tmps:=tmps,fn:=fn,defers:=df }) }) (B':=B') (L':=⟨.func (.yield l) #[] #[],[l]⟩) q f m (by simp) (λb _ g=>A b (by simpa using g)) (λ_ _ _ _=>rfl) (λ_ _ _ h=>h)
  (λb o v x=>by
   have y:b≠l:=by rintro rfl;rw[z] at x;cases x
   rw[<-hh.mem b o v x];simp only[World.cell?];rw[A b y]) (λb g=>by simp at g;subst g;exact⟨.inl (by simp),by simpa using p⟩) rfl rfl rfl (by
   rcases j with rfl|rfl
   ·trivial
   ·refine⟨l,tmps,fn,df,rfl,?_,C,λt=>?_,z⟩
    ·show (s.w.heap.setIfInBounds l _)[l]?=_;rw[jR p]
    ·have:=(u t).mono ex hh.len;rw[n];exact this)
 rw[n] at this;exact this
theorem AK.yield{ι:Type}{N:Nat}{Qf:Post}{K:List It}{φ:Fr}{σ:List ak}{σ':ι->List ak}{all rest:List Oper}{o:Oper}{A:Operand}{xs:Array Operand}{x:Array TypeId}{lb:Nat}{ds:List D}{res:Bool}(U:Yields X lb ds σ res σ')
  (J:o.guard=none) (M:iu N o.dst=true) (Y:o.op=.call { callee:=.value A,args:=xs,argTypes:=x }) {V:Nat} {v:Fr} {r:Loop} (C:σ[lb]?=some (.loop V v r)) (hf:bz φ A=.e (.one (.ref lb))) (h:xs.toList.map (bz φ)=ds)
  (k:∀ j,AK X N Qf (.ops all rest::K) .normal (mX o.dst (.e (.one (.c (.bool res)))) φ) (σ' j)):AK X N Qf (.ops all (o::rest)::K) .normal φ σ:=by
 intro s a f hh b kk cs S idx hb lM hQ;cases idx with
 |nil=>exact lM.elim
 |cons j idx =>
 refine .next rfl λi E=>?_
 have z:=X.fG E;have d:=hh.rely z;have m:=f.rely z hh;have F:=fK m A;rw[hf] at F;obtain⟨_,L,B,u,_⟩:=(show eQ _ i _ (.ref lb) from F)
 obtain⟨l,tmps,fn,df,H,h4,h5,h6,h7⟩:=d.box lb _ L C B;subst H;have p:bZ σ i (xs.toList.map a.eval) ds:=by rw[<-h];exact pX (fK m) xs.toList
 obtain⟨W,n,assign,body,I,R,Q⟩:=U i (xs.toList.map a.eval) l p d ⟨_,B,rfl⟩;obtain⟨Z,r2⟩:=wj (P:=P) (w:=i.w) (a:=a) Y u;refine⟨_,i,_,DS lM.1 (dr J) hb (Z.trans I),⟨⟨σ,σ,d,d,.refl _ _⟩,eW.seen ?_⟩,Q S _ _ λG s' j9 st=>?_⟩
 ·rw[r2,R];exact .one (iX (L:=⟨.func (.yield l) #[] #[],[l]⟩) (aG B) (by simp))
 have g:=j8 (b:=b) (a:=a) (k:=kk) all.toArray j idx (.bool res);rw[lM.1] at g;simp only[kN] at g;rw[g];refine k G s' _ ?_ j9 b kk cs S idx hb lM.2 λy σ2 s2 a2 q T h2 nA=>hQ y σ2 s2 a2 q T h2 ((z.stepW.trans st).trans nA)
 cases O:o.dst with
 |none=>exact m.mono st d.len
 |some t=>exact(m.mono st d.len).put (hO M t O) (show b5 (σ' G) s' (.bool res) (.e (.one (.c (.bool res)))) from Rd.bool)
def mZ:List Tmp->List D->Fr->Fr
 |t::ts,d::ds,φ=>mZ ts ds ((t,d)::φ)
 |_,_,φ=>φ
def Hk(N:Nat):List Tmp->Bool
 |[]=>true
 |t::ts=>match Nat.ble (t+1) N with|true=>Hk N ts|false=>false
theorem Aj{N:Nat}{σ:List ak}{s:St}:∀ {ps:List Tmp}{ds:List D}{vs:List Value}{φ:Fr}{a:Act},bg N σ s φ a->bZ σ s vs ds->Hk N ps=true->bg N σ s (mZ ps ds φ) { a with tmps:=(ps.zip vs).foldl (λtmps (t,v)=>tmps.setIfInBounds t v) a.tmps }
 |[],ds,vs,φ,a,h,_,_=>by simpa[mZ] using h
 |_::_,[],[],φ,a,h,_,_=>by simpa[mZ] using h
 |_::_,[],_::_,φ,a,h,b,_=>b.elim
 |_::_,_::_,[],φ,a,h,b,_=>b.elim
 |t::ts,d::ds,v::vs,φ,a,h,b,c=>by
  simp only[Hk] at c;split at c
  ·rename_i e
   have:=Aj (h.put (d:=t) (cY e) b.1) b.2 c;simpa[mZ,Act.put] using this
  ·cases c
def J7:Exit->Option (Option Code)
 |.normal=>some none
 |.ret=>some (some .ret)
 |.exit id=>some (some (.exit id))
 |_=>none
theorem Yields.intro{ι:Type}{lb N:Nat}{f:Fr}{r:Loop}{ds:List D}{σ:List ak}{σ':ι->List ak}{j:Option Code}(p:σ[lb]?=some (.loop N f r))(R:r.state=.ready)(M:ds.length=r.params.size)(TU:Hk N r.params.toList=true)
  (h:AW X N r.assign (λe I σ1=>e=.normal/\σ1[lb]?=some (.loop N f r)/\AW X N r.body (λe φ2 σ2=>J7 e=some j/\σ2[lb]?=some (.loop N f { r with state:=.busy }) /\
   ∃ i,Bu (σ2.set lb (.loop N f { r with state:=if j.isNone then .ready else .done,pending:=j })) (σ' i)) I (σ1.set lb (.loop N f { r with state:=.busy }))) (mZ r.params.toList ds f) σ):Yields X lb ds σ j.isNone σ':=by
 intro s vs l z hh hl;obtain⟨tmps,fn,df,h1,h2,h3,h4,h5⟩:=hh.uP p hl;have W:vs.length=r.params.size:=by rw[<-M];exact(bZ.get z).1
 obtain⟨y1,y2⟩:=Br (P:=P) (args:=vs.toArray) h2 (by simpa using W)
 refine⟨_,_,_,_,y1,y2,λS c cs hS=>?_⟩
 let b:Frame:={ fn:=fn,tmps:=#[],todo:=[],defers:=[],mode:=.run,kind:=.normal,roundOf:=some l }
 have u:b.kind≠.early:=by simp[b]
 have hf:bg N σ s (mZ r.params.toList ds f) { tmps:=(r.params.zip vs.toArray).foldl (λtmps (t,a)=>tmps.setIfInBounds t a) tmps,defers:=[] }:=by
  have:=Aj (a:={ tmps:=tmps,defers:=[] }) (φ:=f) ⟨h3,⟨[],ab⟩,h4⟩ z TU;have e:(r.params.zip vs.toArray).foldl (λtmps (x:Tmp×Value)=>tmps.setIfInBounds x.1 x.2) tmps=(r.params.toList.zip vs).foldl (λtmps (x:Tmp×Value)=>tmps.setIfInBounds x.1 x.2) tmps:=by
   rw[<-Array.foldl_toList];simp
  show bg N σ s _ { tmps:=(r.params.zip vs.toArray).foldl (λtmps (x:Tmp×Value)=>tmps.setIfInBounds x.1 x.2) tmps,defers:=[] }
  rw[e];exact this
 show db X S (G (b.aT { tmps:=(r.params.zip vs.toArray).foldl (λtmps (t,a)=>tmps.setIfInBounds t a) tmps,defers:=[] } [.code r.assign,.beginRound,.code r.body]) (c::cs)) s
 refine h s _ hf hh b [.beginRound,.code r.body] (c::cs) S u ?_;rintro e I σ1 s1 a1 ⟨rfl,n,q⟩ f1 y A;refine .next rfl λs2 nQ=>?_
 have Q:=X.fG nQ;have k:=y.rely Q;have f2:=f1.rely Q y;have Y:∃ L,s2.β[lb]?=some L/\L.v=.func (.yield l) #[] #[]:=by
  obtain⟨B',L',k1,k2,Z⟩:=(A.trans Q.stepW).box lb _ _ p h1;rw[n] at k1;cases k1;exact⟨L',k2,Z⟩
 obtain⟨T,VU,Oz,g1,g2,g3,g4,g5⟩:=k.uP n Y;have O:=k.uQ (r':={ r with state:=.busy }) n g1 g2 g3 g4 g5 (.inr rfl);have K:∀ {s:St} {σ:List ak} {L:Loc},s.β[lb]?=some L->L.bs=[l]->eW s #[⟨.obj l,false,false⟩,⟨.obj l,true,false⟩]:=λ{s σ L} hL u =>
  .two (iX (aG hL) (by simp[u])) (iX (aG hL) (by simp[u]))
 refine⟨_,_,_,DT (l:=l) rfl u g2 R,⟨⟨_,_,k,O.1,O.2⟩,eW.seen (K (σ:=σ1) g1 rfl)⟩,?_⟩;have F:=O.2.mG k;have U:=O.1;refine q _ a1 (f2.mono F k.len) U b [] (c::cs) S u ?_;rintro e φ3 V s3 a3 ⟨hj,o,ii,B⟩ f3 C Hl;have stA:=((A.trans Q.stepW).trans F).trans Hl;have fin:∀ E g,aX s3 g->((j=none/\E=[])∨(j=some .ret/\∃ k1,E=.code .ret::k1)∨(∃ id k1,j=some (.exit id)/\E=.code (.exit id)::k1/\exitTo id k1=none)) ->
   ∃ g' s' es,stepG P X.main (G (b.aT a3 E) (c::cs)) g.w=.go g' s'.w es/\mV g s' es/\db X S g' s':=by
  intro E g d TV;have m:=C.rely d;have J:∃ L,g.β[lb]?=some L/\L.v=.func (.yield l) #[] #[]:=by
   obtain⟨B',L',k1,k2,Z⟩:=(stA.trans d.stepW).box lb _ _ p h1;rw[o] at k1;cases k1;exact⟨L',k2,Z⟩
  obtain⟨RU,VW,VX,p1,p2,p3,p4,p5⟩:=m.uP o J;have H:=m.uQ (r':={ r with state:=if j.isNone then .ready else .done,pending:=j }) o p1 p2 p3 p4 p5 (.inr rfl)
  obtain⟨p7,p8,_⟩:=B _ H.1;exact⟨_,_,_,wm (l:=l) rfl rfl p2 TV,⟨⟨_,_,m,H.1,H.2⟩,eW.seen (K (σ:=V) p1 rfl)⟩,hS ii _ p7 (((stA.trans d.stepW).trans (H.2.mG m)).trans (p8.mG H.1))⟩
 cases e with
 |normal =>
  cases hj;exact .next rfl λg d=>fin [] g (X.fG d) (.inl ⟨rfl,rfl⟩)
 |ret =>
  cases hj;intro pre;exact .next rfl λg d=>fin _ g (X.fG d) (.inr (.inl ⟨rfl,pre,rfl⟩))
 |exit id =>
  cases hj;intro pre hp;refine .next rfl λg d=>fin _ g (X.fG d) (.inr (.inr ⟨id,_,rfl,rfl,?_⟩))
  have:=hp [];simpa[exitTo] using this
 |_=>cases hj
end
def mF{P:Program}(X:Cx P)(N:Nat)(c:Code)(Q:Post)(φ:Fr)(σ:List ak):Prop :=
 ∀ s a,bg N σ s φ a->ag σ s->∀ (b:Frame) (k:List Item) (cs:List Frame) (S:Goroutine->St->Prop),b.kind≠.early->b.roundOf=none ->
  (∀ e φ' σ' s' a',Q e φ' σ'->bg N σ' s' φ' a'->ag σ' s'->bq σ s σ' s'->ends X S b k cs e a' s')->db X S (G (b.aT a (.code c::k)) cs) s
section
variable {P:Program}{X:Cx P}{N:Nat}{Q:Post}{φ:Fr}{σ:List ak}
theorem AW.top{c:Code}(h:AW X N c Q φ σ):mF X N c Q φ σ:=λs a f hh b k cs S e _ d=>h s a f hh b k cs S e d
theorem mF.seq{x y:Code}(h:mF X N x (Ak (mF X N y Q) Q) φ σ):mF X N (.seq x y) Q φ σ:=by
 intro s a m hh b k cs S i d l;refine .ctl hh rfl (λ_=>kT) λn h1=>?_
 refine h n a (m.rely h1 hh) (hh.rely h1) b (.code y::k) cs S i d ?_;intro e φ' σ' s' a' q j g st;have c:=h1.stepW.trans st;cases e with
 |normal=>exact q s' a' j g b k cs S i d λe f σ2 s2 a2 q2 f2 h2 nA=>l e f σ2 s2 a2 q2 f2 h2 (c.trans nA)
 |_=>exact ends.cons (λ_ _=>rfl) (by simp) (l _ _ _ _ _ q j g c)
theorem mF.block{id:Nat}{c:Code}(h:mF X N c (uR id Q) φ σ):mF X N (.block id c) Q φ σ:=by
 intro s a o hh b k cs S n m i;refine .ctl hh rfl (λ_=>nt) λp h1=>?_
 refine h p a (o.rely h1 hh) (hh.rely h1) b (.inBlock id::k) cs S n m ?_;intro e φ' σ' s' a' q g f st;have d:=h1.stepW.trans st;cases e with
 |normal =>
  exact .ctl f rfl (λ_=>mW) λs2 h2=>i .normal φ' σ' s2 a' q (g.rely h2 f) (f.rely h2) (d.trans h2.stepW)
 |exit CW =>
  simp only[uR] at q;split at q
  ·rename_i e
   subst e;intro pre hp;refine .ctl f rfl (λ_=>uj (k':=k) (by rw[hp];simp[exitTo])) λs2 h2=>?_
   exact i .normal φ' σ' s2 a' q (g.rely h2 f) (f.rely h2) (d.trans h2.stepW)
  ·rename_i j
   intro pre hp;have:=i (.exit CW) φ' σ' s' a' q g f d (pre++[.inBlock id]) (λk'=>by
    rw[c9,hp];have:(id==CW)=false:=by simp;exactλh=>j h.symm
    simp[exitTo,this])
   simpa using this
 |ret=>exact i _ _ _ _ _ q g f d
 |panic ch=>exact i _ _ _ _ _ q g f d
 |goto l=>exact i _ _ _ _ _ q g f d
 |outgrown=>exact i _ _ _ _ _ q g f d
theorem ag.J8{s:St}(h:ag σ s){o:Nat->Prop}(a:∀ b,o b->b<s.w.heap.size/\∀ L∈s.β,b∉L.bs):ag σ { s with own:=o } :=
 ⟨h.mem,h.len,λl B L c d=>dq.carry (σ:=σ) (s:=s) (σ':=σ) (s':={ s with own:=o }) ⟨λ_ _ _ h=>h,λ_ B L h e=>⟨B,L,h,e,.refl _ _⟩⟩ h.len (λ_ _=>⟨rfl,λ_=>rfl⟩) (h.box l B L c d),h.eE,h.lt,a⟩
theorem ag.lS{s:St}(h:ag σ s){r:Nat}{o:Nat->Prop}(n:s.own r)(k:∀ b,o b->s.own b)(j:¬o r)(u:∀ i,s.M r i=none)(t:s.w.heap[r]?=some (.deferred (some []))) :
  ag (σ++[.oc]) { s with β:=s.β++[⟨.int .i64 r,[r]⟩],own:=o }/\er s { s with β:=s.β++[⟨.int .i64 r,[r]⟩],own:=o }:=by
 obtain⟨q,m⟩:=h.own r n;have ex:Ext σ s (σ++[.oc]) { s with β:=s.β++[⟨.int .i64 r,[r]⟩],own:=o }:=by
  refine⟨λ_ _ _ h=>h,λl B L e a=>⟨B,L,?_,?_,.refl _ _⟩⟩
  ·rw[bS (aE.1 e).1,e]
  ·show (s.β++_)[l]?=_;rw[bS (aE.1 a).1,a]
 refine⟨⟨h.mem,by simp[h.len],?_,?_,?_,?_⟩,⟨rfl,λ_ _ _ h=>h,λ_ _ _=>rfl,h.mem,?_⟩⟩
 ·intro l B L e a;rcases dK a with f|⟨hl,rfl⟩
  ·have hl:l<σ.length:=by rw[<-h.len];exact(aE.1 f).1
   rw[bS hl] at e;exact(h.box l B L e f).carry ex h.len λ_ _=>⟨rfl,λ_=>rfl⟩
  ·rw[hl,h.len,cj (ar _)] at e;simp at e;subst e;exact⟨r,rfl,t,u⟩
 ·intro l l' L L' a g b c d;rcases dK a with k1|⟨e1,rfl⟩ <;> rcases dK g with p|⟨e2,rfl⟩
  ·exact h.eE l l' L L' k1 p b c d
  ·simp at d;subst d;exact absurd c (m L (aG k1))
  ·simp at c;subst c;exact absurd d (m L' (aG p))
  ·rw[e1,e2]
 ·intro L a b c;simp only[dJ,fy] at a;rcases a with a|rfl
  ·exact h.lt L a b c
  ·simp at c;subst c;exact q
 ·intro b c;obtain⟨v,p2⟩:=h.own b (k b c);refine⟨v,λL a=>?_⟩
  simp only[dJ,fy] at a;rcases a with a|rfl
  ·exact p2 L a
  ·simp;rintro rfl;exact j c
 ·rintro b (c|⟨L,a,c⟩)
  ·exact .inl (k b c)
  ·simp only[dJ,fy] at a;rcases a with a|rfl
   ·exact .inr ⟨L,a,c⟩
   ·simp at c;subst c;exact .inl n
def DU:Option Code->Option Exit
 |none=>some .normal
 |some .ret=>some .ret
 |some (.exit id)=>some (.exit id)
 |_=>none
theorem mF.rangeFunc{ι:Type}{f:Operand}{ps:Array Tmp}{assign body:Code}{F:FuncId}{capD:List D}{res:ι->D}{σ':ι->List ak}{r':ι->Loop}
  (xZ:∀ s a,bg N σ s φ a->ag σ s->∃ q:List Value,a.eval f=.func (.func F) #[] q.toArray/\bZ σ s q capD)
  (Me:fb X F (.e (.one (.ref σ.length))::capD) (σ++[.loop N φ { state:=.ready,pending:=none,fn:=0,tmps:=#[],params:=ps,assign:=assign,body:=body,defers:=0 }]) res σ')
  (hl:∀ i,(σ' i)[σ.length]?=some (.loop N φ (r' i))/\(r' i).state≠.busy)
  (k:∀ i,∃ e,DU (r' i).pending=some e/\Q e φ ((σ' i).set σ.length .dead++[.oc])):mF X N (.rangeFunc f ps assign body) Q φ σ:=by
 intro s a fr hh b kk cs S g M0 hQ;obtain⟨⟨fn,PZ,J9,O⟩,R⟩:=Me;refine .next rfl λd zX=>?_
 have hr:=X.fG zX;have m:=hh.rely hr;have f1:=fr.rely hr hh;obtain⟨q,hv,H⟩:=xZ d a f1 m;generalize A:d.w.heap.size=r;have x:=λmain=>uO (P:=P) (main:=main) (k:=kk) (cs:=cs) (ps:=ps) (assign:=assign) (body:=body) (b:=b) (w:=d.w) M0 g PZ J9 O hv
 rw[A] at x
 let w1:World:={ d.w with heap:=d.w.heap.push (.deferred (some [])) }
 let lo:Loop:={ state:=.ready,pending:=none,fn:=b.fn,tmps:=a.tmps,params:=ps,assign:=assign,body:=body,defers:=r }
 let w2:World:={ d.w with heap:=(d.w.heap.push (.deferred (some []))).push (.loop lo) }
 have IH:w2.heap.size=r+2:=by simp[w2,A]
 have P0:w1.heap.size=r+1:=by simp[w1,A]
 have RV:∀ b,b<d.w.heap.size->w1.heap[b]?=d.w.heap[b]?:=λb g=>by
  show (d.w.heap.push _)[b]?=_;rw[nb g,bJ g]
 have y:∀ b,b<w1.heap.size->w2.heap[b]?=w1.heap[b]?:=λb g=>by
  show (w1.heap.push _)[b]?=_;rw[nb g,bJ g]
 have RX:∀ b,b<d.w.heap.size->w2.heap[b]?=d.w.heap[b]?:=λb g=>by rw[y b (by omega),RV b g]
 have V:w2.heap[r]?=some (.deferred (some [])):=by
  rw[y r (by omega)]
  show (d.w.heap.push _)[r]?=_;rw[<-A];simp
 have P1:w2.heap[r+1]?=some (.loop lo):=by
  show (w1.heap.push _)[r+1]?=_;rw[<-P0];simp
 have nM:∀ b,d.w.heap.size<=b->∀ o,d.M b o=none:=λb g o=>by
  cases p:d.M b o with
  |none=>rfl
  |some v=>have:=m.block p;omega
 let L1:Loc:=⟨.func (.yield (r+1)) #[] #[],[r+1]⟩
 let U:Loc:=⟨.int .i64 r,[r]⟩
 let rr:Loop:={ state:=.ready,pending:=none,fn:=0,tmps:=#[],params:=ps,assign:=assign,body:=body,defers:=0 }
 obtain⟨g1,g2⟩:=m.grow (M':=d.M) (w':=w2) (by omega) RX (λ_ _ _=>rfl) (λb g o v p=>by rw[nM b g] at p;cases p) rfl rfl rfl
 have T:Ext σ d (σ++[.loop N φ rr]) ⟨d.β++[L1],d.M,w2,d.own⟩:=by
  refine⟨λ_ _ _ h=>h,λl B L hB n=>⟨B,L,?_,?_,.refl _ _⟩⟩
  ·rw[bS (aE.1 hB).1,hB]
  ·show (d.β++_)[l]?=_;rw[bS (aE.1 n).1,n]
 obtain⟨a1,a2⟩:=g1.ij (B:=.loop N φ rr) (L:=L1) g2 rfl m ⟨r+1,a.tmps,b.fn,r,rfl,P1,f1.size,λt=>(f1.slot t).mono T m.len,λo=>nM _ (by omega) o⟩ (λb g=>by
  simp[L1] at g;subst g;exact⟨by omega,by show r+1<w2.heap.size;omega⟩)
 have hD:=a1.J8 (o:=λb=>d.own b∨b=r) (by
  rintro b (g|rfl)
  ·exact a1.own b g
  ·refine⟨by show b<w2.heap.size;omega,λL n=>?_⟩
   simp only[dJ,fy] at n;rcases n with n|rfl
   ·intro hc;have:=m.lt L n b hc;omega
   ·simp[L1])
 have d1:=m.jF;obtain⟨e1,e2⟩:=d1.grow (M':=d.M) (w':=w1) (by omega) RV (λ_ _ _=>rfl) (λb g o v p=>by rw[nM b g] at p;cases p) rfl rfl rfl
 obtain⟨e3,e4⟩:=e1.ij (B:=.dead) (L:=U) e2 rfl d1 ab (λb g=>by simp[U] at g;subst g;exact⟨by omega,by show b<w1.heap.size;omega⟩)
 obtain⟨e5,e6⟩:=e3.grow (M':=d.M) (w':=w2) (by show w1.heap.size<=_;omega) y (λ_ _ _=>rfl) (λb g o v p=>by
  have g:w1.heap.size<=b:=g;rw[nM b (by omega)] at p;cases p) rfl rfl rfl
 obtain⟨e7,e8⟩:=e5.ij (B:=.dead) (L:=L1) e6 rfl e3 ab (λb g=>by simp[L1] at g;subst g;exact⟨by show w1.heap.size<=_;omega,by show r+1<w2.heap.size;omega⟩)
 have OG:er ⟨d.β++[U]++[L1],d.M,w2,d.own⟩ ⟨d.β++[L1],d.M,w2,λb=>d.own b∨b=r⟩:=by
  refine⟨rfl,λ_ _ _ h=>h,λ_ _ _=>rfl,a1.mem,?_⟩
  rintro b ((g|rfl)|⟨L,n,g⟩)
  ·exact .inl g
  ·exact .inr ⟨U,by simp,by simp[U]⟩
  ·simp only[dJ,fy] at n;rcases n with n|rfl
   ·exact .inr ⟨L,by simp[n],g⟩
   ·exact .inr ⟨L1,by simp,g⟩
 refine⟨_,⟨d.β++[U]++[L1],d.M,w2,d.own⟩,_,x X.main,⟨⟨_,_,d1,e7,e4.trans e8⟩,.nil⟩,.ghost OG (R _ (Value.func (.yield (r+1)) #[] #[]::q) ?_ hD S _ λi Gv v s4 K ph OH TX=>?_)⟩
 ·refine⟨⟨λB u=>?_,L1,?_,rfl,rfl⟩,?_⟩
  ·rw[cj (ar _)] at u;simp at u;subst u;rfl
  ·show (d.β++[L1])[σ.length]?=_;rw[<-m.len,cj (ar _)];simp
  ·exact H.mono (σ:=σ) (s:=d) (σ':=σ++[.loop N φ rr]) (s':=⟨d.β++[L1],d.M,w2,λb=>d.own b∨b=r⟩) ⟨T.mem,T.box⟩ m.len
 have P2:(b.aT { a with defers:={ target:=.collected r,args:=#[] }::a.defers } (.inRangeFunc (r+1)::kk)).finish v=b.aT { a with defers:={ target:=.collected r,args:=#[] }::a.defers } (.endRangeFunc (r+1)::kk):=by simp[Frame.finish,Frame.aT]
 refine sJ (cs:=cs) (c:=b.aT { a with defers:={ target:=.collected r,args:=#[] }::a.defers } (.inRangeFunc (r+1)::kk)) OH K λs5 RY=>?_
 rw[P2];refine .next rfl λs6 Y=>?_
 have RZ:=X.fG Y;have E:=(OH.rely RY).rely RZ;have R0:=(TX.trans RY.stepW).trans RZ.stepW;obtain⟨C,OI⟩:=hl i;have TY:∃ L,s6.β[σ.length]?=some L/\L.v=.func (.yield (r+1)) #[] #[]:=by
  obtain⟨B',L',k1,k2,k3⟩:=R0.box σ.length (.loop N φ rr) L1 (show (σ++[ak.loop N φ rr])[σ.length]?=_ from List.getElem?_concat_length) (by
   show (d.β++[L1])[σ.length]?=_;rw[<-m.len,cj (ar _)];simp)
  rw[C] at k1;cases k1;exact⟨L',k2,k3⟩
 obtain⟨J,TZ,T1,p1,p2,p3,p4,p5⟩:=E.uP C TY;obtain⟨q1,q2⟩:=E.uQ (r':={ r' i with state:=.exhausted }) (B':=.dead) C p1 p2 p3 p4 p5 (.inl rfl);refine⟨_,_,_,yt p2 OI,⟨⟨_,_,E,q1,q2⟩,eW.seen (.two (iX (aG p1) (by simp)) (iX (aG p1) (by simp)))⟩,?_⟩
 have j:=R0.trans (q2.mG E);generalize VY:({ s6 with w:={ s6.w with heap:=s6.w.heap.setIfInBounds (r+1) (.loop { { r' i with state:=.exhausted } with tmps:=J,fn:=TZ,defers:=T1 }) } }:St)=s7 at q1 q2 j;have T2:s7.own r:=by rw[j.own];exact .inr rfl
 have T3:s7.w.heap[r]?=some (.deferred (some [])):=by rw[j.ee r (.inr rfl)];exact V
 have T4:∀ o,s7.M r o=none:=λo=>by
  rw[j.gJ r (by show r<w2.heap.size;omega) (λL n=>(hD.own r (.inr rfl)).2 L n)]
  exact nM r (by omega) o
 obtain⟨t1,t2⟩:=q1.lS (r:=r) (o:=d.own) T2 (λb g=>by rw[j.own];exact .inl g) (λhc=>by have:=(m.own r hc).1;omega) T4 T3
 refine .ghost t2 ?_;have I:bq σ d ((σ' i).set σ.length .dead++[.oc]) { s7 with β:=s7.β++[⟨.int .i64 r,[r]⟩],own:=d.own }:=by
  refine⟨?_,λb g=>?_,λb o v p=>j.mem b o v p,λb g hn o=>?_,λL n b g=>?_,λl B L hB n=>?_,j.os,j.tape,j.output,rfl⟩
  ·have:w2.heap.size<=s7.w.heap.size:=j.size;show d.w.heap.size<=s7.w.heap.size;omega
  ·show s7.w.heap[b]?=_;rw[j.ee b (.inl g)];exact RX b (m.own b g).1
  ·show s7.M b o=_;rw[j.gJ b (by show b<w2.heap.size;omega) (λL n=>?_)]
   simp only[dJ,fy] at n;rcases n with n|rfl
   ·exact hn L n
   ·simp[L1];omega
  ·simp only[dJ,fy] at n;rcases n with n|rfl
   ·rcases j.pT L n b g with h1|⟨L0,h1,h2⟩
    ·have h1:w2.heap.size<=b:=h1;exact .inl (by omega)
    ·simp only[dJ,fy] at h1;rcases h1 with h1|rfl
     ·exact .inr ⟨L0,h1,h2⟩
     ·simp[L1] at h2;exact .inl (by omega)
   ·simp at g;exact .inl (by omega)
  ·have W:=(aE.1 hB).1;have Z:=(aE.1 n).1;obtain⟨B',L',k1,k2,k3⟩:=j.box l B L (by rw[bS W];exact hB) (by show (d.β++[L1])[l]?=_;rw[bS Z];exact n)
   refine⟨B',L',?_,?_,k3⟩
   ·rw[bS (aE.1 k1).1];exact k1
   ·show (s7.β++_)[l]?=_;rw[bS (aE.1 k2).1];exact k2
 have fF:bg N ((σ' i).set σ.length .dead++[.oc]) { s7 with β:=s7.β++[⟨.int .i64 r,[r]⟩],own:=d.own } φ { a with defers:={ target:=.collected r,args:=#[] }::a.defers }:=by
  have p:=f1.mono I m.len;obtain⟨ls,Ka⟩:=f1.defers;refine⟨p.size,⟨((σ' i).set σ.length .dead).length::ls,⟨⟨?_,⟨.int .i64 r,[r]⟩,r,?_,rfl,rfl⟩,λhc=>?_,Ka.mono I.ext⟩⟩,p.slot⟩
  ·rw[cj (ar _)];simp
  ·show (s7.β++_)[_]?=_;rw[<-q1.len,cj (ar _)];simp
  ·have h1:=Ka.sS _ hc;have h2:=(aE.1 h1).1;have h3:=(aE.1 C).1;simp at h2;omega
 obtain⟨e,u,hq⟩:=k i;have z:=hQ e φ _ _ _ hq fF t1 (hr.stepW.trans I);revert u;show DU (r' i).pending=some e->db X S (G (b.aT _ (((r' i).pending.map Item.code).toList++kk)) cs) _;intro u;cases hp:(r' i).pending with
 |none=>rw[hp] at u;cases u;exact z
 |some c =>
  rw[hp] at u;cases c <;> simp only[DU,reduceCtorEq,bL] at u
  ·subst u;exact z [] (λ_=>rfl)
  ·subst u;exact z kk
theorem bg.callee{t:Nat}{F:FuncId}{cap:List C}(hl:look φ t=.e (.one (.c (.fn (.func F) [] cap)))):∀ s a,bg N σ s φ a->ag σ s->∃ b:List Value,a.eval (.tmp t)=.func (.func F) #[] b.toArray/\bZ σ s b (jE cap):=by
 intro s a f _;have h:=f.slot t;rw[hl] at h;have h:=eB h;show ∃ b:List Value,a.tmps.getD t undef=.func (.func F) #[] b.toArray/\_;generalize a.tmps.getD t undef=v at h;cases h with
 |fn fs cs hl yd f1 f2 h1 h2 r1 r2 =>
  have d:fs=[]:=fu hl;subst d;exact⟨cs,rfl,nz (λj c hj=>⟨f2 j,h2 j (by rw[yd];exact(aE.1 hj).1),r2 j c hj⟩) yd⟩
theorem fb.yu{ι:Type}{f:FuncId}{fn:Func}{c:Code}{args:List D}{σ':ι->List ak}{res:ι->D}(n:P.funcs[f]?=some fn)(d:(fn.name== "runtime.NumGoroutine")=false)(m:fn.body=some c)(g:Nat.ble args.length fn.ntmps=true)
  (h:Fits args σ->mF X fn.ntmps c (λe φ σ1=>∃ j,aW fn σ.length (res j) (σ' j) e φ σ1) (gC 0 args) σ):fb X f args σ res σ':=by
 refine⟨⟨fn,n,d,by rw[m];rfl⟩,λs0 vs hr hh=>?_⟩
 exact(fb.I7 n d m (cY g) λs a f l b k cs S p i o=>h ⟨s0,vs,hr,hh⟩ s a f l b k cs S p i o).2 s0 vs hr hh
def P3(fn:Func)(res:D)(σ':List ak):Post:=λe φ σ1 =>
 (e=.ret∨e=.normal)/\σ1=σ'/\kp σ'=true/\∃ ds d ps,sa φ fn.results.toList=some ds/\nB ds=some d/\Dh d res=some ps/\aa ps
theorem fb.Kb{ι:Type}{f:FuncId}{fn:Func}{c:Code}{args:List D}{σ':ι->List ak}{res:ι->D}(r:P.funcs[f]?=some fn)(k:(fn.name== "runtime.NumGoroutine")=false)(u:fn.body=some c)(g:Nat.ble args.length fn.ntmps=true)
  (h:AW X fn.ntmps c (λe φ σ1=>∃ j,P3 fn (res j) (σ' j) e φ σ1) (gC 0 args) σ):fb X f args σ res σ':=by
 refine⟨⟨fn,r,k,by rw[u];rfl⟩,λs vs hr hh S cs hS=>?_⟩
 obtain⟨hl,B⟩:=bZ.get hr
 let b:Frame:={ fn:=f,tmps:=#[],todo:=[],defers:=[],mode:=.run,kind:=.normal,roundOf:=none }
 have a:Frame.enter P f vs.toArray .normal=b.aT { tmps:=vs.toArray++Array.replicate (fn.ntmps-vs.toArray.size) undef,defers:=[] } [.code c]:=by
  simp[Frame.enter,Frame.aT,r,u,b]
 rw[a];have g:=cY g;refine h s { tmps:=vs.toArray++Array.replicate (fn.ntmps-vs.toArray.size) undef,defers:=[] } ⟨by simp;omega,⟨[],ab⟩,λt=>?_⟩ hh b [] cs S (by simp[b]) ?_
 ·rw[kY];simp only[kS,aV,jy];have:=B t;rcases bC t vs.length with p|F
  ·have e:(vs.toArray++Array.replicate (fn.ntmps-vs.toArray.size) undef).getD t undef=(vs[t]?).getD undef:=by
    simp only[bA];rw[tQ (by simpa using p)]
    simp
   rw[e];exact this
  ·rw[iL (by omega)]
   trivial
 ·rintro e φ' σ1 s1 a1 ⟨H,n,rfl,q,ds,d,ps,h1,h2,A,J⟩ z m st;have fin:∀ (fr:Frame) s2,aX s1 s2->fr.fn=f->fr.tmps=a1.tmps->fr.defers=a1.defers->fr.mode=.returning->fr.kind=.normal->db X S (G fr cs) s2:=by
   intro fr s2 nQ e1 e2 e3 e4 e5;have x:=z.rely nQ m;obtain⟨v,I,K,C⟩:=oT (P:=P) x h1 h2;obtain⟨y,i⟩:=x.defers;have o:a1.defers=[]:=by
    cases y with
    |nil=>cases E:a1.defers with
     |nil=>rfl
     |cons d ds=>rw[E] at i;exact i.elim
    |cons l y=>exact absurd rfl (kq q _ (aG (i.sS l (by simp))))
   refine hS H fr v _ ⟨e1,e4,by rw[e3];exact o,e5,fn,by rw[e1];exact r,λw _=>?_⟩ (qO A J K) (m.rely nQ) (st.trans nQ.stepW)
   rw[e2];exact⟨I w,λe n=>by rw[C w #[]] at n;simp at n⟩
  rcases n with rfl|rfl
  ·intro pre;exact .ctl m rfl (λ_=>x6 rfl) λs2 nQ=>fin _ s2 nQ rfl rfl (gH _) rfl rfl
  ·exact .ctl m rfl (λ_=>x7 rfl) λs2 nQ=>fin _ s2 nQ rfl rfl (gH _) rfl rfl
end
end Go.AM
namespace Go.AM.R1
open Go.Proofs
variable {X:Cx Tryz.prog}
theorem Kx(x:ew) (n:Int):Ev X 198 [Qn x,.e (.one (.c (.rp [.int .i64 n])))] [] (dB (x.1==n)) []:=by
 refine Ev.body Tryz.func198 rfl rfl rfl λa=>?_
 refine bw rfl ab (AK.au rfl ?_);simp[aa]
def Ky:bH:=λargs σ=>match args,σ with
 |[.e (.agg [.c (.int .i64 a0),.c (.str a1)]),.e (.one (.c (.rp [.int .i64 n])))],[]=>some (dB (a0==n),[],[a1=a1])
 |_,_=>none
theorem t198:bU X 198 Ky:=by
 intro args σ res σ' obs h c;unfold Ky at h;split at h
 ·rename_i b a n
  cases h;exact Kx (b,a) n
 ·cases h
abbrev EA(n:Int):D:=.e (.one (.c (.fn (.func 198) [] [.rp [.int .i64 n]])))
def u7(l:List ew) (n:Int):Int:=match l.findIdx? (λx=>x.1==n) with|some i=>i|none=>-1
theorem HB{t:List ew}{n:Int}{i:Nat}(hi:i<t.length)(h:(t.getD i (0,[])).1=n)(a:∀ j,j<i->(t.getD j (0,[])).1≠n):u7 t n=i:=by
 have:t.findIdx? (λf=>f.1==n)=some i:=by
  rw[tP];refine⟨hi,?_,λj c=>?_⟩
  ·simpa[List.getD_eq_getElem?_getD,aj hi] using h
  ·have b:j<t.length:=by omega
   simpa[List.getD_eq_getElem?_getD,aj b] using a j c
 rw[u7,this]
theorem BF{t:List ew}{n:Int}(a:∀ j,j<t.length->(t.getD j (0,[])).1≠n):u7 t n=-1:=by
 have:t.findIdx? (λf=>f.1==n)=none:=by
  rw[mQ];intro f c;obtain⟨j,b,rfl⟩:=dH c;simpa[List.getD_eq_getElem?_getD,aj b] using a j b
 rw[u7,this]
theorem HC(t:List ew) (n:Int):Ev X 197 [cK.sl t,EA n] [] (dI (u7 t n)) []:=by
 refine Ev.body Tryz.func197 rfl rfl rfl λf=>?_
 have e:=f.sl 0 rfl;have b:aO X [(198,Ky)]:=.cons t198 .nil;refine af b [] 100 rfl ab ?_;refine AK.eg (λi=>i<=t.length/\∀ j,j<i->(t.getD j (0,[])).1≠n) (λi:Nat=>[(0,cK.sl t),(1,EA n),(7,dI t.length),(8,dI i)]) (λ_=>[]) (λi=>t.length-i) 0 rfl ?_ rfl ab ⟨by omega,by omega⟩ ?_
 ·simp[aa.cat,aa,ay.same]
 rintro i ⟨hi,a⟩
 by_cases h:i<t.length
 ·by_cases d:(t.getD i (0,[])).1=n
  ·refine af b [(9,true),(16,true)] 100 rfl ?_ (AK.dW (aW.zero rfl ?_))
   ·simp only[aa,az];exact⟨ab,gf.2 d,by omega,by omega,aQ (by omega)⟩
   ·simp[aa,HB h d a]
  ·refine af b [(9,true),(16,false)] 100 rfl ?_ (AK.cR (i+1) rfl ?_ rfl ab ?_ ?_)
   ·simp only[aa,az];exact⟨by simp only[aB];omega,ab,eZ.2 d,by omega,by omega,aQ (by omega)⟩
   ·simp[aa.cat,aa,ay.same]
   ·refine⟨by omega,λj c=>?_⟩
    rcases dG.1 c with c|rfl
    ·exact a j c
    ·exact d
   ·omega
 ·refine af b [(9,false)] 100 rfl (by simp[aa];omega) (AK.leave rfl rfl ?_)
  refine af b [] 100 rfl ab (AK.au rfl ?_);simp[aa,BF (λj c=>a j (by omega))]
def Kz:bH:=λargs σ=>match args,σ with
 |[d,.e (.one (.c (.fn (.func 198) [] [.rp [.int .i64 n]])))],[]=>match jL 2 d with
  |none=>none
  |some (m,es)=>some (dI (u7 (cK.list m es) n),[],[cK.fits m es])
 |_,_=>none
theorem t197:bU X 197 Kz:=by
 intro args σ res σ' obs h a;unfold Kz at h;split at h
 ·rename_i d n
  split at h
  ·cases h
  rename_i m es hd
  cases h;exact(HC _ n).args (λ_ vs=>bZ.imp (λ_=>cK.jf hd a) (bZ.imp (λ_ r=>r) (λ_ r=>r)) vs)
 ·cases h
theorem yK(t:List ew) (n:Int):(u7 t n=-1/\t.find? (λx=>x.1==n)=none)∨∃ i:Nat,i<t.length/\u7 t n=i/\t.find? (λx=>x.1==n)=some (t.getD i (0,[])):=by
 unfold u7;cases h:t.findIdx? (λx=>x.1==n) with
 |none =>
  refine .inl ⟨rfl,?_⟩;rw[mQ] at h;exact List.find?_eq_none.2 λx b=>by simp[h x b]
 |some i =>
  rw[tP] at h;obtain⟨hi,c,d⟩:=h;refine .inr ⟨i,hi,rfl,?_⟩;rw[List.find?_eq_some_iff_getElem];refine⟨?_,i,hi,?_,λj a=>?_⟩
  ·simpa[List.getD_eq_getElem?_getD,aj hi] using c
  ·simp[List.getD_eq_getElem?_getD,aj hi]
  ·have:=d j a;simpa using this
theorem yL(a:bU X 148 lX) (k:Int)(p:aR) (n:Int)(g:bO k=true):Ev X 169 [dI k,Jf p,dI n] [] (u6 (cn k p n)) []:=by
 refine Ev.body Tryz.func169 rfl rfl rfl λh=>?_
 have f:aO X [(197,Kz),(91,ga yJ aI (λx k=>u6 (chunk k x)) λ_ k=>[bO k=true])]:=.cons t197 (.cons (Ez a) .nil)
 have c:cK.list p.2.length (cK.fn p.2)=p.2:=cK.list_fn _;refine aF [] 7 rfl ab ?_;refine AK.freeze 5 1 rfl rfl rfl ?_;rcases yK p.2 n with⟨b,d⟩|⟨i,hi,b,d⟩
 ·refine af f [(14,true)] 100 rfl ?_ (AK.au rfl ?_)
  ·simp only[aa,c,b];exact⟨rfl,cK.ae _⟩
  ·simp[aa.cat,aa,cn,d]
 ·refine af f [(14,false)] 100 rfl ?_ (AK.au rfl ?_)
  ·simp only[aa,c,b];exact⟨g,by omega,by omega,bV (by omega),cK.ae _⟩
  ·have e:cn k p n=chunk k (p.2.getD i (0,[])):=by simp only[cn,d]
   rw[e,c,b];simp only[az];exact aa.cat.2 ⟨rfl,aa.cat.2 ⟨rfl,ab⟩⟩
theorem KA(a:bU X 148 lX):bU X 169 (CY aI (na cK) aI (λk p n=>u6 (cn k p n)) λk _ _=>[bO k=true]):=.Je λk p n h=>yL a k p n h
end Go.AM.R1
namespace Go.AM
open Go.Conc
inductive Rk where
 |leaf
 |node (f:St->Rk)
def Rk.lt:Rk->Rk->Prop
 |_,.leaf=>False
 |x,.node f=>∃ s,x=f s∨Rk.lt x (f s)
theorem Rk.acc:∀ r:Rk,Acc Rk.lt r
 |.leaf=>⟨_,λ_ h=>h.elim⟩
 |.node f=>⟨_,λ_ ⟨s,e⟩=>e.elim (λe=>e▸Rk.acc (f s)) λh=>(Rk.acc (f s)).inv h⟩
def Rk.nat:Nat->Rk
 |0=>.leaf
 |n+1=>.node λ_=>Rk.nat n
theorem Rk.ym(n:Nat)(s:St):Rk.lt (Rk.nat n) (Rk.nat (n+1)):=⟨s,.inl rfl⟩
def Vec(j:Nat)(a D:Nat->Rk):Prop:=∃ i,i<j/\Rk.lt (a i) (D i)/\∀ k,k≠i->a k=D k
theorem DD:∀ j,WellFounded (Vec j)
 |0=>⟨λ_=>⟨_,λ_ ⟨i,h,_⟩=>absurd h (fQ i)⟩⟩
 |j+1=>by
  have m:=DD j;have key:∀ a:Rk,∀ D:Nat->Rk,D j=a->Acc (Vec (j+1)) D:=by
   intro a
   induction Rk.acc a with
   |intro a _ e =>
    intro D
    induction m.apply D with
    |intro D _ d =>
     intro g;refine⟨_,λf h=>?_⟩
     obtain⟨i,hi,b,k⟩:=h;rcases bC i j with l|l
     ·exact d f ⟨i,l,b,k⟩ (by rw[k j (by omega),g])
     ·obtain rfl:i=j:=by omega
      exact e _ (g▸b) f rfl
  exact⟨λD=>key _ D rfl⟩
section
variable {P:Program}
def gM(X:Cx P)(E:St->St->Array Event->Prop)(S:Goroutine->St->Prop):Rk->Goroutine->St->Prop
 |.leaf,g,s=>S g s
 |.node f,g,s=>S g s∨(∃ s',(er s s'∨(X.vK/\lI s s'))/\gM X E S (f s) g s') ∨
   (g.status=.running/\∀ a,X.rely s a->∃ g' s' es,stepG P X.main g a.w=.go g' s'.w es/\(mV a s' es∨E a s' es)/\gM X E S (f a) g' s')
variable {X:Cx P}{E:St->St->Array Event->Prop}{S c:Goroutine->St->Prop}
def cB(X:Cx P)(E:St->St->Array Event->Prop)(S:Goroutine->St->Prop)(g:Goroutine)(s:St):Prop:=∃ r,gM X E S r g s
theorem cB.ghost{g:Goroutine}{s s':St}(h:er s s')(k:cB X E S g s'):cB X E S g s:=by
 obtain⟨r,k⟩:=k;exact⟨.node λ_=>r,.inr (.inl ⟨s',.inl h,k⟩)⟩
theorem cB.forget{g:Goroutine}{s s':St}(hl:X.vK)(h:lI s s')(k:cB X E S g s'):cB X E S g s:=by
 obtain⟨r,k⟩:=k;exact⟨.node λ_=>r,.inr (.inl ⟨s',.inr ⟨hl,h⟩,k⟩)⟩
theorem cB.step{g:Goroutine}{s:St}(e:g.status=.running)(h:∀ a,X.rely s a->∃ g' s' es,stepG P X.main g a.w=.go g' s'.w es/\(mV a s' es∨E a s' es)/\cB X E S g' s'):cB X E S g s:=by
 classical
 have hh:∀ a,∃ r:Rk,X.rely s a->∃ g' s' es,stepG P X.main g a.w=.go g' s'.w es/\(mV a s' es∨E a s' es)/\gM X E S r g' s':=by
  intro a
  by_cases b:X.rely s a
  ·obtain⟨g',s',es,h1,h2,r,d⟩:=h a b;exact⟨r,λ_=>⟨g',s',es,h1,h2,d⟩⟩
  ·exact⟨.leaf,λh=>absurd h b⟩
 exact⟨.node λa=>Classical.choose (hh a),.inr (.inr ⟨e,λa b=>oe (hh a) b⟩)⟩
theorem cB.bind{g:Goroutine}{s:St}(h:cB X E S g s)(k:∀ g s,S g s->cB X E c g s):cB X E c g s:=by
 obtain⟨r,h⟩:=h
 induction r generalizing g s with
 |leaf=>exact k g s h
 |node f a =>
  rcases h with h|⟨s',h1,h2⟩|⟨e,h⟩
  ·exact k g s h
  ·rcases h1 with h1|⟨hl,h1⟩
   ·exact .ghost h1 (a _ h2)
   ·exact .forget hl h1 (a _ h2)
  ·exact .step e λi b=>by
    obtain⟨g',s',es,h1,h2,d⟩:=h i b;exact⟨g',s',es,h1,h2,a _ d⟩
theorem db.Tt{g:Goroutine}{s:St}(hj:∀ g s T,¬X.r7 g s T)(h:db X S g s):cB X E S g s:=by
 induction h with
 |stop h=>exact⟨.leaf,h⟩
 |step ng ns ne hr h1 h2 _ a=>exact .step hr λb d=>⟨_,_,_,h1 b d,.inl (h2 b d),a b d⟩
 |ghost hg _ a=>exact .ghost hg a
 |forget hl hg _ a=>exact .forget hl hg a
 |r7 Tu _ _=>exact absurd Tu (hj _ _ _)
theorem gM.norm(I:St->Prop)(l:∀ s s',er s s'->I s->I s')(m:X.vK->∀ s s',lI s s'->I s->I s'):∀ {r:Rk}{g:Goroutine}{s:St},gM X E S r g s->I s ->
  (∃ s',I s'/\S g s')∨(g.status=.running/\∃ s',I s'/\∀ a,X.rely s' a->∃ g' s2 es r',stepG P X.main g a.w=.go g' s2.w es/\(mV a s2 es∨E a s2 es)/\gM X E S r' g' s2/\Rk.lt r' r)
 |.leaf,_,s,h,hi=>.inl ⟨s,hi,h⟩
 |.node f,g,s,h,hi=>by
  rcases h with h|⟨s',h1,h2⟩|⟨p,h⟩
  ·exact .inl ⟨s,hi,h⟩
  ·have d:I s':=h1.elim (λx=>l s s' x hi) λx=>m x.1 s s' x.2 hi
   rcases gM.norm I l m h2 d with e|⟨e,s2,o,n⟩
   ·exact .inl e
   ·refine .inr ⟨e,s2,o,λa b=>?_⟩
    obtain⟨g',j,es,r',k1,i,k,q⟩:=n a b;exact⟨g',j,es,r',k1,i,k,s,.inr q⟩
  ·refine .inr ⟨p,s,hi,λa b=>?_⟩
   obtain⟨g',j,es,k1,i,k⟩:=h a b;exact⟨g',j,es,f a,k1,i,k,a,.inl rfl⟩
theorem cB.goes{R:World->World->Prop}{D:World->World->Array Event->Prop}{Stop:Goroutine->World->Prop}(I:St->Prop)(m:∀ s a,I s->X.rely s a->I a)(e:∀ s a,I s->X.rely s a->R s.w a.w)
  (j:∀ s es,I s->∀ w',D s.w w' es->w'=s.w/\(mV s s es∨E s s es)) (f:∀ s,I s->X.rely s s) (k:∀ g s,I s->Stop g s.w->cB X E S g s) :
  ∀ (n:Nat) (g:Goroutine) (s:St),I s->Goes P X.main R D Stop n g s.w->cB X E S g s
 |0,g,s,hi,h=>k g s hi (h s.w (e s s hi (f s hi)))
 |n+1,g,s,hi,h=>by
  rcases h with h|⟨p,h⟩
  ·exact k g s hi (h s.w (e s s hi (f s hi)))
  ·refine .step p λa l=>?_
   have h1:=h a.w (e s a hi l);have d:=m s a hi l;cases b:stepG P X.main g a.w with
   |go g' w' es =>
    rw[b,goes_go] at h1;obtain⟨q,o⟩:=h1;obtain⟨rfl,i⟩:=j a es d w' q;exact⟨g',a,es,rfl,i,cB.goes I m e j f k n g' a d o⟩
   |_=>rw[b] at h1;exact h1.elim
end
theorem aX.ghost{s s':St}{w:World}(h:aX s { s with w:=w })(k:er s s'):aX s' { s' with w:=w }:=by
 refine⟨rfl,rfl,rfl,by rw[k.w];exact h.size,λb a=>by rw[k.w];exact h.ee b (k.blk b a),λb o v e=>?_,by rw[k.w];exact h.os,by rw[k.w];exact h.tape,by rw[k.w];exact h.output⟩
 have f:=k.cell b o v e
 by_cases a:∃ L∈s.β,b∈L.bs
 ·have:=h.ee b (.inr a);simp only[World.cell?] at f ⊢;simp only at this;rw[this];exact f
 ·have:s.M b o=some v:=by
   rw[<-k.gJ b (λL g d=>a ⟨L,g,d⟩)];exact e
  exact h.mem b o v this
theorem aX.forget{s s':St}{w:World}(h:aX s { s with w:=w })(k:lI s s'):aX s' { s' with w:=w } :=
 ⟨rfl,rfl,rfl,by rw[k.w];exact h.size,λb d=>by rw[k.w];exact h.ee b (by rw[<-k.own,<-k.β];exact d),λb o v a=>h.mem b o v (k.less b o v a),by rw[k.w];exact h.os,by rw[k.w];exact h.tape,by rw[k.w];exact h.output⟩
theorem aX.qJ{s:St}(h:et s):aX s s:=⟨rfl,rfl,rfl,ar _,λ_ _=>rfl,h,rfl,rfl,rfl⟩
theorem aX.trans'{s:St}{w:World}(h:aX s { s with w:=w }):aX { s with w:=w } { s with w:=w }:=aX.qJ h.mem
theorem aX.trans{s a s2:St}(h:aX s a)(k:aX a s2):aX s s2 :=
 ⟨k.β.trans h.β,k.M.trans h.M,k.own.trans h.own,gd h.size k.size,λb d=>by rw[k.ee b (by rw[h.own,h.β];exact d),h.ee b d],λb o v e=>k.mem b o v (by rw[h.M];exact e),k.os.trans h.os,k.tape.trans h.tape,k.output.trans h.output⟩
end Go.AM
namespace Go.AM
open Go.Conc
open Go.ConcN (fork_knows RelBy)
open Go.ConcR (stA smA)
def jb:Go.Loc->Option Nat
 |.cell a=>some a.block
 |.obj r=>some r
 |_=>none
theorem vZ{l:Go.Loc}(h:l.isMemory=true):∃ b,jb l=some b:=by
 cases l <;> simp[Go.Loc.isMemory] at h <;> exact⟨_,rfl⟩
theorem Bi{x:MemAct}{a:Touch}{B b:Nat}(h:x.touch?=some a)(g:x.low B)(c:jb a.loc=some b):b<B:=by
 cases x with
 |access e =>
  simp[MemAct.touch?] at h;subst h;simp only at c;obtain⟨loc,wr,i⟩:=e;cases loc <;> simp[jb] at c <;> subst c <;> exact g
 |mark m =>
  cases m <;> simp[MemAct.touch?] at h <;> subst h <;> simp[jb] at c <;> subst c <;> exact g
 |_=>simp[MemAct.touch?] at h
structure Lay where
 Sh:Nat->Prop
 T0:Nat
 Wg:Nat
 C:Nat
 base:Nat
 kc:Nat
def nO(Y:Lay)(d:Nat->Nat)(a:Touch):Prop :=
 (∃ ad,a.loc=.cell ad/\ad.block=Y.Wg/\a.kind≠.plain)∨(∃ b,jb a.loc=some b/\d b=0/\b≠Y.Wg/\b≠Y.C/\¬Y.Sh b/\a.kind=.plain)
def mI(Y:Lay)(d:Nat->Nat)(f:Mem)(x:Nat)(a:Touch):Prop :=
 (∃ ad,a.loc=.cell ad/\ad.block=Y.Wg/\a.kind=.atomic) ∨
 (a.kind=.plain/\((∃ b,jb a.loc=some b/\d b=Y.base+x)∨(∃ o,a.loc=.cell ⟨Y.C,o,none⟩/\Y.kc*x<=o/\o<Y.kc*x+Y.kc)∨(a.write=false/\∃ b o v,a.loc=.cell ⟨b,o,none⟩/\f b o=some v)))
structure TL (Y:Lay)(d:Nat->Nat)(f:Nat->Mem)(t:Trace)(j B:Nat):Prop where
 base:1<=Y.base
 CR:d Y.Wg=0
 hC:d Y.C=0
 ne:Y.C≠Y.Wg
 IZ:¬Y.Sh Y.Wg
 JZ:¬Y.Sh Y.C
 CU:∀ b,Y.Sh b->d b=0
 ms:∀ x,x<j->∀ b o v,f x b o=some v->d b=0/\b≠Y.C/\b≠Y.Wg/\¬Y.Sh b
 T0:Y.T0<=t.size
 nr:∀ said,¬Race said t
 seen:∀ op∈t,op.act.low B
 old:∀ i a,i<Y.T0->touchAt t i=some a->a.loc.isMemory=true->Knows t 0 i∨(iU Y.Sh a.loc/\a.kind=.atomic)
 J0:∀ x,x<j->∀ i a,i<Y.T0->touchAt t i=some a->a.loc.isMemory=true->Knows t (Y.base+x) i∨(iU Y.Sh a.loc/\a.kind=.atomic)
 Bj:∀ i a b,i<Y.T0->touchAt t i=some a->jb a.loc=some b->d b=0
 new:∀ i a,Y.T0<=i->touchAt t i=some a->a.loc.isMemory=true->(t.g? i=some 0/\nO Y d a)∨(∃ x,x<j/\t.g? i=some (Y.base+x)/\mI Y d (f x) x a)
 mw:∀ x,x<j->∀ i a,Y.T0<=i->touchAt t i=some a->t.g? i=some 0->a.write=true->∀ b o v,a.loc=.cell ⟨b,o,none⟩->f x b o=some v->Knows t (Y.base+x) i
 over:∀ i g,i<Y.T0->t.g? i=some g->g≠0->t.counts i->∃ k,t.g? k=some 0/\HappensBefore t i k
section
variable {Y:Lay}{d hm':Nat->Nat}{f:Nat->Mem}{t u:Trace}{j B B':Nat}
theorem p9{i:Nat}{a:Touch}{g:Nat}(h:touchAt t i=some a)(c:t.g? i=some g):Knows t g i:=by
 obtain⟨x,b,_⟩:=touch_of h;have:x.g=g:=by simpa[Trace.g?,b] using c
 rw[<-this];exact knows_own b
theorem TL.low(h:TL Y d f t j B){i:Nat}{a:Touch}{b:Nat}(e:touchAt t i=some a)(k:jb a.loc=some b):b<B:=by
 obtain⟨x,g,c⟩:=touch_of e;exact Bi c (h.seen x (og g)) k
theorem TL.ov(h:TL Y d f t j B)(hh:∀ b,b<B->hm' b=d b)(q:B<=B')(r:Y.Wg<B)(hC:Y.C<B)(w:∀ b,Y.Sh b->b<B)(s:∀ x,x<j->∀ b o v,f x b o=some v->b<B):TL Y hm' f t j B':=by
 have g:∀ i a,touchAt t i=some a->nO Y d a->nO Y hm' a:=λi a c h1=>by
  rcases h1 with h1|⟨b,h1,h2,l⟩
  ·exact .inl h1
  ·exact .inr ⟨b,h1,by rw[hh b (h.low c h1)];exact h2,l⟩
 have e:∀ x i a,touchAt t i=some a->mI Y d (f x) x a->mI Y hm' (f x) x a:=λx i a c h1=>by
  rcases h1 with h1|⟨p,⟨b,h1,h2⟩|h1⟩
  ·exact .inl h1
  ·exact .inr ⟨p,.inl ⟨b,h1,by rw[hh b (h.low c h1)];exact h2⟩⟩
  ·exact .inr ⟨p,.inr h1⟩
 refine⟨h.base,by rw[hh _ r];exact h.CR,by rw[hh _ hC];exact h.hC,h.ne,h.IZ,h.JZ,λb k=>by rw[hh b (w b k)];exact h.CU b k,λx n b o v m=>by rw[hh b (s x n b o v m)];exact h.ms x n b o v m,
  h.T0,h.nr,λop eH=>MemAct.low_mono q (h.seen op eH),h.old,h.J0,λi a b hi c k=>by rw[hh b (h.low c k)];exact h.Bj i a b hi c k,λi a hi c d=>?_,h.mw,h.over⟩
 rcases h.new i a hi c d with⟨h1,h2⟩|⟨x,h1,h2,l⟩
 ·exact .inl ⟨h1,g i a c h2⟩
 ·exact .inr ⟨x,h1,h2,e x i a c l⟩
theorem TL.Hc(h:TL Y d f t j B):Y.T0<=(t++u).size:=gd h.T0 (by simp)
theorem gU{i:Nat}(h:i<t.size):(t++u).g? i=t.g? i:=by simp[Trace.g?,getElem?_append_old h]
theorem TL.nP(h:TL Y d f t j B)(u:Trace):∀ i g,i<Y.T0->(t++u).g? i=some g->g≠0->(t++u).counts i->∃ k,(t++u).g? k=some 0/\HappensBefore (t++u) i k:=by
 intro i g hi hg sK hc;have a:=bm hi h.T0;rw[gU a] at hg;obtain⟨k,c,e⟩:=h.over i g hi hg sK ((counts_old a).1 hc);have b:k<t.size:=by
  unfold Trace.g? at c;obtain⟨z,l,_⟩:=mS.1 c;exact lt_size_of_getElem? l
 exact⟨k,by rw[gU b];exact c,hb_app u e⟩
theorem wa{a:Nat->Prop}{l:Go.Loc}{b:Nat}(h:iU a l)(c:jb l=some b):a b:=by
 cases l <;> simp[jb] at c <;> subst c <;> exact h
theorem TL.apart(h:TL Y d f t j B){x:Nat}(z:x<j){a b:Touch}{said:Bool}(p:nO Y d b)(q:mI Y d (f x) x a)(hl:a.loc=b.loc)(l:a.kind=.plain∨b.kind=.plain∨(said=true/\a.kind=.said/\b.kind=.said))
  (C:b.kind=.plain->b.write=true->∀ n o v,b.loc=.cell ⟨n,o,none⟩->f x n o≠some v) (g:a.write=true∨b.write=true):False:=by
 have w:=h.base;rcases q with⟨ad,e1,e2,e3⟩|⟨G,⟨c,e1,e2⟩|⟨o,e1,_⟩|⟨e1,n,o,v,e2,e3⟩⟩
 ·rcases p with⟨m,e,i,k⟩|⟨c,e,i,k,_⟩
  ·rw[e3] at l;rcases l with l|l|⟨_,l,_⟩
   ·cases l
   ·exact k l
   ·cases l
  ·rw[<-hl,e1] at e;simp only[jb,bL] at e;exact k (e.symm.trans e2)
 ·rcases p with⟨m,e,i,k⟩|⟨s,e,i,k,_⟩
  ·rw[hl,e] at e1;simp only[jb,bL] at e1;rw[<-e1,i,h.CR] at e2;omega
  ·rw[hl,e] at e1;simp only[bL] at e1;rw[<-e1,i] at e2;omega
 ·rcases p with⟨m,e,i,k⟩|⟨s,e,i,k,r,_⟩
  ·rw[<-hl,e1] at e;cases e;exact h.ne i
  ·rw[<-hl,e1] at e;simp only[jb,bL] at e;exact r e.symm
 ·obtain⟨F,E,y,D⟩:=h.ms x z n o v e3;rcases p with⟨m,e,i,k⟩|⟨s,e,i,k,r,_,A⟩
  ·rw[<-hl,e2] at e;cases e;exact y i
  ·rcases g with g|g
   ·rw[e1] at g;cases g
   ·exact C A g n o v (by rw[<-hl];exact e2) e3
theorem TL.app0(h:TL Y d f t j B)(J:∀ op∈u,op.g=0)(hl:∀ op∈u,op.act.low B)(D:∀ op∈u,∀ a,op.act.touch?=some a->a.loc.isMemory=true->nO Y d a)
  (M:∀ op∈u,∀ a,op.act.touch?=some a->a.kind=.plain->a.write=true->∀ x,x<j->∀ b o v,a.loc=.cell ⟨b,o,none⟩->f x b o≠some v):TL Y d f (t++u) j B:=by
 have m:∀ {i:Nat} {a:Touch},touchAt (t++u) i=some a->(i<t.size/\touchAt t i=some a)∨(t.size<=i/\(t++u).g? i=some 0/\∃ op∈u,op.act.touch?=some a):=by
  intro i a k;obtain⟨x,q,z⟩:=touch_of k;rcases getElem?_append_cases q with⟨hi,H⟩|⟨hi,w⟩
  ·exact .inl ⟨hi,by rw[touchAt_of H];exact z⟩
  ·exact .inr ⟨hi,by simp[Trace.g?,q,J x w],x,w,z⟩
 refine⟨h.base,h.CR,h.hC,h.ne,h.IZ,h.JZ,h.CU,h.ms,h.Hc,λsaid=>?_,seen_app h.seen hl,λi a hi k d=>?_,λx q i a hi k d=>?_,λi a b hi k C=>?_,λi a hi k d=>?_,λx q i a hi k y A b o v l F=>?_,h.nP u⟩
 ·refine noRace_append (h.nr said) J λi a k op eH b C r=>?_
  have G:b.loc.isMemory=true:=by rw[<-r.1];exact r.2.1
  have I:=D op eH b C G;rcases bC i Y.T0 with hi|hi
  ·rcases h.old i a hi k r.2.1 with Q|⟨N,O⟩
   ·exact Q
   ·exfalso;obtain⟨c,e⟩:=vZ r.2.1;have s:=wa N e;rcases I with⟨ad,e1,e2,e3⟩|⟨P,e1,e2,e3,R,L,K⟩
    ·rw[r.1,e1] at e;simp only[jb,bL] at e;rw[<-e,e2] at s;exact h.IZ s
    ·rw[r.1,e1] at e;simp only[bL] at e;rw[e] at L;exact L s
  ·rcases h.new i a hi k r.2.1 with⟨y,_⟩|⟨x,q,y,E⟩
   ·exact p9 k y
   ·exact(h.apart q I E r.1 r.2.2.2 (λh1 h2=>M op eH b C h1 h2 x q) r.2.2.1).elim
 ·have p:touchAt t i=some a:=by rw[<-touchAt_old (u:=u) (bm hi h.T0)];exact k
  exact(h.old i a hi p d).imp (·.app u) id
 ·have p:touchAt t i=some a:=by rw[<-touchAt_old (u:=u) (bm hi h.T0)];exact k
  exact(h.J0 x q i a hi p d).imp (·.app u) id
 ·have p:touchAt t i=some a:=by rw[<-touchAt_old (u:=u) (bm hi h.T0)];exact k
  exact h.Bj i a b hi p C
 ·rcases m k with⟨h1,h2⟩|⟨_,h2,op,eH,n⟩
  ·rw[gU h1];exact h.new i a hi h2 d
  ·exact .inl ⟨h2,D op eH a n d⟩
 ·rcases m k with⟨h1,h2⟩|⟨_,h2,op,eH,n⟩
  ·rw[gU h1] at y;exact(h.mw x q i a hi h2 y A b o v l F).app u
  ·exfalso;rcases D op eH a n (by rw[l];rfl) with⟨ad,e1,e2,e3⟩|⟨P,_,_,_,_,_,K⟩
   ·rw[l] at e1;cases e1;exact(h.ms x q b o v F).2.2.1 e2
   ·exact M op eH a n K A x q b o v l F
theorem TL.appW(h:TL Y d f t j B){x:Nat}(E:x<j)(hu:∀ op∈u,op.g=Y.base+x)(hl:∀ op∈u,op.act.low B)(ht:∀ op∈u,∀ a,op.act.touch?=some a->a.loc.isMemory=true->mI Y d (f x) x a):TL Y d f (t++u) j B:=by
 have VM:=h.base;have r:∀ {i:Nat} {a:Touch},touchAt (t++u) i=some a->(i<t.size/\touchAt t i=some a)∨(t.size<=i/\(t++u).g? i=some (Y.base+x)/\∃ op∈u,op.act.touch?=some a):=by
  intro i a q;obtain⟨y,C,L⟩:=touch_of q;rcases getElem?_append_cases C with⟨hi,Tv⟩|⟨hi,I⟩
  ·exact .inl ⟨hi,by rw[touchAt_of Tv];exact L⟩
  ·exact .inr ⟨hi,by simp[Trace.g?,C,hu y I],y,I,L⟩
 refine⟨h.base,h.CR,h.hC,h.ne,h.IZ,h.JZ,h.CU,h.ms,h.Hc,λsaid=>?_,seen_app h.seen hl,λi a hi q d=>?_,λy C i a hi q d=>?_,λi a b hi q T=>?_,λi a hi q d=>?_,λy C i a hi q G D b o v K R=>?_,h.nP u⟩
 ·refine noRace_append (h.nr said) hu λi a q op eH b T A=>?_
  have Z:b.loc.isMemory=true:=by rw[<-A.1];exact A.2.1
  have H:=ht op eH b T Z;obtain⟨c,l⟩:=vZ A.2.1;rcases bC i Y.T0 with hi|hi
  ·rcases h.J0 x E i a hi q A.2.1 with J|⟨hs,VN⟩
   ·exact J
   ·exfalso;have n:=wa hs l;rw[A.1] at l;rcases H with⟨ad,e1,e2,e3⟩|⟨e0,⟨c',e1,e2⟩|⟨o,e1,_⟩|⟨e1,p,o,v,e2,e3⟩⟩
    ·rw[e1] at l;simp only[jb,bL] at l;rw[<-l,e2] at n;exact h.IZ n
    ·rw[e1] at l;simp only[bL] at l;rw[<-l] at n;rw[h.CU _ n] at e2;omega
    ·rw[e1] at l;simp only[jb,bL] at l;rw[<-l] at n;exact h.JZ n
    ·rw[e2] at l;simp only[jb,bL] at l;rw[<-l] at n;exact(h.ms x E p o v e3).2.2.2 n
  ·rcases h.new i a hi q A.2.1 with⟨G,U⟩|⟨y,C,G,Q⟩
   ·
    by_cases M:a.write=true/\∃ p o v,a.loc=.cell ⟨p,o,none⟩/\f x p o=some v
    ·obtain⟨h1,p,o,v,h2,P⟩:=M;exact h.mw x E i a hi q G h1 p o v h2 P
    ·exfalso;refine h.apart (said:=said) E U H A.1.symm ?_ (λ_ S p o v k R=>M ⟨S,p,o,v,k,R⟩) A.2.2.1.symm
     rcases A.2.2.2 with J|J|⟨h1,h2,P⟩
     ·exact .inr (.inl J)
     ·exact .inl J
     ·exact .inr (.inr ⟨h1,P,h2⟩)
   ·by_cases N:y=x
    ·subst N;exact p9 q G
    ·exfalso;obtain⟨k,_,D,s⟩:=A;rcases Q with⟨ad,e1,e2,e3⟩|⟨e0,⟨c1,e1,e2⟩|⟨o,e1,VO,VP⟩|⟨e1,p,o,v,e2,e3⟩⟩
     ·rcases H with⟨F,e,m,z⟩|⟨V,⟨c2,e,m⟩|⟨o,e,_⟩|⟨e,p,o,v,m,z⟩⟩
      ·rw[e3,z] at s;simp at s
      ·rw[<-k,e1] at e;simp only[jb,bL] at e;rw[<-e,e2,h.CR] at m;omega
      ·rw[<-k,e1] at e;cases e;exact h.ne e2
      ·rw[<-k,e1] at m;cases m;exact(h.ms x E p o v z).2.2.1 e2
     ·rcases H with⟨F,e,m,z⟩|⟨V,⟨c2,e,m⟩|⟨o,e,_⟩|⟨e,p,o,v,m,z⟩⟩
      ·rw[k,e] at e1;simp only[jb,bL] at e1;rw[<-e1,m,h.CR] at e2;omega
      ·rw[k,e] at e1;simp only[bL] at e1;rw[e1] at m;omega
      ·rw[k,e] at e1;simp only[jb,bL] at e1;rw[<-e1,h.hC] at e2;omega
      ·rw[k,m] at e1;simp only[jb,bL] at e1;rw[<-e1,(h.ms x E p o v z).1] at e2;omega
     ·rcases H with⟨F,e,m,z⟩|⟨V,⟨c2,e,m⟩|⟨W,e,X,Tw⟩|⟨e,p,W,v,m,z⟩⟩
      ·rw[<-k,e1] at e;cases e;exact h.ne m
      ·rw[<-k,e1] at e;simp only[jb,bL] at e;rw[<-e,h.hC] at m;omega
      ·rw[<-k,e1] at e;cases e;rcases Nat.lt_or_gt_of_ne N with h1|h1
       ·have:=pJ Y.kc (show y+1<=x from h1)
        rw[Nat.mul_add,ma] at this;omega
       ·have:=pJ Y.kc (show x+1<=y from h1)
        rw[Nat.mul_add,ma] at this;omega
      ·rw[<-k,e1] at m;cases m;exact(h.ms x E _ _ v z).2.1 rfl
     ·rcases H with⟨F,e,m,z⟩|⟨V,⟨c2,e,m⟩|⟨W,e,X,Tw⟩|⟨e,b2,W,v',m,z⟩⟩
      ·rw[<-k,e2] at e;cases e;exact(h.ms y C p o v e3).2.2.1 m
      ·rw[<-k,e2] at e;simp only[jb,bL] at e;rw[<-e,(h.ms y C p o v e3).1] at m;omega
      ·rw[<-k,e2] at e;cases e;exact(h.ms y C _ _ v e3).2.1 rfl
      ·rw[e1,e] at D;simp at D
 ·have w:touchAt t i=some a:=by rw[<-touchAt_old (u:=u) (bm hi h.T0)];exact q
  exact(h.old i a hi w d).imp (·.app u) id
 ·have w:touchAt t i=some a:=by rw[<-touchAt_old (u:=u) (bm hi h.T0)];exact q
  exact(h.J0 y C i a hi w d).imp (·.app u) id
 ·have w:touchAt t i=some a:=by rw[<-touchAt_old (u:=u) (bm hi h.T0)];exact q
  exact h.Bj i a b hi w T
 ·rcases r q with⟨h1,h2⟩|⟨_,h2,op,eH,O⟩
  ·rw[gU h1];exact h.new i a hi h2 d
  ·exact .inr ⟨x,E,h2,ht op eH a O d⟩
 ·rcases r q with⟨h1,h2⟩|⟨_,h2,_⟩
  ·rw[gU h1] at G;exact(h.mw y C i a hi h2 G D b o v K R).app u
  ·rw[G] at h2;simp only[bL] at h2;omega
theorem TL.mute(h:TL Y d f t j B){g:Nat}(z:∀ op∈u,op.g=g)(hl:∀ op∈u,op.act.low B)(s:∀ op∈u,op.act.touch?=none):TL Y d f (t++u) j B:=by
 have old:∀ {i:Nat} {a:Touch},touchAt (t++u) i=some a->i<t.size/\touchAt t i=some a:=by
  intro i a c;obtain⟨y,A,e⟩:=touch_of c;rcases getElem?_append_cases A with⟨hi,m⟩|⟨hi,p⟩
  ·exact⟨hi,by rw[touchAt_of m];exact e⟩
  ·rw[s y p] at e;cases e
 refine⟨h.base,h.CR,h.hC,h.ne,h.IZ,h.JZ,h.CU,h.ms,h.Hc,λsaid=>noRace_append (h.nr said) z λi a _ op eH b l _=>(by rw[s op eH] at l;cases l),seen_app h.seen hl,λi a hi c d=>(h.old i a hi (old c).2 d).imp (·.app u) id,
  λx n i a hi c d=>(h.J0 x n i a hi (old c).2 d).imp (·.app u) id,λi a b hi c l=>h.Bj i a b hi (old c).2 l,λi a hi c d=>?_,λx n i a hi c r q b o v k w=>?_,h.nP u⟩
 ·rw[gU (old c).1];exact h.new i a hi (old c).2 d
 ·rw[gU (old c).1] at r;exact(h.mw x n i a hi (old c).2 r q b o v k w).app u
theorem TL.fork(h:TL Y d f t j B){x y:MemOp}(n:x.g=0/\x.act=.go (Y.base+j))(r:y.g=Y.base+j/\y.act=.start)(H:Deaf t 0=0)(I:Deaf t (Y.base+j)=0)
  (J:∀ b o v,f j b o=some v->d b=0/\b≠Y.C/\b≠Y.Wg/\¬Y.Sh b):TL Y d f (t++#[x,y]) (j+1) B:=by
 have m:∀ op∈#[x,y],op.act.touch?=none:=by
  intro op eH;simp only[List.mem_toArray,dy,pM,or_false] at eH;rcases eH with rfl|rfl
  ·rw[n.2];rfl
  ·rw[r.2];rfl
 have q:∀ op∈#[x,y],op.act.low B:=by
  intro op eH;simp only[List.mem_toArray,dy,pM,or_false] at eH;rcases eH with rfl|rfl
  ·rw[n.2];trivial
  ·rw[r.2];trivial
 have old:∀ {i:Nat} {a:Touch},touchAt (t++#[x,y]) i=some a->i<t.size/\touchAt t i=some a:=by
  intro i a c;obtain⟨z,w,l⟩:=touch_of c;rcases getElem?_append_cases w with⟨hi,G⟩|⟨_,D⟩
  ·exact⟨hi,by rw[touchAt_of G];exact l⟩
  ·rw[m z D] at l;cases l
 have F:∀ z,z<j+1->∀ b o v,f z b o=some v->d b=0/\b≠Y.C/\b≠Y.Wg/\¬Y.Sh b:=λz w b o v s=>by
  rcases bC z j with h1|h1
  ·exact h.ms z h1 b o v s
  ·obtain rfl:z=j:=by omega
   exact J b o v s
 refine⟨h.base,h.CR,h.hC,h.ne,h.IZ,h.JZ,h.CU,F,h.Hc,λsaid=>?_,seen_app h.seen q,λi a hi c d=>(h.old i a hi (old c).2 d).imp (·.app _) id,
  λz w i a hi c d=>?_,λi a b hi c k=>h.Bj i a b hi (old c).2 k,λi a hi c d=>?_,λz w i a hi c A E b o v p s=>?_,h.nP _⟩
 ·have e:t++#[x,y]=(t++#[x])++#[y]:=by apply gI;simp
  rw[e];refine noRace_append (g:=Y.base+j) (noRace_append (g:=0) (h.nr said) (λop eH=>by simp at eH;rw[eH];exact n.1) (λi a _ op eH b k _=>?_)) (λop eH=>by simp at eH;rw[eH];exact r.1) (λi a _ op eH b k _=>?_)
  ·rw[m op (by simp at eH ⊢;exact .inl eH)] at k;cases k
  ·rw[m op (by simp at eH ⊢;exact .inr eH)] at k;cases k
 ·rcases bC z j with h1|h1
  ·exact(h.J0 z h1 i a hi (old c).2 d).imp (·.app _) id
  ·obtain rfl:z=j:=by omega
   exact(h.old i a hi (old c).2 d).imp (fork_knows n r H I) id
 ·rw[gU (old c).1];rcases h.new i a hi (old c).2 d with h1|⟨z,h1,h2⟩
  ·exact .inl h1
  ·exact .inr ⟨z,by omega,h2⟩
 ·rw[gU (old c).1] at A;rcases bC z j with h1|h1
  ·exact(h.mw z h1 i a hi (old c).2 A E b o v p s).app _
  ·obtain rfl:z=j:=by omega
   exact fork_knows n r H I (p9 (old c).2 A)
theorem TL.PC(h:TL Y d f t j B)(I:Deaf t 0=0)(O:NoRelease (stA Y.Wg) t){q:Nat}(H:t.act? q=some (.mark (.acquire (stA Y.Wg))))(y:t.g? q=some 0)(E:t.heard q)
  (N:∀ x,x<j->∃ r,RelBy (stA Y.Wg) t (Y.base+x) r/\r<q):Past (iU λb=>Y.Sh b∨b=Y.Wg) B t:=by
 have m:∀ x,x<j->∀ i,t.g? i=some (Y.base+x)->t.counts i->HappensBefore t i q:=by
  intro x A i p v;obtain⟨r,c,C⟩:=N x A;have e:HappensBefore t r q:=.single (.inr ⟨.marked C (.inr c.act) H (λk _ _=>O k),c.heard,E⟩)
  have P:i<=r:=Nat.le_of_not_lt λo=>c.after i o p v
  rcases bC i r with o|L
  ·exact .trans (.single (.inl ⟨o,_,p,c.g⟩)) e
  ·obtain rfl:i=r:=by omega
   exact e
 have n:∀ {l:Go.Loc},iU Y.Sh l->iU (λb=>Y.Sh b∨b=Y.Wg) l:=λ{l} hl=>by cases l <;> first|exact .inl hl|exact hl
 refine⟨h.nr,λi a s d=>?_,λi g p w v=>?_,I,h.seen⟩
 ·rcases bC i Y.T0 with hi|hi
  ·exact(h.old i a hi s d).imp id λ⟨h1,h2⟩=>⟨n h1,h2⟩
  ·rcases h.new i a hi s d with⟨h1,_⟩|⟨x,A,p,G⟩
   ·exact .inl (p9 s h1)
   ·rcases G with⟨ad,e1,e2,e3⟩|⟨J,_⟩
    ·exact .inr ⟨by rw[e1];exact .inr e2,e3⟩
    ·left
     have v:t.counts i:=⟨a,s,d,.inl (by rw[J];simp)⟩
     obtain⟨z,K,D⟩:=mS.1 y;exact⟨q,z,K,D,.inr (m x A i p v)⟩
 ·rcases bC i Y.T0 with hi|hi
  ·exact h.over i g hi p w v
  ·obtain⟨a,s,d,M⟩:=v;rcases h.new i a hi s d with⟨h1,_⟩|⟨x,A,F,G⟩
   ·rw[p] at h1;exact absurd (lD h1) w
   ·exact⟨q,y,m x A i F ⟨a,s,d,M⟩⟩
theorem TL.start{Y:Lay}{t:Trace}{B:Nat}{f:Nat->Mem}(e:Past (iU Y.Sh) B t)(p:Y.T0=t.size)(o:1<=Y.base)(c:Y.C≠Y.Wg)(h:¬Y.Sh Y.Wg)(l:¬Y.Sh Y.C):TL Y (λ_=>0) f t 0 B :=
 ⟨o,rfl,rfl,c,h,l,λ_ _=>rfl,λx b=>absurd b (fQ x),by omega,e.clean,e.seen,λi a _ k d=>e.known i a k d,λx b=>absurd b (fQ x),λ_ _ _ _ _ _=>rfl,
  λi a hi k _=>by
   obtain⟨x,b,_⟩:=touch_of k;have:=lt_size_of_getElem? b;omega,λx b=>absurd b (fQ x),λi g _ m c n=>e.over i g m c n⟩
end
end Go.AM
namespace Go.AM
open Go.Conc
open Go.ConcN (WD CTag Mode Vc Ssum pend phi cnt WgLive PayAt Has RW DWs WSit RelBy sumTo upd upd_same upd_ne AtR0 get_map_set get_map_set_same norel_of Deaf_still)
open Go.ConcR (KK WgAt stA smA rd wr mk Payload g_of_ofEvents)
def Cx.work(P:Program):Cx P:={ main:=false,rely:=aX,r7:=λ_ _ _=>False,fG:=id,vK:=True }
def Cx.lead(P:Program)(ty:TypeId)(Wg:Nat):Cx P:={ main:=true,rely:=λs s'=>aX s s'/\(WgLive ty Wg s.w->WgLive ty Wg s'.w),r7:=λ_ _ _=>False,fG:=λh=>h.1,vK:=False }
instance (P:Program):(Cx.work P).qp:=⟨ab⟩
def E0:St->St->Array Event->Prop:=λ_ _ _=>False
def Es(Wg:Nat):St->St->Array Event->Prop:=λs s' es=>s'=s/\∃ a:Addr,a.block=Wg/\(es=#[mk (.read a)]∨es=#[mk (.write a)])
def I0:Nat->Go.Loc->Prop:=λ_ _=>False
variable [Payload]
structure MN (C N lo k:Nat)(vs:Nat->Value)(w w':World):Prop where
 tape:w'.tape=w.tape
 os:w'.os=w.os
 output:w'.output=w.output
 size:w'.heap.size=w.heap.size
 block:∀ b,b≠C->w'.heap[b]?=w.heap[b]?
 pay:PayAt C N w'
 out:∀ o,(o<lo∨lo+k<=o)->w'.cell? ⟨C,o,none⟩=w.cell? ⟨C,o,none⟩
 new:∀ i,i<k->w'.cell? ⟨C,lo+i,none⟩=some (vs i)
section
variable (P:Program)(ty:TypeId)(Y:Lay)(N:Nat)(val:Nat->Nat->Value)
def DF(x:Nat)(g:Goroutine)(s:St):Prop :=
 g.status=.running/\∀ w1,aX s { s with w:=w1 }->PayAt Y.C N w1->WgLive ty Y.Wg w1 ->
  ∃ g' w2 es,stepG P false g w1=.go g' w2 es/\MN Y.C N (Y.kc*x) Y.kc (val x) w1 w2/\(∀ e∈es,∃ o,e=⟨.cell ⟨Y.C,o,none⟩,true,false⟩/\Y.kc*x<=o/\o<Y.kc*x+Y.kc) /\
   ∃ m,Goes P false (RW ty Y.Wg Y.C N 0 (Y.kc*x)) Go.ConcR.DC0 (AtR0 P ty Y.Wg Y.C N 0 (Y.kc*x+1) (val x 0)) m g' w2
end
structure jc (l:Nat->Nat)(t:Mem)(g:Nat)(s:St):Prop where
 blk:∀ b,(s.own b∨∃ L∈s.β,b∈L.bs)->l b=g/\b<s.w.heap.size
 M:∀ b o v,s.M b o=some v->(l b=g∨t b o=some v)/\b<s.w.heap.size
structure gi (Y:Lay)(l:Nat->Nat)(E:Nat->Mem)(j:Nat)(s:St):Prop where
 blk:∀ b,(s.own b∨∃ L∈s.β,b∈L.bs)->l b=0/\b≠Y.C/\b≠Y.Wg/\¬Y.Sh b/\b<s.w.heap.size
 M:∀ b o v,s.M b o=some v->l b=0/\b≠Y.C/\b≠Y.Wg/\¬Y.Sh b/\b<s.w.heap.size
 ms:∀ x,x<j->∀ b o v,E x b o=some v->s.M b o=some v
structure Bl (Y:Lay)(l:Nat->Nat)(t:Mem)(y:Nat)(w w':World):Prop where
 size:w.heap.size<=w'.heap.size
 blk:∀ b,b<w.heap.size->l b=Y.base+y->w'.heap[b]?=w.heap[b]?
 cell:∀ b o v,t b o=some v->w.cell? ⟨b,o,none⟩=some v->w'.cell? ⟨b,o,none⟩=some v
 pay:∀ o,Y.kc*y<=o->o<Y.kc*y+Y.kc->w'.cell? ⟨Y.C,o,none⟩=w.cell? ⟨Y.C,o,none⟩
 os:w'.os=w.os
 tape:w'.tape=w.tape
 output:w'.output=w.output
omit [Payload] in
theorem Bl.refl(Y:Lay)(l:Nat->Nat)(t:Mem)(y:Nat)(w:World):Bl Y l t y w w:=⟨ar _,λ_ _ _=>rfl,λ_ _ _ _ h=>h,λ_ _ _=>rfl,rfl,rfl,rfl⟩
omit [Payload] in
theorem Bl.at(Y:Lay)(l:Nat->Nat)(t:Mem)(y:Nat)(w:World)(d:Nat):Bl Y l t y w (w.at d):=⟨ar _,λ_ _ _=>rfl,λ_ _ _ _ h=>h,λ_ _ _=>rfl,rfl,rfl,rfl⟩
structure yn (Y:Lay)(l:Nat->Nat)(w w':World):Prop where
 size:w.heap.size<=w'.heap.size
 blk:∀ b,b<w.heap.size->l b=0->b≠Y.C->b≠Y.Wg->w'.heap[b]?=w.heap[b]?
 os:w'.os=w.os
 tape:w'.tape=w.tape
 output:w'.output=w.output
omit [Payload] in
theorem gj{w w':World}{b:Nat}(h:w'.heap[b]?=w.heap[b]?)(o:Nat):w'.cell? ⟨b,o,none⟩=w.cell? ⟨b,o,none⟩:=by simp[World.cell?,h]
omit [Payload] in
theorem aX.more{s:St}{w w':World}(h:aX s { s with w:=w })(D:w.heap.size<=w'.heap.size)(f:∀ b,(s.own b∨∃ L∈s.β,b∈L.bs)->w'.heap[b]?=w.heap[b]?)
  (Z:∀ b o v,s.M b o=some v->w.cell? ⟨b,o,none⟩=some v->w'.cell? ⟨b,o,none⟩=some v) (c:w'.os=w.os) (p:w'.tape=w.tape) (A:w'.output=w.output):aX s { s with w:=w' } :=
 ⟨rfl,rfl,rfl,gd h.size D,λb T=>by show w'.heap[b]?=_;rw[f b T];exact h.ee b T,λb o v q=>Z b o v q (h.mem b o v q),c.trans h.os,p.trans h.tape,A.trans h.output⟩
section
variable {Y:Lay}{l hm':Nat->Nat}{E:Nat->Mem}{j y:Nat}{s:St}{w w':World}
omit [Payload] in
theorem jc.DG(n:jc l (E y) (Y.base+y) s)(h:aX s { s with w:=w })(k:Bl Y l (E y) y w w'):aX s { s with w:=w' }:=by
 have D:=h.size;refine h.more k.size (λb f=>?_) (λb o v q U=>?_) k.os k.tape k.output
 ·obtain⟨c,p⟩:=n.blk b f;exact k.blk b (bm p D) c
 ·obtain⟨c,p⟩:=n.M b o v q;rcases c with c|c
  ·rw[gj (k.blk b (bm p D) c) o];exact U
  ·exact k.cell b o v c U
omit [Payload] in
theorem jc.ov{t:Mem}{g:Nat}(n:jc l t g s)(h:s.w.heap.size<=w.heap.size)(S:∀ b,b<w.heap.size->hm' b=l b):jc hm' t g s :=
 ⟨λb f=>let ⟨c,p⟩:=n.blk b f;⟨by rw[S b (bm p h)];exact c,p⟩,λb o v q=>let ⟨c,p⟩:=n.M b o v q;⟨by rw[S b (bm p h)];exact c,p⟩⟩
omit [Payload] in
theorem gi.DG(n:gi Y l E j s)(h:aX s { s with w:=w })(k:yn Y l w w'):aX s { s with w:=w' }:=by
 have D:=h.size;refine h.more k.size (λb f=>?_) (λb o v q U=>?_) k.os k.tape k.output
 ·obtain⟨c,p,A,G,u⟩:=n.blk b f;exact k.blk b (bm u D) c p A
 ·obtain⟨c,p,A,G,u⟩:=n.M b o v q;rw[gj (k.blk b (bm u D) c p A) o];exact U
omit [Payload] in
theorem gi.ov(n:gi Y l E j s)(h:s.w.heap.size<=w.heap.size)(S:∀ b,b<w.heap.size->hm' b=l b):gi Y hm' E j s :=
 ⟨λb f=>let ⟨c,p,A,G,u⟩:=n.blk b f;⟨by rw[S b (bm u h)];exact c,p,A,G,u⟩,
  λb o v q=>let ⟨c,p,A,G,u⟩:=n.M b o v q;⟨by rw[S b (bm u h)];exact c,p,A,G,u⟩,n.ms⟩
omit [Payload] in
theorem jc.rely{t:Mem}{g:Nat}(n:jc l t g s)(h:s.w.heap.size<=w.heap.size):jc l t g { s with w:=w } :=
 ⟨λb f=>let ⟨c,p⟩:=n.blk b f;⟨c,bm p h⟩,λb o v q=>let ⟨c,p⟩:=n.M b o v q;⟨c,bm p h⟩⟩
omit [Payload] in
theorem gi.rely(n:gi Y l E j s)(h:s.w.heap.size<=w.heap.size):gi Y l E j { s with w:=w } :=
 ⟨λb f=>let ⟨c,p,A,G,u⟩:=n.blk b f;⟨c,p,A,G,bm u h⟩,λb o v q=>let ⟨c,p,A,G,u⟩:=n.M b o v q;⟨c,p,A,G,bm u h⟩,n.ms⟩
omit [Payload] in
theorem jc.ghost{t:Mem}{g:Nat}{s':St}(n:jc l t g s)(k:er s s'):jc l t g s':=by
 refine⟨λb f=>by rw[k.w];exact n.blk b (k.blk b f),λb o v q=>?_⟩
 rw[k.w]
 by_cases f:∃ L∈s.β,b∈L.bs
 ·obtain⟨c,p⟩:=n.blk b (.inr f);exact⟨.inl c,p⟩
 ·exact n.M b o v (by rw[<-k.gJ b (λL F z=>f ⟨L,F,z⟩)];exact q)
omit [Payload] in
theorem jc.forget{t:Mem}{g:Nat}{s':St}(n:jc l t g s)(k:lI s s'):jc l t g s' :=
 ⟨λb f=>by rw[k.w];exact n.blk b (by rw[<-k.own,<-k.β];exact f),λb o v q=>by rw[k.w];exact n.M b o v (k.less b o v q)⟩
omit [Payload] in
theorem gi.ghost{s':St}(n:gi Y l E j s)(k:er s s'):gi Y l E j s':=by
 refine⟨λb f=>by rw[k.w];exact n.blk b (k.blk b f),λb o v q=>?_,λx W b o v q=>k.mem _ _ _ (n.ms x W b o v q)⟩
 rw[k.w]
 by_cases f:∃ L∈s.β,b∈L.bs
 ·exact n.blk b (.inr f)
 ·exact n.M b o v (by rw[<-k.gJ b (λL F z=>f ⟨L,F,z⟩)];exact q)
def kx(l:Nat->Nat)(B g:Nat):Nat->Nat:=λb=>if b<B then l b else g
omit [Payload] in
theorem c6{l:Nat->Nat}{B g b:Nat}(h:b<B):kx l B g b=l b:=by simp[kx,h]
omit [Payload] in
theorem ow{l:Nat->Nat}{B g b:Nat}(h:B<=b):kx l B g b=g:=by simp[kx,Nat.not_lt.2 h]
omit [Payload] in
theorem jc.step{t:Mem}{g:Nat}{s':St}{σ σ':List ak}(n:jc l t g s)(H:ag σ' s')(st:Step σ s σ' s'):jc (kx l s.w.heap.size g) t g s':=by
 refine⟨λb f=>?_,λb o v q=>?_⟩
 ·rcases f with f|⟨L,F,f⟩
  ·rw[st.own] at f;obtain⟨c,p⟩:=n.blk b (.inl f);exact⟨by rw[c6 p];exact c,bm p st.size⟩
  ·have r:=H.lt L F b f;rcases st.pT L F b f with c|⟨V,J,c⟩
   ·exact⟨ow c,r⟩
   ·obtain⟨k1,K⟩:=n.blk b (.inr ⟨V,J,c⟩);exact⟨by rw[c6 K];exact k1,r⟩
 ·have r:=et.lt H.mem q;rcases bC b s.w.heap.size with c|c
  ·rw[c6 c]
   by_cases f:∃ L∈s.β,b∈L.bs
   ·exact⟨.inl (n.blk b (.inr f)).1,r⟩
   ·rw[st.gJ b c (λL F z=>f ⟨L,F,z⟩)] at q
    exact⟨(n.M b o v q).1,r⟩
  ·exact⟨.inl (ow c),r⟩
omit [Payload] in
theorem gi.step{s':St}{σ σ':List ak}(n:gi Y l E j s)(H:ag σ' s')(st:Step σ s σ' s')(hW:Y.Wg<s.w.heap.size)(hC:Y.C<s.w.heap.size)(X:∀ b,Y.Sh b->b<s.w.heap.size):gi Y (kx l s.w.heap.size 0) E j s':=by
 have I:∀ b,s.w.heap.size<=b->b<s'.w.heap.size->kx l s.w.heap.size 0 b=0/\b≠Y.C/\b≠Y.Wg/\¬Y.Sh b/\b<s'.w.heap.size:=λb c p =>
  ⟨ow c,by omega,by omega,λh=>by have:=X b h;omega,p⟩
 refine⟨λb f=>?_,λb o v q=>?_,λx W b o v q=>st.mem _ _ _ (n.ms x W b o v q)⟩
 ·rcases f with f|⟨L,F,f⟩
  ·rw[st.own] at f;obtain⟨c,p,A,G,u⟩:=n.blk b (.inl f);exact⟨by rw[c6 u];exact c,p,A,G,bm u st.size⟩
  ·have r:=H.lt L F b f;rcases st.pT L F b f with c|⟨V,J,c⟩
   ·exact I b c r
   ·obtain⟨k1,K,O,R,Q⟩:=n.blk b (.inr ⟨V,J,c⟩);exact⟨by rw[c6 Q];exact k1,K,O,R,r⟩
 ·have r:=et.lt H.mem q;rcases bC b s.w.heap.size with c|c
  ·by_cases f:∃ L∈s.β,b∈L.bs
   ·obtain⟨k1,K,O,R,Q⟩:=n.blk b (.inr f);exact⟨by rw[c6 Q];exact k1,K,O,R,r⟩
   ·rw[st.gJ b c (λL F z=>f ⟨L,F,z⟩)] at q
    obtain⟨k1,K,O,R,Q⟩:=n.M b o v q;exact⟨by rw[c6 Q];exact k1,K,O,R,r⟩
  ·exact I b c r
end
end Go.AM
namespace Go.AM
open Go.Conc
open Go.ConcN (WD CTag Mode Vc Ssum pend phi cnt WgLive PayAt Has RW DWs WSit RelBy sumTo upd upd_same upd_ne AtR0 get_map_set get_map_set_same norel_of Deaf_still)
open Go.ConcR (KK WgAt stA smA rd wr mk Payload g_of_ofEvents)
variable [Payload]
section
variable (P:Program)(ty:TypeId)(Y:Lay)(N:Nat)(val:Nat->Nat->Value)(l:Nat->Nat)(c:Nat->Mem)
inductive WS (x:Nat):Nat->Nat->Rk->Nat->Goroutine->World->Prop
 |am {r:Rk} {g:Goroutine} {s:St} {w:World}:gM (Cx.work P) E0 (DF P ty Y N val x) r g s->aX s { s with w:=w }->jc l (c x) (Y.base+x) s->WS x 1 7 r 0 g w
 |rel {m:Nat} {g:Goroutine} {w:World}:Goes P false (RW ty Y.Wg Y.C N 0 (Y.kc*x)) Go.ConcR.DC0 (AtR0 P ty Y.Wg Y.C N 0 (Y.kc*x+1) (val x 0)) m g w->WS x 0 7 (Rk.nat m) 0 g w
 |tail {st m d:Nat} {g:Goroutine} {w:World}:st<=6->WSit P ty Y.Wg Y.C N I0 I0 0 (Y.kc*x+1) (val x 0) st m d g w->WS x 0 st (Rk.nat m) d g w
structure Com (j:Nat)(n:Array Goroutine)(w:World)(t:Trace)(D:Nat->WD)(A:Nat->Nat)(K:Nat->Rk)(p:Nat):Prop where
 size:n.size=Y.base+j
 lv:∀ i g,0<i->i<Y.base->n[i]?=some g->∃ m,K i=Rk.nat m/\QuitsD P m (Deaf t i) g
 above:∀ i,Y.base+j<=i->Deaf t i=0
 wk:∀ x,x<j->∃ g,n[Y.base+x]?=some g/\WS P ty Y N val l c x (A x) (D x).stage (K (Y.base+x)) (D x).deaf g w
 tl:TL Y l c t j w.heap.size
 norel:nv t
 deaf0:Deaf t 0=p
 deafW:∀ x,x<j->Deaf t (Y.base+x)=(D x).deaf
 rel:∀ x,x<j->(D x).stage<=6->∃ r,RelBy (stA Y.Wg) t (Y.base+x) r
 sh:∀ x,x<j->A x=0->∀ i,1<=i->i<Y.kc->w.cell? ⟨Y.C,Y.kc*x+i,none⟩=some (val x i)
 wc:∀ x,x<j->(D x).stage<=6->Has Y.C (Y.kc*x) (val x 0) w
 pay:PayAt Y.C N w
 live:WgLive ty Y.Wg w
 uL:Y.Wg<w.heap.size
 we:Y.C<w.heap.size
 Gy:∀ b,Y.Sh b->b<w.heap.size
 kc:0<Y.kc
 Hd:∀ y,y<j->∀ b o v,c y b o=some v->b<w.heap.size
end
section
variable {P:Program}{ty:TypeId}{Y:Lay}{N:Nat}{val:Nat->Nat->Value}{l hm':Nat->Nat}{c:Nat->Mem}{j x:Nat}{n:Array Goroutine}{w w':World}{t:Trace}{D:Nat->WD}{A:Nat->Nat}{K:Nat->Rk}{p:Nat}
theorem RW.DG(k:Bl Y l (c x) x w w')(hl:WgLive ty Y.Wg w')(d:PayAt Y.C N w')(e:0<Y.kc):RW ty Y.Wg Y.C N 0 (Y.kc*x+1-1) w w' :=
 ⟨λb a=>absurd a (fQ b),λ_=>hl,λ_=>d,k.pay _ (ar _) (by simp;omega)⟩
theorem WS.DG{a st d:Nat}{r:Rk}{g:Goroutine}(h:WS P ty Y N val l c x a st r d g w)(k:Bl Y l (c x) x w w')(hl:WgLive ty Y.Wg w')(i:PayAt Y.C N w')(e:0<Y.kc)(hh:∀ b,b<w.heap.size->hm' b=l b) :
  WS P ty Y N val hm' c x a st r d g w':=by
 cases h with
 |am h1 h2 h3=>exact .am h1 (h3.DG h2 k) (h3.ov h2.size hh)
 |rel h1=>exact .rel (Goes.rely (λ_ _ _ h1 h2=>h1.trans h2) h1 (RW.DG k hl i e))
 |tail h0 h1=>exact .tail h0 (h1.rely (RW.DG k hl i e))
omit [Payload] in
theorem gM.run{X:Cx P}{E:St->St->Array Event->Prop}{S:Goroutine->St->Prop}(q:∀ g s,S g s->g.status=.running):∀ {r:Rk}{g:Goroutine}{s:St},gM X E S r g s->g.status=.running
 |.leaf,_,_,h=>q _ _ h
 |.node f,g,s,h=>by
  rcases h with h|⟨s',_,h⟩|⟨h,_⟩
  ·exact q _ _ h
  ·exact gM.run q (r:=f s) h
  ·exact h
theorem WS.status{a st d:Nat}{r:Rk}{g:Goroutine}(h:WS P ty Y N val l c x a st r d g w):g.status=.running∨g.status=.finished:=by
 cases h with
 |am h1 _ _=>exact .inl (h1.run λg s h=>h.1)
 |rel h1=>exact .inl (Goes.running (λ_ _ x=>x.1) w (Go.ConcN.RW.refl w) h1)
 |tail _ h1=>exact h1.status
theorem WS.woken{a st d:Nat}{r:Rk}{g:Goroutine}(h:WS P ty Y N val l c x a st r d g w)(b e:Goroutine)(w':World):woken P b e w' g=g:=by
 unfold Go.Conc.woken;split
 ·exact again_running _ h.status
 ·rfl
theorem Com.at(h:Com P ty Y N val l c j n w t D A K p)(d:Nat):Com P ty Y N val l c j n (w.at d) t D A K p :=
 ⟨h.size,h.lv,h.above,λx a=>let ⟨g,h1,h2⟩:=h.wk x a;⟨g,h1,h2.DG (.at ..) h.live h.pay h.kc λ_ _=>rfl⟩,h.tl,h.norel,h.deaf0,h.deafW,h.rel,h.sh,h.wc,h.pay,h.live,h.uL,h.we,h.Gy,h.kc,h.Hd⟩
theorem Com.stepW(h:Com P ty Y N val l c j n w t D A K p)(hx:x<j){g g':Goroutine}{fn:FuncId}{pos:String}{es:Array Event}{a' js d':Nat}{r':Rk}
  (hh:∀ b,b<w.heap.size->hm' b=l b) (B:w.heap.size<=w'.heap.size) (u:∀ y,y<j->y≠x->Bl Y l (c y) y w w')
  (V:WS P ty Y N val hm' c x a' js r' d' g' w') (T:∀ e∈es,(MemAct.ofEvent e).low w'.heap.size) (MO:∀ e∈es,∀ a,(MemAct.ofEvent e).touch?=some a->a.loc.isMemory=true->mI Y hm' (c x) x a)
  (J1:∀ e∈es,∀ a,e.loc≠.mark (.release a)) (J:deafBehind (D x).deaf es=d')
  (M:js<=6->∃ r,RelBy (stA Y.Wg) (t++MemOp.ofEvents (Y.base+x) fn pos es) (Y.base+x) r)
  (h1:a'=0->∀ i,1<=i->i<Y.kc->w'.cell? ⟨Y.C,Y.kc*x+i,none⟩=some (val x i)) (h0:js<=6->Has Y.C (Y.kc*x) (val x 0) w') (I:PayAt Y.C N w') (F:WgLive ty Y.Wg w') :
  Com P ty Y N val hm' c j ((n.map (woken P g g' w')).setIfInBounds (Y.base+x) g') w' (t++MemOp.ofEvents (Y.base+x) fn pos es) (upd D x ⟨js,0,d'⟩) (upd A x a') (upd K (Y.base+x) r') p:=by
 have hb:=h.tl.base;have G:∀ y,y≠x->Y.base+x≠Y.base+y:=λy k e=>k (by omega)
 have Gz:∀ i H,0<i->i<Y.base->((n.map (Go.Conc.woken P g g' w')).setIfInBounds (Y.base+x) g')[i]?=some H->n[i]?=some H:=by
  intro i H hi I1 Ae;rw[get_map_set _ _ _ _ (by omega)] at Ae
  obtain⟨z,hz,rfl⟩:=mS.1 Ae;obtain⟨m,_,hq⟩:=h.lv i z hi I1 hz;rw[woken_quitsD hq];exact hz
 refine⟨by simp[h.size],λi H hi I1 Ae=>?_,λi hi=>?_,λy k=>?_,?_,h.norel.app J1,by rw[Deaf_other t (by omega) _ g_of_ofEvents,h.deaf0],λy k=>?_,λy k d=>?_,λy k L i R O=>?_,λy k d=>?_,I,F,bm h.uL B,bm h.we B,λb hb=>bm (h.Gy b hb) B,h.kc,λy k b o v Z=>bm (h.Hd y k b o v Z) B⟩
 ·obtain⟨m,L9,J2⟩:=h.lv i H hi I1 (Gz i H hi I1 Ae);refine⟨m,by rw[upd_ne K _ (by omega)];exact L9,?_⟩
  rw[Deaf_other t (by omega) _ g_of_ofEvents];exact J2
 ·rw[Deaf_other t (by omega) _ g_of_ofEvents];exact h.above i hi
 ·by_cases e:y=x
  ·subst e;exact⟨g',get_map_set_same _ _ _ (by rw[h.size];omega),by rw[upd_same,upd_same,upd_same];exact V⟩
  ·obtain⟨H,Ae,Q⟩:=h.wk y k;refine⟨H,by rw[get_map_set _ _ _ _ (G y e),Ae,gG,Q.woken],?_⟩
   rw[upd_ne A _ e,upd_ne D _ e,upd_ne K _ (G y e).symm];exact Q.DG (u y k e) F I h.kc hh
 ·refine(h.tl.ov hh B h.uL h.we h.Gy λy k b o v Z=>?_).appW hx (λop eH=>by obtain⟨e,_,rfl⟩:=Go.Conc.mem_ofEvents eH;rfl) (λop eH=>?_) (λop eH a L U=>?_)
  ·exact h.Hd y k b o v Z
  ·obtain⟨e,W,rfl⟩:=Go.Conc.mem_ofEvents eH;exact T e W
  ·obtain⟨e,W,rfl⟩:=Go.Conc.mem_ofEvents eH;exact MO e W a L U
 ·by_cases e:y=x
  ·subst e;rw[Deaf_own,h.deafW y k,upd_same];exact J
  ·rw[Deaf_other t (G y e) _ g_of_ofEvents,h.deafW y k,upd_ne D _ e]
 ·by_cases e:y=x
  ·subst e;rw[upd_same] at d;exact M d
  ·rw[upd_ne D _ e] at d;obtain⟨r,hr⟩:=h.rel y k d;exact⟨r,hr.appOther g_of_ofEvents (G y e)⟩
 ·by_cases e:y=x
  ·subst e;rw[upd_same] at L;exact h1 L i R O
  ·rw[upd_ne A _ e] at L;rw[(u y k e).pay _ (by omega) (by omega)]
   exact h.sh y k L i R O
 ·by_cases e:y=x
  ·subst e;rw[upd_same] at d;exact h0 d
  ·rw[upd_ne D _ e] at d;have:=h.wc y k d;have hk:=h.kc;simp only[Has] at this ⊢;rw[(u y k e).pay _ (by omega) (by omega)]
   exact this
theorem Com.step0(h:Com P ty Y N val l c j n w t D A K p){g g':Goroutine}{fn:FuncId}{pos:String}{es:Array Event}
  (hh:∀ b,b<w.heap.size->hm' b=l b) (u:w.heap.size<=w'.heap.size) (k:∀ y,y<j->Bl Y l (c y) y w w')
  (L:∀ e∈es,(MemAct.ofEvent e).low w'.heap.size) (U:∀ e∈es,∀ a,(MemAct.ofEvent e).touch?=some a->a.loc.isMemory=true->nO Y hm' a)
  (W:∀ e∈es,∀ a,(MemAct.ofEvent e).touch?=some a->a.kind=.plain->a.write=true->∀ x,x<j->∀ b o v,a.loc=.cell ⟨b,o,none⟩->c x b o≠some v)
  (V:∀ e∈es,∀ a,e.loc≠.mark (.release a)) (F:PayAt Y.C N w') (B:WgLive ty Y.Wg w') :
  Com P ty Y N val hm' c j ((n.map (woken P g g' w')).setIfInBounds 0 g') w' (t++MemOp.ofEvents 0 fn pos es) D A K (deafBehind p es):=by
 have Z:=h.tl.base;have hk:=h.kc;refine⟨by simp[h.size],λi g0 hi I1 Ae=>?_,λi hi=>?_,λy d=>?_,?_,h.norel.app V,by rw[Deaf_own,h.deaf0],λy d=>by rw[Deaf_other t (by omega) _ g_of_ofEvents,h.deafW y d],λy d G=>?_,λy d M i T R=>?_,λy d G=>?_,F,B,bm h.uL u,bm h.we u,λb Z=>bm (h.Gy b Z) u,h.kc,λy d b o v hv=>bm (h.Hd y d b o v hv) u⟩
 ·rw[get_map_set _ _ _ _ (by omega)] at Ae
  obtain⟨z,hz,rfl⟩:=mS.1 Ae;obtain⟨m,Q,I⟩:=h.lv i z hi I1 hz;exact⟨m,Q,by rw[woken_quitsD I,Deaf_other t (by omega) _ g_of_ofEvents];exact I⟩
 ·rw[Deaf_other t (by omega) _ g_of_ofEvents];exact h.above i hi
 ·obtain⟨g0,Ae,J⟩:=h.wk y d;exact⟨g0,by rw[get_map_set _ _ _ _ (by omega),Ae,gG,J.woken],J.DG (k y d) B F h.kc hh⟩
 ·refine(h.tl.ov hh u h.uL h.we h.Gy h.Hd).app0 (λop eH=>by obtain⟨e,_,rfl⟩:=Go.Conc.mem_ofEvents eH;rfl) (λop eH=>?_) (λop eH a M O=>?_) (λop eH a M=>?_)
  ·obtain⟨e,H,rfl⟩:=Go.Conc.mem_ofEvents eH;exact L e H
  ·obtain⟨e,H,rfl⟩:=Go.Conc.mem_ofEvents eH;exact U e H a M O
  ·obtain⟨e,H,rfl⟩:=Go.Conc.mem_ofEvents eH;exact W e H a M
 ·obtain⟨r,hr⟩:=h.rel y d G;exact⟨r,hr.appOther g_of_ofEvents (by omega)⟩
 ·rw[(k y d).pay _ (by omega) (by omega)]
  exact h.sh y d M i T R
 ·have:=h.wc y d G;simp only[Has] at this ⊢;rw[(k y d).pay _ (by omega) (by omega)]
  exact this
theorem Com.leave(h:Com P ty Y N val l c j n w t D A K p){i m:Nat}(hi:0<i)(Q:i<Y.base){g g':Goroutine}{fn:FuncId}{pos:String}{es:Array Event}
  (d:∀ e∈es,e.mute=true) (R:QuitsD P m (deafBehind (Deaf t i) es) g') :
  Com P ty Y N val l c j ((n.map (woken P g g' w)).setIfInBounds i g') w (t++MemOp.ofEvents i fn pos es) D A (upd K i (Rk.nat m)) p:=by
 have T:=h.tl.base;have H:∀ e∈es,∀ a,e.loc≠.mark (.release a):=λe B a=>qt (d e B) a
 refine⟨by simp[h.size],λk J I G b=>?_,λk I=>?_,λy v=>?_,?_,h.norel.app H,by rw[Deaf_other t (by omega) _ g_of_ofEvents,h.deaf0],λy v=>by rw[Deaf_other t (by omega) _ g_of_ofEvents,h.deafW y v],λy v C=>?_,h.sh,h.wc,h.pay,h.live,h.uL,h.we,h.Gy,h.kc,h.Hd⟩
 ·by_cases e:k=i
  ·subst e;rw[get_map_set_same _ _ _ (by rw[h.size];omega)] at b
   cases b;exact⟨m,by rw[upd_same],by rw[Deaf_own];exact R⟩
  ·rw[get_map_set _ _ _ _ (Ne.symm e)] at b;obtain⟨z,M,rfl⟩:=mS.1 b;obtain⟨L,F,u⟩:=h.lv k z I G M;exact⟨L,by rw[upd_ne K _ e];exact F,by rw[woken_quitsD u,Deaf_other t (Ne.symm e) _ g_of_ofEvents];exact u⟩
 ·rw[Deaf_other t (by omega) _ g_of_ofEvents];exact h.above k I
 ·obtain⟨J,b,o⟩:=h.wk y v;exact⟨J,by rw[get_map_set _ _ _ _ (by omega),b,gG,o.woken],by rw[upd_ne K _ (by omega)];exact o⟩
 ·exact h.tl.mute (g:=i) (λop eH=>by obtain⟨e,_,rfl⟩:=Go.Conc.mem_ofEvents eH;rfl) (λop eH=>by obtain⟨e,B,rfl⟩:=Go.Conc.mem_ofEvents eH;exact low_mute (d e B) _) (λop eH=>by obtain⟨e,B,rfl⟩:=Go.Conc.mem_ofEvents eH;exact touch_mute (d e B))
 ·obtain⟨r,O⟩:=h.rel y v C;exact⟨r,O.appOther g_of_ofEvents (by omega)⟩
theorem Com.spawn(h:Com P ty Y N val l c j n w t D A K 0){a' child:Goroutine}{x y:MemOp}{r:Rk}{s:St}(G:x.g=0/\x.act=.go (Y.base+j))(H:y.g=Y.base+j/\y.act=.start)
  (M:∀ b o v,c j b o=some v->l b=0/\b≠Y.C/\b≠Y.Wg/\¬Y.Sh b/\b<w.heap.size)
  (O:gM (Cx.work P) E0 (DF P ty Y N val j) r child s) (J:aX s { s with w:=w }) (T:jc l (c j) (Y.base+j) s) :
  Com P ty Y N val l c (j+1) ((n.setIfInBounds 0 a').push child) w (t++#[x,y]) (upd D j ⟨7,0,0⟩) (upd A j 1) (upd K (Y.base+j) r) 0:=by
 have U:=h.tl.base;have u:∀ op∈#[x,y],op=x∨op=y:=by intro op eH;simpa using eH
 have d:∀ op∈#[x,y],op.act≠.mark .disable/\op.act≠.mark .enable:=by
  intro op eH;rcases u op eH with rfl|rfl
  ·rw[G.2];exact⟨by simp,by simp⟩
  ·rw[H.2];exact⟨by simp,by simp⟩
 have k:∀ i,0<i->i<Y.base+j->((n.setIfInBounds 0 a').push child)[i]?=n[i]?:=λi hi oR=>by
  rw[nb (by simp[h.size];omega),<-bJ,ic (by omega)]
 refine⟨by simp[h.size];omega,λi g hi I1 hg=>?_,λi hi=>?_,λz B=>?_,h.tl.fork G H h.deaf0 (h.above _ (ar _)) λb o v F=>let ⟨h1,h2,R,Q,_⟩:=M b o v F;⟨h1,h2,R,Q⟩,λad=>(h.norel ad).app λop eH=>?_,by rw[Deaf_still t 0 _ d,h.deaf0],λz B=>?_,λz B e=>?_,λz B I=>?_,λz B e=>?_,h.pay,h.live,h.uL,h.we,h.Gy,h.kc,λz B b o v F=>?_⟩
 ·rw[k i hi (by omega)] at hg
  obtain⟨m,h1,h2⟩:=h.lv i g hi I1 hg;exact⟨m,by rw[upd_ne K _ (by omega)];exact h1,by rw[Deaf_still t _ _ d];exact h2⟩
 ·rw[Deaf_still t _ _ d];exact h.above i (by omega)
 ·rcases bC z j with oR|a
  ·obtain⟨g,hg,L⟩:=h.wk z oR;exact⟨g,by rw[k _ (by omega) (by omega)];exact hg,by rw[upd_ne D _ (by omega),upd_ne A _ (by omega),upd_ne K _ (by omega)];exact L⟩
  ·obtain rfl:z=j:=by omega
   refine⟨child,?_,by rw[upd_same,upd_same,upd_same];exact .am O J T⟩
   rw[show Y.base+z=(n.setIfInBounds 0 a').size by simp[h.size],Array.getElem?_push_size]
 ·rcases u op eH with rfl|rfl
  ·rw[G.2];simp
  ·rw[H.2];simp
 ·rw[Deaf_still t _ _ d];rcases bC z j with oR|a
  ·rw[h.deafW z oR,upd_ne D _ (by omega)]
  ·obtain rfl:z=j:=by omega
   rw[upd_same];exact h.above _ (ar _)
 ·rcases bC z j with oR|a
  ·rw[upd_ne D _ (by omega)] at e
   obtain⟨r,J⟩:=h.rel z oR e;refine⟨r,J.appNot λop eH=>?_⟩
   rcases u op eH with rfl|rfl
   ·rw[G.1];omega
   ·rw[H.1];omega
  ·obtain rfl:z=j:=by omega
   rw[upd_same] at e;simp at e
 ·rcases bC z j with oR|a
  ·rw[upd_ne A _ (by omega)] at I
   exact h.sh z oR I
  ·obtain rfl:z=j:=by omega
   rw[upd_same] at I;simp at I
 ·rcases bC z j with oR|a
  ·rw[upd_ne D _ (by omega)] at e
   exact h.wc z oR e
  ·obtain rfl:z=j:=by omega
   rw[upd_same] at e;simp at e
 ·rcases bC z j with oR|a
  ·exact h.Hd z oR b o v F
  ·obtain rfl:z=j:=by omega
   exact(M b o v F).2.2.2.2
end
end Go.AM
namespace Go.AM
open Go.Conc
open Go.ConcN (WD CTag Mode Vc Ssum pend phi cnt WgLive PayAt Has RW DWs WSit RelBy sumTo upd upd_same upd_ne AtR0)
open Go.ConcR (KK WgAt stA smA rd wr mk Payload g_of_ofEvents again_blocked)
variable [Payload]
section
variable (P:Program)(ty:TypeId)(Y:Lay)(N:Nat)(val:Nat->Nat->Value)(n:Nat)(T l:Goroutine->St->Prop)
def AtAcq(g:Goroutine)(s:St):Prop:=g.status=.running/\∃ g',(∀ w,stepG P true g w=.go g' w #[mk (.acquire (stA Y.Wg))])/\∀ c,(Cx.lead P ty Y.Wg).rely s c->T g' c
def AtKe(g:Goroutine)(s:St):Prop:=g.status=.running/\∃ g',(∀ w,stepG P true g w=.go g' w #[mk .enable])/\∀ c,(Cx.lead P ty Y.Wg).rely s c->(cB (Cx.lead P ty Y.Wg) (Es Y.Wg)) (AtAcq P ty Y T) g' c
def AtW4(g:Goroutine)(s:St):Prop:=g.status=.running/\∀ c,(Cx.lead P ty Y.Wg).rely s c->WgAt ty Y.Wg c.w 0 0->∃ g',stepG P true g c.w=.go g' c.w #[rd (stA Y.Wg)]/\(cB (Cx.lead P ty Y.Wg) (Es Y.Wg)) (AtKe P ty Y T) g' c
def AtW3(g:Goroutine)(s:St):Prop:=g.status=.running/\g.offers=none/\∀ c,(Cx.lead P ty Y.Wg).rely s c ->
 ((∃ st,WgAt ty Y.Wg c.w st 0)->stepG P true g c.w=.go { g with status:=.blocked } c.w #[]) /\
 (WgAt ty Y.Wg c.w 0 1->∃ g',stepG P true g c.w=.go g' (c.w.setCell (smA Y.Wg) (.int .u32 0)) (semEvents (smA Y.Wg))/\(cB (Cx.lead P ty Y.Wg) (Es Y.Wg)) (AtW4 P ty Y T) g' { c with w:=c.w.setCell (smA Y.Wg) (.int .u32 0) })
def AtW2(vs:Nat)(g:Goroutine)(s:St):Prop:=g.status=.running/\∀ c,(Cx.lead P ty Y.Wg).rely s c->∀ v:Nat,v<2147483648->WgAt ty Y.Wg c.w (v*KK) 0 ->
 (v=vs->∃ g',stepG P true g c.w=.go g' (c.w.setCell (stA Y.Wg) (.int .u64 (v*KK+1))) #[rd (stA Y.Wg),wr (stA Y.Wg)]/\(cB (Cx.lead P ty Y.Wg) (Es Y.Wg)) (AtW3 P ty Y T) g' { c with w:=c.w.setCell (stA Y.Wg) (.int .u64 (v*KK+1)) }) /\
 (v≠vs->∃ g',stepG P true g c.w=.go g' c.w #[rd (stA Y.Wg)]/\l g' c)
def AtW1(g:Goroutine)(s:St):Prop:=g.status=.running/\∀ c,(Cx.lead P ty Y.Wg).rely s c->∀ v:Nat,v<2147483648->WgAt ty Y.Wg c.w (v*KK) 0 ->
 ∃ g',stepG P true g c.w=.go g' c.w #[rd (stA Y.Wg)]/\(v=0->(cB (Cx.lead P ty Y.Wg) (Es Y.Wg)) (AtKe P ty Y T) g' c)/\(v≠0->(cB (Cx.lead P ty Y.Wg) (Es Y.Wg)) (AtW2 P ty Y T l v) g' c)
def AtKd(g:Goroutine)(s:St):Prop:=g.status=.running/\∃ g',(∀ w,stepG P true g w=.go g' w #[mk .disable])/\∀ c,(Cx.lead P ty Y.Wg).rely s c->l g' c
def St.child(s:St):St:={ β:=[],M:=s.M,w:=s.w,own:=λ_=>False }
def AtGo(j:Nat)(Next:Goroutine->St->Prop)(g:Goroutine)(s:St):Prop:=g.status=.running/\∀ c,(Cx.lead P ty Y.Wg).rely s c ->
 ∃ g' child,stepG P true g c.w=.spawn g' child c.w #[]/\child.status=.running/\cB (Cx.work P) E0 (DF P ty Y N val j) child c.child/\Next g' c
def AtKeS(j:Nat)(Next:Goroutine->St->Prop)(g:Goroutine)(s:St):Prop:=g.status=.running/\∃ g',(∀ w,stepG P true g w=.go g' w #[mk .enable])/\∀ c,(Cx.lead P ty Y.Wg).rely s c->(cB (Cx.lead P ty Y.Wg) (Es Y.Wg)) (AtGo P ty Y N val j Next) g' c
def AtA1(j:Nat)(Next:Goroutine->St->Prop)(g:Goroutine)(s:St):Prop:=g.status=.running/\∀ c,(Cx.lead P ty Y.Wg).rely s c->∀ v:Nat,v<2147483647->WgAt ty Y.Wg c.w (v*KK) 0 ->
 ∃ g',stepG P true g c.w=.go g' (c.w.setCell (stA Y.Wg) (.int .u64 ((v+1)*KK))) #[rd (stA Y.Wg),wr (stA Y.Wg)]/\(cB (Cx.lead P ty Y.Wg) (Es Y.Wg)) (AtKeS P ty Y N val j Next) g' { c with w:=c.w.setCell (stA Y.Wg) (.int .u64 ((v+1)*KK)) }
def AtKdS(j:Nat)(Next:Goroutine->St->Prop)(g:Goroutine)(s:St):Prop:=g.status=.running/\∃ g',(∀ w,stepG P true g w=.go g' w #[mk .disable])/\∀ c,(Cx.lead P ty Y.Wg).rely s c->(cB (Cx.lead P ty Y.Wg) (Es Y.Wg)) (AtA1 P ty Y N val j Next) g' c
def Spawns:Nat->Goroutine->St->Prop
 |0,g,s=>(cB (Cx.lead P ty Y.Wg) (Es Y.Wg)) (AtKd P ty Y l) g s
 |r+1,g,s=>(cB (Cx.lead P ty Y.Wg) (Es Y.Wg)) (AtKdS P ty Y N val (n-(r+1)) (Spawns r)) g s
def Rk.lift:Rk->Rk
 |.leaf=>.node λ_=>.leaf
 |.node f=>.node λs=>Rk.lift (f s)
omit [Payload] in
theorem Rk.Af:∀ {x r:Rk},Rk.lt x r->Rk.lt x.lift r.lift
 |_,.leaf,h=>h.elim
 |_,.node _,⟨s,h⟩=>⟨s,h.elim (λe=>.inl (by rw[e])) λh=>.inr (Rk.Af h)⟩
omit [Payload] in
theorem Rk.DH(s:St):∀ r:Rk,∃ x,Rk.lt x r.lift
 |.leaf=>⟨.leaf,s,.inl rfl⟩
 |.node f=>⟨(f s).lift,s,.inl rfl⟩
inductive CS:CTag->Nat->Rk->Nat->Goroutine->St->Prop
 |skd {r:Nat} {rk:Rk} {g:Goroutine} {s:St}:r<n->(gM (Cx.lead P ty Y.Wg) (Es Y.Wg)) (AtKdS P ty Y N val (n-(r+1)) (Spawns P ty Y N val n l r)) rk g s->CS (.sp r 5) (n-(r+1)) rk 0 g s
 |sa1 {r:Nat} {rk:Rk} {g:Goroutine} {s:St}:r<n->(gM (Cx.lead P ty Y.Wg) (Es Y.Wg)) (AtA1 P ty Y N val (n-(r+1)) (Spawns P ty Y N val n l r)) rk g s->CS (.sp r 4) (n-(r+1)) rk 1 g s
 |ske {r:Nat} {rk:Rk} {g:Goroutine} {s:St}:r<n->(gM (Cx.lead P ty Y.Wg) (Es Y.Wg)) (AtKeS P ty Y N val (n-(r+1)) (Spawns P ty Y N val n l r)) rk g s->CS (.sp r 3) (n-(r+1)) rk 1 g s
 |sgo {r:Nat} {rk:Rk} {g:Goroutine} {s:St}:r<n->(gM (Cx.lead P ty Y.Wg) (Es Y.Wg)) (AtGo P ty Y N val (n-(r+1)) (Spawns P ty Y N val n l r)) rk g s->CS (.sp r 2) (n-(r+1)) rk 0 g s
 |kd {rk:Rk} {g:Goroutine} {s:St}:(gM (Cx.lead P ty Y.Wg) (Es Y.Wg)) (AtKd P ty Y l) rk g s->CS .kd n rk 0 g s
 |w1 {rk:Rk} {g:Goroutine} {s:St}:(gM (Cx.lead P ty Y.Wg) (Es Y.Wg)) (AtW1 P ty Y T l) rk g s->CS .w1 n rk 1 g s
 |w2 {vs:Nat} {rk:Rk} {g:Goroutine} {s:St}:(gM (Cx.lead P ty Y.Wg) (Es Y.Wg)) (AtW2 P ty Y T l vs) rk g s->CS (.w2 vs) n rk 1 g s
 |w3 {rk:Rk} {g:Goroutine} {s:St}:(gM (Cx.lead P ty Y.Wg) (Es Y.Wg)) (AtW3 P ty Y T) rk g s->CS .w3 n rk.lift 1 g s
 |blk {rk:Rk} {g:Goroutine} {s:St}:AtW3 P ty Y T g s->CS .blk n rk 1 { g with status:=.blocked } s
 |w4 {rk:Rk} {g:Goroutine} {s:St}:(gM (Cx.lead P ty Y.Wg) (Es Y.Wg)) (AtW4 P ty Y T) rk g s->CS .w4 n rk 1 g s
 |ke {rk:Rk} {g:Goroutine} {s:St}:(gM (Cx.lead P ty Y.Wg) (Es Y.Wg)) (AtKe P ty Y T) rk g s->CS .ke n rk 1 g s
 |acq {rk:Rk} {g:Goroutine} {s:St}:(gM (Cx.lead P ty Y.Wg) (Es Y.Wg)) (AtAcq P ty Y T) rk g s->CS .acq n rk 0 g s
structure Fin (p:Nat->Nat)(o:Nat->Mem)(m:Machine)(t:Trace):Prop where
 out:∃ (gs:Array Goroutine) (w:World) (sl:Option (Nat×Nat)) (a:Goroutine) (s:St) (q:Nat->Nat),m=crowd gs w sl/\gs[0]?=some a/\gs.size=Y.base+n/\T a { s with w:=w }/\aX s { s with w:=w }/\gi Y p o n s /\
  Leavers P t gs q/\Past (iU λb=>Y.Sh b∨b=Y.Wg) w.heap.size t/\nv t/\PayAt Y.C N w/\(∀ x,x<n->∀ i,i<Y.kc->w.cell? ⟨Y.C,Y.kc*x+i,none⟩=some (val x i))/\Y.C<w.heap.size/\Y.Wg<w.heap.size/\∀ b,Y.Sh b->b<w.heap.size
abbrev Mu:=Nat×((Nat->Rk)×Rk)
def Ag(M:Nat):Mu->Mu->Prop:=Prod.Lex (· < ·) (Prod.Lex (Vec M) Rk.lt)
omit [Payload] in
theorem J3(M:Nat):WellFounded (Ag M):=(Prod.lex Nat.lt_wfRel ⟨_,(Prod.lex ⟨Vec M,DD M⟩ ⟨Rk.lt,⟨Rk.acc⟩⟩).wf⟩).wf
structure ox (μ:Mu)(gs:Array Goroutine)(w:World)(t:Trace)(p:Nat->Nat)(o:Nat->Mem)(j:Nat)(D:Nat->WD)(A:Nat->Nat)(K:Nat->Rk)(d0:Nat)(tag:CTag)(rk:Rk)(a:Goroutine)(s:St) (st sm:Int):Prop where
 a0:gs[0]?=some a
 cs:CS P ty Y N val n T l tag j rk d0 a s
 rely:aX s { s with w:=w }
 lead:gi Y p o j s
 dV:Com P ty Y N val p o j gs w t D A K d0
 wg:WgAt ty Y.Wg w st sm
 mode:Go.ConcN.Mode j D tag st sm
 mu:μ=(phi n (Vc j D) tag+Ssum j D+sumTo j A,(K,rk))
def Inv(i:Mu)(m:Machine)(t:Trace):Prop :=
 ∃ (b:Array Goroutine) (w:World) (sl:Option (Nat×Nat)) (p:Nat->Nat) (o:Nat->Mem) (j:Nat) (D:Nat->WD) (A:Nat->Nat) (K:Nat->Rk) (k:Nat) (tag:CTag) (rk:Rk) (a:Goroutine) (s:St) (st sm:Int),
  m=crowd b w sl/\ox P ty Y N val n T l i b w t p o j D A K k tag rk a s st sm
end
section
variable {P:Program}{ty:TypeId}{Y:Lay}{N:Nat}{val:Nat->Nat->Value}{n:Nat}{T l:Goroutine->St->Prop}{p hm':Nat->Nat}{o:Nat->Mem}{j:Nat}{tag:CTag}{rk:Rk}{d:Nat}{a:Goroutine}{s:St}{w w':World}
omit [Payload] in
theorem dA{s:St}(h:aX s { s with w:=w })(B:WgLive ty Y.Wg w):(Cx.lead P ty Y.Wg).rely s { s with w:=w }:=⟨h,λ_=>B⟩
omit [Payload] in
theorem AtW3.rely{g:Goroutine}{c:St}(h:AtW3 P ty Y T g s)(z:(Cx.lead P ty Y.Wg).rely s c):AtW3 P ty Y T g c :=
 ⟨h.1,h.2.1,λs2 u=>h.2.2 s2 ⟨z.1.trans u.1,λx=>u.2 (z.2 x)⟩⟩
theorem CS.status(h:CS P ty Y N val n T l tag j rk d a s):(a.status=.running/\tag≠.blk)∨(a.status=.blocked/\tag=.blk):=by
 cases h with
 |skd _ h=>exact .inl ⟨h.run λ_ _ x=>x.1,by simp⟩
 |sa1 _ h=>exact .inl ⟨h.run λ_ _ x=>x.1,by simp⟩
 |ske _ h=>exact .inl ⟨h.run λ_ _ x=>x.1,by simp⟩
 |sgo _ h=>exact .inl ⟨h.run λ_ _ x=>x.1,by simp⟩
 |kd h=>exact .inl ⟨h.run λ_ _ x=>x.1,by simp⟩
 |w1 h=>exact .inl ⟨h.run λ_ _ x=>x.1,by simp⟩
 |w2 h=>exact .inl ⟨h.run λ_ _ x=>x.1,by simp⟩
 |w3 h=>exact .inl ⟨h.run λ_ _ x=>x.1,by simp⟩
 |blk h=>exact .inr ⟨rfl,rfl⟩
 |w4 h=>exact .inl ⟨h.run λ_ _ x=>x.1,by simp⟩
 |ke h=>exact .inl ⟨h.run λ_ _ x=>x.1,by simp⟩
 |acq h=>exact .inl ⟨h.run λ_ _ x=>x.1,by simp⟩
theorem CS.wokenBy(h:CS P ty Y N val n T l tag j rk d a s)(g g':Goroutine)(w':World) :
  ∃ tag' rk',CS P ty Y N val n T l tag' j rk' d (woken P g g' w' a) s/\(tag'=tag∨(tag=.blk/\tag'=.w3))/\(mayWake P g=true->g'.status=.running->tag'≠.blk):=by
 unfold Go.Conc.woken;split
 ·rcases h.status with⟨i,b⟩|⟨_,rfl⟩
  ·exact⟨tag,rk,by rw[again_running _ (.inl i)];exact h,.inl rfl,λ_ _=>b⟩
  ·cases h with
   |blk hb=>exact⟨.w3,Rk.lift .leaf,by rw[again_blocked hb.1 hb.2.1];exact .w3 (show gM _ _ _ .leaf _ _ from hb),.inr ⟨rfl,rfl⟩,λ_ _=>by simp⟩
 ·rename_i k
  exact⟨tag,rk,h,.inl rfl,λh1 u=>absurd (by simp[h1,u]) k⟩
theorem hX{μ:Mu}{gs:Array Goroutine}{sl:Option (Nat×Nat)}{t:Trace}{D:Nat->WD}{A:Nat->Nat}{K:Nat->Rk}{st sm:Int}(I:ox P ty Y N val n T l μ gs w t p o j D A K d tag rk a s st sm)
  {x:Nat} (W:x<j) {g g':Goroutine} {es:Array Event} {a' s' d':Nat} {r':Rk} {G J:Int} (hg:gs[Y.base+x]?=some g) (hgo:stepG P false g w=.go g' w' es)
  (hh:∀ b,b<w.heap.size->hm' b=p b) (IH:w.heap.size<=w'.heap.size) (L:∀ y,y<j->y≠x->Bl Y p (o y) y w w') (F:yn Y p w w')
  (X:WS P ty Y N val hm' o x a' s' r' d' g' w') (R:∀ e∈es,(MemAct.ofEvent e).low w'.heap.size) (MO:∀ e∈es,∀ a,(MemAct.ofEvent e).touch?=some a->a.loc.isMemory=true->mI Y hm' (o x) x a)
  (J1:∀ e∈es,∀ a,e.loc≠.mark (.release a)) (H:deafBehind (D x).deaf es=d')
  (O:s'<=6->∃ r,RelBy (stA Y.Wg) (t++MemOp.ofEvents (Y.base+x) g.frame.fn g.frame.place es) (Y.base+x) r)
  (h1:a'=0->∀ i,1<=i->i<Y.kc->w'.cell? ⟨Y.C,Y.kc*x+i,none⟩=some (val x i)) (h0:s'<=6->Has Y.C (Y.kc*x) (val x 0) w') (V:PayAt Y.C N w') (Q:WgAt ty Y.Wg w' G J)
  (E:∀ tag',(tag'=tag∨(tag=.blk/\tag'=.w3))->(mayWake P g=true->g'.status=.running->tag'≠.blk)->Go.ConcN.Mode j (upd D x ⟨s',0,d'⟩) tag' G J)
  (oR:(s'+a'<(D x).stage+A x/\cnt ⟨s',0,d'⟩<=cnt (D x))∨(s'=(D x).stage/\a'=A x/\Rk.lt r' (K (Y.base+x)))) (Om:Y.base+j<=Y.base+n) :
  ∃ m ops μ',runT P (crowd gs w sl) (Y.base+x)=(.next m,ops)/\Ag (Y.base+n) μ' μ/\Inv P ty Y N val n T l μ' m (t++ops):=by
 have hb:=I.dV.tl.base;obtain⟨tag',rk',U,q,Z⟩:=I.cs.wokenBy g g' w';have O0:(Y.base+x==0)=false:=by simp;omega
 have S:=runT_crowd_go (P:=P) (sl:=sl) (i:=Y.base+x) hg (by rw[O0];exact hgo)
 have e1:=Go.ConcN.sumTo_upd D (⟨s',0,d'⟩:WD) cnt W;have e2:=Go.ConcN.sumTo_upd D (⟨s',0,d'⟩:WD) WD.stage W;have e3:sumTo j (upd A x a')+A x=sumTo j A+a':=Go.ConcN.sumTo_upd A a' id W;refine⟨_,_,(phi n (Vc j (upd D x ⟨s',0,d'⟩)) tag'+Ssum j (upd D x ⟨s',0,d'⟩)+sumTo j (upd A x a'),(upd K (Y.base+x) r',rk')),S,?_,
  _,w',sl,hm',o,j,_,_,_,d,tag',rk',woken P g g' w' a,s,G,J,rfl,⟨by rw[Go.ConcN.get_map_set _ _ _ _ (by omega),I.a0];rfl,U,I.lead.DG I.rely F,I.lead.ov I.rely.size hh,
   I.dV.stepW W hh IH L X R MO J1 H O h1 h0 V ⟨_,_,Q⟩,Q,E tag' q Z,rfl⟩⟩
 rw[I.mu,Go.ConcN.phi_retag n _ q];simp only[Vc,Ssum] at *;rcases oR with⟨q1,q2⟩|⟨q1,q2,q3⟩
 ·refine Prod.Lex.left _ _ ?_;have:=Go.ConcN.phi_mono n (v':=sumTo j λa=>cnt (upd D x ⟨s',0,d'⟩ a)) (v:=sumTo j λa=>cnt (D a)) (by omega) tag
  omega
 ·have ec:cnt (⟨s',0,d'⟩:WD)=cnt (D x):=by simp only[cnt,q1]
  have ev:(sumTo j λa=>cnt (upd D x ⟨s',0,d'⟩ a))=sumTo j λa=>cnt (D a):=by omega
  have es':(sumTo j λa=>(upd D x ⟨s',0,d'⟩ a).stage)=sumTo j λa=>(D a).stage:=by omega
  have ea:sumTo j (upd A x a')=sumTo j A:=by omega
  rw[ev,es',ea];exact Prod.Lex.right _ (Prod.Lex.left _ _ ⟨Y.base+x,by omega,by rw[upd_same];exact q3,λk hk=>upd_ne K _ hk⟩)
end
end Go.AM
namespace Go.AM
open Go.Conc
open Go.ConcN (WD CTag Vc Ssum pend phi cnt WgLive PayAt Has RW DWs WSit RelBy sumTo upd upd_same upd_ne AtR0 isW3 isOpen OpenSt deafBehind_idle bk_cell okW_none Vc_upd Vc_le le_sumTo others_uncounted)
open Go.ConcR (KK WgAt stA smA rd wr mk Payload g_of_ofEvents Bk bk_of_mute ofEvent_loc_mark ofEvent_cell)
variable [Payload]
section
variable {P:Program}{ty:TypeId}{Y:Lay}{N:Nat}{val:Nat->Nat->Value}{n:Nat}{T G:Goroutine->St->Prop}{F hm':Nat->Nat}{O:Nat->Mem}{j:Nat}{tag:CTag}{rk:Rk}{d:Nat}{a:Goroutine}{s:St}{w w':World}
omit [Payload] in
theorem Bl.wg(h:Aside Y.Wg w w')(E:F Y.Wg=0)(k:1<=Y.base)(hM:∀ b o v,O j b o=some v->b≠Y.Wg)(hC:Y.C≠Y.Wg):Bl Y F (O j) j w w' :=
 ⟨by rw[h.size];exact ar _,λb _ Ba=>h.block b (λe=>by rw[e,E] at Ba;omega),λb o v J W=>by rw[gj (h.block b (hM b o v J))];exact W,λo _ _=>gj (h.block _ hC) o,h.os,h.tape,h.output⟩
omit [Payload] in
theorem yn.wg(h:Aside Y.Wg w w'):yn Y F w w':=⟨by rw[h.size];exact ar _,λb _ _ _ z=>h.block b z,h.os,h.tape,h.output⟩
omit [Payload] in
theorem yn.refl(w:World):yn Y F w w:=⟨ar _,λ_ _ _ _ _=>rfl,rfl,rfl,rfl⟩
omit [Payload] in
theorem DI{B:Nat}{es:Array Event}(h:∀ e∈es,Bk Y.Wg e)(E:Y.Wg<B):∀ e∈es,(MemAct.ofEvent e).low B:=by
 intro e c;rcases h e c with p|p|⟨ad,wr,rfl,H⟩
 ·rw[ofEvent_loc_mark p];trivial
 ·rw[ofEvent_loc_mark p];trivial
 ·rw[ofEvent_cell];show ad.block<B;rw[H];exact E
omit [Payload] in
theorem He{x:Nat}{es:Array Event}(h:∀ e∈es,Bk Y.Wg e):∀ e∈es,∀ a,(MemAct.ofEvent e).touch?=some a->a.loc.isMemory=true->mI Y F (O x) x a:=by
 intro e c b k _;rcases h e c with p|p|⟨ad,wr,rfl,H⟩
 ·rw[ofEvent_loc_mark p] at k;cases k
 ·rw[ofEvent_loc_mark p] at k;cases k
 ·rw[ofEvent_cell] at k;simp only[MemAct.touch?,bL] at k;subst k;exact .inl ⟨ad,rfl,H,rfl⟩
omit [Payload] in
theorem wh{es:Array Event}(h:∀ e∈es,Bk Y.Wg e):∀ e∈es,∀ a,e.loc≠.mark (.release a):=by
 intro e c a S;rcases h e c with p|p|⟨ad,wr,rfl,_⟩
 ·rw[p] at S;cases S
 ·rw[p] at S;cases S
 ·cases S
omit [Payload] in
theorem Hf{x:Nat}{σ σ':List ak}{s2:St}{es:Array Event}(U:jc F (O x) (Y.base+x) s)(V:ag σ s)(R:eW s es)(st:Step σ s σ' s2) :
  (∀ e∈es,(MemAct.ofEvent e).low s2.w.heap.size)/\(∀ e∈es,∀ a,(MemAct.ofEvent e).touch?=some a->a.loc.isMemory=true->mI Y (kx F s.w.heap.size (Y.base+x)) (O x) x a) /\
  (∀ e∈es,e.loc≠.mark .disable/\e.loc≠.mark .enable)/\∀ e∈es,∀ a,e.loc≠.mark (.release a):=by
 have key:∀ e∈es,(MemAct.ofEvent e).low s2.w.heap.size/\(∀ a,(MemAct.ofEvent e).touch?=some a->a.loc.isMemory=true->mI Y (kx F s.w.heap.size (Y.base+x)) (O x) x a)/\(e.loc≠.mark .disable/\e.loc≠.mark .enable)/\∀ a,e.loc≠.mark (.release a):=by
  intro e c;have h:=R e c;obtain⟨loc,wr,sy⟩:=e;cases loc with
  |cell ad =>
   obtain⟨p,z,u⟩:=h;simp only at p z u;subst p;have l:ad.block<s.w.heap.size:=by
    rcases u with u|⟨⟨L,Q,u⟩,_⟩|⟨_,v,u⟩
    ·exact u.elim
    ·exact V.lt L Q _ u
    ·exact et.lt V.mem u
   refine⟨by rw[ofEvent_cell];exact bm l st.size,λb k _=>?_,⟨by simp,by simp⟩,by simp⟩
   rw[ofEvent_cell] at k;simp only[MemAct.touch?,bL] at k;subst k;refine .inr ⟨rfl,?_⟩;rcases u with u|⟨⟨L,Q,u⟩,_⟩|⟨X,v,u⟩
   ·exact u.elim
   ·exact .inl ⟨ad.block,rfl,by rw[c6 l];exact(U.blk _ (.inr ⟨L,Q,u⟩)).1⟩
   ·rcases(U.M _ _ _ u).1 with Z|Z
    ·exact .inl ⟨ad.block,rfl,by rw[c6 l];exact Z⟩
    ·refine .inr (.inr ⟨X,ad.block,ad.off,v,?_,Z⟩);obtain⟨b,o,sp⟩:=ad;simp only at z;subst z;rfl
  |obj r =>
   obtain⟨p,z⟩:=h;simp only at p z;subst p;obtain⟨L,Q,u⟩:=z.resolve_left id;have l:=V.lt L Q _ u;refine⟨?_,λb k _=>?_,⟨by simp,by simp⟩,by simp⟩
   ·simp[MemAct.ofEvent,MemAct.low,Loc.low];exact bm l st.size
   ·simp[MemAct.ofEvent,MemAct.touch?] at k;subst k;exact .inr ⟨rfl,.inl ⟨r,rfl,by rw[c6 l];exact(U.blk _ (.inr ⟨L,Q,u⟩)).1⟩⟩
  |mark m =>
   simp only[lF] at h;rcases h with rfl|⟨f,rfl⟩
   ·exact⟨by simp[MemAct.ofEvent,MemAct.low],λb k=>by simp[MemAct.ofEvent,MemAct.touch?] at k,⟨by simp,by simp⟩,by simp⟩
   ·exact⟨by simp[MemAct.ofEvent,MemAct.low],λb k=>by simp[MemAct.ofEvent,MemAct.touch?] at k,⟨by simp,by simp⟩,by simp⟩
  |_=>exact h.elim
 exact⟨λe c=>(key e c).1,λe c=>(key e c).2.1,λe c=>(key e c).2.2.1,λe c=>(key e c).2.2.2⟩
set_option maxHeartbeats 1600000 in
theorem stepWorker{μ:Mu}{gs:Array Goroutine}{sl:Option (Nat×Nat)}{t:Trace}{D:Nat->WD}{A:Nat->Nat}{K:Nat->Rk}{st sm:Int}(I:ox P ty Y N val n T G μ gs w t F O j D A K d tag rk a s st sm)(hn:n<2147483648)(hj:j<=n)
  (VQ:j+pend tag<=n) {x:Nat} (hx:x<j) {g:Goroutine} (hg:gs[Y.base+x]?=some g) (pw:g.status=.running) :
  ∃ m₁ ops μ',runT P (crowd gs w sl) (Y.base+x)=(.next m₁,ops)/\Ag (Y.base+n) μ' μ/\Inv P ty Y N val n T G μ' m₁ (t++ops):=by
 have DJ:=I.dV.tl.base;obtain⟨g₁,I2,hs⟩:=I.dV.wk x hx;obtain rfl:g=g₁:=by rw[hg] at I2;exact lD I2
 generalize Bm:(D x).stage=sg at hs;generalize PE:K (Y.base+x)=r at hs;generalize LS:(D x).deaf=dd at hs;generalize hA:A x=ax at hs;have RL:Deaf t (Y.base+x)=dd:=by rw[I.dV.deafW x hx,LS]
 have Tx:=Vc_le j D;have same:∀ m' Ah,Go.ConcN.Mode j (upd D x ⟨sg,m',Ah⟩) tag st sm:=λm' Ah=>by have:=I.mode.same (i:=x) m' Ah;rwa [Bm] at this
 cases hs with
 |@am r g s0 w p z u =>
  rcases p.norm (λs0=>aX s0 { s0 with w:=w }/\jc F (O x) (Y.base+x) s0) (λs0 s' MP hi=>⟨hi.1.ghost MP,hi.2.ghost MP⟩) (λ_ s0 s' MP hi=>⟨hi.1.forget MP,hi.2.forget MP⟩) ⟨z,u⟩ with⟨s',⟨k1,k2⟩,jd⟩|⟨_,s',⟨k1,k2⟩,gD⟩
  ·
   obtain⟨g',w2,es,hgo,E,LU,m,hk⟩:=jd.2 w k1 I.dV.pay I.dV.live;have RM:=I.dV.kc;refine hX I hx hg hgo (hm':=F) (λ_ _=>rfl) (by rw[E.size];exact ar _) (λy hy RN=>⟨by rw[E.size];exact ar _,λb _ k=>E.block b (λe=>by rw[e,I.dV.tl.hC] at k;omega),λb o v J W=>?_,λo RO RP=>E.out o ?_,E.os,E.tape,E.output⟩)
    ⟨by rw[E.size];exact ar _,λb _ _ z _=>E.block b z,E.os,E.tape,E.output⟩ (.rel hk) (λe c=>?_) (λe c b k _=>?_) (λe c=>?_) ?_ (λh=>absurd h (by decide)) (λ_ i _ hi=>E.new i hi) (λh=>absurd h (by decide)) E.pay
    (I.wg.of_block (E.block _ (Ne.symm I.dV.tl.ne))) (λ_ ht _=>(same _ _).retag ht) (.inl ⟨by omega,by simp[cnt,Bm]⟩) (by omega)
   ·rw[gj (E.block b (I.dV.tl.ms y hy b o v J).2.1)];exact W
   ·rcases Nat.lt_or_gt_of_ne RN with h|h
    ·have:=pJ Y.kc (show y+1<=x from h)
     rw[Nat.mul_add,ma] at this;omega
    ·have:=pJ Y.kc (show x+1<=y from h)
     rw[Nat.mul_add,ma] at this;omega
   ·obtain⟨o,rfl,_⟩:=LU e c;rw[ofEvent_cell];show Y.C<_;rw[E.size];exact I.dV.we
   ·obtain⟨o,rfl,RO,RP⟩:=LU e c;rw[ofEvent_cell] at k;simp only[MemAct.touch?,bL] at k;subst k;exact .inr ⟨rfl,.inr (.inl ⟨o,rfl,RO,RP⟩)⟩
   ·obtain⟨o,rfl,_⟩:=LU e c;simp
   ·rw[LS];exact deafBehind_idle (λe c=>by obtain⟨o,rfl,_⟩:=LU e c;exact⟨by simp,by simp⟩) 0
  ·
   obtain⟨g',s2,es,r',hgo,PF,GV,l⟩:=gD _ k1;obtain⟨⟨σ,σ',V,j9,CV⟩,R⟩:=PF.resolve_right id;have k3:jc F (O x) (Y.base+x) { s' with w:=w }:=k2.rely k1.size;obtain⟨e1,e2,e3,e4⟩:=Hf k3 V R CV;have qK:∀ b,b<w.heap.size->F b≠Y.base+x->s2.w.heap[b]?=w.heap[b]?:=λb k sK=>CV.ee b k λL Q IF=>sK (k3.blk b (.inr ⟨L,Q,IF⟩)).1
   refine hX I hx hg hgo (hm':=kx F w.heap.size (Y.base+x)) (λb k=>c6 k) CV.size (λy hy RN=>⟨CV.size,λb k Ty=>qK b k (by omega),λb o v J W=>?_,λo _ _=>gj (qK _ I.dV.we (by rw[I.dV.tl.hC];omega)) o,CV.os,CV.tape,CV.output⟩)
    ⟨CV.size,λb k h0 _ _=>qK b k (by omega),CV.os,CV.tape,CV.output⟩ (.am GV (aX.qJ j9.mem) (k3.step j9 CV)) e1 e2 e4 (by rw[LS];exact deafBehind_idle e3 0) (λh=>absurd h (by decide)) (λh=>absurd h (by decide)) (λh=>absurd h (by decide)) ?_
    (I.wg.of_block (qK _ I.dV.uL (by rw[I.dV.tl.CR];omega))) (λ_ ht _=>(same _ _).retag ht) (.inr ⟨Bm.symm,hA.symm,by rw[PE];exact l⟩) (by omega)
   ·rw[gj (qK b (I.dV.Hd y hy b o v J) (by rw[(I.dV.tl.ms y hy b o v J).1];omega))];exact W
   ·obtain⟨cs,c1,c2⟩:=I.dV.pay;exact⟨cs,(qK _ I.dV.we (by rw[I.dV.tl.hC];omega)).trans c1,c2⟩
 |@rel m g w h =>
  rcases Goes.cases h with jd|⟨m',rfl,gD⟩
  ·
   obtain⟨_,PG,g',hgo,m₂,hk⟩:=jd w (Go.ConcN.RW.refl w);refine hX I hx hg hgo (hm':=F) (λ_ _=>rfl) (ar _) (λy _ _=>.refl ..) (.refl w) (.tail (by decide) (.k1 hk)) (λe c=>?_) (λe c b k _=>?_) (λe c=>?_) (by rw[LS];rfl) (λ_=>⟨t.size,RelBy.new RL _ _⟩) (λ_=>I.dV.sh x hx hA) (λ_=>by simpa using PG) I.dV.pay I.wg
    (λ_ ht _=>(I.mode.counted hx (by omega) (.inl rfl) _ _).retag ht) (.inl ⟨by omega,by simp[cnt,Bm]⟩) (by omega)
   ·simp at c;subst c;exact I.dV.uL
   ·simp at c;subst c;simp[mk,MemAct.ofEvent,MemAct.touch?] at k
   ·simp at c;subst c;simp[mk]
  ·obtain⟨g',w',es,hgo,⟨rfl,rfl⟩,yo⟩:=gD w (Go.ConcN.RW.refl w);exact hX I hx hg hgo (hm':=F) (λ_ _=>rfl) (ar _) (λy _ _=>.refl ..) (.refl w') (.rel yo) (by simp) (by simp) (by simp) (by rw[LS];rfl) (λh=>absurd h (by decide)) (λ_=>I.dV.sh x hx hA) (λh=>absurd h (by decide)) I.dV.pay I.wg (λ_ ht _=>(same _ _).retag ht)
    (.inr ⟨Bm.symm,hA.symm,by rw[PE];exact Rk.ym _ s⟩) (by omega)
 |@tail sg m dd g w h6 h =>
  have I3:∀ {g':Goroutine} {w':World} {es:Array Event} {s' m' Ah:Nat} {js Bn:Int},stepG P false g w=.go g' w' es->Aside Y.Wg w w'->WgAt ty Y.Wg w' js Bn->(∀ e∈es,Bk Y.Wg e) ->
    (∀ jx e,es[jx]?=some e->(MemAct.ofEvent e).touch?=none∨0<deafBehind dd (es.extract 0 jx))->s'<=6->WSit P ty Y.Wg Y.C N I0 I0 0 (Y.kc*x+1) (val x 0) s' m' Ah g' w'->deafBehind dd es=Ah ->
    (∀ tag',(tag'=tag∨(tag=.blk/\tag'=.w3))->(mayWake P g=true->g'.status=.running->tag'≠.blk)->Go.ConcN.Mode j (upd D x ⟨s',0,Ah⟩) tag' js Bn)->((s'<sg/\cnt ⟨s',0,Ah⟩<=cnt (D x))∨(s'=sg/\m'+1=m)) ->
    ∃ m₁ ops μ',runT P (crowd gs w sl) (Y.base+x)=(.next m₁,ops)/\Ag (Y.base+n) μ' μ/\Inv P ty Y N val n T G μ' m₁ (t++ops):=by
   intro g' w' es s' m' Ah js Bn hgo Hg DK Bo hd PH MQ PI qL l;obtain⟨cs,PK,PL⟩:=I.dV.pay;refine hX I hx hg hgo (hm':=F) (λ_ _=>rfl) (by rw[Hg.size];exact ar _) (λy hy _=>.wg Hg I.dV.tl.CR DJ (λb o v J=>(I.dV.tl.ms y hy b o v J).2.2.1) I.dV.tl.ne) (.wg Hg) (.tail PH MQ) (DI Bo (by rw[Hg.size];exact I.dV.uL)) (He Bo) (wh Bo) (by rw[LS];exact PI)
    (λ_=>let ⟨r,hr⟩:=I.dV.rel x hx (by omega);⟨r,hr.book RL _ _ Bo hd⟩) (λ_ i Tz TA=>(gj (Hg.block _ I.dV.tl.ne) _).trans (I.dV.sh x hx hA i Tz TA)) (λ_=>(gj (Hg.block _ I.dV.tl.ne) _).trans (I.dV.wc x hx (by omega))) ⟨cs,(Hg.block _ I.dV.tl.ne).trans PK,PL⟩ DK qL
    (l.imp (λh=>⟨by omega,h.2⟩) λh=>⟨by omega,hA.symm,by rw[PE,<-h.2];exact Rk.ym _ s⟩) (by omega)
  have book:∀ {g':Goroutine} {w':World} {es:Array Event} {s' m' Ah:Nat} {js Bn:Int},stepG P false g w=.go g' w' es->Aside Y.Wg w w'->WgAt ty Y.Wg w' js Bn->(∀ e∈es,Bk Y.Wg e) ->
    (∀ jx e,es[jx]?=some e->(MemAct.ofEvent e).touch?=none∨0<deafBehind dd (es.extract 0 jx))->s'<=6->WSit P ty Y.Wg Y.C N I0 I0 0 (Y.kc*x+1) (val x 0) s' m' Ah g' w'->deafBehind dd es=Ah ->
    Go.ConcN.Mode j (upd D x ⟨s',0,Ah⟩) tag js Bn->((s'<sg/\cnt ⟨s',0,Ah⟩<=cnt (D x))∨(s'=sg/\m'+1=m)) ->
    ∃ m₁ ops μ',runT P (crowd gs w sl) (Y.base+x)=(.next m₁,ops)/\Ag (Y.base+n) μ' μ/\Inv P ty Y N val n T G μ' m₁ (t++ops) :=
   λhgo Hg DK Bo hd PH MQ PI qL l=>I3 hgo Hg DK Bo hd PH MQ PI (λ_ ht _=>qL.retag ht) l
  have idle:∀ {g':Goroutine} {m':Nat},stepG P false g w=.go g' w #[]->WSit P ty Y.Wg Y.C N I0 I0 0 (Y.kc*x+1) (val x 0) sg m' dd g' w->m'+1=m ->
    ∃ m₁ ops μ',runT P (crowd gs w sl) (Y.base+x)=(.next m₁,ops)/\Ag (Y.base+n) μ' μ/\Inv P ty Y N val n T G μ' m₁ (t++ops):=by
   intro g' m' hgo MQ F;exact book hgo (.refl Y.Wg w) I.wg (by simp) (by simp) h6 MQ rfl (same _ _) (.inr ⟨rfl,F⟩)
  cases h with
  |r0 h=>omega
  |k1 h =>
   rcases Goes.cases h with jd|⟨m',rfl,gD⟩
   ·obtain⟨_,g',hgo,m₂,hk⟩:=jd w (Go.ConcN.RW.refl w);exact book hgo (.refl Y.Wg w) I.wg (by intro e c;simp at c;subst c;exact .inl rfl) (by intro jx e c;exact .inl (by have:=og c;simp at this;subst this;rfl)) (by decide) (.d1 hk) rfl (I.mode.counted hx (by omega) (.inr rfl) _ _) (.inl ⟨by omega,by simp[cnt,Bm]⟩)
   ·obtain⟨g',w',es,hgo,⟨rfl,rfl⟩,yo⟩:=gD w (Go.ConcN.RW.refl w);exact idle hgo (.k1 yo) rfl
  |d1 h =>
   rcases Goes.cases h with jd|⟨m',rfl,gD⟩
   ·obtain⟨_,MR⟩:=jd w (Go.ConcN.RW.refl w);have qa:=I.wg;have DL:=I.mode;have Oo:cnt (D x)=1:=by simp[cnt,Bm]
    have VR:1<=Vc j D:=by have:=le_sumTo (f:=λx=>cnt (D x)) hx;simp only[Vc];omega
    have bk2:∀ e∈#[rd (stA Y.Wg),wr (stA Y.Wg)],Bk Y.Wg e:=by intro e c;simp at c;rcases c with rfl|rfl <;> exact bk_cell _ _ rfl
    have Oz:∀ jx e,(#[rd (stA Y.Wg),wr (stA Y.Wg)]:Array Event)[jx]?=some e->(MemAct.ofEvent e).touch?=none∨0<deafBehind 1 ((#[rd (stA Y.Wg),wr (stA Y.Wg)]:Array Event).extract 0 jx):=by
     intro jx e c
     match jx,c with
     |0,_=>exact .inr (by simp[deafBehind])
     |1,_=>exact .inr (by simp[deafBehind,rd])
     |jx+2,c=>simp at c
    have RQ:∀ q,cnt (⟨1,q,1⟩:WD)=0:=λ_=>rfl
    have cQ:∀ q,OpenSt j D->OpenSt j (upd D x ⟨1,q,1⟩):=λq h a H=>by
     by_cases e:a=x
     ·subst e;rw[upd_same];simp
     ·rw[upd_ne D _ e];exact h a H
    generalize TB:st=PM at DL qa;generalize TC:sm=TD at DL qa;cases DL with
    |opn p z u =>
     obtain⟨v,J⟩:∃ v,Vc j D+pend tag=v+1:=⟨Vc j D+pend tag-1,by omega⟩
     rw[J] at qa;have MS:WgAt ty Y.Wg w (((v:Nat)+1)*KK+((0:Nat):Int)) 0:=by simpa using qa
     obtain⟨g',hgo,_,hq⟩:=MR v 0 (by omega) (by omega) MS
     obtain⟨q,hq⟩:=hq (by omega)
     have OB:Vc j (upd D x ⟨1,0,1⟩)+pend tag=v:=by have:=Vc_upd D (⟨1,0,1⟩:WD) hx;have:=RQ 0;omega
     refine book hgo (aside_setCell w (stA Y.Wg) _) (qa.setSt _) bk2 Oz (by decide) (.quit hq) rfl ?_ (.inl ⟨by omega,by simp[cnt]⟩)
     have e:((v:Nat):Int)*KK+((0:Nat):Int)=((Vc j (upd D x ⟨1,0,1⟩)+pend tag:Nat):Int)*KK:=by rw[OB];simp
     rw[e];exact .opn p (cQ 0 z) (λvs ev=>by have:=u vs ev;omega)
    |reg p z u =>
     obtain⟨v,J⟩:∃ v,Vc j D=v+1:=⟨Vc j D-1,by omega⟩
     rw[J] at qa;have hp:pend tag=0:=by cases tag <;> first|rfl|exact p.elim
     have MS:WgAt ty Y.Wg w (((v:Nat)+1)*KK+((1:Nat):Int)) 0:=by simpa using qa
     obtain⟨g',hgo,S,hq⟩:=MR v 1 (by omega) (by omega) MS
     by_cases L6:v=0
     ·subst L6;obtain⟨m₂,hk⟩:=S ⟨rfl,rfl⟩;refine book hgo (aside_setCell w (stA Y.Wg) _) (qa.setSt _) bk2 Oz (by decide) (.d2 hk) rfl ?_ (.inl ⟨by omega,by simp[cnt]⟩)
      have yp:∀ a,a<j->a≠x->(D a).stage=1:=λa H e=>by
       have c0:=others_uncounted hx J Oo a H e;have:=z a H;simp only[cnt] at c0;split at c0 <;> omega
      have:=Go.ConcN.Mode.last (j:=j) (D:=upd D x ⟨4,0,1⟩) (tag:=tag) x p hx (by rw[upd_same];simp) (λa H e=>by rw[upd_ne D _ e];exact yp a H e)
      rw[upd_same] at this;simpa using this
     ·obtain⟨q,hq⟩:=hq (by omega)
      have OB:Vc j (upd D x ⟨1,0,1⟩)=v:=by have:=Vc_upd D (⟨1,0,1⟩:WD) hx;have:=RQ 0;omega
      refine book hgo (aside_setCell w (stA Y.Wg) _) (qa.setSt _) bk2 Oz (by decide) (.quit hq) rfl ?_ (.inl ⟨by omega,by simp[cnt]⟩)
      have e:((v:Nat):Int)*KK+((1:Nat):Int)=((Vc j (upd D x ⟨1,0,1⟩):Nat):Int)*KK+1:=by rw[OB];simp
      rw[e];exact .reg p (cQ 0 z) (by omega)
    |last L _ z u X =>
     by_cases e:x=L
     ·subst e;omega
     ·have:=X x hx e;omega
    |sema z=>have:=z x hx;omega
    |fin _ z=>have:=z x hx;omega
   ·obtain⟨g',w',es,hgo,⟨rfl,rfl⟩,yo⟩:=gD w (Go.ConcN.RW.refl w);exact idle hgo (.d1 yo) rfl
  |d2 h =>
   rcases Goes.cases h with jd|⟨m',rfl,gD⟩
   ·obtain⟨_,GA⟩:=jd w (Go.ConcN.RW.refl w);obtain⟨MT,yp,e1,e2⟩:=I.mode.isLast hx (by omega)
    have qa:=I.wg;rw[e1,e2,Bm] at qa;obtain⟨g',hgo,m₂,hk⟩:=GA (by simpa using qa)
    refine book hgo (.refl Y.Wg w) qa (by intro e c;simp at c;subst c;exact bk_cell _ _ rfl) (by intro jx e c;match jx,c with|0,_=>exact .inr (by simp[deafBehind])|jx+1,c=>simp at c) (by decide) (.d3 hk) rfl ?_ (.inl ⟨by omega,by simp[cnt]⟩)
    have:=Go.ConcN.Mode.last (j:=j) (D:=upd D x ⟨3,0,1⟩) (tag:=tag) x MT hx (by rw[upd_same];simp) (λa H e=>by rw[upd_ne D _ e];exact yp a H e)
    rw[upd_same] at this;simpa using this
   ·obtain⟨g',w',es,hgo,⟨rfl,rfl⟩,yo⟩:=gD w (Go.ConcN.RW.refl w);exact idle hgo (.d2 yo) rfl
  |d3 h =>
   rcases Goes.cases h with jd|⟨m',rfl,gD⟩
   ·obtain⟨_,GA⟩:=jd w (Go.ConcN.RW.refl w);obtain⟨MT,yp,e1,e2⟩:=I.mode.isLast hx (by omega)
    have qa:=I.wg;rw[e1,e2,Bm] at qa;obtain⟨g',hgo,m₂,hk⟩:=GA (by simpa using qa)
    refine book hgo (aside_setCell w (stA Y.Wg) _) (qa.setSt 0) (by intro e c;simp at c;subst c;exact bk_cell _ _ rfl) (by intro jx e c;match jx,c with|0,_=>exact .inr (by simp[deafBehind])|jx+1,c=>simp at c) (by decide) (.d4 hk) rfl ?_ (.inl ⟨by omega,by simp[cnt]⟩)
    have:=Go.ConcN.Mode.last (j:=j) (D:=upd D x ⟨2,0,1⟩) (tag:=tag) x MT hx (by rw[upd_same];simp) (λa H e=>by rw[upd_ne D _ e];exact yp a H e)
    rw[upd_same] at this;simpa using this
   ·obtain⟨g',w',es,hgo,⟨rfl,rfl⟩,yo⟩:=gD w (Go.ConcN.RW.refl w);exact idle hgo (.d3 yo) rfl
  |d4 h =>
   rcases Goes.cases h with jd|⟨m',rfl,gD⟩
   ·obtain⟨_,TE,GA⟩:=jd w (Go.ConcN.RW.refl w);obtain⟨MT,yp,e1,e2⟩:=I.mode.isLast hx (by omega)
    have qa:=I.wg;rw[e1,e2,Bm] at qa;obtain⟨g',hgo,q,hq⟩:=GA (by simpa using qa)
    have qM:g'.status=.running:=by
     cases q with
     |zero=>exact absurd hq.2 (by decide)
     |succ q=>exact hq.elim (λx=>absurd x.2 (by decide)) (λx=>x.1)
    refine I3 hgo (aside_setCell w (smA Y.Wg) _) (qa.setSm 1) (es:=semEvents (smA Y.Wg)) ?_ ?_ (by decide) (.quit hq) (by simp[deafBehind,semEvents]) ?_ (.inl ⟨by omega,by simp[cnt]⟩)
    ·intro e c;simp[semEvents] at c;rcases c with rfl|rfl|rfl|rfl
     ·exact .inl rfl
     ·exact bk_cell _ _ rfl
     ·exact bk_cell _ _ rfl
     ·exact .inr (.inl rfl)
    ·intro jx e c
     match jx,c with
     |0,c=>simp[semEvents] at c;subst c;exact .inl rfl
     |1,_=>exact .inr (by simp[deafBehind,semEvents])
     |2,_=>exact .inr (by simp[deafBehind,semEvents])
     |3,c=>simp[semEvents] at c;subst c;exact .inl rfl
     |jx+4,c=>simp[semEvents] at c
    ·intro tag' ht U;have TG:=U TE qM;have e3:tag'=.w3:=by
      rcases ht with rfl|⟨_,rfl⟩
      ·cases tag' <;> first|rfl|exact MT.elim|exact absurd rfl TG
      ·rfl
     subst e3;simp only[aV];exact .sema λa H=>by
      by_cases e:a=x
      ·subst e;rw[upd_same]
      ·rw[upd_ne D _ e];exact yp a H e
   ·obtain⟨g',w',es,hgo,⟨rfl,rfl⟩,yo⟩:=gD w (Go.ConcN.RW.refl w);exact idle hgo (.d4 yo) rfl
  |quit h =>
   cases m with
   |zero=>rw[h.1] at pw;cases pw
   |succ q =>
    rcases h with⟨hf,_⟩|⟨_,g',es,I4,gD,hq⟩
    ·rw[hf] at pw;cases pw
    ·have Bo:∀ e∈es,Bk Y.Wg e:=λe c=>bk_of_mute (I4 e c)
     have MF:∀ jx e,es[jx]?=some e->(MemAct.ofEvent e).touch?=none∨0<deafBehind dd (es.extract 0 jx):=λjx e c=>.inl (touch_mute (I4 e (og c)))
     exact book (gD w) (.refl Y.Wg w) I.wg Bo MF (by decide) (.quit hq) rfl (same _ _) (.inr ⟨rfl,rfl⟩)
end
end Go.AM
namespace Go.AM
open Go.Conc
open Go.ConcN (WD CTag Vc Ssum pend phi cnt WgLive PayAt Has RW DWs WSit RelBy sumTo upd upd_same upd_ne AtR0 isW3 isOpen OpenSt deafBehind_idle bk_cell okW_none Vc_upd Vc_le le_sumTo others_uncounted sumTo_upd_out bk_dis bk_en bk_rd bk_rw bk_sem allQuit_of exists_counted)
open Go.ConcR (KK WgAt stA smA rd wr mk Payload g_of_ofEvents Bk bk_of_mute ofEvent_loc_mark ofEvent_cell ofEvent_mk)
variable [Payload]
section
variable {P:Program}{ty:TypeId}{Y:Lay}{N:Nat}{val:Nat->Nat->Value}{n:Nat}{T l:Goroutine->St->Prop}{u hm':Nat->Nat}{E H:Nat->Mem}{j:Nat}{tag:CTag}{rk:Rk}{d:Nat}{a:Goroutine}{s:St}{w w':World}
 {V:Mu} {R:Array Goroutine} {sl:Option (Nat×Nat)} {t:Trace} {D:Nat->WD} {A:Nat->Nat} {K:Nat->Rk} {st sm:Int}
omit [Payload] in
theorem TL.congr{B:Nat}(h:TL Y u E t j B)(e:∀ y,y<j->H y=E y):TL Y u H t j B :=
 ⟨h.base,h.CR,h.hC,h.ne,h.IZ,h.JZ,h.CU,λx J=>by rw[e x J];exact h.ms x J,h.T0,h.nr,h.seen,h.old,h.J0,h.Bj,λi a hi ha u=>(h.new i a hi ha u).imp id λ⟨x,J,z,G⟩=>⟨x,J,z,by rw[e x J];exact G⟩,
  λx J=>by rw[e x J];exact h.mw x J,h.over⟩
theorem WS.congr{x a st d:Nat}{r:Rk}{g:Goroutine}(h:WS P ty Y N val u E x a st r d g w)(e:H x=E x):WS P ty Y N val u H x a st r d g w:=by
 cases h with
 |am z G F=>exact .am z G (by rw[e];exact F)
 |rel z=>exact .rel z
 |tail h0 z=>exact .tail h0 z
theorem Com.congr{I:Nat}(h:Com P ty Y N val u E j R w t D A K I)(e:∀ y,y<j->H y=E y):Com P ty Y N val u H j R w t D A K I :=
 ⟨h.size,h.lv,h.above,λx J=>let ⟨g,z,G⟩:=h.wk x J;⟨g,z,G.congr (e x J)⟩,h.tl.congr e,h.norel,h.deaf0,h.deafW,h.rel,h.sh,h.wc,h.pay,h.live,h.uL,h.we,h.Gy,h.kc,λy q=>by rw[e y q];exact h.Hd y q⟩
omit [Payload] in
theorem Hh{σ σ':List ak}{s2:St}{es:Array Event}(hw:gi Y u E j s)(hh:ag σ s)(S:eW s es)(st:Step σ s σ' s2) :
  (∀ e∈es,(MemAct.ofEvent e).low s2.w.heap.size)/\(∀ e∈es,∀ a,(MemAct.ofEvent e).touch?=some a->a.loc.isMemory=true->nO Y (kx u s.w.heap.size 0) a) /\
  (∀ e∈es,∀ a,(MemAct.ofEvent e).touch?=some a->a.kind=.plain->a.write=true->∀ x,x<j->∀ b o v,a.loc=.cell ⟨b,o,none⟩->E x b o≠some v) /\
  (∀ e∈es,e.loc≠.mark .disable/\e.loc≠.mark .enable)/\∀ e∈es,∀ a,e.loc≠.mark (.release a):=by
 have key:∀ e∈es,(MemAct.ofEvent e).low s2.w.heap.size/\(∀ a,(MemAct.ofEvent e).touch?=some a->a.loc.isMemory=true->nO Y (kx u s.w.heap.size 0) a) /\
   (∀ a,(MemAct.ofEvent e).touch?=some a->a.kind=.plain->a.write=true->∀ x,x<j->∀ b o v,a.loc=.cell ⟨b,o,none⟩->E x b o≠some v)/\(e.loc≠.mark .disable/\e.loc≠.mark .enable)/\∀ a,e.loc≠.mark (.release a):=by
  intro e k;have h:=S e k;obtain⟨loc,wr,sy⟩:=e;cases loc with
  |cell ad =>
   obtain⟨z,G,F⟩:=h;simp only at z G F;subst z;have p:ad.block<s.w.heap.size/\u ad.block=0/\ad.block≠Y.C/\ad.block≠Y.Wg/\¬Y.Sh ad.block:=by
    rcases F with F|⟨⟨L,Z,F⟩,_⟩|⟨_,v,F⟩
    ·exact F.elim
    ·obtain⟨k1,k2,O,X,U⟩:=hw.blk _ (.inr ⟨L,Z,F⟩);exact⟨U,k1,k2,O,X⟩
    ·obtain⟨k1,k2,O,X,U⟩:=hw.M _ _ _ F;exact⟨U,k1,k2,O,X⟩
   refine⟨by rw[ofEvent_cell];exact bm p.1 st.size,λb c _=>?_,λb c _ Q x J b' o v hl W=>?_,⟨by simp,by simp⟩,by simp⟩
   ·rw[ofEvent_cell] at c;simp only[MemAct.touch?,bL] at c;subst c;exact .inr ⟨ad.block,rfl,by rw[c6 p.1];exact p.2.1,p.2.2.2.1,p.2.2.1,p.2.2.2.2,rfl⟩
   ·rw[ofEvent_cell] at c;simp only[MemAct.touch?,bL] at c;subst c;simp only at Q hl;have hM:=hw.ms x J b' o v W;cases hl;rcases F with F|⟨_,F⟩|⟨F,_⟩
    ·exact F.elim
    ·rw[F Q] at hM;cases hM
    ·rw[F] at Q;cases Q
  |obj r =>
   obtain⟨z,G⟩:=h;simp only at z G;subst z;obtain⟨L,Z,F⟩:=G.resolve_left id;obtain⟨k1,k2,O,X,U⟩:=hw.blk _ (.inr ⟨L,Z,F⟩);refine⟨?_,λb c _=>?_,λb c _ _ x _ b' o v hl=>?_,⟨by simp,by simp⟩,by simp⟩
   ·simp[MemAct.ofEvent,MemAct.low,Loc.low];exact bm U st.size
   ·simp[MemAct.ofEvent,MemAct.touch?] at c;subst c;exact .inr ⟨r,rfl,by rw[c6 U];exact k1,O,k2,X,rfl⟩
   ·simp[MemAct.ofEvent,MemAct.touch?] at c;subst c;cases hl
  |mark m =>
   simp only[lF] at h;rcases h with rfl|⟨f,rfl⟩
   ·exact⟨by simp[MemAct.ofEvent,MemAct.low],λb c=>by simp[MemAct.ofEvent,MemAct.touch?] at c,λb c=>by simp[MemAct.ofEvent,MemAct.touch?] at c,⟨by simp,by simp⟩,by simp⟩
   ·exact⟨by simp[MemAct.ofEvent,MemAct.low],λb c=>by simp[MemAct.ofEvent,MemAct.touch?] at c,λb c=>by simp[MemAct.ofEvent,MemAct.touch?] at c,⟨by simp,by simp⟩,by simp⟩
  |_=>exact h.elim
 exact⟨λe k=>(key e k).1,λe k=>(key e k).2.1,λe k=>(key e k).2.2.1,λe k=>(key e k).2.2.2.1,λe k=>(key e k).2.2.2.2⟩
theorem oy(I:ox P ty Y N val n T l V R w t u E j D A K d tag rk a s st sm){a':Goroutine}{es:Array Event}{tag':CTag}{rk':Rk}{js Bn:Int}{s':St}(hgo:stepG P true a w=.go a' w' es)
  (hh:∀ b,b<w.heap.size->hm' b=u b) (IH:w.heap.size<=w'.heap.size) (PN:∀ y,y<j->Bl Y u (E y) y w w')
  (PO:∀ e∈es,(MemAct.ofEvent e).low w'.heap.size) (TH:∀ e∈es,∀ a,(MemAct.ofEvent e).touch?=some a->a.loc.isMemory=true->nO Y hm' a)
  (MO:∀ e∈es,∀ a,(MemAct.ofEvent e).touch?=some a->a.kind=.plain->a.write=true->∀ x,x<j->∀ b o v,a.loc=.cell ⟨b,o,none⟩->E x b o≠some v)
  (J1:∀ e∈es,∀ a,e.loc≠.mark (.release a)) (DM:PayAt Y.C N w') (qa:WgAt ty Y.Wg w' js Bn)
  (Bp:CS P ty Y N val n T l tag' j rk' (deafBehind d es) a' s') (MU:aX s' { s' with w:=w' }) (g:gi Y hm' E j s') (q:Go.ConcN.Mode j D tag' js Bn)
  (p:phi n (Vc j D) tag'<phi n (Vc j D) tag∨(phi n (Vc j D) tag'=phi n (Vc j D) tag/\Rk.lt rk' rk)) :
  ∃ m₁ ops μ',runT P (crowd R w sl) 0=(.next m₁,ops)/\Ag (Y.base+n) μ' V/\Inv P ty Y N val n T l μ' m₁ (t++ops):=by
 have c:=I.dV.tl.base;have pw:=runT_crowd_go (P:=P) (sl:=sl) (i:=0) I.a0 (by simpa using hgo)
 refine⟨_,_,(phi n (Vc j D) tag'+Ssum j D+sumTo j A,(K,rk')),pw,?_,_,w',sl,hm',E,j,D,A,K,deafBehind d es,tag',rk',a',s',js,Bn,rfl,
  ⟨Go.ConcN.get_map_set_same _ _ _ (by rw[I.dV.size];omega),Bp,MU,g,I.dV.step0 hh IH PN PO TH MO J1 DM ⟨_,_,qa⟩,qa,q,rfl⟩⟩
 rw[I.mu];rcases p with h|⟨z,G⟩
 ·exact Prod.Lex.left _ _ (by omega)
 ·rw[z];exact Prod.Lex.right _ (Prod.Lex.right _ G)
theorem fe(I:ox P ty Y N val n T l V R w t u E j D A K d tag rk a s st sm){a':Goroutine}{es:Array Event}{rk':Rk}{s1 s':St}(z:aX s1 { s1 with w:=w })(q:gi Y u E j s1)(hgo:stepG P true a w=.go a' s'.w es)
  (PF:mV { s1 with w:=w } s' es∨Es Y.Wg { s1 with w:=w } s' es) (Bp:CS P ty Y N val n T l tag j rk' d a' s') (p:Rk.lt rk' rk) :
  ∃ m₁ ops μ',runT P (crowd R w sl) 0=(.next m₁,ops)/\Ag (Y.base+n) μ' V/\Inv P ty Y N val n T l μ' m₁ (t++ops):=by
 rcases PF with⟨⟨σ,σ',hh,j9,g⟩,S⟩|⟨rfl,ad,RR,LU⟩
 ·have O:gi Y u E j { s1 with w:=w }:=q.rely z.size;obtain⟨e1,e2,e3,e4,e5⟩:=Hh O hh S g;have qK:∀ b,b<w.heap.size->(u b≠0∨b=Y.C∨b=Y.Wg)->s'.w.heap[b]?=w.heap[b]?:=λb c sK=>g.ee b c λL Z IF=>by
   obtain⟨q1,q2,q3,_⟩:=O.blk b (.inr ⟨L,Z,IF⟩);rcases sK with h|h|h
   ·exact h q1
   ·exact q2 h
   ·exact q3 h
  have DJ:=I.dV.tl.base;refine oy I hgo (hm':=kx u w.heap.size 0) (λb c=>c6 c) g.size (λy hy=>⟨g.size,λb c Ty=>qK b c (.inl (by omega)),λb o v W _=>j9.mem b o v (g.mem _ _ _ (q.ms y hy b o v W)),λo _ _=>gj (qK _ I.dV.we (.inr (.inl rfl))) o,g.os,g.tape,g.output⟩) e1 e2 e3 e5 ?_
   (I.wg.of_block (qK _ I.dV.uL (.inr (.inr rfl)))) (s':=s') (tag':=tag) (rk':=rk') (by rw[deafBehind_idle e4];exact Bp) (aX.qJ j9.mem) (O.step j9 g I.dV.uL I.dV.we I.dV.Gy) I.mode (.inr ⟨rfl,p⟩)
  obtain⟨cs,c1,c2⟩:=I.dV.pay;exact⟨cs,(qK _ I.dV.we (.inr (.inl rfl))).trans c1,c2⟩
 ·have I5:∀ e∈es,e=mk (.read ad)∨e=mk (.write ad):=by
   intro e k;rcases LU with rfl|rfl
   ·simp at k;exact .inl k
   ·simp at k;exact .inr k
  refine oy I hgo (hm':=u) (λb c=>rfl) (ar _) (λy hy=>.refl ..) (λe k=>?_) (λe k b c _=>?_) (λe k b c hk=>?_) (λe k=>?_) I.dV.pay I.wg (s':={ s1 with w:=w }) (tag':=tag) (rk':=rk') ?_ (z.trans' ) (q.rely z.size) I.mode (.inr ⟨rfl,p⟩)
  ·have hW:=I.dV.uL;rcases I5 e k with rfl|rfl <;> (rw[ofEvent_mk];show ad.block<_;rw[RR];exact hW)
  ·rcases I5 e k with rfl|rfl <;> (rw[ofEvent_mk] at c;simp[MemAct.touch?] at c;subst c;exact .inl ⟨ad,rfl,RR,by simp⟩)
  ·rcases I5 e k with rfl|rfl <;> (rw[ofEvent_mk] at c;simp[MemAct.touch?] at c;subst c;cases hk)
  ·rcases I5 e k with rfl|rfl <;> simp[mk]
  ·rw[deafBehind_idle (λe k=>by rcases I5 e k with rfl|rfl <;> simp[mk])];exact Bp
theorem ef(I:ox P ty Y N val n T l V R w t u E j D A K d tag rk a s st sm){a':Goroutine}{es:Array Event}{tag':CTag}{rk':Rk}{js Bn:Int}{s1:St}(z:aX s1 { s1 with w:=w })(I6:gi Y u E j s1)
  (hgo:stepG P true a w=.go a' w' es) (g:Aside Y.Wg w w') (DK:WgAt ty Y.Wg w' js Bn) (Bo:∀ e∈es,Bk Y.Wg e) (Bp:CS P ty Y N val n T l tag' j rk' (deafBehind d es) a' { s1 with w:=w' }) (qL:Go.ConcN.Mode j D tag' js Bn)
  (p:phi n (Vc j D) tag'<phi n (Vc j D) tag∨(phi n (Vc j D) tag'=phi n (Vc j D) tag/\Rk.lt rk' rk)) :
  ∃ m₁ ops μ',runT P (crowd R w sl) 0=(.next m₁,ops)/\Ag (Y.base+n) μ' V/\Inv P ty Y N val n T l μ' m₁ (t++ops):=by
 obtain⟨cs,Oo,IG⟩:=I.dV.pay;have G:aX s1 { s1 with w:=w' }:=I6.DG z (yn.wg g);refine oy I hgo (hm':=u) (λb c=>rfl) (by rw[g.size];exact ar _) (λy hy=>.wg g I.dV.tl.CR I.dV.tl.base (λb o v W=>(I.dV.tl.ms y hy b o v W).2.2.1) I.dV.tl.ne) (DI Bo (by rw[g.size];exact I.dV.uL)) (λe k b c u=>?_) (λe k b c hk=>?_) (wh Bo)
  ⟨cs,(g.block _ I.dV.tl.ne).trans Oo,IG⟩ DK Bp G.trans' (I6.rely G.size) qL p
 ·rcases Bo e k with q|q|⟨ad,wr,rfl,ha⟩
  ·rw[ofEvent_loc_mark q] at c;cases c
  ·rw[ofEvent_loc_mark q] at c;cases c
  ·rw[ofEvent_cell] at c;simp only[MemAct.touch?,bL] at c;subst c;exact .inl ⟨ad,rfl,ha,by simp⟩
 ·rcases Bo e k with q|q|⟨ad,wr,rfl,ha⟩
  ·rw[ofEvent_loc_mark q] at c;cases c
  ·rw[ofEvent_loc_mark q] at c;cases c
  ·rw[ofEvent_cell] at c;simp only[MemAct.touch?,bL] at c;subst c;cases hk
end
end Go.AM
