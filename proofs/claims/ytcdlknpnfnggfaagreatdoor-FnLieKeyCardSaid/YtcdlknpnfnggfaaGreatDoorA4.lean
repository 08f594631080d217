/-
  Part 4 of a machine of values without memory, proved sound over the model, and of contracts of the functions that the laws reach. Nothing is taken for granted: no condition.
-/
import Derived.Test.YtcdlknpnfnggfaaGreatDoorA3
import Derived.Conc.Beside
import Derived.Conc.CrowdRun
import Derived.Conc.WgGenN2
import Derived.Conc.WgGenN3
set_option linter.unusedVariables false
set_option linter.unusedSimpArgs false
set_option linter.defProp false
set_option linter.deprecated false
namespace Go.AM.R1
open Go.Proofs
variable {X:Cx Tryz.prog}
theorem Gc(k:Int):Ev X 51 [dI k] [] (dB (b5 k)) []:=by
 refine Ev.body Tryz.func51 rfl rfl rfl λc=>?_
 by_cases a:1<=k
 ·by_cases b:k<=99
  ·refine aq [(4,true),(7,true)] 100 rfl ?_ (AK.aK rfl ?_)
   ·simp[aa,a,b]
   ·simp[aa,b5,a,b]
  ·refine aq [(4,true),(7,false)] 100 rfl ?_ (AK.aK rfl ?_)
   ·simp[aa,a];omega
   ·simp[aa,b5,a,b]
 ·refine aq [(4,false)] 100 rfl ?_ (AK.aK rfl ?_)
  ·simp[aa];omega
  ·simp[aa,b5,a]
theorem t51:dw X 51 (nn aI (λk=>dB (b5 k)) λ_=>[]):=.vP λk _=>Gc k
theorem xy{s:Bs}{i:Nat}(h:i<s.length):bj (s.take (i+1))=(bj (s.take i)&&dz (s.getD i 0)):=by
 unfold bj;rw[g7,ai h];simp only[sC,me,sH,List.all_nil,Bool.and_true,List.getD_eq_getElem?_getD,ai h,cK]
theorem nR{b:UInt8}:dz b=true↔97<=(b.toNat:Int)/\(b.toNat:Int)<=122:=by simp[dz];omega
theorem uc{s:Bs}{i:Nat}(h:i<s.length)(b:dz (s.getD i 0)=false):bj s=false:=by
 cases a:bj s with
 |false=>rfl
 |true =>
  have:=eR.1 a (s.getD i 0) (by simp[List.getD_eq_getElem?_getD,ai h])
  rw[b] at this;cases this
theorem yT(s:Bs):Ev X 132 [dS s] [] (dB (bj s)) []:=by
 refine Ev.body Tryz.func132 rfl rfl rfl λg=>?_
 have f:=g.str 0 rfl;refine aA rfl ab ?_;refine AK.tN (λi=>i<=s.length/\bj (s.take i)=true) (λi:Nat=>[(0,dS s),(5,dI s.length),(6,dI i)]) (λ_=>[]) (λi=>s.length-i) 0 rfl (by simp[aa.cat,aa]) ⟨by omega,by simp[bj]⟩ rfl ?_
 rintro i ⟨hi,a⟩
 by_cases h:i<s.length
 ·by_cases b:bL s i<97
  ·refine aq [(7,true),(12,true)] 100 rfl ?_ (AK.jC (cv.zero rfl ?_))
   ·simp[-List.getD_eq_getElem?_getD,aa,h,bX,b]
   ·have:dz (s.getD i 0)=false:=by
     cases c:dz (s.getD i 0) with
     |false=>rfl
     |true=>have:=nR.1 c;unfold bL at b;omega
    simp[aa.cat,aa,uc h this]
  ·by_cases d:bL s i<=122
   ·refine aq [(7,true),(12,false),(17,false)] 100 rfl ?_ (AK.again (i+1) rfl ?_ ?_ ?_ rfl)
    ·simp[-List.getD_eq_getElem?_getD,aa,h,bX,b,d,aJ];exact⟨by omega,fh (by omega)⟩
    ·simp[aa.cat,aa]
    ·refine⟨by omega,?_⟩
     rw[xy h,a,j1];exact nR.2 (by unfold bL at b d;omega)
    ·omega
   ·refine aq [(7,true),(12,false),(17,true)] 100 rfl ?_ (AK.jC (cv.zero rfl ?_))
    ·simp[-List.getD_eq_getElem?_getD,aa,h,bX,b];exact bx (by omega)
    ·have:dz (s.getD i 0)=false:=by
      cases c:dz (s.getD i 0) with
      |false=>rfl
      |true=>have:=nR.1 c;unfold bL at d;omega
     simp[aa.cat,aa,uc h this]
 ·have e:i=s.length:=by omega
  subst e;refine aq [(7,false)] 100 rfl (by simp[aa]) (AK.leave rfl rfl ?_)
  refine aA rfl ab (AK.aK rfl ?_);rw[cm] at a;simp[aa.cat,aa,a]
theorem O2:dw X 132 (nn aS (λs=>dB (bj s)) λ_=>[]):=.vP λk _=>yT k
abbrev Xl:List (Nat×c7):=[(51,nn aI (λk=>dB (b5 k)) λ_=>[]),(132,nn aS (λs=>dB (bj s)) λ_=>[])]
theorem Sv:aY X Xl:=.cons t51 (.cons O2 .nil)
theorem yU(p:Bs):Ev X 145 [dS p] [] (dB (aR p)) []:=by
 refine Ev.body Tryz.func145 rfl rfl rfl λc=>?_
 by_cases a:1<=p.length
 ·by_cases b:p.length<=8
  ·refine ah Sv [(5,true),(9,true),(11,true)] 100 rfl ?_ (AK.aK rfl ?_)
   ·simp[aa];omega
   ·simp[aa,aR,a,b]
  ·refine ah Sv [(5,true),(9,false),(11,false)] 100 rfl ?_ (AK.aK rfl ?_)
   ·simp[aa];omega
   ·simp[aa,aR,a,b]
 ·refine ah Sv [(5,false),(11,false)] 100 rfl ?_ (AK.aK rfl ?_)
  ·simp[aa];omega
  ·simp[aa,aR,a]
theorem t145:dw X 145 (nn aS (λs=>dB (aR s)) λ_=>[]):=.vP λk _=>yU k
theorem yV(n:Nat)(h:n<=1000000):Ev X 169 [dI n] [] (dI (bH n)) []:=by
 refine Ev.body Tryz.func169 rfl rfl rfl λg=>?_
 by_cases e:n<1
 ·refine aq [(5,true),(9,true)] 100 rfl ?_ (AK.aK rfl ?_)
  ·simp[aa];omega
  ·simp[aa,bH,e]
 ·by_cases f:8<n
  ·refine aq [(5,false),(8,true)] 100 rfl ?_ (AK.aK rfl ?_)
   ·simp[aa];omega
   ·simp[aa,bH,f]
  ·refine aq [(5,false),(8,false)] 100 rfl ?_ ?_
   ·simp[aa];omega
   have j:bH n=2∨bH n=4∨bH n=8:=by unfold bH;split;omega;split;simp;split <;> simp
   refine AK.tN (λi:Nat=>(i=2∨i=4∨i=8)/\i<=bH n) (λi:Nat=>[(0,dI n),(3,dI i)]) (λ_=>[]) (λi=>8-i) 2 rfl (by simp[aa.cat,aa]) ⟨by simp,by omega⟩ rfl ?_
   rintro i ⟨hi,a⟩
   by_cases h:i<n
   ·refine aq [(12,true)] 100 rfl ?_ (AK.again (2*i) rfl ?_ ?_ ?_ rfl)
    ·simp[aa,aJ];omega
    ·simp[aa.cat,aa];omega
    ·unfold bH at a ⊢;split at a
     ·omega
     ·rename_i d;rw[ak d]
      split at a
      ·omega
      ·rename_i c;rw[ak c]
       split at a
       ·rename_i b;rw[an b];omega
       ·rename_i b;rw[ak b];omega
    ·omega
   ·refine aq [(12,false)] 100 rfl (by simp[aa];omega) (AK.leave rfl rfl ?_)
    refine aA rfl ab (AK.aK rfl ?_);have:i=bH n:=by
     unfold bH at a ⊢;split at a
     ·omega
     ·rename_i d;rw[ak d]
      split at a
      ·rename_i c;rw[an c];omega
      ·rename_i c;rw[ak c]
       split at a
       ·rename_i b;rw[an b];omega
       ·rename_i b;rw[ak b];omega
    simp[aa.cat,aa,this]
theorem Aw(s:Bs)(b:UInt8):strip (s++[b])=if b=46 then strip s else s++[b]:=by
 unfold strip;rw[List.reverse_append];simp only[List.reverse_cons,List.reverse_nil,sz,wI,List.dropWhile_cons]
 by_cases h:b=46
 ·simp[h]
 ·have:(b==46)=false:=by simpa using h
  simp[this,h]
theorem Ax{s:Bs}{n:Nat}(h:n<s.length):strip (s.take (n+1))=if s.getD n 0=46 then strip (s.take n) else s.take (n+1):=by
 have e:s.take (n+1)=s.take n++[s.getD n 0]:=by
  rw[g7,ai h];simp only[me,List.getD_eq_getElem?_getD,ai h,cK]
 rw[e,Aw]
theorem yW(s:Bs):Ev X 164 [dS s,dU 46] [] (dS (strip s)) []:=by
 refine Ev.body Tryz.func164 rfl rfl rfl λj=>?_
 have g:=j.str 0 rfl;refine aA rfl ab ?_;refine AK.tN (λn=>n<=s.length/\strip (s.take n)=strip s) (λn:Nat=>[(0,dS (s.take n)),(1,dU 46)]) (λ_=>[]) (λn=>n) s.length rfl (by simp[aa.cat,aa]) ⟨by omega,by simp⟩ rfl ?_
 rintro n ⟨k,a⟩;cases n with
 |zero =>
  refine aq [(7,false),(16,false)] 100 rfl ?_ (AK.leave rfl rfl ?_)
  ·simp[aa]
  refine aA rfl ab (AK.aK rfl ?_);have:strip s=[]:=by rw[<-a];rfl
  simp[aa.cat,aa,this]
 |succ n =>
  have h:(s.take (n+1)).length=n+1:=by simp;omega
  have i:bL (s.take (n+1)) n=bL s n:=by simp[bL,List.getD_eq_getElem?_getD,de]
  have f:=Ax (s:=s) (n:=n) (by omega)
  have b:((n:Int)+1-1).toNat=n:=by omega
  by_cases c:s.getD n 0=46
  ·refine aq [(7,true),(15,true),(16,true)] 100 rfl ?_ (AK.again n rfl ?_ ?_ ?_ rfl)
   ·have d:bL s n=46:=by unfold bL;rw[c];rfl
    simp[-List.getD_eq_getElem?_getD,-List.length_take,aa,h,bX,b,i,d,aJ];omega
   ·simp[aa.cat,aa];show (s.take (n+1)).take _=_;rw[show (((min (n+1) s.length:Nat):Int)-1).toNat=n by omega,sD]
    congr 1
    omega
   ·refine⟨by omega,?_⟩
    rw[f,an c] at a;exact a
   ·omega
  ·refine aq [(7,true),(15,false),(16,false)] 100 rfl ?_ (AK.leave rfl rfl ?_)
   ·have d:bL s n≠46:=by
     unfold bL;intro e;exact c (pA.1 (by show _=46;omega))
    simp[-List.getD_eq_getElem?_getD,-List.length_take,aa,h,bX,b,i,d,aJ];omega
   refine aA rfl ab (AK.aK rfl ?_);rw[f,ak c] at a;simp[aa.cat,aa,a]
def O3:c7:=λargs σ=>match args,σ with
 |[.e (.one (.c (.str s))),.e (.one (.c (.int .u8 46)))],[]=>some (dS (strip s),[],[])
 |_,_=>none
theorem t164:dw X 164 O3:=by
 intro args σ res σ' obs h _;unfold O3 at h;split at h
 ·cases h;exact yW _
 ·cases h
theorem Jg(s:Bs):Ev X 144 [dS s,dS [46]] [] (dS (strip s)) []:=by
 refine Ev.body Tryz.func144 rfl rfl rfl λb=>?_
 by_cases h:s=[]
 ·subst h;refine ah (aY.cons t164 .nil) [(8,true),(12,true)] 100 rfl ?_ (AK.aK rfl ?_)
  ·simp[aa]
  ·simp[aa,strip]
 ·refine ah (aY.cons t164 .nil) [(8,false),(11,false),(12,false),(16,true),(20,true),(21,true)] 100 rfl ?_ (AK.aK rfl ?_)
  ·cases s with
   |nil=>exact absurd rfl h
   |cons a r=>simp[aa];decide
  ·simp[aa]
def Mk:c7:=λargs σ=>match args,σ with
 |[.e (.one (.c (.str s))),.e (.one (.c (.str [46])))],[]=>some (dS (strip s),[],[])
 |_,_=>none
theorem t144:dw X 144 Mk:=by
 intro args σ res σ' obs h _;unfold Mk at h;split at h
 ·cases h;exact Jg _
 ·cases h
theorem ry{p:Bs}{i:Nat}(h:i<p.length):codeOf (p.take (i+1))=27*codeOf (p.take i)+(bL p i-97) % 256+1:=by
 unfold codeOf;rw[g7,ai h];simp only[mi,me,ir,sE,bL,List.getD_eq_getElem?_getD,ai h,cK]
theorem iF{p:Bs}(h:aR p=true){i:Nat}(hi:i<=p.length):0<=codeOf (p.take i)/\codeOf (p.take i)<282429536481:=by
 simp only[aR,bq,av] at h;obtain⟨d,a⟩:=ud (p.take i) 0 1 0 (λb c=>ic h.2 b (gH c)) (by omega) (by omega) (by omega)
 have:=KL (n:=(p.take i).length) (by rw[List.length_take];omega)
 rw[Int.one_mul] at a;exact⟨d,Int.lt_of_lt_of_le a this⟩
theorem ue{p:Bs}{i:Nat}(h:i<p.length):p.getD i 0∈p:=by
 rw[List.getD_eq_getElem?_getD,ai h];exact bJ h
abbrev Xm:List (Nat×c7):=[(51,nn aI (λk=>dB (b5 k)) λ_=>[]),(145,nn aS (λs=>dB (aR s)) λ_=>[])]
theorem Sy:aY X Xm:=.cons t51 (.cons t145 .nil)
abbrev UY(n:Int):D:=.dH [.one (.c (.int .i64 n)),.one (.c .mz)]
theorem Gf(k:Int)(p:Bs)(f:b5 k=true)(b:aR p=true):Ev X 147 [dI k,dS p] [] (UY (eB k p)) []:=by
 refine Ev.body Tryz.func147 rfl rfl rfl λq=>?_
 have a:=b;simp only[aR,bq,av] at a;have c:=f;simp only[b5,bq,av] at c;refine ah Sy [(8,false),(13,false)] 100 rfl (by simp[aa,f,b]) ?_
 refine AK.tN (λi=>i<=p.length) (λi:Nat=>[(0,dI k),(1,dS p),(6,dI (codeOf (p.take i))),(19,dI p.length),(20,dI i)]) (λ_=>[]) (λi=>p.length-i) 0 rfl (by simp[aa.cat,aa,codeOf]) (by omega) rfl ?_
 intro i hi
 by_cases h:i<p.length
 ·have g:=iF b hi;have r:=iF b (i:=i+1) (by omega)
  have e:=ry h;refine aq [(21,true)] 100 rfl ?_ (AK.again (i+1) rfl ?_ ?_ ?_ rfl)
  ·simp only[aa,bX,aJ];simp[-List.getD_eq_getElem?_getD,h,bX];have n:=ic a.2 (p.getD i 0) (ue h);have d:97<=bL p i/\bL p i<=122:=by unfold bL;omega
   omega
  ·have n:=ic a.2 (p.getD i 0) (ue h);have d:97<=bL p i/\bL p i<=122:=by unfold bL;omega
   have j:(bL p i-97) % 256=bL p i-97:=kY (by omega) (by omega)
   rw[j] at e;simp[-List.getD_eq_getElem?_getD,aa.cat,aa,bX,e]
  ·show i+1<=p.length;omega
  ·show p.length-(i+1)<p.length-i;omega
 ·have e:i=p.length:=by omega
  subst e;have g:=qN b;refine aq [(21,false)] 100 rfl (by simp[aa]) (AK.leave rfl rfl ?_)
  refine aA rfl ?_ (AK.aK rfl ?_)
  ·rw[cm];have l:0<=codeOf p*(2*k+1):=Int.mul_nonneg g.1 (by omega)
   have o:codeOf p*(2*k+1)<=282429536481*199:=Int.mul_le_mul (by omega) (by omega) (by omega) (by omega)
   generalize codeOf p*(2*k+1)=m at l o;simp only[aa,aJ];simp;omega
  ·rw[cm];refine aa.cat.2 ⟨?_,aa.cat.2 ⟨rfl,ab⟩⟩;show (_:Int)=_;rw[Int.mul_comm 7919 k];rfl
theorem t147:dw X 147 (qO aI aS (λk p=>UY (eB k p)) λk p=>[b5 k=true,aR p=true]):=.xz λk p h=>Gf k p h.1 h.2
theorem Mm{P:Program}{o:Oper}{j:Operand->D}{σ:List aj}{op:BinOp}{t ty:TypeId}{x:Operand}(h:o.op=.binOp op t x (.const .nilIface) ty){c:Bool}{q:Array (String×TypeId)}(m:P.underlying t=some (.interface q))
  (p:j x=.e (.one (.c .mz))) (r:j (.const .nilIface)=.e (.one (.c .mz)))
  (k:kI op true=some c):aM P o j σ (.e (.one (.c (.bool c)))) σ:=by
 refine .quiet λs n u l=>?_
 have f:=l x;have g:=l (.const .nilIface);rw[p] at f;rw[r] at g
 replace f:=eX f
 replace g:=eX g
 generalize a:n x=vx at f;generalize b:n (.const .nilIface)=vy at g;cases f;cases g;have i:(Op.equal t .nilIface .nilIface).run P s.w=.ok true s.w:=by
  show (Op.equalIn (9999+1) t _ _).run P s.w=_;unfold Op.equalIn;simp[underlying,m]
 have d:∀ es,(Op.equal t .nilIface .nilIface).events P s.w es=es:=λes=>by
  show (Op.equalIn (9999+1) t _ _).events P s.w es=es;unfold Op.equalIn;simp[underlying,m]
 cases op <;> simp only[kI,reduceCtorEq,bO] at k
 ·subst k;exact⟨.bool true,by simp[execOp,h,a,b,eqGuard,binOp,i],Rd.bool,by simp[execOp,h,a,b,eqGuard,binOp,i,d]⟩
 ·subst k;exact⟨.bool false,by simp[execOp,h,a,b,eqGuard,binOp,i],Rd.bool,by simp[execOp,h,a,b,eqGuard,binOp,i,d]⟩
theorem Da(k:Int)(p:Bs) (n:Int)(a:b5 k=true)(b:aR p=true):Ev X 98 [dI k,dS p,dI n] [] (dB (eB k p==n)) []:=by
 refine Ev.body Tryz.func98 rfl rfl rfl λc=>?_
 refine ah (aY.cons t147 .nil) [(17,true)] 100 rfl ?_ ?_
 ·simp[aa,a,b]
 refine AK.law (Mm rfl Tryz.underlying183 rfl rfl rfl) rfl rfl ?_;refine ah (aY.cons t147 .nil) [(17,true)] 100 rfl ?_ (AK.aK rfl ?_)
 ·rfl
 ·rfl
theorem t98:dw X 98 (El aI aS aI (λk p n=>dB (eB k p==n)) λk p _=>[b5 k=true,aR p=true]):=.Mn λk p n h=>Da k p n h.1 h.2
abbrev ub:c7:=nn aS (λp=>dS (gF p)) λ_=>[]
abbrev Gg(r:Option Bs):D:=.dH [.one (.c (.str (r.getD []))),.one (.c (.bool r.isSome))]
theorem Az(c:dw X 146 ub)(b:Bs):Ev X 97 [dS b] [] (Gg (ff b)) []:=by
 refine Ev.body Tryz.func97 rfl rfl rfl λf=>?_
 have e:aY X [(144,Mk),(145,nn aS (λs=>dB (aR s)) λ_=>[]),(146,ub)]:=.cons t144 (.cons t145 (.cons c .nil))
 by_cases a:aR (strip b)=true
 ·by_cases d:gF (strip b)=b
  ·refine ah e [(10,false),(15,false)] 100 rfl ?_ (AK.aK rfl ?_)
   ·simp[aa,a,d]
   ·simp[aa,aa.cat,ff,a,d]
  ·refine ah e [(10,false),(15,true)] 100 rfl ?_ (AK.aK rfl ?_)
   ·simp[aa,a,d]
   ·simp[aa,aa.cat,ff,a,d]
 ·refine ah e [(10,true),(15,true)] 100 rfl ?_ (AK.aK rfl ?_)
  ·simp[aa,a]
  ·simp[aa,aa.cat,ff,a]
theorem Sz(a:dw X 146 ub):dw X 97 (nn aS (λb=>Gg (ff b)) λ_=>[]):=.vP λb _=>Az a b
theorem AA{b p:Bs}(h:ff b=some p):aR p=true:=by
 unfold ff at h;split at h
 ·rename_i a;cases h;exact(bq _ _▸a).1
 ·cases h
abbrev UZ(x:bD):D:=O4.enc x
theorem Gh(c:dw X 146 ub)(x:bD) (k:Int)(d:b5 k=true):Ev X 57 [UZ x,dI k] [] (Gg (chunk k x)) []:=by
 refine Ev.body Tryz.func57 rfl rfl rfl λh=>?_
 have f:aY X [(97,nn aS (λb=>Gg (ff b)) λ_=>[]),(98,El aI aS aI (λk p n=>dB (eB k p==n)) λk p _=>[b5 k=true,aR p=true])]:=.cons (Sz c) (.cons t98 .nil)
 cases a:ff x.2 with
 |none =>
  refine ah f [(16,true),(23,true)] 100 rfl ?_ (AK.aK rfl ?_)
  ·simp[aa,a]
  ·simp[aa,aa.cat,chunk,a]
 |some p =>
  have g:=AA a
  by_cases e:eB k p=x.1
  ·refine ah f [(16,false),(23,false)] 100 rfl ?_ (AK.aK rfl ?_)
   ·simp[aa,a,e,d,g]
   ·simp[aa,aa.cat,chunk,a,e,d]
  ·refine ah f [(16,false),(23,true)] 100 rfl ?_ (AK.aK rfl ?_)
   ·simp[aa,a,e,d,g]
   ·simp[aa,aa.cat,chunk,a,e,d]
theorem t163(a:dw X 146 ub):dw X 57 (qO O4 aI (λx k=>Gg (chunk k x)) λ_ k=>[b5 k=true]):=.xz λx k h=>Gh a x k h
end Go.AM.R1
namespace Go.AM
open Go.Conc (G)
section
variable {P:Program}{X:Cx P}
def Yields{ι:Type}(X:Cx P)(lb:Nat)(ds:List D)(σ:List aj)(res:Bool)(σ':ι->List aj):Prop :=
 ∀ s (vs:List Value) (l:Nat),bC σ s vs ds->ag σ s->(∃ L,s.β[lb]?=some L/\L.v=.func (.yield l) #[] #[]) ->
  ∃ fn tmps assign body,(Instr.yield l vs.toArray).run P s.w=.ok (.round l fn tmps assign body) s.w/\(Instr.yield l vs.toArray).events P s.w #[]=#[⟨.obj l,false,false⟩] /\
  ∀ (S:Goroutine->St->Prop) (c:Frame) (cs:List Frame),(∀ i s',ag (σ' i) s'->bo σ s (σ' i) s'->dn X S (G (c.finish (.bool res)) cs) s') ->
   dn X S (G (Frame.round l fn tmps assign body .normal) (c::cs)) s
theorem lh{w:World}{l:Nat}{r:Loop}(h:w.heap[l]?=some (.loop r)):(Instr.getLoop l).run P w=.ok r w/\∀ es,(Instr.getLoop l).events P w es=es.push ⟨.obj l,false,false⟩:=by
 have c:(getObj l).run P w=.ok (.loop r) w:=by simp only[getObj,Sem.run,h]
 have d:∀ es,(getObj l).events P w es=es.push ⟨.obj l,false,false⟩:=λes=>by simp only[getObj,Sem.events,Sem.runT,h];rfl
 constructor
 ·simp[Instr.getLoop,c]
 ·intro es;simp[Instr.getLoop,c,d]
theorem nJ{w:World}{l:Nat}{r r':Loop}(h:w.heap[l]?=some (.loop r)):(setObj l (.loop r')).run P w=.ok () { w with heap:=w.heap.setIfInBounds l (.loop r') }/\∀ es,(setObj l (.loop r')).events P w es=es.push ⟨.obj l,true,false⟩:=by
 constructor
 ·simp only[setObj,Sem.run,h]
 ·intro es;simp only[setObj,Sem.events,Sem.runT,h];rfl
theorem CX{w:World}{l:Nat}{r:Loop}{args:Array Value}(h:w.heap[l]?=some (.loop r))(c:args.size=r.params.size) :
  (Instr.yield l args).run P w=.ok (.round l r.fn ((r.params.zip args).foldl (λtmps (t,a)=>tmps.setIfInBounds t a) r.tmps) r.assign r.body) w/\(Instr.yield l args).events P w #[]=#[⟨.obj l,false,false⟩]:=by
 obtain⟨d,e⟩:=lh (P:=P) h
 constructor
 ·simp[Instr.yield,d,c]
 ·simp[Instr.yield,d,e,c]
theorem CY{w:World}{l:Nat}{r:Loop}(h:w.heap[l]?=some (.loop r))(c:r.state=.ready) :
  (Instr.beginRound l).run P w=.ok () { w with heap:=w.heap.setIfInBounds l (.loop { r with state:=.busy }) }/\(Instr.beginRound l).events P w #[]=#[⟨.obj l,false,false⟩,⟨.obj l,true,false⟩]:=by
 obtain⟨d,f⟩:=lh (P:=P) h;obtain⟨e,g⟩:=nJ (P:=P) (r':={ r with state:=.busy }) h
 constructor
 ·simp[Instr.beginRound,d,e,c]
 ·simp[Instr.beginRound,d,f,e,g,c]
theorem xi{w:World}{l:Nat}{r:Loop}(h:w.heap[l]?=some (.loop r))(j:Option Code) :
  (Instr.endRound l j).run P w=.ok (.bool j.isNone) { w with heap:=w.heap.setIfInBounds l (.loop { r with state:=if j.isNone then .ready else .done,pending:=j }) }/\(Instr.endRound l j).events P w #[]=#[⟨.obj l,false,false⟩,⟨.obj l,true,false⟩]:=by
 obtain⟨c,e⟩:=lh (P:=P) h;obtain⟨d,f⟩:=nJ (P:=P) (r':={ r with state:=if j.isNone then .ready else .done,pending:=j }) h
 constructor
 ·simp only[Instr.endRound,bm,c,d,bP,cY]
 ·simp only[Instr.endRound,Sem.events_bind,c,e,d,f,Result.evThen_ok,Sem.events_pure];rfl
theorem yF{w:World}{l:Nat}{r:Loop}(h:w.heap[l]?=some (.loop r))(c:r.state≠.busy) :
  (Instr.endLoop l).run P w=.ok r.pending { w with heap:=w.heap.setIfInBounds l (.loop { r with state:=.exhausted }) }/\(Instr.endLoop l).events P w #[]=#[⟨.obj l,false,false⟩,⟨.obj l,true,false⟩]:=by
 obtain⟨d,f⟩:=lh (P:=P) h;obtain⟨e,g⟩:=nJ (P:=P) (r':={ r with state:=.exhausted }) h;have j:(r.state==.busy)=false:=by cases i:r.state <;> simp_all
 constructor
 ·simp[Instr.endLoop,d,e,c]
 ·simp[Instr.endLoop,d,f,g,c]
section steps
variable {b:Frame}{a:Act}{k:List Item}{cs:List Frame}{w:World}{main:Bool}
theorem yG{o:Oper}{f:Operand}{xs:Array Operand}{c:Array TypeId}{l:Nat}(e:o.op=.call { callee:=.value f,args:=xs,argTypes:=c })(g:a.eval f=.func (.yield l) #[] #[]) :
  (execOp a.eval o).run P w=(Instr.yield l (xs.toList.map a.eval).toArray).run P w/\(execOp a.eval o).events P w #[]=(Instr.yield l (xs.toList.map a.eval).toArray).events P w #[]:=by
 have d:xs.map a.eval=(xs.toList.map a.eval).toArray:=by apply gy;simp
 constructor
 ·simp[execOp,e,resolve,g,Deferred.ofValue,invoke,d]
 ·simp[execOp,e,resolve,g,Deferred.ofValue,invoke,d]
theorem Fu{ops:Array Oper}{i:Nat}{rest:List Nat}{o:Oper}{l:Nat}{fn:FuncId}{tmps:Array Value}{assign body:Code}{w':World}(h:ops[i]?=some o)(n:Region.wanted o (yielded ops a.tmps)=true)
  (g:b.kind≠.early) (f:(execOp a.eval o).run P w=.ok (.round l fn tmps assign body) w') :
  stepG P main (G (b.aT a (.inRegion ops (i::rest)::k)) cs) w=.go (G (Frame.round l fn tmps assign body .normal) (b.aT a (.inRegion ops (i::rest)::k)::cs)) w' (Go.Conc.listed P b.fn a o w):=by
 have e:(b.kind==CallKind.early)=false:=by simpa using g
 rw[sL h n (λc j=>by obtain⟨d,m⟩:=pM j f;cases m)]
 simp[stepG.apply,f,G,Frame.aT,e,GStep.after,Go.Conc.listed]
theorem Fv{l:Nat}{r:Loop}(g:b.roundOf=some l)(e:b.kind≠.early)(h:w.heap[l]?=some (.loop r))(d:r.state=.ready) :
  stepG P main (G (b.aT a (.beginRound::k)) cs) w=.go (G (b.aT a k) cs) { w with heap:=w.heap.setIfInBounds l (.loop { r with state:=.busy }) } (seen P b.fn #[⟨.obj l,false,false⟩,⟨.obj l,true,false⟩]):=by
 obtain⟨f,i⟩:=CY (P:=P) h d;have c:(b.kind==CallKind.early)=false:=by simpa using e
 simp[G,stepG,stepG.exec,stepG.apply,Frame.aT,g,c,f,i,GStep.after,Frame.finish]
theorem yH{l:Nat}{r:Loop}{j:Option Code}{e:List Item}{c:Frame}(g:b.roundOf=some l)(f:b.kind=.normal)(h:w.heap[l]?=some (.loop r))
  (n:(j=none/\e=[])∨(j=some .ret/\∃ k1,e=.code .ret::k1)∨(∃ id k1,j=some (.exit id)/\e=.code (.exit id)::k1/\exitTo id k1=none)) :
  stepG P main (G (b.aT a e) (c::cs)) w=.go (G (c.finish (.bool j.isNone)) cs) { w with heap:=w.heap.setIfInBounds l (.loop { r with state:=if j.isNone then .ready else .done,pending:=j }) } (seen P b.fn #[⟨.obj l,false,false⟩,⟨.obj l,true,false⟩]):=by
 obtain⟨d,i⟩:=xi (P:=P) h j;rcases n with⟨rfl,rfl⟩|⟨rfl,k1,rfl⟩|⟨id,k1,rfl,rfl,m⟩
 ·simp only[Option.isNone_none,aX] at d;simp[G,stepG,stepG.exec,Frame.aT,g,d,i,GStep.after,doReturn,f]
 ·simp only[Option.isNone_some,aW,gI] at d;simp[G,stepG,stepG.exec,Frame.aT,g,d,i,GStep.after,doReturn,f]
 ·simp only[Option.isNone_some,aW,gI] at d;simp[G,stepG,stepG.exec,Frame.aT,g,d,i,GStep.after,doReturn,f,m]
theorem Ah{l:Nat}{r:Loop}(h:w.heap[l]?=some (.loop r))(d:r.state≠.busy) :
  stepG P main (G (b.aT a (.endRangeFunc l::k)) cs) w=.go (G (b.aT a ((r.pending.map Item.code).toList++k)) cs) { w with heap:=w.heap.setIfInBounds l (.loop { r with state:=.exhausted }) } (seen P b.fn #[⟨.obj l,false,false⟩,⟨.obj l,true,false⟩]):=by
 obtain⟨e,c⟩:=yF (P:=P) h d;simp[G,stepG,stepG.exec,Frame.aT,e,c,GStep.after]
theorem vb{fn:FuncId}{tmps:Array Value}{params:Array Tmp}{assign body:Code} :
  (Instr.enterLoop fn tmps params assign body none).run P w=.ok (w.heap.size+1,[{ target:=.collected w.heap.size,args:=#[] }]) { w with heap:=(w.heap.push (.deferred (some []))).push (.loop { state:=.ready,pending:=none,fn,tmps,params,assign,body,defers:=w.heap.size }) } /\
  (Instr.enterLoop fn tmps params assign body none).events P w #[]=#[]:=by
 have c:∀ (o:Obj) (w:World),(newObj o).run P w=.ok w.heap.size { w with heap:=w.heap.push o }:=λo w=>by simp only[newObj,Sem.run]
 have d:∀ (o:Obj) (w:World) es,(newObj o).events P w es=es:=λo w es=>by simp only[newObj,Sem.events,Sem.runT]
 constructor
 ·simp[Instr.enterLoop,c];rfl
 ·simp[Instr.enterLoop,c,d]
theorem xj{f:Operand}{ps:Array Tmp}{assign body:Code}{F:FuncId}{fn:Func}{c:List Value}(s:b.roundOf=none)(p:b.kind≠.early)(n:P.funcs[F]?=some fn)(j:(fn.name== "runtime.NumGoroutine")=false)(g:fn.body.isNone=false)
  (u:a.eval f=.func (.func F) #[] c.toArray) :
  stepG P main (G (b.aT a (.code (.rangeFunc f ps assign body)::k)) cs) w =
   .go (G (Frame.enter P F (Value.func (.yield (w.heap.size+1)) #[] #[]::c).toArray .normal) (b.aT { a with defers:={ target:=.collected w.heap.size,args:=#[] }::a.defers } (.inRangeFunc (w.heap.size+1)::k)::cs))
    { w with heap:=(w.heap.push (.deferred (some []))).push (.loop { state:=.ready,pending:=none,fn:=b.fn,tmps:=a.tmps,params:=ps,assign,body,defers:=w.heap.size }) } #[]:=by
 obtain⟨q,r⟩:=vb (P:=P) (w:=w) (fn:=b.fn) (tmps:=a.tmps) (params:=ps) (assign:=assign) (body:=body);have l:(b.kind==CallKind.early)=false:=by simpa using p
 have i:fn.name≠ "runtime.NumGoroutine":=by simpa using j
 have h:fn.body≠none:=by intro e;rw[e] at g;cases g
 have o:∀ (d:List Deferred) (t:List Item) (m:FrameMode),({ fn:=b.fn,tmps:=a.tmps,todo:=t,defers:=d,mode:=m,kind:=b.kind,roundOf:=b.roundOf }:Frame).eval f=.func (.func F) #[] c.toArray:=by
  intro d t m;rw[<-u];cases f <;> rfl
 simp only[G,stepG,stepG.exec,Frame.aT,s] at o ⊢;simp[q,r,GStep.after,stepG.apply,resolve,o,Deferred.ofValue,invoke,callFunc,n,i,h,l,seen];rfl
end steps
end
section
variable {P:Program}{X:Cx P}
theorem ag.xk{σ:List aj}{s:St}(hh:ag σ s){lb N:Nat}{a:Fr}{r:Loop}(e:σ[lb]?=some (.loop N a r)){l:Nat}(hl:∃ L,s.β[lb]?=some L/\L.v=.func (.yield l) #[] #[]) :
  ∃ tmps fn df,s.β[lb]?=some ⟨.func (.yield l) #[] #[],[l]⟩/\s.w.heap[l]?=some (.loop { r with tmps:=tmps,fn:=fn,defers:=df })/\tmps.size=N/\(∀ t,cd σ s (tmps.getD t undef) (look a t))/\(∀ o,s.M l o=none):=by
 obtain⟨L,h1,h2⟩:=hl;obtain⟨l',tmps,fn,df,d,g,f,c,b⟩:=hh.box lb _ L e h1;subst d;simp at h2;subst h2;exact⟨tmps,fn,df,h1,g,f,c,b⟩
theorem ag.xl{σ:List aj}{s:St}(hh:ag σ s){lb N:Nat}{a:Fr}{r r':Loop}{B':aj}(y:σ[lb]?=some (.loop N a r)){l:Nat}{tmps:Array Value}{fn df:Nat}(f:s.β[lb]?=some ⟨.func (.yield l) #[] #[],[l]⟩)
  (D:s.w.heap[l]?=some (.loop { r with tmps:=tmps,fn:=fn,defers:=df })) (C:tmps.size=N) (q:∀ t,cd σ s (tmps.getD t undef) (look a t)) (z:∀ o,s.M l o=none) (k:B'=.dead∨B'=.loop N a r') :
  ag (σ.set lb B') { s with w:={ s.w with heap:=s.w.heap.setIfInBounds l (.loop { r' with tmps:=tmps,fn:=fn,defers:=df }) } }/\Step σ s (σ.set lb B') { s with w:={ s.w with heap:=s.w.heap.setIfInBounds l (.loop { r' with tmps:=tmps,fn:=fn,defers:=df }) } }:=by
 have m:l<s.w.heap.size:=hh.lt _ (aE f) l (by simp)
 have A:∀ b,b≠l->(s.w.heap.setIfInBounds l (.loop { r' with tmps:=tmps,fn:=fn,defers:=df }))[b]?=s.w.heap[b]?:=λb g=>by rw[kr (λe=>g e.symm)]
 have j:s.β.set lb ⟨.func (.yield l) #[] #[],[l]⟩=s.β:=by
  apply jK
  intro i
  by_cases e:lb=i
  ·subst e;rw[bk (aD.1 f).1,f]
  ·rw[b6 e]
 have p:lb<σ.length:=(aD.1 y).1;have n:gD (.loop N a r) ⟨.func (.yield l) #[] #[],[l]⟩ B' ⟨.func (.yield l) #[] #[],[l]⟩:=by rcases k with rfl|rfl <;> rfl
 have ex:Ext σ s (σ.set lb B') { s with w:={ s.w with heap:=s.w.heap.setIfInBounds l (.loop { r' with tmps:=tmps,fn:=fn,defers:=df }) } }:=by
  refine⟨λ_ _ _ h=>h,λi B L d c=>?_⟩
  by_cases e:lb=i
  ·subst e;rw[y] at d;cases d;rw[f] at c;cases c;exact⟨B',_,by rw[bk p],f,n⟩
  ·exact⟨B,L,by rw[b6 e];exact d,c,.refl _ _⟩
 have:=hh.iv (M':=s.M) (w':={ s.w with heap:=s.w.heap.setIfInBounds l (.loop { r' with tmps:=tmps,fn:=fn,defers:=df }) }) (B':=B') (L':=⟨.func (.yield l) #[] #[],[l]⟩) y f n (by simp) (λb _ g=>A b (by simpa using g)) (λ_ _ _ _=>rfl) (λ_ _ _ h=>h)
  (λb o v u=>by
   have x:b≠l:=by rintro rfl;rw[z] at u;cases u
   rw[<-hh.mem b o v u];simp only[World.cell?];rw[A b x]) (λb g=>by simp at g;subst g;exact⟨.inl (by simp),by simpa using m⟩) rfl rfl rfl (by
   rcases k with rfl|rfl
   ·trivial
   ·refine⟨l,tmps,fn,df,rfl,?_,C,λt=>?_,z⟩
    ·show (s.w.heap.setIfInBounds l _)[l]?=_;rw[l6 m]
    ·have:=(q t).mono ex hh.len;rw[j];exact this)
 rw[j] at this;exact this
theorem AK.yield{ι:Type}{N:Nat}{Qf:Post}{K:List It}{φ:Fr}{σ:List aj}{σ':ι->List aj}{all rest:List Oper}{o:Oper}{u:Operand}{xs:Array Operand}{A:Array TypeId}{lb:Nat}{ds:List D}{res:Bool}(H:Yields X lb ds σ res σ')
  (O:o.guard=none) (R:gg N o.dst=true) (W:o.op=.call { callee:=.value u,args:=xs,argTypes:=A }) {J:Nat} {C:Fr} {r:Loop} (E:σ[lb]?=some (.loop J C r)) (U:bn φ u=.e (.one (.ref lb))) (h:xs.toList.map (bn φ)=ds)
  (k:∀ j,AK X N Qf (.ops all rest::K) .normal (iP o.dst (.e (.one (.c (.bool res)))) φ) (σ' j)):AK X N Qf (.ops all (o::rest)::K) .normal φ σ:=by
 intro s a f hh b kk cs S idx hb fK hQ;cases idx with
 |nil=>exact fK.elim
 |cons j idx =>
 refine .next rfl λi n=>?_
 have y:=X.fz n;have d:=hh.rely y;have m:=f.rely y hh;have G:=cV m u;rw[U] at G;obtain⟨_,L,x,v,_⟩:=(show gd _ i _ (.ref lb) from G)
 obtain⟨l,tmps,fn,df,M,h4,h5,h6,h7⟩:=d.box lb _ L E x;subst M;have B:bC σ i (xs.toList.map a.eval) ds:=by rw[<-h];exact mr (cV m) xs.toList
 obtain⟨Y,z,assign,body,y1,y2,Q⟩:=H i (xs.toList.map a.eval) l B d ⟨_,x,rfl⟩;obtain⟨Z,V⟩:=yG (P:=P) (w:=i.w) (a:=a) W v;refine⟨_,i,_,Fu fK.1 (cw O) hb (Z.trans y1),⟨⟨σ,σ,d,d,.refl _ _⟩,eK.seen ?_⟩,Q S _ _ λF s' ia st=>?_⟩
 ·rw[V,y2];exact .one (nD (L:=⟨.func (.yield l) #[] #[],[l]⟩) (aE x) (by simp))
 have g:=iY (b:=b) (a:=a) (k:=kk) all.toArray j idx (.bool res);rw[fK.1] at g;simp only[jZ] at g;rw[g];refine k F s' _ ?_ ia b kk cs S idx hb fK.2 λp σ2 s2 a2 q I h2 lB=>hQ p σ2 s2 a2 q I h2 ((y.stepW.trans st).trans lB)
 cases T:o.dst with
 |none=>exact m.mono st d.len
 |some t=>exact(m.mono st d.len).put (et R t T) (show cd (σ' F) s' (.bool res) (.e (.one (.c (.bool res)))) from Rd.bool)
def o7:List Tmp->List D->Fr->Fr
 |t::ts,d::ds,φ=>o7 ts ds ((t,d)::φ)
 |_,_,φ=>φ
def IV(N:Nat):List Tmp->Bool
 |[]=>true
 |t::ts=>match Nat.ble (t+1) N with|true=>IV N ts|false=>false
theorem BT{N:Nat}{σ:List aj}{s:St}:∀ {ps:List Tmp}{ds:List D}{vs:List Value}{φ:Fr}{a:Act},bg N σ s φ a->bC σ s vs ds->IV N ps=true->bg N σ s (o7 ps ds φ) { a with tmps:=(ps.zip vs).foldl (λtmps (t,v)=>tmps.setIfInBounds t v) a.tmps }
 |[],ds,vs,φ,a,h,_,_=>by simpa[o7] using h
 |_::_,[],[],φ,a,h,_,_=>by simpa[o7] using h
 |_::_,[],_::_,φ,a,h,b,_=>b.elim
 |_::_,_::_,[],φ,a,h,b,_=>b.elim
 |t::ts,d::ds,v::vs,φ,a,h,b,c=>by
  simp only[IV] at c;split at c
  ·rename_i e
   have:=BT (h.put (d:=t) (cA e) b.1) b.2 c;simpa[o7,Act.put] using this
  ·cases c
def LQ:Exit->Option (Option Code)
 |.normal=>some none
 |.ret=>some (some .ret)
 |.exit id=>some (some (.exit id))
 |_=>none
theorem Yields.intro{ι:Type}{lb N:Nat}{f:Fr}{r:Loop}{ds:List D}{σ:List aj}{σ':ι->List aj}{j:Option Code}(p:σ[lb]?=some (.loop N f r))(R:r.state=.ready)(J:ds.length=r.params.size)(U:IV N r.params.toList=true)
  (h:AW X N r.assign (λe y σ1=>e=.normal/\σ1[lb]?=some (.loop N f r)/\AW X N r.body (λe φ2 σ2=>LQ e=some j/\σ2[lb]?=some (.loop N f { r with state:=.busy }) /\
   ∃ i,yI (σ2.set lb (.loop N f { r with state:=if j.isNone then .ready else .done,pending:=j })) (σ' i)) y (σ1.set lb (.loop N f { r with state:=.busy }))) (o7 r.params.toList ds f) σ):Yields X lb ds σ j.isNone σ':=by
 intro s vs l I hh hl;obtain⟨tmps,fn,df,h1,h2,h3,h4,h5⟩:=hh.xk p hl;have Kg:vs.length=r.params.size:=by rw[<-J];exact(bC.get I).1
 obtain⟨y1,y2⟩:=CX (P:=P) (args:=vs.toArray) h2 (by simpa using Kg)
 refine⟨_,_,_,_,y1,y2,λS c cs hS=>?_⟩
 let b:Frame:={ fn:=fn,tmps:=#[],todo:=[],defers:=[],mode:=.run,kind:=.normal,roundOf:=some l }
 have u:b.kind≠.early:=by simp[b]
 have hf:bg N σ s (o7 r.params.toList ds f) { tmps:=(r.params.zip vs.toArray).foldl (λtmps (t,a)=>tmps.setIfInBounds t a) tmps,defers:=[] }:=by
  have:=BT (a:={ tmps:=tmps,defers:=[] }) (φ:=f) ⟨h3,⟨[],ab⟩,h4⟩ I U;have e:(r.params.zip vs.toArray).foldl (λtmps (x:Tmp×Value)=>tmps.setIfInBounds x.1 x.2) tmps=(r.params.toList.zip vs).foldl (λtmps (x:Tmp×Value)=>tmps.setIfInBounds x.1 x.2) tmps:=by
   rw[<-Array.foldl_toList];simp
  show bg N σ s _ { tmps:=(r.params.zip vs.toArray).foldl (λtmps (x:Tmp×Value)=>tmps.setIfInBounds x.1 x.2) tmps,defers:=[] }
  rw[e];exact this
 show dn X S (G (b.aT { tmps:=(r.params.zip vs.toArray).foldl (λtmps (t,a)=>tmps.setIfInBounds t a) tmps,defers:=[] } [.code r.assign,.beginRound,.code r.body]) (c::cs)) s
 refine h s _ hf hh b [.beginRound,.code r.body] (c::cs) S u ?_;rintro e y σ1 s1 a1 ⟨rfl,n,q⟩ f1 B A;refine .next rfl λs2 qe=>?_
 have O:=X.fz qe;have k:=B.rely O;have f2:=f1.rely O B;have T:∃ L,s2.β[lb]?=some L/\L.v=.func (.yield l) #[] #[]:=by
  obtain⟨B',L',k1,W,k3⟩:=(A.trans O.stepW).box lb _ _ p h1;rw[n] at k1;cases k1;exact⟨L',W,k3⟩
 obtain⟨Y,YS,Qm,g1,g2,g3,g4,g5⟩:=k.xk n T;have g6:=k.xl (r':={ r with state:=.busy }) n g1 g2 g3 g4 g5 (.inr rfl);have z:∀ {s:St} {σ:List aj} {L:Loc},s.β[lb]?=some L->L.bs=[l]->eK s #[⟨.obj l,false,false⟩,⟨.obj l,true,false⟩]:=λ{s σ L} hL u =>
  .two (nD (aE hL) (by simp[u])) (nD (aE hL) (by simp[u]))
 refine⟨_,_,_,Fv (l:=l) rfl u g2 R,⟨⟨_,_,k,g6.1,g6.2⟩,eK.seen (z (σ:=σ1) g1 rfl)⟩,?_⟩;have F:=g6.2.lD k;have Z:=g6.1;refine q _ a1 (f2.mono F k.len) Z b [] (c::cs) S u ?_;rintro e φ3 σ3 s3 a3 ⟨hj,o,ii,E⟩ f3 C Q;have stA:=((A.trans O.stepW).trans F).trans Q;have fin:∀ K g,br s3 g->((j=none/\K=[])∨(j=some .ret/\∃ k1,K=.code .ret::k1)∨(∃ id k1,j=some (.exit id)/\K=.code (.exit id)::k1/\exitTo id k1=none)) ->
   ∃ g' s' es,stepG P X.main (G (b.aT a3 K) (c::cs)) g.w=.go g' s'.w es/\oB g s' es/\dn X S g' s':=by
  intro K g d V;have m:=C.rely d;have H:∃ L,g.β[lb]?=some L/\L.v=.func (.yield l) #[] #[]:=by
   obtain⟨B',L',k1,W,k3⟩:=(stA.trans d.stepW).box lb _ _ p h1;rw[o] at k1;cases k1;exact⟨L',W,k3⟩
  obtain⟨UD,YT,YU,p1,p2,p3,p4,p5⟩:=m.xk o H;have M:=m.xl (r':={ r with state:=if j.isNone then .ready else .done,pending:=j }) o p1 p2 p3 p4 p5 (.inr rfl)
  obtain⟨p7,p8,_⟩:=E _ M.1;exact⟨_,_,_,yH (l:=l) rfl rfl p2 V,⟨⟨_,_,m,M.1,M.2⟩,eK.seen (z (σ:=σ3) p1 rfl)⟩,hS ii _ p7 (((stA.trans d.stepW).trans (M.2.lD m)).trans (p8.lD M.1))⟩
 cases e with
 |normal =>
  cases hj;exact .next rfl λg d=>fin [] g (X.fz d) (.inl ⟨rfl,rfl⟩)
 |ret =>
  cases hj;intro pre;exact .next rfl λg d=>fin _ g (X.fz d) (.inr (.inl ⟨rfl,pre,rfl⟩))
 |exit id =>
  cases hj;intro pre hp;refine .next rfl λg d=>fin _ g (X.fz d) (.inr (.inr ⟨id,_,rfl,rfl,?_⟩))
  have:=hp [];simpa[exitTo] using this
 |_=>cases hj
end
def nm{P:Program}(X:Cx P)(N:Nat)(c:Code)(Q:Post)(φ:Fr)(σ:List aj):Prop :=
 ∀ s a,bg N σ s φ a->ag σ s->∀ (b:Frame) (k:List Item) (cs:List Frame) (S:Goroutine->St->Prop),b.kind≠.early->b.roundOf=none ->
  (∀ e d σ' s' a',Q e d σ'->bg N σ' s' d a'->ag σ' s'->bo σ s σ' s'->ends X S b k cs e a' s')->dn X S (G (b.aT a (.code c::k)) cs) s
section
variable {P:Program}{X:Cx P}{N:Nat}{Q:Post}{φ:Fr}{σ:List aj}
theorem AW.top{c:Code}(h:AW X N c Q φ σ):nm X N c Q φ σ:=λs a f hh b k cs S e _ d=>h s a f hh b k cs S e d
theorem nm.mono{c:Code}{f:Post}(h:nm X N c Q φ σ)(n:∀ e φ σ,Q e φ σ->f e φ σ):nm X N c f φ σ :=
 λs a g hh b k cs S l j i=>h s a g hh b k cs S l j λe d σ' s' a' q o m st=>i e d σ' s' a' (n _ _ _ q) o m st
theorem nm.seq{x y:Code}(h:nm X N x (BU (nm X N y Q) Q) φ σ):nm X N (.seq x y) Q φ σ:=by
 intro s a m hh b k cs S j c g;refine .ctl hh rfl (λ_=>mx) λo h1=>?_
 refine h o a (m.rely h1 hh) (hh.rely h1) b (.code y::k) cs S j c ?_;intro e n σ' s' a' q l i st;have d:=h1.stepW.trans st;cases e with
 |normal=>exact q s' a' l i b k cs S j c λe f σ2 s2 a2 q2 f2 h2 lB=>g e f σ2 s2 a2 q2 f2 h2 (d.trans lB)
 |_=>exact ends.cons (λ_ _=>rfl) (by simp) (g _ _ _ _ _ q l i d)
theorem nm.block{id:Nat}{c:Code}(h:nm X N c (xm id Q) φ σ):nm X N (.block id c) Q φ σ:=by
 intro s a o hh b k cs S r m g;refine .ctl hh rfl (λ_=>pL) λp h1=>?_
 refine h p a (o.rely h1 hh) (hh.rely h1) b (.inBlock id::k) cs S r m ?_;intro e i σ' s' a' q j f st;have d:=h1.stepW.trans st;cases e with
 |normal =>
  exact .ctl f rfl (λ_=>oX) λs2 h2=>g .normal i σ' s2 a' q (j.rely h2 f) (f.rely h2) (d.trans h2.stepW)
 |exit Ek =>
  simp only[xm] at q;split at q
  ·rename_i e
   subst e;intro pre hp;refine .ctl f rfl (λ_=>wQ (k':=k) (by rw[hp];simp[exitTo])) λs2 h2=>?_
   exact g .normal i σ' s2 a' q (j.rely h2 f) (f.rely h2) (d.trans h2.stepW)
  ·rename_i n
   intro pre hp;have:=g (.exit Ek) i σ' s' a' q j f d (pre++[.inBlock id]) (λk'=>by
    rw[di,hp];have:(id==Ek)=false:=by simp;exactλh=>n h.symm
    simp[exitTo,this])
   simpa using this
 |ret=>exact g _ _ _ _ _ q j f d
 |panic ch=>exact g _ _ _ _ _ q j f d
 |goto l=>exact g _ _ _ _ _ q j f d
 |outgrown=>exact g _ _ _ _ _ q j f d
theorem ag.LR{s:St}(h:ag σ s){o:Nat->Prop}(d:∀ b,o b->b<s.w.heap.size/\∀ L∈s.β,b∉L.bs):ag σ { s with own:=o } :=
 ⟨h.mem,h.len,λl B L e c=>dT.carry (σ:=σ) (s:=s) (σ':=σ) (s':={ s with own:=o }) ⟨λ_ _ _ h=>h,λ_ B L h a=>⟨B,L,h,a,.refl _ _⟩⟩ h.len (λ_ _=>⟨rfl,λ_=>rfl⟩) (h.box l B L e c),h.fe,h.lt,d⟩
theorem ag.iS{s:St}(h:ag σ s){r:Nat}{o:Nat->Prop}(m:s.own r)(p:∀ b,o b->s.own b)(j:¬o r)(t:∀ i,s.M r i=none)(v:s.w.heap[r]?=some (.deferred (some []))) :
  ag (σ++[.qv]) { s with β:=s.β++[⟨.int .i64 r,[r]⟩],own:=o }/\dX s { s with β:=s.β++[⟨.int .i64 r,[r]⟩],own:=o }:=by
 obtain⟨u,k⟩:=h.own r m;have ex:Ext σ s (σ++[.qv]) { s with β:=s.β++[⟨.int .i64 r,[r]⟩],own:=o }:=by
  refine⟨λ_ _ _ h=>h,λl B L e a=>⟨B,L,?_,?_,.refl _ _⟩⟩
  ·rw[bc (aD.1 e).1,e]
  ·show (s.β++_)[l]?=_;rw[bc (aD.1 a).1,a]
 refine⟨⟨h.mem,by simp[h.len],?_,?_,?_,?_⟩,⟨rfl,λ_ _ _ h=>h,λ_ _ _=>rfl,h.mem,?_⟩⟩
 ·intro l B L e a;rcases eY a with f|⟨hl,rfl⟩
  ·have hl:l<σ.length:=by rw[<-h.len];exact(aD.1 f).1
   rw[bc hl] at e;exact(h.box l B L e f).carry ex h.len λ_ _=>⟨rfl,λ_=>rfl⟩
  ·rw[hl,h.len,ck (ar _)] at e;simp at e;subst e;exact⟨r,rfl,v,t⟩
 ·intro l l' L L' a g b c d;rcases eY a with k1|⟨e1,rfl⟩ <;> rcases eY g with n|⟨e2,rfl⟩
  ·exact h.fe l l' L L' k1 n b c d
  ·simp at d;subst d;exact absurd c (k L (aE k1))
  ·simp at c;subst c;exact absurd d (k L' (aE n))
  ·rw[e1,e2]
 ·intro L a b c;simp only[dF,fV] at a;rcases a with a|rfl
  ·exact h.lt L a b c
  ·simp at c;subst c;exact u
 ·intro b c;obtain⟨q,p2⟩:=h.own b (p b c);refine⟨q,λL a=>?_⟩
  simp only[dF,fV] at a;rcases a with a|rfl
  ·exact p2 L a
  ·simp;rintro rfl;exact j c
 ·rintro b (c|⟨L,a,c⟩)
  ·exact .inl (p b c)
  ·simp only[dF,fV] at a;rcases a with a|rfl
   ·exact .inr ⟨L,a,c⟩
   ·simp at c;subst c;exact .inl m
def Fw:Option Code->Option Exit
 |none=>some .normal
 |some .ret=>some .ret
 |some (.exit id)=>some (.exit id)
 |_=>none
theorem nm.rangeFunc{ι:Type}{f:Operand}{ps:Array Tmp}{assign body:Code}{F:FuncId}{capD:List D}{res:ι->D}{σ':ι->List aj}{r':ι->Loop}
  (zE:∀ s a,bg N σ s φ a->ag σ s->∃ q:List Value,a.eval f=.func (.func F) #[] q.toArray/\bC σ s q capD)
  (NZ:cf X F (.e (.one (.ref σ.length))::capD) (σ++[.loop N φ { state:=.ready,pending:=none,fn:=0,tmps:=#[],params:=ps,assign:=assign,body:=body,defers:=0 }]) res σ')
  (hl:∀ i,(σ' i)[σ.length]?=some (.loop N φ (r' i))/\(r' i).state≠.busy)
  (k:∀ i,∃ e,Fw (r' i).pending=some e/\Q e φ ((σ' i).set σ.length .dead++[.qv])):nm X N (.rangeFunc f ps assign body) Q φ σ:=by
 intro s a fr hh b kk cs S g OK hQ;obtain⟨⟨fn,Nt,LS,J⟩,I⟩:=NZ;refine .next rfl λd zG=>?_
 have hr:=X.fz zG;have m:=hh.rely hr;have f1:=fr.rely hr hh;obtain⟨q,hv,R⟩:=zE d a f1 m;generalize A:d.w.heap.size=r;have x:=λmain=>xj (P:=P) (main:=main) (k:=kk) (cs:=cs) (ps:=ps) (assign:=assign) (body:=body) (b:=b) (w:=d.w) OK g Nt LS J hv
 rw[A] at x
 let w1:World:={ d.w with heap:=d.w.heap.push (.deferred (some [])) }
 let lo:Loop:={ state:=.ready,pending:=none,fn:=b.fn,tmps:=a.tmps,params:=ps,assign:=assign,body:=body,defers:=r }
 let w2:World:={ d.w with heap:=(d.w.heap.push (.deferred (some []))).push (.loop lo) }
 have Eg:w2.heap.size=r+2:=by simp[w2,A]
 have R4:w1.heap.size=r+1:=by simp[w1,A]
 have UE:∀ b,b<d.w.heap.size->w1.heap[b]?=d.w.heap[b]?:=λb g=>by
  show (d.w.heap.push _)[b]?=_;rw[sd g,bw g]
 have y:∀ b,b<w1.heap.size->w2.heap[b]?=w1.heap[b]?:=λb g=>by
  show (w1.heap.push _)[b]?=_;rw[sd g,bw g]
 have UF:∀ b,b<d.w.heap.size->w2.heap[b]?=d.w.heap[b]?:=λb g=>by rw[y b (by omega),UE b g]
 have W:w2.heap[r]?=some (.deferred (some [])):=by
  rw[y r (by omega)]
  show (d.w.heap.push _)[r]?=_;rw[<-A];simp
 have R5:w2.heap[r+1]?=some (.loop lo):=by
  show (w1.heap.push _)[r+1]?=_;rw[<-R4];simp
 have nM:∀ b,d.w.heap.size<=b->∀ o,d.M b o=none:=λb g o=>by
  cases p:d.M b o with
  |none=>rfl
  |some v=>have:=m.block p;omega
 let L1:Loc:=⟨.func (.yield (r+1)) #[] #[],[r+1]⟩
 let U:Loc:=⟨.int .i64 r,[r]⟩
 let rr:Loop:={ state:=.ready,pending:=none,fn:=0,tmps:=#[],params:=ps,assign:=assign,body:=body,defers:=0 }
 obtain⟨g1,g2⟩:=m.grow (M':=d.M) (w':=w2) (by omega) UF (λ_ _ _=>rfl) (λb g o v p=>by rw[nM b g] at p;cases p) rfl rfl rfl
 have H:Ext σ d (σ++[.loop N φ rr]) ⟨d.β++[L1],d.M,w2,d.own⟩:=by
  refine⟨λ_ _ _ h=>h,λl B L hB n=>⟨B,L,?_,?_,.refl _ _⟩⟩
  ·rw[bc (aD.1 hB).1,hB]
  ·show (d.β++_)[l]?=_;rw[bc (aD.1 n).1,n]
 obtain⟨a1,a2⟩:=g1.hO (B:=.loop N φ rr) (L:=L1) g2 rfl m ⟨r+1,a.tmps,b.fn,r,rfl,R5,f1.size,λt=>(f1.slot t).mono H m.len,λo=>nM _ (by omega) o⟩ (λb g=>by
  simp[L1] at g;subst g;exact⟨by omega,by show r+1<w2.heap.size;omega⟩)
 have hD:=a1.LR (o:=λb=>d.own b∨b=r) (by
  rintro b (g|rfl)
  ·exact a1.own b g
  ·refine⟨by show b<w2.heap.size;omega,λL n=>?_⟩
   simp only[dF,fV] at n;rcases n with n|rfl
   ·intro hc;have:=m.lt L n b hc;omega
   ·simp[L1])
 have d1:=m.k9;obtain⟨e1,e2⟩:=d1.grow (M':=d.M) (w':=w1) (by omega) UE (λ_ _ _=>rfl) (λb g o v p=>by rw[nM b g] at p;cases p) rfl rfl rfl
 obtain⟨e3,e4⟩:=e1.hO (B:=.dead) (L:=U) e2 rfl d1 ab (λb g=>by simp[U] at g;subst g;exact⟨by omega,by show b<w1.heap.size;omega⟩)
 obtain⟨e5,e6⟩:=e3.grow (M':=d.M) (w':=w2) (by show w1.heap.size<=_;omega) y (λ_ _ _=>rfl) (λb g o v p=>by
  have g:w1.heap.size<=b:=g;rw[nM b (by omega)] at p;cases p) rfl rfl rfl
 obtain⟨e7,e8⟩:=e5.hO (B:=.dead) (L:=L1) e6 rfl e3 ab (λb g=>by simp[L1] at g;subst g;exact⟨by show w1.heap.size<=_;omega,by show r+1<w2.heap.size;omega⟩)
 have Qt:dX ⟨d.β++[U]++[L1],d.M,w2,d.own⟩ ⟨d.β++[L1],d.M,w2,λb=>d.own b∨b=r⟩:=by
  refine⟨rfl,λ_ _ _ h=>h,λ_ _ _=>rfl,a1.mem,?_⟩
  rintro b ((g|rfl)|⟨L,n,g⟩)
  ·exact .inl g
  ·exact .inr ⟨U,by simp,by simp[U]⟩
  ·simp only[dF,fV] at n;rcases n with n|rfl
   ·exact .inr ⟨L,by simp[n],g⟩
   ·exact .inr ⟨L1,by simp,g⟩
 refine⟨_,⟨d.β++[U]++[L1],d.M,w2,d.own⟩,_,x X.main,⟨⟨_,_,d1,e7,e4.trans e8⟩,.nil⟩,.ghost Qt (I _ (Value.func (.yield (r+1)) #[] #[]::q) ?_ hD S _ λi zX v s4 K mo Qu WR=>?_)⟩
 ·refine⟨⟨λB u=>?_,L1,?_,rfl,rfl⟩,?_⟩
  ·rw[ck (ar _)] at u;simp at u;subst u;rfl
  ·show (d.β++[L1])[σ.length]?=_;rw[<-m.len,ck (ar _)];simp
  ·exact R.mono (σ:=σ) (s:=d) (σ':=σ++[.loop N φ rr]) (s':=⟨d.β++[L1],d.M,w2,λb=>d.own b∨b=r⟩) ⟨H.mem,H.box⟩ m.len
 have Z:(b.aT { a with defers:={ target:=.collected r,args:=#[] }::a.defers } (.inRangeFunc (r+1)::kk)).finish v=b.aT { a with defers:={ target:=.collected r,args:=#[] }::a.defers } (.endRangeFunc (r+1)::kk):=by simp[Frame.finish,Frame.aT]
 refine oc (cs:=cs) (c:=b.aT { a with defers:={ target:=.collected r,args:=#[] }::a.defers } (.inRangeFunc (r+1)::kk)) Qu K λs5 V=>?_
 rw[Z];refine .next rfl λs6 R6=>?_
 have UG:=X.fz R6;have C:=(Qu.rely V).rely UG;have UH:=(WR.trans V.stepW).trans UG.stepW;obtain⟨E,OL⟩:=hl i;have WT:∃ L,s6.β[σ.length]?=some L/\L.v=.func (.yield (r+1)) #[] #[]:=by
  obtain⟨B',L',k1,k2,k3⟩:=UH.box σ.length (.loop N φ rr) L1 (show (σ++[aj.loop N φ rr])[σ.length]?=_ from List.getElem?_concat_length) (by
   show (d.β++[L1])[σ.length]?=_;rw[<-m.len,ck (ar _)];simp)
  rw[E] at k1;cases k1;exact⟨L',k2,k3⟩
 obtain⟨O,WU,WV,p1,p2,p3,p4,p5⟩:=C.xk E WT;obtain⟨q1,q2⟩:=C.xl (r':={ r' i with state:=.exhausted }) (B':=.dead) E p1 p2 p3 p4 p5 (.inl rfl);refine⟨_,_,_,Ah p2 OL,⟨⟨_,_,C,q1,q2⟩,eK.seen (.two (nD (aE p1) (by simp)) (nD (aE p1) (by simp)))⟩,?_⟩
 have j:=UH.trans (q2.lD C);generalize YV:({ s6 with w:={ s6.w with heap:=s6.w.heap.setIfInBounds (r+1) (.loop { { r' i with state:=.exhausted } with tmps:=O,fn:=WU,defers:=WV }) } }:St)=s7 at q1 q2 j;have WW:s7.own r:=by rw[j.own];exact .inr rfl
 have WX:s7.w.heap[r]?=some (.deferred (some [])):=by rw[j.eC r (.inr rfl)];exact W
 have WY:∀ o,s7.M r o=none:=λo=>by
  rw[j.ij r (by show r<w2.heap.size;omega) (λL n=>(hD.own r (.inr rfl)).2 L n)]
  exact nM r (by omega) o
 obtain⟨t1,t2⟩:=q1.iS (r:=r) (o:=d.own) WW (λb g=>by rw[j.own];exact .inl g) (λhc=>by have:=(m.own r hc).1;omega) WY WX
 refine .ghost t2 ?_;have T:bo σ d ((σ' i).set σ.length .dead++[.qv]) { s7 with β:=s7.β++[⟨.int .i64 r,[r]⟩],own:=d.own }:=by
  refine⟨?_,λb g=>?_,λb o v p=>j.mem b o v p,λb g hn o=>?_,λL n b g=>?_,λl B L hB n=>?_,j.os,j.tape,j.output,rfl⟩
  ·have:w2.heap.size<=s7.w.heap.size:=j.size;show d.w.heap.size<=s7.w.heap.size;omega
  ·show s7.w.heap[b]?=_;rw[j.eC b (.inl g)];exact UF b (m.own b g).1
  ·show s7.M b o=_;rw[j.ij b (by show b<w2.heap.size;omega) (λL n=>?_)]
   simp only[dF,fV] at n;rcases n with n|rfl
   ·exact hn L n
   ·simp[L1];omega
  ·simp only[dF,fV] at n;rcases n with n|rfl
   ·rcases j.rM L n b g with h1|⟨L0,h1,h2⟩
    ·have h1:w2.heap.size<=b:=h1;exact .inl (by omega)
    ·simp only[dF,fV] at h1;rcases h1 with h1|rfl
     ·exact .inr ⟨L0,h1,h2⟩
     ·simp[L1] at h2;exact .inl (by omega)
   ·simp at g;exact .inl (by omega)
  ·have ED:=(aD.1 hB).1;have Y:=(aD.1 n).1;obtain⟨B',L',k1,k2,k3⟩:=j.box l B L (by rw[bc ED];exact hB) (by show (d.β++[L1])[l]?=_;rw[bc Y];exact n)
   refine⟨B',L',?_,?_,k3⟩
   ·rw[bc (aD.1 k1).1];exact k1
   ·show (s7.β++_)[l]?=_;rw[bc (aD.1 k2).1];exact k2
 have fF:bg N ((σ' i).set σ.length .dead++[.qv]) { s7 with β:=s7.β++[⟨.int .i64 r,[r]⟩],own:=d.own } φ { a with defers:={ target:=.collected r,args:=#[] }::a.defers }:=by
  have p:=f1.mono T m.len;obtain⟨ls,LU⟩:=f1.defers;refine⟨p.size,⟨((σ' i).set σ.length .dead).length::ls,⟨⟨?_,⟨.int .i64 r,[r]⟩,r,?_,rfl,rfl⟩,λhc=>?_,LU.mono T.ext⟩⟩,p.slot⟩
  ·rw[ck (ar _)];simp
  ·show (s7.β++_)[_]?=_;rw[<-q1.len,ck (ar _)];simp
  ·have h1:=LU.vC _ hc;have h2:=(aD.1 h1).1;have h3:=(aD.1 E).1;simp at h2;omega
 obtain⟨e,u,hq⟩:=k i;have z:=hQ e φ _ _ _ hq fF t1 (hr.stepW.trans T);revert u;show Fw (r' i).pending=some e->dn X S (G (b.aT _ (((r' i).pending.map Item.code).toList++kk)) cs) _;intro u;cases hp:(r' i).pending with
 |none=>rw[hp] at u;cases u;exact z
 |some c =>
  rw[hp] at u;cases c <;> simp only[Fw,reduceCtorEq,bO] at u
  ·subst u;exact z [] (λ_=>rfl)
  ·subst u;exact z kk
theorem bg.callee{t:Nat}{F:FuncId}{cap:List C}(hl:look φ t=.e (.one (.c (.fn (.func F) [] cap)))):∀ s a,bg N σ s φ a->ag σ s->∃ b:List Value,a.eval (.tmp t)=.func (.func F) #[] b.toArray/\bC σ s b (fO cap):=by
 intro s a f _;have h:=f.slot t;rw[hl] at h;have h:=eX h;show ∃ b:List Value,a.tmps.getD t undef=.func (.func F) #[] b.toArray/\_;generalize a.tmps.getD t undef=v at h;cases h with
 |fn fs cs hl uX f1 f2 h1 h2 r1 r2 =>
  have d:fs=[]:=dq hl;subst d;exact⟨cs,rfl,ky (λj c hj=>⟨f2 j,h2 j (by rw[uX];exact(aD.1 hj).1),r2 j c hj⟩) uX⟩
theorem cf.Ai{ι:Type}{f:FuncId}{fn:Func}{c:Code}{args:List D}{σ':ι->List aj}{res:ι->D}(m:P.funcs[f]?=some fn)(d:(fn.name== "runtime.NumGoroutine")=false)(n:fn.body=some c)(g:Nat.ble args.length fn.ntmps=true)
  (h:Fits args σ->nm X fn.ntmps c (λe φ σ1=>∃ j,cv fn σ.length (res j) (σ' j) e φ σ1) (iy 0 args) σ):cf X f args σ res σ':=by
 refine⟨⟨fn,m,d,by rw[n];rfl⟩,λs0 vs hr hh=>?_⟩
 exact(cf.KB m d n (cA g) λs a f i b k cs S p l o=>h ⟨s0,vs,hr,hh⟩ s a f i b k cs S p l o).2 s0 vs hr hh
def R7(fn:Func)(res:D)(σ':List aj):Post:=λe φ σ1 =>
 (e=.ret∨e=.normal)/\σ1=σ'/\ld σ'=true/\∃ ds d ps,u5 φ fn.results.toList=some ds/\pU ds=some d/\zU d res=some ps/\aa ps
theorem cf.mM{ι:Type}{f:FuncId}{fn:Func}{c:Code}{args:List D}{σ':ι->List aj}{res:ι->D}(p:P.funcs[f]?=some fn)(k:(fn.name== "runtime.NumGoroutine")=false)(y:fn.body=some c)(g:Nat.ble args.length fn.ntmps=true)
  (h:AW X fn.ntmps c (λe φ σ1=>∃ j,R7 fn (res j) (σ' j) e φ σ1) (iy 0 args) σ):cf X f args σ res σ':=by
 refine⟨⟨fn,p,k,by rw[y];rfl⟩,λs vs hr hh S cs hS=>?_⟩
 obtain⟨hl,A⟩:=bC.get hr
 let b:Frame:={ fn:=f,tmps:=#[],todo:=[],defers:=[],mode:=.run,kind:=.normal,roundOf:=none }
 have a:Frame.enter P f vs.toArray .normal=b.aT { tmps:=vs.toArray++Array.replicate (fn.ntmps-vs.toArray.size) undef,defers:=[] } [.code c]:=by
  simp[Frame.enter,Frame.aT,p,y,b]
 rw[a];have g:=cA g;refine h s { tmps:=vs.toArray++Array.replicate (fn.ntmps-vs.toArray.size) undef,defers:=[] } ⟨by simp;omega,⟨[],ab⟩,λt=>?_⟩ hh b [] cs S (by simp[b]) ?_
 ·rw[mH];simp only[fH,aX,k6];have:=A t;rcases bz t vs.length with r|J
  ·have e:(vs.toArray++Array.replicate (fn.ntmps-vs.toArray.size) undef).getD t undef=(vs[t]?).getD undef:=by
    simp only[bM];rw[wD (by simpa using r)]
    simp
   rw[e];exact this
  ·rw[eQ (by omega)]
   trivial
 ·rintro e K σ1 s1 a1 ⟨C,m,rfl,o,ds,d,ps,h1,h2,z,H⟩ F n st;have fin:∀ (fr:Frame) s2,br s1 s2->fr.fn=f->fr.tmps=a1.tmps->fr.defers=a1.defers->fr.mode=.returning->fr.kind=.normal->dn X S (G fr cs) s2:=by
   intro fr s2 qe e1 e2 e3 e4 e5;have u:=F.rely qe n;obtain⟨v,L,I,B⟩:=ri (P:=P) u h1 h2;obtain⟨x,i⟩:=u.defers;have q:a1.defers=[]:=by
    cases x with
    |nil=>cases E:a1.defers with
     |nil=>rfl
     |cons d ds=>rw[E] at i;exact i.elim
    |cons l x=>exact absurd rfl (lO o _ (aE (i.vC l (by simp))))
   refine hS C fr v _ ⟨e1,e4,by rw[e3];exact q,e5,fn,by rw[e1];exact p,λw _=>?_⟩ (o0 z H I) (n.rely qe) (st.trans qe.stepW)
   rw[e2];exact⟨L w,λe m=>by rw[B w #[]] at m;simp at m⟩
  rcases m with rfl|rfl
  ·intro pre;exact .ctl n rfl (λ_=>zL rfl) λs2 qe=>fin _ s2 qe rfl rfl (iV _) rfl rfl
  ·exact .ctl n rfl (λ_=>zM rfl) λs2 qe=>fin _ s2 qe rfl rfl (iV _) rfl rfl
end
end Go.AM
namespace Go.AM.R1
open Go.Proofs
variable {X:Cx Tryz.prog}
theorem Mo(x:bD) (n:Int):Ev X 156 [UZ x,.e (.one (.c (.rp [.int .i64 n])))] [] (dB (x.1==n)) []:=by
 refine Ev.body Tryz.func156 rfl rfl rfl λa=>?_
 refine aA rfl ab (AK.aK rfl ?_);simp[aa]
def Mp:c7:=λargs σ=>match args,σ with
 |[.e (.agg [.c (.int .i64 a0),.c (.str a1)]),.e (.one (.c (.rp [.int .i64 n])))],[]=>some (dB (a0==n),[],[a1=a1])
 |_,_=>none
theorem t156:dw X 156 Mp:=by
 intro args σ res σ' obs h c;unfold Mp at h;split at h
 ·rename_i b a n
  cases h;exact Mo (b,a) n
 ·cases h
abbrev Gi(n:Int):D:=.e (.one (.c (.fn (.func 156) [] [.rp [.int .i64 n]])))
def xA(l:List bD) (n:Int):Int:=match l.findIdx? (λx=>x.1==n) with|some i=>i|none=>-1
theorem Ji{t:List bD}{n:Int}{i:Nat}(hi:i<t.length)(h:(t.getD i (0,[])).1=n)(a:∀ j,j<i->(t.getD j (0,[])).1≠n):xA t n=i:=by
 have:t.findIdx? (λf=>f.1==n)=some i:=by
  rw[oP];refine⟨hi,?_,λj c=>?_⟩
  ·simpa[List.getD_eq_getElem?_getD,ai hi] using h
  ·have b:j<t.length:=by omega
   simpa[List.getD_eq_getElem?_getD,ai b] using a j c
 rw[xA,this]
theorem Db{t:List bD}{n:Int}(a:∀ j,j<t.length->(t.getD j (0,[])).1≠n):xA t n=-1:=by
 have:t.findIdx? (λf=>f.1==n)=none:=by
  rw[nt];intro f c;obtain⟨j,b,rfl⟩:=cJ c;simpa[List.getD_eq_getElem?_getD,ai b] using a j b
 rw[xA,this]
theorem Jj(t:List bD) (n:Int):Ev X 155 [dO.sl t,Gi n] [] (dI (xA t n)) []:=by
 refine Ev.body Tryz.func155 rfl rfl rfl λf=>?_
 have e:=f.sl 0 rfl;have b:aY X [(156,Mp)]:=.cons t156 .nil;refine ah b [] 100 rfl ab ?_;refine AK.lV (λi=>i<=t.length/\∀ j,j<i->(t.getD j (0,[])).1≠n) (λi:Nat=>[(0,dO.sl t),(1,Gi n),(7,dI t.length),(8,dI i)]) (λ_=>[]) (λi=>t.length-i) 0 rfl ?_ rfl ab ⟨by omega,by omega⟩ ?_
 ·simp[aa.cat,aa,au.same]
 rintro i ⟨hi,a⟩
 by_cases h:i<t.length
 ·by_cases c:(t.getD i (0,[])).1=n
  ·refine ah b [(9,true),(16,true)] 100 rfl ?_ (AK.jC (cv.zero rfl ?_))
   ·simp only[aa,aF];exact⟨ab,eU.2 c,by omega,by omega,bx (by omega)⟩
   ·simp[aa,Ji h c a]
  ·refine ah b [(9,true),(16,false)] 100 rfl ?_ (AK.gK (i+1) rfl ?_ rfl ab ?_ ?_)
   ·simp only[aa,aF];exact⟨by simp only[aJ];omega,ab,cD.2 c,by omega,by omega,bx (by omega)⟩
   ·simp[aa.cat,aa,au.same]
   ·refine⟨by omega,λj d=>?_⟩
    rcases fE.1 d with d|rfl
    ·exact a j d
    ·exact c
   ·omega
 ·refine ah b [(9,false)] 100 rfl (by simp[aa];omega) (AK.leave rfl rfl ?_)
  refine ah b [] 100 rfl ab (AK.aK rfl ?_);simp[aa,Db (λj d=>a j (by omega))]
def Mq:c7:=λargs σ=>match args,σ with
 |[d,.e (.one (.c (.fn (.func 156) [] [.rp [.int .i64 n]])))],[]=>match iU 2 d with
  |none=>none
  |some (m,es)=>some (dI (xA (dO.list m es) n),[],[dO.fits m es])
 |_,_=>none
theorem t155:dw X 155 Mq:=by
 intro args σ res σ' obs h a;unfold Mq at h;split at h
 ·rename_i d n
  split at h
  ·cases h
  rename_i m es hd
  cases h;exact(Jj _ n).args (λ_ vs=>bC.imp (λ_=>dO.hY hd a) (bC.imp (λ_ r=>r) (λ_ r=>r)) vs)
 ·cases h
theorem AB(t:List bD) (n:Int):(xA t n=-1/\t.find? (λx=>x.1==n)=none)∨∃ i:Nat,i<t.length/\xA t n=i/\t.find? (λx=>x.1==n)=some (t.getD i (0,[])):=by
 unfold xA;cases h:t.findIdx? (λx=>x.1==n) with
 |none =>
  refine .inl ⟨rfl,?_⟩;rw[nt] at h;exact kW.2 λx d=>by simp[h x d]
 |some i =>
  rw[oP] at h;obtain⟨hi,b,a⟩:=h;refine .inr ⟨i,hi,rfl,?_⟩;rw[wC];refine⟨?_,i,hi,?_,λj c=>?_⟩
  ·simpa[List.getD_eq_getElem?_getD,ai hi] using b
  ·simp[List.getD_eq_getElem?_getD,ai hi]
  ·have:=a j c;simpa using this
theorem AD(a:dw X 146 ub) (k:Int)(p:a9) (n:Int)(g:b5 k=true):Ev X 123 [dI k,AE p,dI n] [] (Gg (eL k p n)) []:=by
 refine Ev.body Tryz.func123 rfl rfl rfl λh=>?_
 have f:aY X [(155,Mq),(57,qO O4 aI (λx k=>Gg (chunk k x)) λ_ k=>[b5 k=true])]:=.cons t155 (.cons (t163 a) .nil)
 have c:dO.list p.2.length (dO.fn p.2)=p.2:=dO.list_fn _;refine aq [] 7 rfl ab ?_;refine AK.freeze 5 1 rfl rfl rfl ?_;rcases AB p.2 n with⟨b,d⟩|⟨i,hi,b,d⟩
 ·refine ah f [(14,true)] 100 rfl ?_ (AK.aK rfl ?_)
  ·simp only[aa,c,b];exact⟨rfl,dO.bu _⟩
  ·simp[aa.cat,aa,eL,d]
 ·refine ah f [(14,false)] 100 rfl ?_ (AK.aK rfl ?_)
  ·simp only[aa,c,b];exact⟨g,by omega,by omega,fh (by omega),dO.bu _⟩
  ·have e:eL k p n=chunk k (p.2.getD i (0,[])):=by simp only[eL,d]
   rw[e,c,b];simp only[aF];exact aa.cat.2 ⟨rfl,aa.cat.2 ⟨rfl,ab⟩⟩
theorem SA(a:dw X 146 ub):dw X 123 (El aI (H5 dO) aI (λk p n=>Gg (eL k p n)) λk _ _=>[b5 k=true]):=.Mn λk p n h=>AD a k p n h
end Go.AM.R1
namespace Go.AM
open Go.Conc
def fA (s:St):Prop:=∀ b o v,s.M b o=some v->s.w.cell? ⟨b,o,none⟩=some v
def kC (c:Nat->Prop):Go.Loc->Prop
  | .cell a=>c a.block
  | .obj r=>c r
  | _=>False
structure Clear (c:Nat->Prop) (s:St):Prop where
  own:∀ b,c b->¬s.own b
  β:∀ b,c b->∀ L∈s.β,b∉L.bs
  M:∀ b,c b->∀ o,s.M b o=none
  lt:∀ b,c b->b<s.w.heap.size
section
variable {c:Nat->Prop} {s s':St}
theorem Clear.step {σ σ':List aj} (h:Clear c s) (st:Step σ s σ' s'):Clear c s':=by
  refine⟨λb a=>by rw[st.own];exact h.own b a,λb a L f d=>?_,λb a o=>by rw[st.ij b (h.lt b a) (h.β b a)];exact h.M b a o,λb a=>bF (h.lt b a) st.size⟩
  rcases st.rM L f b d with h1|⟨g,e,h1⟩
  · exact absurd (h.lt b a) (Nat.not_lt.2 h1)
  · exact h.β b a g e h1
theorem Clear.ghost (h:Clear c s) (k:dX s s'):Clear c s':=by
  have f:∀ b,c b->¬(s'.own b∨∃ L∈s'.β,b∈L.bs):=λb a e=>by
    rcases k.blk b e with e|⟨L,d,e⟩
    · exact h.own b a e
    · exact h.β b a L d e
  exact⟨λb a e=>f b a (.inl e),λb a L d e=>f b a (.inr ⟨L,d,e⟩),λb a o=>by rw[k.ij b (h.β b a)];exact h.M b a o,λb a=>by rw[k.w];exact h.lt b a⟩
theorem Clear.forget (h:Clear c s) (k:lC s s'):Clear c s':=by
  refine⟨λb a=>by rw[k.own];exact h.own b a,λb a=>by rw[k.β];exact h.β b a,λb a o=>?_,λb a=>by rw[k.w];exact h.lt b a⟩
  cases e:s'.M b o with
  | none=>rfl
  | some v=>rw[<-k.less b o v e,h.M b a o]
theorem Clear.at (h:Clear c s) (d:Nat):Clear c { s with w:=s.w.at d }:=⟨h.own,h.β,h.M,h.lt⟩
theorem fA.at (h:fA s) (d:Nat):fA { s with w:=s.w.at d }:=h
theorem fA.ghost (k:dX s s'):fA s':=λb o v a=>by rw[k.w];exact k.cell b o v a
theorem fA.forget (h:fA s) (k:lC s s'):fA s':=λb o v a=>by rw[k.w];exact h b o v (k.less b o v a)
theorem fA.lt (h:fA s) {b o:Nat} {v:Value} (a:s.M b o=some v):b<s.w.heap.size:=by
  have:=h b o v a;rcases bz b s.w.heap.size with h1|h1
  · exact h1
  · simp[World.cell?,se h1] at this
theorem br.at (h:fA s) (d:Nat):br s { s with w:=s.w.at d }:=⟨rfl,rfl,rfl,ar _,λ_ _=>rfl,h,rfl,rfl,rfl⟩
theorem Lf {σ:List aj} {e:Event} (k:ag σ s) (n:Clear c s) (g:oU s e) {B:Nat} (o:s.w.heap.size<=B):EvL (kC c) B e:=by
  obtain⟨l,wr,q⟩:=e;cases l with
  | cell a =>
    obtain⟨h,j,b⟩:=g;simp only at h j b;subst h;have key:¬c a.block/\a.block<s.w.heap.size:=by
      rcases b with b|⟨⟨L,i,b⟩,_⟩|⟨_,v,b⟩
      · exact b.elim
      · exact⟨λx=>n.β _ x L i b,k.lt L i _ b⟩
      · refine⟨λx=>?_,fA.lt k.mem b⟩
        rw[n.M _ x] at b;cases b
    exact evL_cell a wr key.1 (bF key.2 o)
  | obj r =>
    obtain⟨h,j⟩:=g;simp only at h j;subst h;obtain⟨L,i,b⟩:=j.resolve_left id;refine⟨λx d p=>?_,by simp,by simp,?_⟩
    · simp[MemAct.ofEvent,MemAct.touch?] at d
      subst d;exact absurd b (n.β _ p L i)
    · simp[MemAct.ofEvent,MemAct.low,Loc.low]
      exact bF (k.lt L i _ b) o
  | mark m =>
    simp only[oU] at g;rcases g with rfl|⟨f,rfl⟩
    · exact⟨λx d=>by simp[MemAct.ofEvent,MemAct.touch?] at d,by simp,by simp,by simp[MemAct.ofEvent,MemAct.low]⟩
    · exact⟨λx d=>by simp[MemAct.ofEvent,MemAct.touch?] at d,by simp,by simp,by simp[MemAct.ofEvent,MemAct.low]⟩
  | _=>exact g.elim
end
def pN (t:Trace):Prop:=∀ a,NoRelease a t
theorem pN.app {t:Trace} (h:pN t) {g:Nat} {fn:FuncId} {pos:String} {es:Array Event} (b:∀ e∈es,∀ a,e.loc≠.mark (.release a)):pN (t++MemOp.ofEvents g fn pos es) :=
  λa=>(h a).app λop fP hx=>by
    obtain⟨e,h1,rfl⟩:=Go.Conc.mem_ofEvents fP;exact b e h1 a (Go.ConcR.loc_of_ofEvent hx)
theorem zN {s:St} {e:Event} (d:oU s e) (a:Addr):e.loc≠.mark (.release a):=by
  intro b;obtain⟨loc,wr,g⟩:=e;simp only at b;subst b;rcases d with h|⟨f,h⟩ <;> cases h
theorem ta {e:Event} (d:e.mute=true) (a:Addr):e.loc≠.mark (.release a):=by
  intro b;obtain⟨loc,wr,f⟩:=e;simp only at b;subst b;simp[Event.mute] at d
def NP (P:Program) (g:Goroutine) (s:St) (T:Goroutine->St->Prop):Prop :=
  ∀ (c:Nat->Prop) (e:Array Goroutine) (sl:Option (Nat×Nat)) (t:Trace) (q:Nat->Nat),fA s->e[0]?=some g->Leavers P t e q->Past (kC c) s.w.heap.size t->Clear c s->pN t ->
    ∃ (N:Nat) (b:Nat->Prop) (a:Array Goroutine) (g':Goroutine) (s':St) (f:Option (Nat×Nat)) (d:Trace) (h:Nat->Nat),
      runNT P N (crowd e s.w sl) t=(.next (crowd a s'.w f),d)/\fA s'/\a[0]?=some g'/\Leavers P d a h/\Past (kC b) s'.w.heap.size d/\Clear b s'/\pN d/\T g' s'
def Cx.beside (P:Program):Cx P:={ main:=true,rely:=λs s'=>br s s'/\∃ d,s'={ s with w:=s.w.at d },rN:=NP P,fz:=λh=>h.1,yd:=True }
instance (P:Program):(Cx.beside P).kB:=⟨ab⟩
theorem runNT_add {P:Program}:∀ (N M:Nat) {m b:Machine} {t a:Trace},runNT P N m t=(.next b,a)->runNT P (N+M) m t=runNT P M b a
  | 0,M,m,b,t,a,h=>by simp[runNT] at h;obtain⟨rfl,rfl⟩:=h;simp
  | N+1,M,m,b,t,a,h=>by
    rw[show N+1+M=(N+M)+1 by omega]
    simp only[runNT] at h ⊢;cases d:stepT P m with
    | mk r ops =>
      rw[d] at h;cases r with
      | next m1=>exact runNT_add N M h
      | ended o w=>simp at h
theorem dn.beside {P:Program} {S:Goroutine->St->Prop} {g:Goroutine} {s:St} (h:dn (Cx.beside P) S g s):NP P g s S:=by
  induction h with
  | stop h=>intro c b sl t q B p o u v I;exact⟨0,c,b,_,_,sl,t,q,rfl,B,p,o,u,v,I,h⟩
  | ghost hg _ R =>
    intro c b sl t q B p o u v I;have:=R c b sl t q (.ghost hg) p o (by rw[hg.w];exact u) (v.ghost hg) I
    rwa [hg.w] at this
  | forget _ hg _ R =>
    intro c b sl t q B p o u v I;have:=R c b sl t q (B.forget hg) p o (by rw[hg.w];exact u) (v.forget hg) I
    rwa [hg.w] at this
  | rN hj _ R =>
    intro c b sl t q B p o u v I;obtain⟨N,m,f,g',s',l,E,Q,h1,h2,h3,h4,h5,h6,Vv,h7⟩:=hj c b sl t q B p o u v I;obtain⟨M,Vw,Vx,g2,s2,Vy,t2,q2,k1,X⟩:=R g' s' h7 m f l E Q h2 h3 h4 h5 h6 Vv;exact⟨N+M,Vw,Vx,g2,s2,Vy,t2,q2,by rw[runNT_add N M h1];exact k1,X⟩
  | @step g s ng ns ne hr h1 h2 _ R =>
    intro c b sl t q;have key:∀ (n:Nat) (b:Array Goroutine) (d:Nat) (sl:Option (Nat×Nat)) (t:Trace) (q:Nat->Nat),Go.ConcN.sumTo b.size q<=n->fA s->b[0]?=some g->Leavers P t b q->Past (kC c) s.w.heap.size t->Clear c s->pN t ->
        ∃ (N:Nat) (m:Nat->Prop) (f:Array Goroutine) (g':Goroutine) (s':St) (l:Option (Nat×Nat)) (E:Trace) (Q:Nat->Nat),
          runNT P N (crowd b (s.w.at d) sl) t=(.next (crowd f s'.w l),E)/\fA s'/\f[0]?=some g'/\Leavers P E f Q/\Past (kC m) s'.w.heap.size E/\Clear m s'/\pN E/\S g' s':=by
      intro n
      induction n with
      | zero=>?_
      | succ n Vz=>?_
      all_goals
        intro b d sl t q I B p o u v F;have VA:∀ g∈b,awake g:=by
          intro x hx;obtain⟨i,hi,rfl⟩:=Array.mem_iff_getElem.1 hx;rcases iq i with rfl|C
          · have:b[0]=g:=by simpa[bw hi] using p
            rw[this];exact awake_of (.inl hr)
          · exact awake_of ((o.old i _ C (bw hi)).status.elim .inl λx=>.inr (.inr x))
        obtain⟨i,x,d2,l,hi,hg,K⟩:=crowd_pick (P:=P) (w:=s.w.at d) (sl:=sl) VA ⟨0,g,p,hr⟩;rw[show (s.w.at d).at d2=s.w.at d2 from rfl] at K
        rcases iq i with rfl|C
        · obtain rfl:x=g:=by rw[p] at hi;exact(lA hi).symm
          have A:(Cx.beside P).rely s { s with w:=s.w.at d2 }:=⟨br.at B d2,d2,rfl⟩;have hgo:=h1 _ A;obtain⟨⟨σ,σ',hh,ia,st⟩,T⟩:=h2 _ A;have r:=runT_crowd_go (P:=P) (sl:=l) (i:=0) hi (show stepG P (0==0) x (s.w.at d2)=_ from hgo)
          have V:((b.map (woken P x (ng { s with w:=s.w.at d2 }) (ns { s with w:=s.w.at d2 }).w)).setIfInBounds 0 (ng { s with w:=s.w.at d2 })).size=b.size:=by simp
          have H:0<b.size:=(dE.1 p).1;have Kh:Clear c { s with w:=s.w.at d2 }:=v.at d2;obtain⟨N,m,f,g',s',D,E,Q,k1,X⟩:=R _ A c ((b.map (woken P x (ng { s with w:=s.w.at d2 }) (ns { s with w:=s.w.at d2 }).w)).setIfInBounds 0 (ng { s with w:=s.w.at d2 })) l
            (t++MemOp.ofEvents 0 x.frame.fn x.frame.place (ne { s with w:=s.w.at d2 })) q ia.mem (by simp[H])
            ⟨λj y hj hy=>by
              have L:0≠j:=by omega
              rw[kr L,Array.getElem?_map] at hy;obtain⟨z,hz,rfl⟩:=oT.1 hy;have O:=o.old j z hj hz;rw[woken_quitsD O,Deaf_other t (by omega) _ (λop fP=>by obtain⟨e,_,rfl⟩:=Go.Conc.mem_ofEvents fP;rfl)]
              exact O,λj hj=>by
              rw[Deaf_other t (g':=0) (by simp at hj;omega) _ (λop fP=>by obtain⟨e,_,rfl⟩:=Go.Conc.mem_ofEvents fP;rfl)]
              exact o.above j (by simpa using hj)⟩
            ((u.mono st.size).own λe U=>Lf hh Kh (T e U) st.size) (Kh.step st) (F.app λe U a=>zN (T e U) a)
          exact⟨N+1,m,f,g',s',D,E,Q,by simp only[runNT,K,r];exact k1,X⟩
        · have O:=o.old i x C hi
          have QN:(i==0)=false:=by simp;omega
          have H:i<b.size:=(dE.1 hi).1;cases J:q i with
          | zero=>rw[J] at O;rw[O.1] at hg;cases hg
          | succ k =>
            rw[J] at O;rcases O with⟨hf,_⟩|⟨_,g',es,W,Y,VB⟩
            · rw[hf] at hg;cases hg
            have VC:Go.ConcN.sumTo b.size (Go.ConcN.upd q i k)+(k+1)=Go.ConcN.sumTo b.size q+k:=by
              have:=Go.ConcN.sumTo_upd q k id H;simpa[J] using this
            first
            | (exfalso;omega)
            | (have r:=runT_crowd_go (P:=P) (sl:=l) (i:=i) hi (by rw[QN];exact Y (s.w.at d2))
               have V:((b.map (woken P x g' (s.w.at d2))).setIfInBounds i g').size=b.size:=by simp
               obtain⟨N,m,f,g2,s',D,E,Q,k1,X⟩:=Vz ((b.map (woken P x g' (s.w.at d2))).setIfInBounds i g') d2 l (t++MemOp.ofEvents i x.frame.fn x.frame.place es) (Go.ConcN.upd q i k) (by rw[V];omega) B
                (by
                  have L:i≠0:=by omega
                  rw[kr L,Array.getElem?_map,p];simp[woken_run hr])
                ⟨λj y hj hy=>by
                  by_cases G:i=j
                  · subst G
                    rw[l6 (by simpa using H)] at hy
                    obtain rfl:=lA hy;rw[Go.ConcN.upd_same,Deaf_own];exact VB
                  · rw[kr G,Array.getElem?_map] at hy
                    obtain⟨z,hz,rfl⟩:=oT.1 hy;have Z:=o.old j z hj hz;rw[woken_quitsD Z,Go.ConcN.upd_ne q k (fJ G),Deaf_other t G _ (λop fP=>by obtain⟨e,_,rfl⟩:=Go.Conc.mem_ofEvents fP;rfl)]
                    exact Z,λj hj=>by
                  rw[Deaf_other t (g':=i) (by simp at hj;omega) _ (λop fP=>by obtain⟨e,_,rfl⟩:=Go.Conc.mem_ofEvents fP;rfl)]
                  exact o.above j (by simpa using hj)⟩
                (u.mute (by omega) W) v (F.app λe U a=>ta (W e U) a)
               exact⟨N+1,m,f,g2,s',D,E,Q,by simp only[runNT,K,r];exact k1,X⟩)
    intro B p o u v F;have:=key _ b s.w.drawn sl t q (ar _) B p o u v F
    rwa [show s.w.at s.w.drawn=s.w from rfl] at this
inductive Rk where
 |leaf
 |node (f:St->Rk)
def Rk.lt:Rk->Rk->Prop
 |_,.leaf=>False
 |x,.node f=>∃ s,x=f s∨Rk.lt x (f s)
theorem Rk.acc:∀ r:Rk,Acc Rk.lt r
 |.leaf=>⟨_,λ_ h=>h.elim⟩
 |.node f=>⟨_,λ_ ⟨s,e⟩=>e.elim (λe=>e▸Rk.acc (f s)) λh=>(Rk.acc (f s)).inv h⟩
def Rk.nat:Nat->Rk
 |0=>.leaf
 |n+1=>.node λ_=>Rk.nat n
theorem Rk.Ac(n:Nat)(s:St):Rk.lt (Rk.nat n) (Rk.nat (n+1)):=⟨s,.inl rfl⟩
def Vec(j:Nat)(a D:Nat->Rk):Prop:=∃ i,i<j/\Rk.lt (a i) (D i)/\∀ k,k≠i->a k=D k
theorem Fc:∀ j,WellFounded (Vec j)
 |0=>⟨λ_=>⟨_,λ_ ⟨i,h,_⟩=>absurd h (hI i)⟩⟩
 |j+1=>by
  have m:=Fc j;have key:∀ a:Rk,∀ D:Nat->Rk,D j=a->Acc (Vec (j+1)) D:=by
   intro a
   induction Rk.acc a with
   |intro a _ d =>
    intro D
    induction m.apply D with
    |intro D _ e =>
     intro l;refine⟨_,λk h=>?_⟩
     obtain⟨i,hi,b,f⟩:=h;rcases bz i j with g|g
     ·exact e k ⟨i,g,b,f⟩ (by rw[f j (by omega),l])
     ·obtain rfl:i=j:=by omega
      exact d _ (l▸b) k rfl
  exact⟨λD=>key _ D rfl⟩
def YL(j:Nat):(Nat×(Nat->Rk))->(Nat×(Nat->Rk))->Prop:=Prod.Lex (· < ·) (Vec j)
section
variable {P:Program}
def iB(X:Cx P)(E:St->St->Array Event->Prop)(S:Goroutine->St->Prop):Rk->Goroutine->St->Prop
 |.leaf,g,s=>S g s
 |.node f,g,s=>S g s∨(∃ s',(dX s s'∨(X.yd/\lC s s'))/\iB X E S (f s) g s') ∨
   (g.status=.running/\∀ a,X.rely s a->∃ g' s' es,stepG P X.main g a.w=.go g' s'.w es/\(oB a s' es∨E a s' es)/\iB X E S (f a) g' s')
variable {X:Cx P}{E:St->St->Array Event->Prop}{S c:Goroutine->St->Prop}
theorem iB.stop(r:Rk){g:Goroutine}{s:St}(h:S g s):iB X E S r g s:=by
 cases r with
 |leaf=>exact h
 |node f=>exact .inl h
def dh(X:Cx P)(E:St->St->Array Event->Prop)(S:Goroutine->St->Prop)(g:Goroutine)(s:St):Prop:=∃ r,iB X E S r g s
theorem dh.ghost{g:Goroutine}{s s':St}(h:dX s s')(k:dh X E S g s'):dh X E S g s:=by
 obtain⟨r,k⟩:=k;exact⟨.node λ_=>r,.inr (.inl ⟨s',.inl h,k⟩)⟩
theorem dh.forget{g:Goroutine}{s s':St}(hl:X.yd)(h:lC s s')(k:dh X E S g s'):dh X E S g s:=by
 obtain⟨r,k⟩:=k;exact⟨.node λ_=>r,.inr (.inl ⟨s',.inr ⟨hl,h⟩,k⟩)⟩
theorem dh.step{g:Goroutine}{s:St}(d:g.status=.running)(h:∀ a,X.rely s a->∃ g' s' es,stepG P X.main g a.w=.go g' s'.w es/\(oB a s' es∨E a s' es)/\dh X E S g' s'):dh X E S g s:=by
 classical
 have hh:∀ a,∃ r:Rk,X.rely s a->∃ g' s' es,stepG P X.main g a.w=.go g' s'.w es/\(oB a s' es∨E a s' es)/\iB X E S r g' s':=by
  intro a
  by_cases b:X.rely s a
  ·obtain⟨g',s',es,h1,h2,r,e⟩:=h a b;exact⟨r,λ_=>⟨g',s',es,h1,h2,e⟩⟩
  ·exact⟨.leaf,λh=>absurd h b⟩
 exact⟨.node λa=>Classical.choose (hh a),.inr (.inr ⟨d,λa b=>pr (hh a) b⟩)⟩
theorem dh.bind{g:Goroutine}{s:St}(h:dh X E S g s)(k:∀ g s,S g s->dh X E c g s):dh X E c g s:=by
 obtain⟨r,h⟩:=h
 induction r generalizing g s with
 |leaf=>exact k g s h
 |node f a =>
  rcases h with h|⟨s',h1,h2⟩|⟨b,h⟩
  ·exact k g s h
  ·rcases h1 with h1|⟨hl,h1⟩
   ·exact .ghost h1 (a _ h2)
   ·exact .forget hl h1 (a _ h2)
  ·exact .step b λi e=>by
    obtain⟨g',s',es,h1,h2,d⟩:=h i e;exact⟨g',s',es,h1,h2,a _ d⟩
theorem dn.Wo{g:Goroutine}{s:St}(hj:∀ g s T,¬X.rN g s T)(h:dn X S g s):dh X E S g s:=by
 induction h with
 |stop h=>exact⟨.leaf,h⟩
 |step ng ns ne hr h1 h2 _ a=>exact .step hr λb d=>⟨_,_,_,h1 b d,.inl (h2 b d),a b d⟩
 |ghost hg _ a=>exact .ghost hg a
 |forget hl hg _ a=>exact .forget hl hg a
 |rN Wp _ _=>exact absurd Wp (hj _ _ _)
theorem iB.norm(I:St->Prop)(m:∀ s s',dX s s'->I s->I s')(l:X.yd->∀ s s',lC s s'->I s->I s'):∀ {r:Rk}{g:Goroutine}{s:St},iB X E S r g s->I s ->
  (∃ s',I s'/\S g s')∨(g.status=.running/\∃ s',I s'/\∀ a,X.rely s' a->∃ g' s2 es r',stepG P X.main g a.w=.go g' s2.w es/\(oB a s2 es∨E a s2 es)/\iB X E S r' g' s2/\Rk.lt r' r)
 |.leaf,_,s,h,hi=>.inl ⟨s,hi,h⟩
 |.node f,g,s,h,hi=>by
  rcases h with h|⟨s',h1,h2⟩|⟨n,h⟩
  ·exact .inl ⟨s,hi,h⟩
  ·have d:I s':=h1.elim (λx=>m s s' x hi) λx=>l x.1 s s' x.2 hi
   rcases iB.norm I m l h2 d with i|⟨i,s2,q,p⟩
   ·exact .inl i
   ·refine .inr ⟨i,s2,q,λa j=>?_⟩
    obtain⟨g',e,es,r',k1,b,k,o⟩:=p a j;exact⟨g',e,es,r',k1,b,k,s,.inr o⟩
  ·refine .inr ⟨n,s,hi,λa j=>?_⟩
   obtain⟨g',e,es,k1,b,k⟩:=h a j;exact⟨g',e,es,f a,k1,b,k,a,.inl rfl⟩
theorem dh.goes{R:World->World->Prop}{D:World->World->Array Event->Prop}{Stop:Goroutine->World->Prop}(I:St->Prop)(j:∀ s a,I s->X.rely s a->I a)(e:∀ s a,I s->X.rely s a->R s.w a.w)
  (m:∀ s es,I s->∀ w',D s.w w' es->w'=s.w/\(oB s s es∨E s s es)) (i:∀ s,I s->X.rely s s) (k:∀ g s,I s->Stop g s.w->dh X E S g s) :
  ∀ (n:Nat) (g:Goroutine) (s:St),I s->Goes P X.main R D Stop n g s.w->dh X E S g s
 |0,g,s,hi,h=>k g s hi (h s.w (e s s hi (i s hi)))
 |n+1,g,s,hi,h=>by
  rcases h with h|⟨q,h⟩
  ·exact k g s hi (h s.w (e s s hi (i s hi)))
  ·refine .step q λa l=>?_
   have h1:=h a.w (e s a hi l);have d:=j s a hi l;cases b:stepG P X.main g a.w with
   |go g' w' es =>
    rw[b,goes_go] at h1;obtain⟨p,o⟩:=h1;obtain⟨rfl,f⟩:=m a es d w' p;exact⟨g',a,es,rfl,f,dh.goes I j e m i k n g' a d o⟩
   |_=>rw[b] at h1;exact h1.elim
end
theorem br.ghost{s s':St}{w:World}(h:br s { s with w:=w })(k:dX s s'):br s' { s' with w:=w }:=by
 refine⟨rfl,rfl,rfl,by rw[k.w];exact h.size,λb a=>by rw[k.w];exact h.eC b (k.blk b a),λb o v f=>?_,by rw[k.w];exact h.os,by rw[k.w];exact h.tape,by rw[k.w];exact h.output⟩
 have e:=k.cell b o v f
 by_cases a:∃ L∈s.β,b∈L.bs
 ·have:=h.eC b (.inr a);simp only[World.cell?] at e ⊢;simp only at this;rw[this];exact e
 ·have:s.M b o=some v:=by
   rw[<-k.ij b (λL g d=>a ⟨L,g,d⟩)];exact f
  exact h.mem b o v this
theorem br.forget{s s':St}{w:World}(h:br s { s with w:=w })(k:lC s s'):br s' { s' with w:=w } :=
 ⟨rfl,rfl,rfl,by rw[k.w];exact h.size,λb d=>by rw[k.w];exact h.eC b (by rw[<-k.own,<-k.β];exact d),λb o v a=>h.mem b o v (k.less b o v a),by rw[k.w];exact h.os,by rw[k.w];exact h.tape,by rw[k.w];exact h.output⟩
theorem br.tD{s:St}(h:fA s):br s s:=⟨rfl,rfl,rfl,ar _,λ_ _=>rfl,h,rfl,rfl,rfl⟩
theorem br.trans'{s:St}{w:World}(h:br s { s with w:=w }):br { s with w:=w } { s with w:=w }:=br.tD h.mem
theorem br.trans{s a s2:St}(h:br s a)(k:br a s2):br s s2 :=
 ⟨k.β.trans h.β,k.M.trans h.M,k.own.trans h.own,er h.size k.size,λb d=>by rw[k.eC b (by rw[h.own,h.β];exact d),h.eC b d],λb o v e=>k.mem b o v (by rw[h.M];exact e),k.os.trans h.os,k.tape.trans h.tape,k.output.trans h.output⟩
end Go.AM
namespace Go.AM
open Go.Conc
open Go.ConcN (fork_knows RelBy)
open Go.ConcR (stA smA)
def kN:Go.Loc->Option Nat
 |.cell a=>some a.block
 |.obj r=>some r
 |_=>none
theorem yz{l:Go.Loc}(h:l.isMemory=true):∃ b,kN l=some b:=by
 cases l <;> simp[Go.Loc.isMemory] at h <;> exact⟨_,rfl⟩
theorem CN{x:MemAct}{a:Touch}{B b:Nat}(h:x.touch?=some a)(g:x.low B)(c:kN a.loc=some b):b<B:=by
 cases x with
 |access e =>
  simp[MemAct.touch?] at h;subst h;simp only at c;obtain⟨loc,wr,i⟩:=e;cases loc <;> simp[kN] at c <;> subst c <;> exact g
 |mark m =>
  cases m <;> simp[MemAct.touch?] at h <;> subst h <;> simp[kN] at c <;> subst c <;> exact g
 |_=>simp[MemAct.touch?] at h
structure Lay where
 Sh:Nat->Prop
 T0:Nat
 Wg:Nat
 C:Nat
 base:Nat
 kc:Nat
def qc(Y:Lay)(d:Nat->Nat)(a:Touch):Prop :=
 (∃ ad,a.loc=.cell ad/\ad.block=Y.Wg/\a.kind≠.plain)∨(∃ b,kN a.loc=some b/\d b=0/\b≠Y.Wg/\b≠Y.C/\¬Y.Sh b/\a.kind=.plain)
def oJ(Y:Lay)(d:Nat->Nat)(f:Mem)(x:Nat)(a:Touch):Prop :=
 (∃ ad,a.loc=.cell ad/\ad.block=Y.Wg/\a.kind=.atomic) ∨
 (a.kind=.plain/\((∃ b,kN a.loc=some b/\d b=Y.base+x)∨(∃ o,a.loc=.cell ⟨Y.C,o,none⟩/\Y.kc*x<=o/\o<Y.kc*x+Y.kc)∨(a.write=false/\∃ b o v,a.loc=.cell ⟨b,o,none⟩/\f b o=some v)))
structure TL (Y:Lay)(d:Nat->Nat)(f:Nat->Mem)(t:Trace)(j B:Nat):Prop where
 base:1<=Y.base
 Ei:d Y.Wg=0
 hC:d Y.C=0
 ne:Y.C≠Y.Wg
 Ku:¬Y.Sh Y.Wg
 LD:¬Y.Sh Y.C
 LF:∀ b,Y.Sh b->d b=0
 ms:∀ x,x<j->∀ b o v,f x b o=some v->d b=0/\b≠Y.C/\b≠Y.Wg/\¬Y.Sh b
 T0:Y.T0<=t.size
 nr:∀ said,¬Race said t
 seen:∀ op∈t,op.act.low B
 old:∀ i a,i<Y.T0->touchAt t i=some a->a.loc.isMemory=true->Knows t 0 i∨(kC Y.Sh a.loc/\a.kind=.atomic)
 LG:∀ x,x<j->∀ i a,i<Y.T0->touchAt t i=some a->a.loc.isMemory=true->Knows t (Y.base+x) i∨(kC Y.Sh a.loc/\a.kind=.atomic)
 CO:∀ i a b,i<Y.T0->touchAt t i=some a->kN a.loc=some b->d b=0
 new:∀ i a,Y.T0<=i->touchAt t i=some a->a.loc.isMemory=true->(t.g? i=some 0/\qc Y d a)∨(∃ x,x<j/\t.g? i=some (Y.base+x)/\oJ Y d (f x) x a)
 mw:∀ x,x<j->∀ i a,Y.T0<=i->touchAt t i=some a->t.g? i=some 0->a.write=true->∀ b o v,a.loc=.cell ⟨b,o,none⟩->f x b o=some v->Knows t (Y.base+x) i
 over:∀ i g,i<Y.T0->t.g? i=some g->g≠0->t.counts i->∃ k,t.g? k=some 0/\HappensBefore t i k
section
variable {Y:Lay}{d hm':Nat->Nat}{f:Nat->Mem}{t u:Trace}{j B B':Nat}
theorem sR{i:Nat}{a:Touch}{g:Nat}(h:touchAt t i=some a)(c:t.g? i=some g):Knows t g i:=by
 obtain⟨x,b,_⟩:=touch_of h;have:x.g=g:=by simpa[Trace.g?,b] using c
 rw[<-this];exact knows_own b
theorem TL.low(h:TL Y d f t j B){i:Nat}{a:Touch}{b:Nat}(k:touchAt t i=some a)(e:kN a.loc=some b):b<B:=by
 obtain⟨x,g,c⟩:=touch_of k;exact CN c (h.seen x (sh g)) e
theorem TL.qF(h:TL Y d f t j B)(hh:∀ b,b<B->hm' b=d b)(s:B<=B')(r:Y.Wg<B)(hC:Y.C<B)(w:∀ b,Y.Sh b->b<B)(q:∀ x,x<j->∀ b o v,f x b o=some v->b<B):TL Y hm' f t j B':=by
 have g:∀ i a,touchAt t i=some a->qc Y d a->qc Y hm' a:=λi a c h1=>by
  rcases h1 with h1|⟨b,h1,h2,l⟩
  ·exact .inl h1
  ·exact .inr ⟨b,h1,by rw[hh b (h.low c h1)];exact h2,l⟩
 have e:∀ x i a,touchAt t i=some a->oJ Y d (f x) x a->oJ Y hm' (f x) x a:=λx i a c h1=>by
  rcases h1 with h1|⟨n,⟨b,h1,h2⟩|h1⟩
  ·exact .inl h1
  ·exact .inr ⟨n,.inl ⟨b,h1,by rw[hh b (h.low c h1)];exact h2⟩⟩
  ·exact .inr ⟨n,.inr h1⟩
 refine⟨h.base,by rw[hh _ r];exact h.Ei,by rw[hh _ hC];exact h.hC,h.ne,h.Ku,h.LD,λb k=>by rw[hh b (w b k)];exact h.LF b k,λx m b o v p=>by rw[hh b (q x m b o v p)];exact h.ms x m b o v p,
  h.T0,h.nr,λop fP=>MemAct.low_mono s (h.seen op fP),h.old,h.LG,λi a b hi c k=>by rw[hh b (h.low c k)];exact h.CO i a b hi c k,λi a hi c d=>?_,h.mw,h.over⟩
 rcases h.new i a hi c d with⟨h1,h2⟩|⟨x,h1,h2,l⟩
 ·exact .inl ⟨h1,g i a c h2⟩
 ·exact .inr ⟨x,h1,h2,e x i a c l⟩
theorem TL.IL(h:TL Y d f t j B):Y.T0<=(t++u).size:=er h.T0 (by simp)
theorem jq{i:Nat}(h:i<t.size):(t++u).g? i=t.g? i:=by simp[Trace.g?,getElem?_append_old h]
theorem TL.qd(h:TL Y d f t j B)(u:Trace):∀ i g,i<Y.T0->(t++u).g? i=some g->g≠0->(t++u).counts i->∃ k,(t++u).g? k=some 0/\HappensBefore (t++u) i k:=by
 intro i g hi hg qA hc;have a:=bF hi h.T0;rw[jq a] at hg;obtain⟨k,b,l⟩:=h.over i g hi hg qA ((counts_old a).1 hc);have c:k<t.size:=by
  unfold Trace.g? at b;obtain⟨z,e,_⟩:=oT.1 b;exact lt_size_of_getElem? e
 exact⟨k,by rw[jq c];exact b,hb_app u l⟩
theorem yA{c:Nat->Prop}{l:Go.Loc}{b:Nat}(h:kC c l)(a:kN l=some b):c b:=by
 cases l <;> simp[kN] at a <;> subst a <;> exact h
theorem TL.apart(h:TL Y d f t j B){x:Nat}(y:x<j){a b:Touch}{said:Bool}(p:qc Y d b)(q:oJ Y d (f x) x a)(hl:a.loc=b.loc)(l:a.kind=.plain∨b.kind=.plain∨(said=true/\a.kind=.said/\b.kind=.said))
  (C:b.kind=.plain->b.write=true->∀ n o v,b.loc=.cell ⟨n,o,none⟩->f x n o≠some v) (g:a.write=true∨b.write=true):False:=by
 have A:=h.base;rcases q with⟨ad,e1,e2,e3⟩|⟨G,⟨c,e1,e2⟩|⟨o,e1,_⟩|⟨e1,n,o,v,e2,e3⟩⟩
 ·rcases p with⟨m,e,i,k⟩|⟨c,e,i,k,_⟩
  ·rw[e3] at l;rcases l with l|l|⟨_,l,_⟩
   ·cases l
   ·exact k l
   ·cases l
  ·rw[<-hl,e1] at e;simp only[kN,bO] at e;exact k (e.symm.trans e2)
 ·rcases p with⟨m,e,i,k⟩|⟨r,e,i,k,_⟩
  ·rw[hl,e] at e1;simp only[kN,bO] at e1;rw[<-e1,i,h.Ei] at e2;omega
  ·rw[hl,e] at e1;simp only[bO] at e1;rw[<-e1,i] at e2;omega
 ·rcases p with⟨m,e,i,k⟩|⟨r,e,i,k,s,_⟩
  ·rw[<-hl,e1] at e;cases e;exact h.ne i
  ·rw[<-hl,e1] at e;simp only[kN,bO] at e;exact s e.symm
 ·obtain⟨E,D,w,F⟩:=h.ms x y n o v e3;rcases p with⟨m,e,i,k⟩|⟨r,e,i,k,s,_,z⟩
  ·rw[<-hl,e2] at e;cases e;exact w i
  ·rcases g with g|g
   ·rw[e1] at g;cases g
   ·exact C z g n o v (by rw[<-hl];exact e2) e3
theorem TL.app0(h:TL Y d f t j B)(I:∀ op∈u,op.g=0)(hl:∀ op∈u,op.act.low B)(D:∀ op∈u,∀ a,op.act.touch?=some a->a.loc.isMemory=true->qc Y d a)
  (M:∀ op∈u,∀ a,op.act.touch?=some a->a.kind=.plain->a.write=true->∀ x,x<j->∀ b o v,a.loc=.cell ⟨b,o,none⟩->f x b o≠some v):TL Y d f (t++u) j B:=by
 have m:∀ {i:Nat} {a:Touch},touchAt (t++u) i=some a->(i<t.size/\touchAt t i=some a)∨(t.size<=i/\(t++u).g? i=some 0/\∃ op∈u,op.act.touch?=some a):=by
  intro i a k;obtain⟨x,q,y⟩:=touch_of k;rcases getElem?_append_cases q with⟨hi,F⟩|⟨hi,z⟩
  ·exact .inl ⟨hi,by rw[touchAt_of F];exact y⟩
  ·exact .inr ⟨hi,by simp[Trace.g?,q,I x z],x,z,y⟩
 refine⟨h.base,h.Ei,h.hC,h.ne,h.Ku,h.LD,h.LF,h.ms,h.IL,λsaid=>?_,seen_app h.seen hl,λi a hi k d=>?_,λx q i a hi k d=>?_,λi a b hi k C=>?_,λi a hi k d=>?_,λx q i a hi k w A b o v n G=>?_,h.qd u⟩
 ·refine noRace_append (h.nr said) I λi a k op fP b C r=>?_
  have E:b.loc.isMemory=true:=by rw[<-r.1];exact r.2.1
  have L:=D op fP b C E;rcases bz i Y.T0 with hi|hi
  ·rcases h.old i a hi k r.2.1 with O|⟨Q,P⟩
   ·exact O
   ·exfalso;obtain⟨c,e⟩:=yz r.2.1;have s:=yA Q e;rcases L with⟨ad,e1,e2,e3⟩|⟨N,e1,e2,e3,R,K,J⟩
    ·rw[r.1,e1] at e;simp only[kN,bO] at e;rw[<-e,e2] at s;exact h.Ku s
    ·rw[r.1,e1] at e;simp only[bO] at e;rw[e] at K;exact K s
  ·rcases h.new i a hi k r.2.1 with⟨w,_⟩|⟨x,q,w,H⟩
   ·exact sR k w
   ·exact(h.apart q L H r.1 r.2.2.2 (λh1 h2=>M op fP b C h1 h2 x q) r.2.2.1).elim
 ·have p:touchAt t i=some a:=by rw[<-touchAt_old (u:=u) (bF hi h.T0)];exact k
  exact(h.old i a hi p d).imp (·.app u) id
 ·have p:touchAt t i=some a:=by rw[<-touchAt_old (u:=u) (bF hi h.T0)];exact k
  exact(h.LG x q i a hi p d).imp (·.app u) id
 ·have p:touchAt t i=some a:=by rw[<-touchAt_old (u:=u) (bF hi h.T0)];exact k
  exact h.CO i a b hi p C
 ·rcases m k with⟨h1,h2⟩|⟨_,h2,op,fP,l⟩
  ·rw[jq h1];exact h.new i a hi h2 d
  ·exact .inl ⟨h2,D op fP a l d⟩
 ·rcases m k with⟨h1,h2⟩|⟨_,h2,op,fP,l⟩
  ·rw[jq h1] at w;exact(h.mw x q i a hi h2 w A b o v n G).app u
  ·exfalso;rcases D op fP a l (by rw[n];rfl) with⟨ad,e1,e2,e3⟩|⟨N,_,_,_,_,_,J⟩
   ·rw[n] at e1;cases e1;exact(h.ms x q b o v G).2.2.1 e2
   ·exact M op fP a l J A x q b o v n G
theorem TL.appW(h:TL Y d f t j B){x:Nat}(E:x<j)(hu:∀ op∈u,op.g=Y.base+x)(hl:∀ op∈u,op.act.low B)(ht:∀ op∈u,∀ a,op.act.touch?=some a->a.loc.isMemory=true->oJ Y d (f x) x a):TL Y d f (t++u) j B:=by
 have T8:=h.base;have r:∀ {i:Nat} {a:Touch},touchAt (t++u) i=some a->(i<t.size/\touchAt t i=some a)∨(t.size<=i/\(t++u).g? i=some (Y.base+x)/\∃ op∈u,op.act.touch?=some a):=by
  intro i a q;obtain⟨y,A,I⟩:=touch_of q;rcases getElem?_append_cases A with⟨hi,Wq⟩|⟨hi,M⟩
  ·exact .inl ⟨hi,by rw[touchAt_of Wq];exact I⟩
  ·exact .inr ⟨hi,by simp[Trace.g?,A,hu y M],y,M,I⟩
 refine⟨h.base,h.Ei,h.hC,h.ne,h.Ku,h.LD,h.LF,h.ms,h.IL,λsaid=>?_,seen_app h.seen hl,λi a hi q d=>?_,λy A i a hi q d=>?_,λi a b hi q Z=>?_,λi a hi q d=>?_,λy A i a hi q G D b o v N T=>?_,h.qd u⟩
 ·refine noRace_append (h.nr said) hu λi a q op fP b Z C=>?_
  have Q:b.loc.isMemory=true:=by rw[<-C.1];exact C.2.1
  have H:=ht op fP b Z Q;obtain⟨c,l⟩:=yz C.2.1;rcases bz i Y.T0 with hi|hi
  ·rcases h.LG x E i a hi q C.2.1 with O|⟨hs,YM⟩
   ·exact O
   ·exfalso;have n:=yA hs l;rw[C.1] at l;rcases H with⟨ad,e1,e2,e3⟩|⟨e0,⟨c',e1,e2⟩|⟨o,e1,_⟩|⟨e1,p,o,v,e2,e3⟩⟩
    ·rw[e1] at l;simp only[kN,bO] at l;rw[<-l,e2] at n;exact h.Ku n
    ·rw[e1] at l;simp only[bO] at l;rw[<-l] at n;rw[h.LF _ n] at e2;omega
    ·rw[e1] at l;simp only[kN,bO] at l;rw[<-l] at n;exact h.LD n
    ·rw[e2] at l;simp only[kN,bO] at l;rw[<-l] at n;exact(h.ms x E p o v e3).2.2.2 n
  ·rcases h.new i a hi q C.2.1 with⟨G,U⟩|⟨y,A,G,V⟩
   ·
    by_cases L:a.write=true/\∃ p o v,a.loc=.cell ⟨p,o,none⟩/\f x p o=some v
    ·obtain⟨h1,p,o,v,h2,P⟩:=L;exact h.mw x E i a hi q G h1 p o v h2 P
    ·exfalso;refine h.apart (said:=said) E U H C.1.symm ?_ (λ_ X p o v k T=>L ⟨X,p,o,v,k,T⟩) C.2.2.1.symm
     rcases C.2.2.2 with O|O|⟨h1,h2,P⟩
     ·exact .inr (.inl O)
     ·exact .inl O
     ·exact .inr (.inr ⟨h1,P,h2⟩)
   ·by_cases K:y=x
    ·subst K;exact sR q G
    ·exfalso;obtain⟨k,_,D,w⟩:=C;rcases V with⟨ad,e1,e2,e3⟩|⟨e0,⟨c1,e1,e2⟩|⟨o,e1,YN,YO⟩|⟨e1,p,o,v,e2,e3⟩⟩
     ·rcases H with⟨F,e,m,z⟩|⟨W,⟨c2,e,m⟩|⟨o,e,_⟩|⟨e,p,o,v,m,z⟩⟩
      ·rw[e3,z] at w;simp at w
      ·rw[<-k,e1] at e;simp only[kN,bO] at e;rw[<-e,e2,h.Ei] at m;omega
      ·rw[<-k,e1] at e;cases e;exact h.ne e2
      ·rw[<-k,e1] at m;cases m;exact(h.ms x E p o v z).2.2.1 e2
     ·rcases H with⟨F,e,m,z⟩|⟨W,⟨c2,e,m⟩|⟨o,e,_⟩|⟨e,p,o,v,m,z⟩⟩
      ·rw[k,e] at e1;simp only[kN,bO] at e1;rw[<-e1,m,h.Ei] at e2;omega
      ·rw[k,e] at e1;simp only[bO] at e1;rw[e1] at m;omega
      ·rw[k,e] at e1;simp only[kN,bO] at e1;rw[<-e1,h.hC] at e2;omega
      ·rw[k,m] at e1;simp only[kN,bO] at e1;rw[<-e1,(h.ms x E p o v z).1] at e2;omega
     ·rcases H with⟨F,e,m,z⟩|⟨W,⟨c2,e,m⟩|⟨R,e,S,Wr⟩|⟨e,p,R,v,m,z⟩⟩
      ·rw[<-k,e1] at e;cases e;exact h.ne m
      ·rw[<-k,e1] at e;simp only[kN,bO] at e;rw[<-e,h.hC] at m;omega
      ·rw[<-k,e1] at e;cases e;rcases Nat.lt_or_gt_of_ne K with h1|h1
       ·have:=sj Y.kc (show y+1<=x from h1)
        rw[pH,n9] at this;omega
       ·have:=sj Y.kc (show x+1<=y from h1)
        rw[pH,n9] at this;omega
      ·rw[<-k,e1] at m;cases m;exact(h.ms x E _ _ v z).2.1 rfl
     ·rcases H with⟨F,e,m,z⟩|⟨W,⟨c2,e,m⟩|⟨R,e,S,Wr⟩|⟨e,b2,R,v',m,z⟩⟩
      ·rw[<-k,e2] at e;cases e;exact(h.ms y A p o v e3).2.2.1 m
      ·rw[<-k,e2] at e;simp only[kN,bO] at e;rw[<-e,(h.ms y A p o v e3).1] at m;omega
      ·rw[<-k,e2] at e;cases e;exact(h.ms y A _ _ v e3).2.1 rfl
      ·rw[e1,e] at D;simp at D
 ·have s:touchAt t i=some a:=by rw[<-touchAt_old (u:=u) (bF hi h.T0)];exact q
  exact(h.old i a hi s d).imp (·.app u) id
 ·have s:touchAt t i=some a:=by rw[<-touchAt_old (u:=u) (bF hi h.T0)];exact q
  exact(h.LG y A i a hi s d).imp (·.app u) id
 ·have s:touchAt t i=some a:=by rw[<-touchAt_old (u:=u) (bF hi h.T0)];exact q
  exact h.CO i a b hi s Z
 ·rcases r q with⟨h1,h2⟩|⟨_,h2,op,fP,J⟩
  ·rw[jq h1];exact h.new i a hi h2 d
  ·exact .inr ⟨x,E,h2,ht op fP a J d⟩
 ·rcases r q with⟨h1,h2⟩|⟨_,h2,_⟩
  ·rw[jq h1] at G;exact(h.mw y A i a hi h2 G D b o v N T).app u
  ·rw[G] at h2;simp only[bO] at h2;omega
theorem TL.mute(h:TL Y d f t j B){g:Nat}(z:∀ op∈u,op.g=g)(hl:∀ op∈u,op.act.low B)(s:∀ op∈u,op.act.touch?=none):TL Y d f (t++u) j B:=by
 have old:∀ {i:Nat} {a:Touch},touchAt (t++u) i=some a->i<t.size/\touchAt t i=some a:=by
  intro i a c;obtain⟨y,w,e⟩:=touch_of c;rcases getElem?_append_cases w with⟨hi,q⟩|⟨hi,p⟩
  ·exact⟨hi,by rw[touchAt_of q];exact e⟩
  ·rw[s y p] at e;cases e
 refine⟨h.base,h.Ei,h.hC,h.ne,h.Ku,h.LD,h.LF,h.ms,h.IL,λsaid=>noRace_append (h.nr said) z λi a _ op fP b l _=>(by rw[s op fP] at l;cases l),seen_app h.seen hl,λi a hi c d=>(h.old i a hi (old c).2 d).imp (·.app u) id,
  λx m i a hi c d=>(h.LG x m i a hi (old c).2 d).imp (·.app u) id,λi a b hi c l=>h.CO i a b hi (old c).2 l,λi a hi c d=>?_,λx m i a hi c r n b o v k A=>?_,h.qd u⟩
 ·rw[jq (old c).1];exact h.new i a hi (old c).2 d
 ·rw[jq (old c).1] at r;exact(h.mw x m i a hi (old c).2 r n b o v k A).app u
theorem TL.fork(h:TL Y d f t j B){x y:MemOp}(n:x.g=0/\x.act=.go (Y.base+j))(p:y.g=Y.base+j/\y.act=.start)(H:Deaf t 0=0)(I:Deaf t (Y.base+j)=0)
  (J:∀ b o v,f j b o=some v->d b=0/\b≠Y.C/\b≠Y.Wg/\¬Y.Sh b):TL Y d f (t++#[x,y]) (j+1) B:=by
 have m:∀ op∈#[x,y],op.act.touch?=none:=by
  intro op fP;simp only[List.mem_toArray,dr,pz,or_false] at fP;rcases fP with rfl|rfl
  ·rw[n.2];rfl
  ·rw[p.2];rfl
 have q:∀ op∈#[x,y],op.act.low B:=by
  intro op fP;simp only[List.mem_toArray,dr,pz,or_false] at fP;rcases fP with rfl|rfl
  ·rw[n.2];trivial
  ·rw[p.2];trivial
 have old:∀ {i:Nat} {a:Touch},touchAt (t++#[x,y]) i=some a->i<t.size/\touchAt t i=some a:=by
  intro i a c;obtain⟨z,s,k⟩:=touch_of c;rcases getElem?_append_cases s with⟨hi,A⟩|⟨_,D⟩
  ·exact⟨hi,by rw[touchAt_of A];exact k⟩
  ·rw[m z D] at k;cases k
 have G:∀ z,z<j+1->∀ b o v,f z b o=some v->d b=0/\b≠Y.C/\b≠Y.Wg/\¬Y.Sh b:=λz s b o v w=>by
  rcases bz z j with h1|h1
  ·exact h.ms z h1 b o v w
  ·obtain rfl:z=j:=by omega
   exact J b o v w
 refine⟨h.base,h.Ei,h.hC,h.ne,h.Ku,h.LD,h.LF,G,h.IL,λsaid=>?_,seen_app h.seen q,λi a hi c d=>(h.old i a hi (old c).2 d).imp (·.app _) id,
  λz s i a hi c d=>?_,λi a b hi c l=>h.CO i a b hi (old c).2 l,λi a hi c d=>?_,λz s i a hi c E F b o v r w=>?_,h.qd _⟩
 ·have e:t++#[x,y]=(t++#[x])++#[y]:=by apply gy;simp
  rw[e];refine noRace_append (g:=Y.base+j) (noRace_append (g:=0) (h.nr said) (λop fP=>by simp at fP;rw[fP];exact n.1) (λi a _ op fP b l _=>?_)) (λop fP=>by simp at fP;rw[fP];exact p.1) (λi a _ op fP b l _=>?_)
  ·rw[m op (by simp at fP ⊢;exact .inl fP)] at l;cases l
  ·rw[m op (by simp at fP ⊢;exact .inr fP)] at l;cases l
 ·rcases bz z j with h1|h1
  ·exact(h.LG z h1 i a hi (old c).2 d).imp (·.app _) id
  ·obtain rfl:z=j:=by omega
   exact(h.old i a hi (old c).2 d).imp (fork_knows n p H I) id
 ·rw[jq (old c).1];rcases h.new i a hi (old c).2 d with h1|⟨z,h1,h2⟩
  ·exact .inl h1
  ·exact .inr ⟨z,by omega,h2⟩
 ·rw[jq (old c).1] at E;rcases bz z j with h1|h1
  ·exact(h.mw z h1 i a hi (old c).2 E F b o v r w).app _
  ·obtain rfl:z=j:=by omega
   exact fork_knows n p H I (sR (old c).2 E)
theorem TL.RG(h:TL Y d f t j B)(H:Deaf t 0=0)(I:NoRelease (stA Y.Wg) t){q:Nat}(J:t.act? q=some (.mark (.acquire (stA Y.Wg))))(A:t.g? q=some 0)(F:t.heard q)
  (K:∀ x,x<j->∃ r,RelBy (stA Y.Wg) t (Y.base+x) r/\r<q):Past (kC λb=>Y.Sh b∨b=Y.Wg) B t:=by
 have m:∀ x,x<j->∀ i,t.g? i=some (Y.base+x)->t.counts i->HappensBefore t i q:=by
  intro x y i o v;obtain⟨r,c,D⟩:=K x y;have e:HappensBefore t r q:=.single (.inr ⟨.marked D (.inr c.act) J (λk _ _=>I k),c.heard,F⟩)
  have O:i<=r:=Nat.le_of_not_lt λs=>c.after i s o v
  rcases bz i r with s|L
  ·exact .trans (.single (.inl ⟨s,_,o,c.g⟩)) e
  ·obtain rfl:i=r:=by omega
   exact e
 have n:∀ {l:Go.Loc},kC Y.Sh l->kC (λb=>Y.Sh b∨b=Y.Wg) l:=λ{l} hl=>by cases l <;> first|exact .inl hl|exact hl
 refine⟨h.nr,λi a p d=>?_,λi g o w v=>?_,H,h.seen⟩
 ·rcases bz i Y.T0 with hi|hi
  ·exact(h.old i a hi p d).imp id λ⟨h1,h2⟩=>⟨n h1,h2⟩
  ·rcases h.new i a hi p d with⟨h1,_⟩|⟨x,y,o,G⟩
   ·exact .inl (sR p h1)
   ·rcases G with⟨ad,e1,e2,e3⟩|⟨P,_⟩
    ·exact .inr ⟨by rw[e1];exact .inr e2,e3⟩
    ·left
     have v:t.counts i:=⟨a,p,d,.inl (by rw[P];simp)⟩
     obtain⟨z,M,E⟩:=oT.1 A;exact⟨q,z,M,E,.inr (m x y i o v)⟩
 ·rcases bz i Y.T0 with hi|hi
  ·exact h.over i g hi o w v
  ·obtain⟨a,p,d,N⟩:=v;rcases h.new i a hi p d with⟨h1,_⟩|⟨x,y,C,G⟩
   ·rw[o] at h1;exact absurd (lA h1) w
   ·exact⟨q,A,m x y i C ⟨a,p,d,N⟩⟩
theorem TL.start{Y:Lay}{t:Trace}{B:Nat}{f:Nat->Mem}(e:Past (kC Y.Sh) B t)(p:Y.T0=t.size)(o:1<=Y.base)(c:Y.C≠Y.Wg)(h:¬Y.Sh Y.Wg)(k:¬Y.Sh Y.C):TL Y (λ_=>0) f t 0 B :=
 ⟨o,rfl,rfl,c,h,k,λ_ _=>rfl,λx b=>absurd b (hI x),by omega,e.clean,e.seen,λi a _ l d=>e.known i a l d,λx b=>absurd b (hI x),λ_ _ _ _ _ _=>rfl,
  λi a hi l _=>by
   obtain⟨x,b,_⟩:=touch_of l;have:=lt_size_of_getElem? b;omega,λx b=>absurd b (hI x),λi g _ m c n=>e.over i g m c n⟩
end
end Go.AM
namespace Go.AM
open Go.Conc
open Go.ConcN (WD CTag Mode Vc Ssum pend phi cnt WgLive PayAt Has RW DWs WSit RelBy sumTo upd upd_same upd_ne AtR0 get_map_set get_map_set_same norel_of Deaf_still)
open Go.ConcR (KK WgAt stA smA rd wr mk Payload g_of_ofEvents)
def Cx.work(P:Program):Cx P:={ main:=false,rely:=br,rN:=λ_ _ _=>False,fz:=id,yd:=True }
def Cx.lead(P:Program)(ty:TypeId)(Wg:Nat):Cx P:={ main:=true,rely:=λs s'=>br s s'/\(WgLive ty Wg s.w->WgLive ty Wg s'.w),rN:=λ_ _ _=>False,fz:=λh=>h.1,yd:=False }
instance (P:Program):(Cx.work P).kB:=⟨ab⟩
def E0:St->St->Array Event->Prop:=λ_ _ _=>False
def Es(Wg:Nat):St->St->Array Event->Prop:=λs s' es=>s'=s/\∃ a:Addr,a.block=Wg/\(es=#[mk (.read a)]∨es=#[mk (.write a)])
def Kv:Nat->Go.Loc->Prop:=λ_ _=>False
variable [Payload]
structure Oy (C N lo k:Nat)(vs:Nat->Value)(w w':World):Prop where
 tape:w'.tape=w.tape
 os:w'.os=w.os
 output:w'.output=w.output
 size:w'.heap.size=w.heap.size
 block:∀ b,b≠C->w'.heap[b]?=w.heap[b]?
 pay:PayAt C N w'
 out:∀ o,(o<lo∨lo+k<=o)->w'.cell? ⟨C,o,none⟩=w.cell? ⟨C,o,none⟩
 new:∀ i,i<k->w'.cell? ⟨C,lo+i,none⟩=some (vs i)
section
variable (P:Program)(ty:TypeId)(Y:Lay)(N:Nat)(val:Nat->Nat->Value)
def Fe(x:Nat)(g:Goroutine)(s:St):Prop :=
 g.status=.running/\∀ w1,br s { s with w:=w1 }->PayAt Y.C N w1->WgLive ty Y.Wg w1 ->
  ∃ g' w2 es,stepG P false g w1=.go g' w2 es/\Oy Y.C N (Y.kc*x) Y.kc (val x) w1 w2/\(∀ e∈es,∃ o,e=⟨.cell ⟨Y.C,o,none⟩,true,false⟩/\Y.kc*x<=o/\o<Y.kc*x+Y.kc) /\
   ∃ m,Goes P false (RW ty Y.Wg Y.C N 0 (Y.kc*x)) Go.ConcR.DC0 (AtR0 P ty Y.Wg Y.C N 0 (Y.kc*x+1) (val x 0)) m g' w2
end
structure kO (l:Nat->Nat)(t:Mem)(g:Nat)(s:St):Prop where
 blk:∀ b,(s.own b∨∃ L∈s.β,b∈L.bs)->l b=g/\b<s.w.heap.size
 M:∀ b o v,s.M b o=some v->(l b=g∨t b o=some v)/\b<s.w.heap.size
structure iC (Y:Lay)(l:Nat->Nat)(E:Nat->Mem)(j:Nat)(s:St):Prop where
 blk:∀ b,(s.own b∨∃ L∈s.β,b∈L.bs)->l b=0/\b≠Y.C/\b≠Y.Wg/\¬Y.Sh b/\b<s.w.heap.size
 M:∀ b o v,s.M b o=some v->l b=0/\b≠Y.C/\b≠Y.Wg/\¬Y.Sh b/\b<s.w.heap.size
 ms:∀ x,x<j->∀ b o v,E x b o=some v->s.M b o=some v
structure CP (Y:Lay)(l:Nat->Nat)(t:Mem)(y:Nat)(w w':World):Prop where
 size:w.heap.size<=w'.heap.size
 blk:∀ b,b<w.heap.size->l b=Y.base+y->w'.heap[b]?=w.heap[b]?
 cell:∀ b o v,t b o=some v->w.cell? ⟨b,o,none⟩=some v->w'.cell? ⟨b,o,none⟩=some v
 pay:∀ o,Y.kc*y<=o->o<Y.kc*y+Y.kc->w'.cell? ⟨Y.C,o,none⟩=w.cell? ⟨Y.C,o,none⟩
 os:w'.os=w.os
 tape:w'.tape=w.tape
 output:w'.output=w.output
omit [Payload] in
theorem CP.refl(Y:Lay)(l:Nat->Nat)(t:Mem)(y:Nat)(w:World):CP Y l t y w w:=⟨ar _,λ_ _ _=>rfl,λ_ _ _ _ h=>h,λ_ _ _=>rfl,rfl,rfl,rfl⟩
omit [Payload] in
theorem CP.at(Y:Lay)(l:Nat->Nat)(t:Mem)(y:Nat)(w:World)(d:Nat):CP Y l t y w (w.at d):=⟨ar _,λ_ _ _=>rfl,λ_ _ _ _ h=>h,λ_ _ _=>rfl,rfl,rfl,rfl⟩
structure Ad (Y:Lay)(l:Nat->Nat)(w w':World):Prop where
 size:w.heap.size<=w'.heap.size
 blk:∀ b,b<w.heap.size->l b=0->b≠Y.C->b≠Y.Wg->w'.heap[b]?=w.heap[b]?
 os:w'.os=w.os
 tape:w'.tape=w.tape
 output:w'.output=w.output
omit [Payload] in
theorem iD{w w':World}{b:Nat}(h:w'.heap[b]?=w.heap[b]?)(o:Nat):w'.cell? ⟨b,o,none⟩=w.cell? ⟨b,o,none⟩:=by simp[World.cell?,h]
omit [Payload] in
theorem br.more{s:St}{w w':World}(h:br s { s with w:=w })(A:w.heap.size<=w'.heap.size)(f:∀ b,(s.own b∨∃ L∈s.β,b∈L.bs)->w'.heap[b]?=w.heap[b]?)
  (Z:∀ b o v,s.M b o=some v->w.cell? ⟨b,o,none⟩=some v->w'.cell? ⟨b,o,none⟩=some v) (c:w'.os=w.os) (p:w'.tape=w.tape) (z:w'.output=w.output):br s { s with w:=w' } :=
 ⟨rfl,rfl,rfl,er h.size A,λb Q=>by show w'.heap[b]?=_;rw[f b Q];exact h.eC b Q,λb o v q=>Z b o v q (h.mem b o v q),c.trans h.os,p.trans h.tape,z.trans h.output⟩
section
variable {Y:Lay}{l hm':Nat->Nat}{E:Nat->Mem}{j y:Nat}{s:St}{w w':World}
omit [Payload] in
theorem kO.Ff(n:kO l (E y) (Y.base+y) s)(h:br s { s with w:=w })(k:CP Y l (E y) y w w'):br s { s with w:=w' }:=by
 have A:=h.size;refine h.more k.size (λb f=>?_) (λb o v q U=>?_) k.os k.tape k.output
 ·obtain⟨c,p⟩:=n.blk b f;exact k.blk b (bF p A) c
 ·obtain⟨c,p⟩:=n.M b o v q;rcases c with c|c
  ·rw[iD (k.blk b (bF p A) c) o];exact U
  ·exact k.cell b o v c U
omit [Payload] in
theorem kO.qF{t:Mem}{g:Nat}(n:kO l t g s)(h:s.w.heap.size<=w.heap.size)(S:∀ b,b<w.heap.size->hm' b=l b):kO hm' t g s :=
 ⟨λb f=>let ⟨c,p⟩:=n.blk b f;⟨by rw[S b (bF p h)];exact c,p⟩,λb o v q=>let ⟨c,p⟩:=n.M b o v q;⟨by rw[S b (bF p h)];exact c,p⟩⟩
omit [Payload] in
theorem iC.Ff(n:iC Y l E j s)(h:br s { s with w:=w })(k:Ad Y l w w'):br s { s with w:=w' }:=by
 have A:=h.size;refine h.more k.size (λb f=>?_) (λb o v q U=>?_) k.os k.tape k.output
 ·obtain⟨c,p,z,H,u⟩:=n.blk b f;exact k.blk b (bF u A) c p z
 ·obtain⟨c,p,z,H,u⟩:=n.M b o v q;rw[iD (k.blk b (bF u A) c p z) o];exact U
omit [Payload] in
theorem iC.qF(n:iC Y l E j s)(h:s.w.heap.size<=w.heap.size)(S:∀ b,b<w.heap.size->hm' b=l b):iC Y hm' E j s :=
 ⟨λb f=>let ⟨c,p,z,H,u⟩:=n.blk b f;⟨by rw[S b (bF u h)];exact c,p,z,H,u⟩,
  λb o v q=>let ⟨c,p,z,H,u⟩:=n.M b o v q;⟨by rw[S b (bF u h)];exact c,p,z,H,u⟩,n.ms⟩
omit [Payload] in
theorem kO.rely{t:Mem}{g:Nat}(n:kO l t g s)(h:s.w.heap.size<=w.heap.size):kO l t g { s with w:=w } :=
 ⟨λb f=>let ⟨c,p⟩:=n.blk b f;⟨c,bF p h⟩,λb o v q=>let ⟨c,p⟩:=n.M b o v q;⟨c,bF p h⟩⟩
omit [Payload] in
theorem iC.rely(n:iC Y l E j s)(h:s.w.heap.size<=w.heap.size):iC Y l E j { s with w:=w } :=
 ⟨λb f=>let ⟨c,p,z,H,u⟩:=n.blk b f;⟨c,p,z,H,bF u h⟩,λb o v q=>let ⟨c,p,z,H,u⟩:=n.M b o v q;⟨c,p,z,H,bF u h⟩,n.ms⟩
omit [Payload] in
theorem kO.ghost{t:Mem}{g:Nat}{s':St}(n:kO l t g s)(k:dX s s'):kO l t g s':=by
 refine⟨λb f=>by rw[k.w];exact n.blk b (k.blk b f),λb o v q=>?_⟩
 rw[k.w]
 by_cases f:∃ L∈s.β,b∈L.bs
 ·obtain⟨c,p⟩:=n.blk b (.inr f);exact⟨.inl c,p⟩
 ·exact n.M b o v (by rw[<-k.ij b (λL F D=>f ⟨L,F,D⟩)];exact q)
omit [Payload] in
theorem kO.forget{t:Mem}{g:Nat}{s':St}(n:kO l t g s)(k:lC s s'):kO l t g s' :=
 ⟨λb f=>by rw[k.w];exact n.blk b (by rw[<-k.own,<-k.β];exact f),λb o v q=>by rw[k.w];exact n.M b o v (k.less b o v q)⟩
omit [Payload] in
theorem iC.ghost{s':St}(n:iC Y l E j s)(k:dX s s'):iC Y l E j s':=by
 refine⟨λb f=>by rw[k.w];exact n.blk b (k.blk b f),λb o v q=>?_,λx V b o v q=>k.mem _ _ _ (n.ms x V b o v q)⟩
 rw[k.w]
 by_cases f:∃ L∈s.β,b∈L.bs
 ·exact n.blk b (.inr f)
 ·exact n.M b o v (by rw[<-k.ij b (λL F D=>f ⟨L,F,D⟩)];exact q)
def lU(l:Nat->Nat)(B g:Nat):Nat->Nat:=λb=>if b<B then l b else g
omit [Payload] in
theorem dJ{l:Nat->Nat}{B g b:Nat}(h:b<B):lU l B g b=l b:=by simp[lU,h]
omit [Payload] in
theorem qG{l:Nat->Nat}{B g b:Nat}(h:B<=b):lU l B g b=g:=by simp[lU,Nat.not_lt.2 h]
omit [Payload] in
theorem kO.step{t:Mem}{g:Nat}{s':St}{σ σ':List aj}(n:kO l t g s)(G:ag σ' s')(st:Step σ s σ' s'):kO (lU l s.w.heap.size g) t g s':=by
 refine⟨λb f=>?_,λb o v q=>?_⟩
 ·rcases f with f|⟨L,F,f⟩
  ·rw[st.own] at f;obtain⟨c,p⟩:=n.blk b (.inl f);exact⟨by rw[dJ p];exact c,bF p st.size⟩
  ·have r:=G.lt L F b f;rcases st.rM L F b f with c|⟨W,J,c⟩
   ·exact⟨qG c,r⟩
   ·obtain⟨k1,K⟩:=n.blk b (.inr ⟨W,J,c⟩);exact⟨by rw[dJ K];exact k1,r⟩
 ·have r:=fA.lt G.mem q;rcases bz b s.w.heap.size with c|c
  ·rw[dJ c]
   by_cases f:∃ L∈s.β,b∈L.bs
   ·exact⟨.inl (n.blk b (.inr f)).1,r⟩
   ·rw[st.ij b c (λL F D=>f ⟨L,F,D⟩)] at q
    exact⟨(n.M b o v q).1,r⟩
  ·exact⟨.inl (qG c),r⟩
omit [Payload] in
theorem iC.step{s':St}{σ σ':List aj}(n:iC Y l E j s)(G:ag σ' s')(st:Step σ s σ' s')(hW:Y.Wg<s.w.heap.size)(hC:Y.C<s.w.heap.size)(X:∀ b,Y.Sh b->b<s.w.heap.size):iC Y (lU l s.w.heap.size 0) E j s':=by
 have I:∀ b,s.w.heap.size<=b->b<s'.w.heap.size->lU l s.w.heap.size 0 b=0/\b≠Y.C/\b≠Y.Wg/\¬Y.Sh b/\b<s'.w.heap.size:=λb c p =>
  ⟨qG c,by omega,by omega,λh=>by have:=X b h;omega,p⟩
 refine⟨λb f=>?_,λb o v q=>?_,λx V b o v q=>st.mem _ _ _ (n.ms x V b o v q)⟩
 ·rcases f with f|⟨L,F,f⟩
  ·rw[st.own] at f;obtain⟨c,p,z,H,u⟩:=n.blk b (.inl f);exact⟨by rw[dJ u];exact c,p,z,H,bF u st.size⟩
  ·have r:=G.lt L F b f;rcases st.rM L F b f with c|⟨W,J,c⟩
   ·exact I b c r
   ·obtain⟨k1,K,R,O,T⟩:=n.blk b (.inr ⟨W,J,c⟩);exact⟨by rw[dJ T];exact k1,K,R,O,r⟩
 ·have r:=fA.lt G.mem q;rcases bz b s.w.heap.size with c|c
  ·by_cases f:∃ L∈s.β,b∈L.bs
   ·obtain⟨k1,K,R,O,T⟩:=n.blk b (.inr f);exact⟨by rw[dJ T];exact k1,K,R,O,r⟩
   ·rw[st.ij b c (λL F D=>f ⟨L,F,D⟩)] at q
    obtain⟨k1,K,R,O,T⟩:=n.M b o v q;exact⟨by rw[dJ T];exact k1,K,R,O,r⟩
  ·exact I b c r
end
end Go.AM
namespace Go.AM
open Go.Conc
open Go.ConcN (WD CTag Mode Vc Ssum pend phi cnt WgLive PayAt Has RW DWs WSit RelBy sumTo upd upd_same upd_ne AtR0 get_map_set get_map_set_same norel_of Deaf_still)
open Go.ConcR (KK WgAt stA smA rd wr mk Payload g_of_ofEvents)
variable [Payload]
section
variable (P:Program)(ty:TypeId)(Y:Lay)(N:Nat)(val:Nat->Nat->Value)(l:Nat->Nat)(c:Nat->Mem)
inductive WS (x:Nat):Nat->Nat->Rk->Nat->Goroutine->World->Prop
 |am {r:Rk} {g:Goroutine} {s:St} {w:World}:iB (Cx.work P) E0 (Fe P ty Y N val x) r g s->br s { s with w:=w }->kO l (c x) (Y.base+x) s->WS x 1 7 r 0 g w
 |rel {m:Nat} {g:Goroutine} {w:World}:Goes P false (RW ty Y.Wg Y.C N 0 (Y.kc*x)) Go.ConcR.DC0 (AtR0 P ty Y.Wg Y.C N 0 (Y.kc*x+1) (val x 0)) m g w->WS x 0 7 (Rk.nat m) 0 g w
 |tail {st m d:Nat} {g:Goroutine} {w:World}:st<=6->WSit P ty Y.Wg Y.C N Kv Kv 0 (Y.kc*x+1) (val x 0) st m d g w->WS x 0 st (Rk.nat m) d g w
structure Com (j:Nat)(n:Array Goroutine)(w:World)(t:Trace)(D:Nat->WD)(A:Nat->Nat)(K:Nat->Rk)(p:Nat):Prop where
 size:n.size=Y.base+j
 lv:∀ i g,0<i->i<Y.base->n[i]?=some g->∃ m,K i=Rk.nat m/\QuitsD P m (Deaf t i) g
 above:∀ i,Y.base+j<=i->Deaf t i=0
 wk:∀ x,x<j->∃ g,n[Y.base+x]?=some g/\WS P ty Y N val l c x (A x) (D x).stage (K (Y.base+x)) (D x).deaf g w
 tl:TL Y l c t j w.heap.size
 norel:pN t
 deaf0:Deaf t 0=p
 deafW:∀ x,x<j->Deaf t (Y.base+x)=(D x).deaf
 rel:∀ x,x<j->(D x).stage<=6->∃ r,RelBy (stA Y.Wg) t (Y.base+x) r
 va:∀ x,x<j->A x=0->∀ i,1<=i->i<Y.kc->w.cell? ⟨Y.C,Y.kc*x+i,none⟩=some (val x i)
 yB:∀ x,x<j->(D x).stage<=6->Has Y.C (Y.kc*x) (val x 0) w
 pay:PayAt Y.C N w
 live:WgLive ty Y.Wg w
 xf:Y.Wg<w.heap.size
 yC:Y.C<w.heap.size
 HZ:∀ b,Y.Sh b->b<w.heap.size
 kc:0<Y.kc
 IM:∀ y,y<j->∀ b o v,c y b o=some v->b<w.heap.size
end
section
variable {P:Program}{ty:TypeId}{Y:Lay}{N:Nat}{val:Nat->Nat->Value}{l hm':Nat->Nat}{c:Nat->Mem}{j x:Nat}{n:Array Goroutine}{w w':World}{t:Trace}{D:Nat->WD}{A:Nat->Nat}{K:Nat->Rk}{p:Nat}
theorem RW.Ff(k:CP Y l (c x) x w w')(hl:WgLive ty Y.Wg w')(d:PayAt Y.C N w')(e:0<Y.kc):RW ty Y.Wg Y.C N 0 (Y.kc*x+1-1) w w' :=
 ⟨λb a=>absurd a (hI b),λ_=>hl,λ_=>d,k.pay _ (ar _) (by simp;omega)⟩
theorem WS.Ff{a st d:Nat}{r:Rk}{g:Goroutine}(h:WS P ty Y N val l c x a st r d g w)(k:CP Y l (c x) x w w')(hl:WgLive ty Y.Wg w')(i:PayAt Y.C N w')(e:0<Y.kc)(hh:∀ b,b<w.heap.size->hm' b=l b) :
  WS P ty Y N val hm' c x a st r d g w':=by
 cases h with
 |am h1 h2 h3=>exact .am h1 (h3.Ff h2 k) (h3.qF h2.size hh)
 |rel h1=>exact .rel (Goes.rely (λ_ _ _ h1 h2=>h1.trans h2) h1 (RW.Ff k hl i e))
 |tail h0 h1=>exact .tail h0 (h1.rely (RW.Ff k hl i e))
omit [Payload] in
theorem iB.run{X:Cx P}{E:St->St->Array Event->Prop}{S:Goroutine->St->Prop}(q:∀ g s,S g s->g.status=.running):∀ {r:Rk}{g:Goroutine}{s:St},iB X E S r g s->g.status=.running
 |.leaf,_,_,h=>q _ _ h
 |.node f,g,s,h=>by
  rcases h with h|⟨s',_,h⟩|⟨h,_⟩
  ·exact q _ _ h
  ·exact iB.run q (r:=f s) h
  ·exact h
theorem WS.status{a st d:Nat}{r:Rk}{g:Goroutine}(h:WS P ty Y N val l c x a st r d g w):g.status=.running∨g.status=.finished:=by
 cases h with
 |am h1 _ _=>exact .inl (h1.run λg s h=>h.1)
 |rel h1=>exact .inl (Goes.running (λ_ _ x=>x.1) w (Go.ConcN.RW.refl w) h1)
 |tail _ h1=>exact h1.status
theorem WS.woken{a st d:Nat}{r:Rk}{g:Goroutine}(h:WS P ty Y N val l c x a st r d g w)(b e:Goroutine)(w':World):woken P b e w' g=g:=by
 unfold Go.Conc.woken;split
 ·exact again_running _ h.status
 ·rfl
theorem Com.at(h:Com P ty Y N val l c j n w t D A K p)(d:Nat):Com P ty Y N val l c j n (w.at d) t D A K p :=
 ⟨h.size,h.lv,h.above,λx a=>let ⟨g,h1,h2⟩:=h.wk x a;⟨g,h1,h2.Ff (.at ..) h.live h.pay h.kc λ_ _=>rfl⟩,h.tl,h.norel,h.deaf0,h.deafW,h.rel,h.va,h.yB,h.pay,h.live,h.xf,h.yC,h.HZ,h.kc,h.IM⟩
theorem Com.stepW(h:Com P ty Y N val l c j n w t D A K p)(hx:x<j){g g':Goroutine}{fn:FuncId}{pos:String}{es:Array Event}{a' jO d':Nat}{r':Rk}
  (hh:∀ b,b<w.heap.size->hm' b=l b) (B:w.heap.size<=w'.heap.size) (u:∀ y,y<j->y≠x->CP Y l (c y) y w w')
  (Z:WS P ty Y N val hm' c x a' jO r' d' g' w') (Q:∀ e∈es,(MemAct.ofEvent e).low w'.heap.size) (U:∀ e∈es,∀ a,(MemAct.ofEvent e).touch?=some a->a.loc.isMemory=true->oJ Y hm' (c x) x a)
  (LH:∀ e∈es,∀ a,e.loc≠.mark (.release a)) (J:deafBehind (D x).deaf es=d')
  (O:jO<=6->∃ r,RelBy (stA Y.Wg) (t++MemOp.ofEvents (Y.base+x) fn pos es) (Y.base+x) r)
  (h1:a'=0->∀ i,1<=i->i<Y.kc->w'.cell? ⟨Y.C,Y.kc*x+i,none⟩=some (val x i)) (h0:jO<=6->Has Y.C (Y.kc*x) (val x 0) w') (I:PayAt Y.C N w') (F:WgLive ty Y.Wg w') :
  Com P ty Y N val hm' c j ((n.map (woken P g g' w')).setIfInBounds (Y.base+x) g') w' (t++MemOp.ofEvents (Y.base+x) fn pos es) (upd D x ⟨jO,0,d'⟩) (upd A x a') (upd K (Y.base+x) r') p:=by
 have hb:=h.tl.base;have G:∀ y,y≠x->Y.base+x≠Y.base+y:=λy d e=>d (by omega)
 have W:∀ i H,0<i->i<Y.base->((n.map (Go.Conc.woken P g g' w')).setIfInBounds (Y.base+x) g')[i]?=some H->n[i]?=some H:=by
  intro i H hi Kw BN;rw[get_map_set _ _ _ _ (by omega)] at BN
  obtain⟨z,hz,rfl⟩:=oT.1 BN;obtain⟨m,_,hq⟩:=h.lv i z hi Kw hz;rw[woken_quitsD hq];exact hz
 refine⟨by simp[h.size],λi H hi Kw BN=>?_,λi hi=>?_,λy d=>?_,?_,h.norel.app LH,by rw[Deaf_other t (by omega) _ g_of_ofEvents,h.deaf0],λy d=>?_,λy d k=>?_,λy d L i R T=>?_,λy d k=>?_,I,F,bF h.xf B,bF h.yC B,λb hb=>bF (h.HZ b hb) B,h.kc,λy d b o v hv=>bF (h.IM y d b o v hv) B⟩
 ·obtain⟨m,Le,LI⟩:=h.lv i H hi Kw (W i H hi Kw BN);refine⟨m,by rw[upd_ne K _ (by omega)];exact Le,?_⟩
  rw[Deaf_other t (by omega) _ g_of_ofEvents];exact LI
 ·rw[Deaf_other t (by omega) _ g_of_ofEvents];exact h.above i hi
 ·by_cases e:y=x
  ·subst e;exact⟨g',get_map_set_same _ _ _ (by rw[h.size];omega),by rw[upd_same,upd_same,upd_same];exact Z⟩
  ·obtain⟨H,BN,M⟩:=h.wk y d;refine⟨H,by rw[get_map_set _ _ _ _ (G y e),BN,gk,M.woken],?_⟩
   rw[upd_ne A _ e,upd_ne D _ e,upd_ne K _ (G y e).symm];exact M.Ff (u y d e) F I h.kc hh
 ·refine(h.tl.qF hh B h.xf h.yC h.HZ λy d b o v hv=>?_).appW hx (λop fP=>by obtain⟨e,_,rfl⟩:=Go.Conc.mem_ofEvents fP;rfl) (λop fP=>?_) (λop fP a L Ws=>?_)
  ·exact h.IM y d b o v hv
  ·obtain⟨e,V,rfl⟩:=Go.Conc.mem_ofEvents fP;exact Q e V
  ·obtain⟨e,V,rfl⟩:=Go.Conc.mem_ofEvents fP;exact U e V a L Ws
 ·by_cases e:y=x
  ·subst e;rw[Deaf_own,h.deafW y d,upd_same];exact J
  ·rw[Deaf_other t (G y e) _ g_of_ofEvents,h.deafW y d,upd_ne D _ e]
 ·by_cases e:y=x
  ·subst e;rw[upd_same] at k;exact O k
  ·rw[upd_ne D _ e] at k;obtain⟨r,hr⟩:=h.rel y d k;exact⟨r,hr.appOther g_of_ofEvents (G y e)⟩
 ·by_cases e:y=x
  ·subst e;rw[upd_same] at L;exact h1 L i R T
  ·rw[upd_ne A _ e] at L;rw[(u y d e).pay _ (by omega) (by omega)]
   exact h.va y d L i R T
 ·by_cases e:y=x
  ·subst e;rw[upd_same] at k;exact h0 k
  ·rw[upd_ne D _ e] at k;have:=h.yB y d k;have hk:=h.kc;simp only[Has] at this ⊢;rw[(u y d e).pay _ (by omega) (by omega)]
   exact this
theorem Com.step0(h:Com P ty Y N val l c j n w t D A K p){g g':Goroutine}{fn:FuncId}{pos:String}{es:Array Event}
  (hh:∀ b,b<w.heap.size->hm' b=l b) (u:w.heap.size<=w'.heap.size) (k:∀ y,y<j->CP Y l (c y) y w w')
  (J:∀ e∈es,(MemAct.ofEvent e).low w'.heap.size) (Q:∀ e∈es,∀ a,(MemAct.ofEvent e).touch?=some a->a.loc.isMemory=true->qc Y hm' a)
  (O:∀ e∈es,∀ a,(MemAct.ofEvent e).touch?=some a->a.kind=.plain->a.write=true->∀ x,x<j->∀ b o v,a.loc=.cell ⟨b,o,none⟩->c x b o≠some v)
  (W:∀ e∈es,∀ a,e.loc≠.mark (.release a)) (F:PayAt Y.C N w') (B:WgLive ty Y.Wg w') :
  Com P ty Y N val hm' c j ((n.map (woken P g g' w')).setIfInBounds 0 g') w' (t++MemOp.ofEvents 0 fn pos es) D A K (deafBehind p es):=by
 have hb:=h.tl.base;have hk:=h.kc;refine⟨by simp[h.size],λi Z hi Kw BN=>?_,λi hi=>?_,λy d=>?_,?_,h.norel.app W,by rw[Deaf_own,h.deaf0],λy d=>by rw[Deaf_other t (by omega) _ g_of_ofEvents,h.deafW y d],λy d G=>?_,λy d L i U T=>?_,λy d G=>?_,F,B,bF h.xf u,bF h.yC u,λb hb=>bF (h.HZ b hb) u,h.kc,λy d b o v hv=>bF (h.IM y d b o v hv) u⟩
 ·rw[get_map_set _ _ _ _ (by omega)] at BN
  obtain⟨z,hz,rfl⟩:=oT.1 BN;obtain⟨m,V,M⟩:=h.lv i z hi Kw hz;exact⟨m,V,by rw[woken_quitsD M,Deaf_other t (by omega) _ g_of_ofEvents];exact M⟩
 ·rw[Deaf_other t (by omega) _ g_of_ofEvents];exact h.above i hi
 ·obtain⟨Z,BN,H⟩:=h.wk y d;exact⟨Z,by rw[get_map_set _ _ _ _ (by omega),BN,gk,H.woken],H.Ff (k y d) B F h.kc hh⟩
 ·refine(h.tl.qF hh u h.xf h.yC h.HZ h.IM).app0 (λop fP=>by obtain⟨e,_,rfl⟩:=Go.Conc.mem_ofEvents fP;rfl) (λop fP=>?_) (λop fP a L R=>?_) (λop fP a L=>?_)
  ·obtain⟨e,I,rfl⟩:=Go.Conc.mem_ofEvents fP;exact J e I
  ·obtain⟨e,I,rfl⟩:=Go.Conc.mem_ofEvents fP;exact Q e I a L R
  ·obtain⟨e,I,rfl⟩:=Go.Conc.mem_ofEvents fP;exact O e I a L
 ·obtain⟨r,hr⟩:=h.rel y d G;exact⟨r,hr.appOther g_of_ofEvents (by omega)⟩
 ·rw[(k y d).pay _ (by omega) (by omega)]
  exact h.va y d L i U T
 ·have:=h.yB y d G;simp only[Has] at this ⊢;rw[(k y d).pay _ (by omega) (by omega)]
  exact this
theorem Com.leave(h:Com P ty Y N val l c j n w t D A K p){i m:Nat}(hi:0<i)(O:i<Y.base){g g':Goroutine}{fn:FuncId}{pos:String}{es:Array Event}
  (d:∀ e∈es,e.mute=true) (R:QuitsD P m (deafBehind (Deaf t i) es) g') :
  Com P ty Y N val l c j ((n.map (woken P g g' w)).setIfInBounds i g') w (t++MemOp.ofEvents i fn pos es) D A (upd K i (Rk.nat m)) p:=by
 have T:=h.tl.base;have C:∀ e∈es,∀ a,e.loc≠.mark (.release a):=λe v a=>ta (d e v) a
 refine⟨by simp[h.size],λk J F G b=>?_,λk F=>?_,λy u=>?_,?_,h.norel.app C,by rw[Deaf_other t (by omega) _ g_of_ofEvents,h.deaf0],λy u=>by rw[Deaf_other t (by omega) _ g_of_ofEvents,h.deafW y u],λy u I=>?_,h.va,h.yB,h.pay,h.live,h.xf,h.yC,h.HZ,h.kc,h.IM⟩
 ·by_cases e:k=i
  ·subst e;rw[get_map_set_same _ _ _ (by rw[h.size];omega)] at b
   cases b;exact⟨m,by rw[upd_same],by rw[Deaf_own];exact R⟩
  ·rw[get_map_set _ _ _ _ (fJ e)] at b;obtain⟨z,L,rfl⟩:=oT.1 b;obtain⟨Q,H,B⟩:=h.lv k z F G L;exact⟨Q,by rw[upd_ne K _ e];exact H,by rw[woken_quitsD B,Deaf_other t (fJ e) _ g_of_ofEvents];exact B⟩
 ·rw[Deaf_other t (by omega) _ g_of_ofEvents];exact h.above k F
 ·obtain⟨J,b,o⟩:=h.wk y u;exact⟨J,by rw[get_map_set _ _ _ _ (by omega),b,gk,o.woken],by rw[upd_ne K _ (by omega)];exact o⟩
 ·exact h.tl.mute (g:=i) (λop fP=>by obtain⟨e,_,rfl⟩:=Go.Conc.mem_ofEvents fP;rfl) (λop fP=>by obtain⟨e,v,rfl⟩:=Go.Conc.mem_ofEvents fP;exact low_mute (d e v) _) (λop fP=>by obtain⟨e,v,rfl⟩:=Go.Conc.mem_ofEvents fP;exact touch_mute (d e v))
 ·obtain⟨r,M⟩:=h.rel y u I;exact⟨r,M.appOther g_of_ofEvents (by omega)⟩
theorem Com.spawn(h:Com P ty Y N val l c j n w t D A K 0){a' child:Goroutine}{x y:MemOp}{r:Rk}{s:St}(F:x.g=0/\x.act=.go (Y.base+j))(G:y.g=Y.base+j/\y.act=.start)
  (M:∀ b o v,c j b o=some v->l b=0/\b≠Y.C/\b≠Y.Wg/\¬Y.Sh b/\b<w.heap.size)
  (Q:iB (Cx.work P) E0 (Fe P ty Y N val j) r child s) (J:br s { s with w:=w }) (R:kO l (c j) (Y.base+j) s) :
  Com P ty Y N val l c (j+1) ((n.setIfInBounds 0 a').push child) w (t++#[x,y]) (upd D j ⟨7,0,0⟩) (upd A j 1) (upd K (Y.base+j) r) 0:=by
 have U:=h.tl.base;have u:∀ op∈#[x,y],op=x∨op=y:=by intro op fP;simpa using fP
 have e:∀ op∈#[x,y],op.act≠.mark .disable/\op.act≠.mark .enable:=by
  intro op fP;rcases u op fP with rfl|rfl
  ·rw[F.2];exact⟨by simp,by simp⟩
  ·rw[G.2];exact⟨by simp,by simp⟩
 have k:∀ i,0<i->i<Y.base+j->((n.setIfInBounds 0 a').push child)[i]?=n[i]?:=λi hi oV=>by
  rw[sd (by simp[h.size];omega),<-bw,kr (by omega)]
 refine⟨by simp[h.size];omega,λi g hi Kw hg=>?_,λi hi=>?_,λz B=>?_,h.tl.fork F G h.deaf0 (h.above _ (ar _)) λb o v I=>let ⟨h1,h2,O,T,_⟩:=M b o v I;⟨h1,h2,O,T⟩,λad=>(h.norel ad).app λop fP=>?_,by rw[Deaf_still t 0 _ e,h.deaf0],λz B=>?_,λz B d=>?_,λz B H=>?_,λz B d=>?_,h.pay,h.live,h.xf,h.yC,h.HZ,h.kc,λz B b o v I=>?_⟩
 ·rw[k i hi (by omega)] at hg
  obtain⟨m,h1,h2⟩:=h.lv i g hi Kw hg;exact⟨m,by rw[upd_ne K _ (by omega)];exact h1,by rw[Deaf_still t _ _ e];exact h2⟩
 ·rw[Deaf_still t _ _ e];exact h.above i (by omega)
 ·rcases bz z j with oV|a
  ·obtain⟨g,hg,L⟩:=h.wk z oV;exact⟨g,by rw[k _ (by omega) (by omega)];exact hg,by rw[upd_ne D _ (by omega),upd_ne A _ (by omega),upd_ne K _ (by omega)];exact L⟩
  ·obtain rfl:z=j:=by omega
   refine⟨child,?_,by rw[upd_same,upd_same,upd_same];exact .am Q J R⟩
   rw[show Y.base+z=(n.setIfInBounds 0 a').size by simp[h.size],Array.getElem?_push_size]
 ·rcases u op fP with rfl|rfl
  ·rw[F.2];simp
  ·rw[G.2];simp
 ·rw[Deaf_still t _ _ e];rcases bz z j with oV|a
  ·rw[h.deafW z oV,upd_ne D _ (by omega)]
  ·obtain rfl:z=j:=by omega
   rw[upd_same];exact h.above _ (ar _)
 ·rcases bz z j with oV|a
  ·rw[upd_ne D _ (by omega)] at d
   obtain⟨r,J⟩:=h.rel z oV d;refine⟨r,J.appNot λop fP=>?_⟩
   rcases u op fP with rfl|rfl
   ·rw[F.1];omega
   ·rw[G.1];omega
  ·obtain rfl:z=j:=by omega
   rw[upd_same] at d;simp at d
 ·rcases bz z j with oV|a
  ·rw[upd_ne A _ (by omega)] at H
   exact h.va z oV H
  ·obtain rfl:z=j:=by omega
   rw[upd_same] at H;simp at H
 ·rcases bz z j with oV|a
  ·rw[upd_ne D _ (by omega)] at d
   exact h.yB z oV d
  ·obtain rfl:z=j:=by omega
   rw[upd_same] at d;simp at d
 ·rcases bz z j with oV|a
  ·exact h.IM z oV b o v I
  ·obtain rfl:z=j:=by omega
   exact(M b o v I).2.2.2.2
end
end Go.AM
namespace Go.AM
open Go.Conc
open Go.ConcN (WD CTag Mode Vc Ssum pend phi cnt WgLive PayAt Has RW DWs WSit RelBy sumTo upd upd_same upd_ne AtR0)
open Go.ConcR (KK WgAt stA smA rd wr mk Payload g_of_ofEvents again_blocked)
variable [Payload]
section
variable (P:Program)(ty:TypeId)(Y:Lay)(N:Nat)(val:Nat->Nat->Value)(n:Nat)(T l:Goroutine->St->Prop)
def AtAcq(g:Goroutine)(s:St):Prop:=g.status=.running/\∃ g',(∀ w,stepG P true g w=.go g' w #[mk (.acquire (stA Y.Wg))])/\∀ c,(Cx.lead P ty Y.Wg).rely s c->T g' c
def AtKe(g:Goroutine)(s:St):Prop:=g.status=.running/\∃ g',(∀ w,stepG P true g w=.go g' w #[mk .enable])/\∀ c,(Cx.lead P ty Y.Wg).rely s c->(dh (Cx.lead P ty Y.Wg) (Es Y.Wg)) (AtAcq P ty Y T) g' c
def AtW4(g:Goroutine)(s:St):Prop:=g.status=.running/\∀ c,(Cx.lead P ty Y.Wg).rely s c->WgAt ty Y.Wg c.w 0 0->∃ g',stepG P true g c.w=.go g' c.w #[rd (stA Y.Wg)]/\(dh (Cx.lead P ty Y.Wg) (Es Y.Wg)) (AtKe P ty Y T) g' c
def AtW3(g:Goroutine)(s:St):Prop:=g.status=.running/\g.offers=none/\∀ c,(Cx.lead P ty Y.Wg).rely s c ->
 ((∃ st,WgAt ty Y.Wg c.w st 0)->stepG P true g c.w=.go { g with status:=.blocked } c.w #[]) /\
 (WgAt ty Y.Wg c.w 0 1->∃ g',stepG P true g c.w=.go g' (c.w.setCell (smA Y.Wg) (.int .u32 0)) (semEvents (smA Y.Wg))/\(dh (Cx.lead P ty Y.Wg) (Es Y.Wg)) (AtW4 P ty Y T) g' { c with w:=c.w.setCell (smA Y.Wg) (.int .u32 0) })
def AtW2(vs:Nat)(g:Goroutine)(s:St):Prop:=g.status=.running/\∀ c,(Cx.lead P ty Y.Wg).rely s c->∀ v:Nat,v<2147483648->WgAt ty Y.Wg c.w (v*KK) 0 ->
 (v=vs->∃ g',stepG P true g c.w=.go g' (c.w.setCell (stA Y.Wg) (.int .u64 (v*KK+1))) #[rd (stA Y.Wg),wr (stA Y.Wg)]/\(dh (Cx.lead P ty Y.Wg) (Es Y.Wg)) (AtW3 P ty Y T) g' { c with w:=c.w.setCell (stA Y.Wg) (.int .u64 (v*KK+1)) }) /\
 (v≠vs->∃ g',stepG P true g c.w=.go g' c.w #[rd (stA Y.Wg)]/\l g' c)
def AtW1(g:Goroutine)(s:St):Prop:=g.status=.running/\∀ c,(Cx.lead P ty Y.Wg).rely s c->∀ v:Nat,v<2147483648->WgAt ty Y.Wg c.w (v*KK) 0 ->
 ∃ g',stepG P true g c.w=.go g' c.w #[rd (stA Y.Wg)]/\(v=0->(dh (Cx.lead P ty Y.Wg) (Es Y.Wg)) (AtKe P ty Y T) g' c)/\(v≠0->(dh (Cx.lead P ty Y.Wg) (Es Y.Wg)) (AtW2 P ty Y T l v) g' c)
def AtKd(g:Goroutine)(s:St):Prop:=g.status=.running/\∃ g',(∀ w,stepG P true g w=.go g' w #[mk .disable])/\∀ c,(Cx.lead P ty Y.Wg).rely s c->l g' c
def St.child(s:St):St:={ β:=[],M:=s.M,w:=s.w,own:=λ_=>False }
def AtGo(j:Nat)(Next:Goroutine->St->Prop)(g:Goroutine)(s:St):Prop:=g.status=.running/\∀ c,(Cx.lead P ty Y.Wg).rely s c ->
 ∃ g' child,stepG P true g c.w=.spawn g' child c.w #[]/\child.status=.running/\dh (Cx.work P) E0 (Fe P ty Y N val j) child c.child/\Next g' c
def AtKeS(j:Nat)(Next:Goroutine->St->Prop)(g:Goroutine)(s:St):Prop:=g.status=.running/\∃ g',(∀ w,stepG P true g w=.go g' w #[mk .enable])/\∀ c,(Cx.lead P ty Y.Wg).rely s c->(dh (Cx.lead P ty Y.Wg) (Es Y.Wg)) (AtGo P ty Y N val j Next) g' c
def AtA1(j:Nat)(Next:Goroutine->St->Prop)(g:Goroutine)(s:St):Prop:=g.status=.running/\∀ c,(Cx.lead P ty Y.Wg).rely s c->∀ v:Nat,v<2147483647->WgAt ty Y.Wg c.w (v*KK) 0 ->
 ∃ g',stepG P true g c.w=.go g' (c.w.setCell (stA Y.Wg) (.int .u64 ((v+1)*KK))) #[rd (stA Y.Wg),wr (stA Y.Wg)]/\(dh (Cx.lead P ty Y.Wg) (Es Y.Wg)) (AtKeS P ty Y N val j Next) g' { c with w:=c.w.setCell (stA Y.Wg) (.int .u64 ((v+1)*KK)) }
def AtKdS(j:Nat)(Next:Goroutine->St->Prop)(g:Goroutine)(s:St):Prop:=g.status=.running/\∃ g',(∀ w,stepG P true g w=.go g' w #[mk .disable])/\∀ c,(Cx.lead P ty Y.Wg).rely s c->(dh (Cx.lead P ty Y.Wg) (Es Y.Wg)) (AtA1 P ty Y N val j Next) g' c
def Spawns:Nat->Goroutine->St->Prop
 |0,g,s=>(dh (Cx.lead P ty Y.Wg) (Es Y.Wg)) (AtKd P ty Y l) g s
 |r+1,g,s=>(dh (Cx.lead P ty Y.Wg) (Es Y.Wg)) (AtKdS P ty Y N val (n-(r+1)) (Spawns r)) g s
def Rk.lift:Rk->Rk
 |.leaf=>.node λ_=>.leaf
 |.node f=>.node λs=>Rk.lift (f s)
omit [Payload] in
theorem Rk.BO:∀ {x r:Rk},Rk.lt x r->Rk.lt x.lift r.lift
 |_,.leaf,h=>h.elim
 |_,.node _,⟨s,h⟩=>⟨s,h.elim (λe=>.inl (by rw[e])) λh=>.inr (Rk.BO h)⟩
omit [Payload] in
theorem Rk.Fg(s:St):∀ r:Rk,∃ x,Rk.lt x r.lift
 |.leaf=>⟨.leaf,s,.inl rfl⟩
 |.node f=>⟨(f s).lift,s,.inl rfl⟩
inductive CS:CTag->Nat->Rk->Nat->Goroutine->St->Prop
 |skd {r:Nat} {rk:Rk} {g:Goroutine} {s:St}:r<n->(iB (Cx.lead P ty Y.Wg) (Es Y.Wg)) (AtKdS P ty Y N val (n-(r+1)) (Spawns P ty Y N val n l r)) rk g s->CS (.sp r 5) (n-(r+1)) rk 0 g s
 |sa1 {r:Nat} {rk:Rk} {g:Goroutine} {s:St}:r<n->(iB (Cx.lead P ty Y.Wg) (Es Y.Wg)) (AtA1 P ty Y N val (n-(r+1)) (Spawns P ty Y N val n l r)) rk g s->CS (.sp r 4) (n-(r+1)) rk 1 g s
 |ske {r:Nat} {rk:Rk} {g:Goroutine} {s:St}:r<n->(iB (Cx.lead P ty Y.Wg) (Es Y.Wg)) (AtKeS P ty Y N val (n-(r+1)) (Spawns P ty Y N val n l r)) rk g s->CS (.sp r 3) (n-(r+1)) rk 1 g s
 |sgo {r:Nat} {rk:Rk} {g:Goroutine} {s:St}:r<n->(iB (Cx.lead P ty Y.Wg) (Es Y.Wg)) (AtGo P ty Y N val (n-(r+1)) (Spawns P ty Y N val n l r)) rk g s->CS (.sp r 2) (n-(r+1)) rk 0 g s
 |kd {rk:Rk} {g:Goroutine} {s:St}:(iB (Cx.lead P ty Y.Wg) (Es Y.Wg)) (AtKd P ty Y l) rk g s->CS .kd n rk 0 g s
 |w1 {rk:Rk} {g:Goroutine} {s:St}:(iB (Cx.lead P ty Y.Wg) (Es Y.Wg)) (AtW1 P ty Y T l) rk g s->CS .w1 n rk 1 g s
 |w2 {vs:Nat} {rk:Rk} {g:Goroutine} {s:St}:(iB (Cx.lead P ty Y.Wg) (Es Y.Wg)) (AtW2 P ty Y T l vs) rk g s->CS (.w2 vs) n rk 1 g s
 |w3 {rk:Rk} {g:Goroutine} {s:St}:(iB (Cx.lead P ty Y.Wg) (Es Y.Wg)) (AtW3 P ty Y T) rk g s->CS .w3 n rk.lift 1 g s
 |blk {rk:Rk} {g:Goroutine} {s:St}:AtW3 P ty Y T g s->CS .blk n rk 1 { g with status:=.blocked } s
 |w4 {rk:Rk} {g:Goroutine} {s:St}:(iB (Cx.lead P ty Y.Wg) (Es Y.Wg)) (AtW4 P ty Y T) rk g s->CS .w4 n rk 1 g s
 |ke {rk:Rk} {g:Goroutine} {s:St}:(iB (Cx.lead P ty Y.Wg) (Es Y.Wg)) (AtKe P ty Y T) rk g s->CS .ke n rk 1 g s
 |acq {rk:Rk} {g:Goroutine} {s:St}:(iB (Cx.lead P ty Y.Wg) (Es Y.Wg)) (AtAcq P ty Y T) rk g s->CS .acq n rk 0 g s
structure Fin (p:Nat->Nat)(o:Nat->Mem)(m:Machine)(t:Trace):Prop where
 out:∃ (gs:Array Goroutine) (w:World) (sl:Option (Nat×Nat)) (a:Goroutine) (s:St) (q:Nat->Nat),m=crowd gs w sl/\gs[0]?=some a/\gs.size=Y.base+n/\T a { s with w:=w }/\br s { s with w:=w }/\iC Y p o n s /\
  Leavers P t gs q/\Past (kC λb=>Y.Sh b∨b=Y.Wg) w.heap.size t/\pN t/\PayAt Y.C N w/\(∀ x,x<n->∀ i,i<Y.kc->w.cell? ⟨Y.C,Y.kc*x+i,none⟩=some (val x i))/\Y.C<w.heap.size/\Y.Wg<w.heap.size/\∀ b,Y.Sh b->b<w.heap.size
abbrev Mu:=Nat×((Nat->Rk)×Rk)
def BQ(M:Nat):Mu->Mu->Prop:=Prod.Lex (· < ·) (Prod.Lex (Vec M) Rk.lt)
omit [Payload] in
theorem LJ(M:Nat):WellFounded (BQ M):=(Prod.lex Nat.lt_wfRel ⟨_,(Prod.lex ⟨Vec M,Fc M⟩ ⟨Rk.lt,⟨Rk.acc⟩⟩).wf⟩).wf
structure qH (μ:Mu)(gs:Array Goroutine)(w:World)(t:Trace)(p:Nat->Nat)(o:Nat->Mem)(j:Nat)(D:Nat->WD)(A:Nat->Nat)(K:Nat->Rk)(d0:Nat)(tag:CTag)(rk:Rk)(a:Goroutine)(s:St) (st sm:Int):Prop where
 a0:gs[0]?=some a
 cs:CS P ty Y N val n T l tag j rk d0 a s
 rely:br s { s with w:=w }
 lead:iC Y p o j s
 fa:Com P ty Y N val p o j gs w t D A K d0
 wg:WgAt ty Y.Wg w st sm
 mode:Go.ConcN.Mode j D tag st sm
 mu:μ=(phi n (Vc j D) tag+Ssum j D+sumTo j A,(K,rk))
def Inv(k:Mu)(m:Machine)(t:Trace):Prop :=
 ∃ (b:Array Goroutine) (w:World) (sl:Option (Nat×Nat)) (p:Nat->Nat) (o:Nat->Mem) (j:Nat) (D:Nat->WD) (A:Nat->Nat) (K:Nat->Rk) (i:Nat) (tag:CTag) (rk:Rk) (a:Goroutine) (s:St) (st sm:Int),
  m=crowd b w sl/\qH P ty Y N val n T l k b w t p o j D A K i tag rk a s st sm
end
section
variable {P:Program}{ty:TypeId}{Y:Lay}{N:Nat}{val:Nat->Nat->Value}{n:Nat}{T l:Goroutine->St->Prop}{p hm':Nat->Nat}{o:Nat->Mem}{j:Nat}{tag:CTag}{rk:Rk}{d:Nat}{a:Goroutine}{s:St}{w w':World}
omit [Payload] in
theorem eG{s:St}(h:br s { s with w:=w })(B:WgLive ty Y.Wg w):(Cx.lead P ty Y.Wg).rely s { s with w:=w }:=⟨h,λ_=>B⟩
omit [Payload] in
theorem AtW3.rely{g:Goroutine}{c:St}(h:AtW3 P ty Y T g s)(z:(Cx.lead P ty Y.Wg).rely s c):AtW3 P ty Y T g c :=
 ⟨h.1,h.2.1,λs2 u=>h.2.2 s2 ⟨z.1.trans u.1,λx=>u.2 (z.2 x)⟩⟩
theorem CS.status(h:CS P ty Y N val n T l tag j rk d a s):(a.status=.running/\tag≠.blk)∨(a.status=.blocked/\tag=.blk):=by
 cases h with
 |skd _ h=>exact .inl ⟨h.run λ_ _ x=>x.1,by simp⟩
 |sa1 _ h=>exact .inl ⟨h.run λ_ _ x=>x.1,by simp⟩
 |ske _ h=>exact .inl ⟨h.run λ_ _ x=>x.1,by simp⟩
 |sgo _ h=>exact .inl ⟨h.run λ_ _ x=>x.1,by simp⟩
 |kd h=>exact .inl ⟨h.run λ_ _ x=>x.1,by simp⟩
 |w1 h=>exact .inl ⟨h.run λ_ _ x=>x.1,by simp⟩
 |w2 h=>exact .inl ⟨h.run λ_ _ x=>x.1,by simp⟩
 |w3 h=>exact .inl ⟨h.run λ_ _ x=>x.1,by simp⟩
 |blk h=>exact .inr ⟨rfl,rfl⟩
 |w4 h=>exact .inl ⟨h.run λ_ _ x=>x.1,by simp⟩
 |ke h=>exact .inl ⟨h.run λ_ _ x=>x.1,by simp⟩
 |acq h=>exact .inl ⟨h.run λ_ _ x=>x.1,by simp⟩
theorem CS.wokenBy(h:CS P ty Y N val n T l tag j rk d a s)(g g':Goroutine)(w':World) :
  ∃ tag' rk',CS P ty Y N val n T l tag' j rk' d (woken P g g' w' a) s/\(tag'=tag∨(tag=.blk/\tag'=.w3))/\(mayWake P g=true->g'.status=.running->tag'≠.blk):=by
 unfold Go.Conc.woken;split
 ·rcases h.status with⟨i,b⟩|⟨_,rfl⟩
  ·exact⟨tag,rk,by rw[again_running _ (.inl i)];exact h,.inl rfl,λ_ _=>b⟩
  ·cases h with
   |blk hb=>exact⟨.w3,Rk.lift .leaf,by rw[again_blocked hb.1 hb.2.1];exact .w3 (show iB _ _ _ .leaf _ _ from hb),.inr ⟨rfl,rfl⟩,λ_ _=>by simp⟩
 ·rename_i k
  exact⟨tag,rk,h,.inl rfl,λh1 u=>absurd (by simp[h1,u]) k⟩
theorem jB{μ:Mu}{gs:Array Goroutine}{sl:Option (Nat×Nat)}{t:Trace}{D:Nat->WD}{A:Nat->Nat}{K:Nat->Rk}{st sm:Int}(I:qH P ty Y N val n T l μ gs w t p o j D A K d tag rk a s st sm)
  {x:Nat} (W:x<j) {g g':Goroutine} {es:Array Event} {a' s' d':Nat} {r':Rk} {G H:Int} (hg:gs[Y.base+x]?=some g) (hgo:stepG P false g w=.go g' w' es)
  (hh:∀ b,b<w.heap.size->hm' b=p b) (Z:w.heap.size<=w'.heap.size) (Q:∀ y,y<j->y≠x->CP Y p (o y) y w w') (F:Ad Y p w w')
  (Wt:WS P ty Y N val hm' o x a' s' r' d' g' w') (R:∀ e∈es,(MemAct.ofEvent e).low w'.heap.size) (X:∀ e∈es,∀ a,(MemAct.ofEvent e).touch?=some a->a.loc.isMemory=true->oJ Y hm' (o x) x a)
  (LH:∀ e∈es,∀ a,e.loc≠.mark (.release a)) (J:deafBehind (D x).deaf es=d')
  (L:s'<=6->∃ r,RelBy (stA Y.Wg) (t++MemOp.ofEvents (Y.base+x) g.frame.fn g.frame.place es) (Y.base+x) r)
  (h1:a'=0->∀ i,1<=i->i<Y.kc->w'.cell? ⟨Y.C,Y.kc*x+i,none⟩=some (val x i)) (h0:s'<=6->Has Y.C (Y.kc*x) (val x 0) w') (V:PayAt Y.C N w') (S:WgAt ty Y.Wg w' G H)
  (E:∀ tag',(tag'=tag∨(tag=.blk/\tag'=.w3))->(mayWake P g=true->g'.status=.running->tag'≠.blk)->Go.ConcN.Mode j (upd D x ⟨s',0,d'⟩) tag' G H)
  (oV:(s'+a'<(D x).stage+A x/\cnt ⟨s',0,d'⟩<=cnt (D x))∨(s'=(D x).stage/\a'=A x/\Rk.lt r' (K (Y.base+x)))) (Qd:Y.base+j<=Y.base+n) :
  ∃ m ops μ',runT P (crowd gs w sl) (Y.base+x)=(.next m,ops)/\BQ (Y.base+n) μ' μ/\Inv P ty Y N val n T l μ' m (t++ops):=by
 have hb:=I.fa.tl.base;obtain⟨tag',rk',O,q,RH⟩:=I.cs.wokenBy g g' w';have QN:(Y.base+x==0)=false:=by simp;omega
 have U:=runT_crowd_go (P:=P) (sl:=sl) (i:=Y.base+x) hg (by rw[QN];exact hgo)
 have e1:=Go.ConcN.sumTo_upd D (⟨s',0,d'⟩:WD) cnt W;have e2:=Go.ConcN.sumTo_upd D (⟨s',0,d'⟩:WD) WD.stage W;have e3:sumTo j (upd A x a')+A x=sumTo j A+a':=Go.ConcN.sumTo_upd A a' id W;refine⟨_,_,(phi n (Vc j (upd D x ⟨s',0,d'⟩)) tag'+Ssum j (upd D x ⟨s',0,d'⟩)+sumTo j (upd A x a'),(upd K (Y.base+x) r',rk')),U,?_,
  _,w',sl,hm',o,j,_,_,_,d,tag',rk',woken P g g' w' a,s,G,H,rfl,⟨by rw[Go.ConcN.get_map_set _ _ _ _ (by omega),I.a0];rfl,O,I.lead.Ff I.rely F,I.lead.qF I.rely.size hh,
   I.fa.stepW W hh Z Q Wt R X LH J L h1 h0 V ⟨_,_,S⟩,S,E tag' q RH,rfl⟩⟩
 rw[I.mu,Go.ConcN.phi_retag n _ q];simp only[Vc,Ssum] at *;rcases oV with⟨q1,q2⟩|⟨q1,q2,q3⟩
 ·refine Prod.Lex.left _ _ ?_;have:=Go.ConcN.phi_mono n (v':=sumTo j λa=>cnt (upd D x ⟨s',0,d'⟩ a)) (v:=sumTo j λa=>cnt (D a)) (by omega) tag
  omega
 ·have ec:cnt (⟨s',0,d'⟩:WD)=cnt (D x):=by simp only[cnt,q1]
  have ev:(sumTo j λa=>cnt (upd D x ⟨s',0,d'⟩ a))=sumTo j λa=>cnt (D a):=by omega
  have es':(sumTo j λa=>(upd D x ⟨s',0,d'⟩ a).stage)=sumTo j λa=>(D a).stage:=by omega
  have ea:sumTo j (upd A x a')=sumTo j A:=by omega
  rw[ev,es',ea];exact Prod.Lex.right _ (Prod.Lex.left _ _ ⟨Y.base+x,by omega,by rw[upd_same];exact q3,λk hk=>upd_ne K _ hk⟩)
end
end Go.AM
namespace Go.AM
open Go.Conc
open Go.ConcN (WD CTag Vc Ssum pend phi cnt WgLive PayAt Has RW DWs WSit RelBy sumTo upd upd_same upd_ne AtR0 isW3 isOpen OpenSt deafBehind_idle bk_cell okW_none Vc_upd Vc_le le_sumTo others_uncounted)
open Go.ConcR (KK WgAt stA smA rd wr mk Payload g_of_ofEvents Bk bk_of_mute ofEvent_loc_mark ofEvent_cell)
variable [Payload]
section
variable {P:Program}{ty:TypeId}{Y:Lay}{N:Nat}{val:Nat->Nat->Value}{n:Nat}{T G:Goroutine->St->Prop}{F hm':Nat->Nat}{O:Nat->Mem}{j:Nat}{tag:CTag}{rk:Rk}{d:Nat}{a:Goroutine}{s:St}{w w':World}
omit [Payload] in
theorem CP.wg(h:Aside Y.Wg w w')(E:F Y.Wg=0)(k:1<=Y.base)(hM:∀ b o v,O j b o=some v->b≠Y.Wg)(hC:Y.C≠Y.Wg):CP Y F (O j) j w w' :=
 ⟨by rw[h.size];exact ar _,λb _ Z=>h.block b (λe=>by rw[e,E] at Z;omega),λb o v J W=>by rw[iD (h.block b (hM b o v J))];exact W,λo _ _=>iD (h.block _ hC) o,h.os,h.tape,h.output⟩
omit [Payload] in
theorem Ad.wg(h:Aside Y.Wg w w'):Ad Y F w w':=⟨by rw[h.size];exact ar _,λb _ _ _ z=>h.block b z,h.os,h.tape,h.output⟩
omit [Payload] in
theorem Ad.refl(w:World):Ad Y F w w:=⟨ar _,λ_ _ _ _ _=>rfl,rfl,rfl,rfl⟩
omit [Payload] in
theorem Fh{B:Nat}{es:Array Event}(h:∀ e∈es,Bk Y.Wg e)(E:Y.Wg<B):∀ e∈es,(MemAct.ofEvent e).low B:=by
 intro e c;rcases h e c with l|l|⟨ad,wr,rfl,H⟩
 ·rw[ofEvent_loc_mark l];trivial
 ·rw[ofEvent_loc_mark l];trivial
 ·rw[ofEvent_cell];show ad.block<B;rw[H];exact E
omit [Payload] in
theorem IN{x:Nat}{es:Array Event}(h:∀ e∈es,Bk Y.Wg e):∀ e∈es,∀ a,(MemAct.ofEvent e).touch?=some a->a.loc.isMemory=true->oJ Y F (O x) x a:=by
 intro e c b k _;rcases h e c with l|l|⟨ad,wr,rfl,H⟩
 ·rw[ofEvent_loc_mark l] at k;cases k
 ·rw[ofEvent_loc_mark l] at k;cases k
 ·rw[ofEvent_cell] at k;simp only[MemAct.touch?,bO] at k;subst k;exact .inl ⟨ad,rfl,H,rfl⟩
omit [Payload] in
theorem yD{es:Array Event}(h:∀ e∈es,Bk Y.Wg e):∀ e∈es,∀ a,e.loc≠.mark (.release a):=by
 intro e c a R;rcases h e c with l|l|⟨ad,wr,rfl,_⟩
 ·rw[l] at R;cases R
 ·rw[l] at R;cases R
 ·cases R
omit [Payload] in
theorem IP{x:Nat}{σ σ':List aj}{s2:St}{es:Array Event}(U:kO F (O x) (Y.base+x) s)(V:ag σ s)(S:eK s es)(st:Step σ s σ' s2) :
  (∀ e∈es,(MemAct.ofEvent e).low s2.w.heap.size)/\(∀ e∈es,∀ a,(MemAct.ofEvent e).touch?=some a->a.loc.isMemory=true->oJ Y (lU F s.w.heap.size (Y.base+x)) (O x) x a) /\
  (∀ e∈es,e.loc≠.mark .disable/\e.loc≠.mark .enable)/\∀ e∈es,∀ a,e.loc≠.mark (.release a):=by
 have key:∀ e∈es,(MemAct.ofEvent e).low s2.w.heap.size/\(∀ a,(MemAct.ofEvent e).touch?=some a->a.loc.isMemory=true->oJ Y (lU F s.w.heap.size (Y.base+x)) (O x) x a)/\(e.loc≠.mark .disable/\e.loc≠.mark .enable)/\∀ a,e.loc≠.mark (.release a):=by
  intro e c;have h:=S e c;obtain⟨loc,wr,sy⟩:=e;cases loc with
  |cell ad =>
   obtain⟨l,z,u⟩:=h;simp only at l z u;subst l;have p:ad.block<s.w.heap.size:=by
    rcases u with u|⟨⟨L,Q,u⟩,_⟩|⟨_,v,u⟩
    ·exact u.elim
    ·exact V.lt L Q _ u
    ·exact fA.lt V.mem u
   refine⟨by rw[ofEvent_cell];exact bF p st.size,λb k _=>?_,⟨by simp,by simp⟩,by simp⟩
   rw[ofEvent_cell] at k;simp only[MemAct.touch?,bO] at k;subst k;refine .inr ⟨rfl,?_⟩;rcases u with u|⟨⟨L,Q,u⟩,_⟩|⟨X,v,u⟩
   ·exact u.elim
   ·exact .inl ⟨ad.block,rfl,by rw[dJ p];exact(U.blk _ (.inr ⟨L,Q,u⟩)).1⟩
   ·rcases(U.M _ _ _ u).1 with h5|h5
    ·exact .inl ⟨ad.block,rfl,by rw[dJ p];exact h5⟩
    ·refine .inr (.inr ⟨X,ad.block,ad.off,v,?_,h5⟩);obtain⟨b,o,sp⟩:=ad;simp only at z;subst z;rfl
  |obj r =>
   obtain⟨l,z⟩:=h;simp only at l z;subst l;obtain⟨L,Q,u⟩:=z.resolve_left id;have p:=V.lt L Q _ u;refine⟨?_,λb k _=>?_,⟨by simp,by simp⟩,by simp⟩
   ·simp[MemAct.ofEvent,MemAct.low,Loc.low];exact bF p st.size
   ·simp[MemAct.ofEvent,MemAct.touch?] at k;subst k;exact .inr ⟨rfl,.inl ⟨r,rfl,by rw[dJ p];exact(U.blk _ (.inr ⟨L,Q,u⟩)).1⟩⟩
  |mark m =>
   simp only[oU] at h;rcases h with rfl|⟨f,rfl⟩
   ·exact⟨by simp[MemAct.ofEvent,MemAct.low],λb k=>by simp[MemAct.ofEvent,MemAct.touch?] at k,⟨by simp,by simp⟩,by simp⟩
   ·exact⟨by simp[MemAct.ofEvent,MemAct.low],λb k=>by simp[MemAct.ofEvent,MemAct.touch?] at k,⟨by simp,by simp⟩,by simp⟩
  |_=>exact h.elim
 exact⟨λe c=>(key e c).1,λe c=>(key e c).2.1,λe c=>(key e c).2.2.1,λe c=>(key e c).2.2.2⟩
set_option maxHeartbeats 1600000 in
theorem stepWorker{μ:Mu}{gs:Array Goroutine}{sl:Option (Nat×Nat)}{t:Trace}{D:Nat->WD}{A:Nat->Nat}{K:Nat->Rk}{st sm:Int}(I:qH P ty Y N val n T G μ gs w t F O j D A K d tag rk a s st sm)(hn:n<2147483648)(hj:j<=n)
  (YP:j+pend tag<=n) {x:Nat} (hx:x<j) {g:Goroutine} (hg:gs[Y.base+x]?=some g) (pP:g.status=.running) :
  ∃ m₁ ops μ',runT P (crowd gs w sl) (Y.base+x)=(.next m₁,ops)/\BQ (Y.base+n) μ' μ/\Inv P ty Y N val n T G μ' m₁ (t++ops):=by
 have Fi:=I.fa.tl.base;obtain⟨g₁,Kx,hs⟩:=I.fa.wk x hx;obtain rfl:g=g₁:=by rw[hg] at Kx;exact lA Kx
 generalize CQ:(D x).stage=sg at hs;generalize RJ:K (Y.base+x)=r at hs;generalize NC:(D x).deaf=dd at hs;generalize hA:A x=ax at hs;have Uu:Deaf t (Y.base+x)=dd:=by rw[I.fa.deafW x hx,NC]
 have Wu:=Vc_le j D;have same:∀ m' BR,Go.ConcN.Mode j (upd D x ⟨sg,m',BR⟩) tag st sm:=λm' BR=>by have:=I.mode.same (i:=x) m' BR;rwa [CQ] at this
 cases hs with
 |@am r g s0 w l z u =>
  rcases l.norm (λs0=>br s0 { s0 with w:=w }/\kO F (O x) (Y.base+x) s0) (λs0 s' Oz hi=>⟨hi.1.ghost Oz,hi.2.ghost Oz⟩) (λ_ s0 s' Oz hi=>⟨hi.1.forget Oz,hi.2.forget Oz⟩) ⟨z,u⟩ with⟨s',⟨k1,k2⟩,kP⟩|⟨_,s',⟨k1,k2⟩,iR⟩
  ·
   obtain⟨g',w2,es,hgo,E,ND,m,hk⟩:=kP.2 w k1 I.fa.pay I.fa.live;have Uv:=I.fa.kc;refine jB I hx hg hgo (hm':=F) (λ_ _=>rfl) (by rw[E.size];exact ar _) (λy hy Uw=>⟨by rw[E.size];exact ar _,λb _ k=>E.block b (λe=>by rw[e,I.fa.tl.hC] at k;omega),λb o v J W=>?_,λo Ux Uy=>E.out o ?_,E.os,E.tape,E.output⟩)
    ⟨by rw[E.size];exact ar _,λb _ _ z _=>E.block b z,E.os,E.tape,E.output⟩ (.rel hk) (λe c=>?_) (λe c b k _=>?_) (λe c=>?_) ?_ (λh=>absurd h (by decide)) (λ_ i _ hi=>E.new i hi) (λh=>absurd h (by decide)) E.pay
    (I.wg.of_block (E.block _ (fJ I.fa.tl.ne))) (λ_ ht _=>(same _ _).retag ht) (.inl ⟨by omega,by simp[cnt,CQ]⟩) (by omega)
   ·rw[iD (E.block b (I.fa.tl.ms y hy b o v J).2.1)];exact W
   ·rcases Nat.lt_or_gt_of_ne Uw with h|h
    ·have:=sj Y.kc (show y+1<=x from h)
     rw[pH,n9] at this;omega
    ·have:=sj Y.kc (show x+1<=y from h)
     rw[pH,n9] at this;omega
   ·obtain⟨o,rfl,_⟩:=ND e c;rw[ofEvent_cell];show Y.C<_;rw[E.size];exact I.fa.yC
   ·obtain⟨o,rfl,Ux,Uy⟩:=ND e c;rw[ofEvent_cell] at k;simp only[MemAct.touch?,bO] at k;subst k;exact .inr ⟨rfl,.inr (.inl ⟨o,rfl,Ux,Uy⟩)⟩
   ·obtain⟨o,rfl,_⟩:=ND e c;simp
   ·rw[NC];exact deafBehind_idle (λe c=>by obtain⟨o,rfl,_⟩:=ND e c;exact⟨by simp,by simp⟩) 0
  ·
   obtain⟨g',s2,es,r',hgo,RK,LK,p⟩:=iR _ k1;obtain⟨⟨σ,σ',V,ia,Ej⟩,S⟩:=RK.resolve_right id;have k3:kO F (O x) (Y.base+x) { s' with w:=w }:=k2.rely k1.size;obtain⟨e1,e2,e3,e4⟩:=IP k3 V S Ej;have tE:∀ b,b<w.heap.size->F b≠Y.base+x->s2.w.heap[b]?=w.heap[b]?:=λb k qA=>Ej.eC b k λL Q Cz=>qA (k3.blk b (.inr ⟨L,Q,Cz⟩)).1
   refine jB I hx hg hgo (hm':=lU F w.heap.size (Y.base+x)) (λb k=>dJ k) Ej.size (λy hy Uw=>⟨Ej.size,λb k Wv=>tE b k (by omega),λb o v J W=>?_,λo _ _=>iD (tE _ I.fa.yC (by rw[I.fa.tl.hC];omega)) o,Ej.os,Ej.tape,Ej.output⟩)
    ⟨Ej.size,λb k h0 _ _=>tE b k (by omega),Ej.os,Ej.tape,Ej.output⟩ (.am LK (br.tD ia.mem) (k3.step ia Ej)) e1 e2 e4 (by rw[NC];exact deafBehind_idle e3 0) (λh=>absurd h (by decide)) (λh=>absurd h (by decide)) (λh=>absurd h (by decide)) ?_
    (I.wg.of_block (tE _ I.fa.xf (by rw[I.fa.tl.Ei];omega))) (λ_ ht _=>(same _ _).retag ht) (.inr ⟨CQ.symm,hA.symm,by rw[RJ];exact p⟩) (by omega)
   ·rw[iD (tE b (I.fa.IM y hy b o v J) (by rw[(I.fa.tl.ms y hy b o v J).1];omega))];exact W
   ·obtain⟨cs,c1,c2⟩:=I.fa.pay;exact⟨cs,(tE _ I.fa.yC (by rw[I.fa.tl.hC];omega)).trans c1,c2⟩
 |@rel m g w h =>
  rcases Goes.cases h with kP|⟨m',rfl,iR⟩
  ·
   obtain⟨_,RL,g',hgo,m₂,hk⟩:=kP w (Go.ConcN.RW.refl w);refine jB I hx hg hgo (hm':=F) (λ_ _=>rfl) (ar _) (λy _ _=>.refl ..) (.refl w) (.tail (by decide) (.k1 hk)) (λe c=>?_) (λe c b k _=>?_) (λe c=>?_) (by rw[NC];rfl) (λ_=>⟨t.size,RelBy.new Uu _ _⟩) (λ_=>I.fa.va x hx hA) (λ_=>by simpa using RL) I.fa.pay I.wg
    (λ_ ht _=>(I.mode.counted hx (by omega) (.inl rfl) _ _).retag ht) (.inl ⟨by omega,by simp[cnt,CQ]⟩) (by omega)
   ·simp at c;subst c;exact I.fa.xf
   ·simp at c;subst c;simp[mk,MemAct.ofEvent,MemAct.touch?] at k
   ·simp at c;subst c;simp[mk]
  ·obtain⟨g',w',es,hgo,⟨rfl,rfl⟩,Ae⟩:=iR w (Go.ConcN.RW.refl w);exact jB I hx hg hgo (hm':=F) (λ_ _=>rfl) (ar _) (λy _ _=>.refl ..) (.refl w') (.rel Ae) (by simp) (by simp) (by simp) (by rw[NC];rfl) (λh=>absurd h (by decide)) (λ_=>I.fa.va x hx hA) (λh=>absurd h (by decide)) I.fa.pay I.wg (λ_ ht _=>(same _ _).retag ht)
    (.inr ⟨CQ.symm,hA.symm,by rw[RJ];exact Rk.Ac _ s⟩) (by omega)
 |@tail sg m dd g w h6 h =>
  have Ky:∀ {g':Goroutine} {w':World} {es:Array Event} {s' m' BR:Nat} {jO CR:Int},stepG P false g w=.go g' w' es->Aside Y.Wg w w'->WgAt ty Y.Wg w' jO CR->(∀ e∈es,Bk Y.Wg e) ->
    (∀ jx e,es[jx]?=some e->(MemAct.ofEvent e).touch?=none∨0<deafBehind dd (es.extract 0 jx))->s'<=6->WSit P ty Y.Wg Y.C N Kv Kv 0 (Y.kc*x+1) (val x 0) s' m' BR g' w'->deafBehind dd es=BR ->
    (∀ tag',(tag'=tag∨(tag=.blk/\tag'=.w3))->(mayWake P g=true->g'.status=.running->tag'≠.blk)->Go.ConcN.Mode j (upd D x ⟨s',0,BR⟩) tag' jO CR)->((s'<sg/\cnt ⟨s',0,BR⟩<=cnt (D x))∨(s'=sg/\m'+1=m)) ->
    ∃ m₁ ops μ',runT P (crowd gs w sl) (Y.base+x)=(.next m₁,ops)/\BQ (Y.base+n) μ' μ/\Inv P ty Y N val n T G μ' m₁ (t++ops):=by
   intro g' w' es s' m' BR jO CR hgo Af Fj CU hd RM LL RN tF p;obtain⟨cs,RO,RP⟩:=I.fa.pay;refine jB I hx hg hgo (hm':=F) (λ_ _=>rfl) (by rw[Af.size];exact ar _) (λy hy _=>.wg Af I.fa.tl.Ei Fi (λb o v J=>(I.fa.tl.ms y hy b o v J).2.2.1) I.fa.tl.ne) (.wg Af) (.tail RM LL) (Fh CU (by rw[Af.size];exact I.fa.xf)) (IN CU) (yD CU) (by rw[NC];exact RN)
    (λ_=>let ⟨r,hr⟩:=I.fa.rel x hx (by omega);⟨r,hr.book Uu _ _ CU hd⟩) (λ_ i Ww IE=>(iD (Af.block _ I.fa.tl.ne) _).trans (I.fa.va x hx hA i Ww IE)) (λ_=>(iD (Af.block _ I.fa.tl.ne) _).trans (I.fa.yB x hx (by omega))) ⟨cs,(Af.block _ I.fa.tl.ne).trans RO,RP⟩ Fj tF
    (p.imp (λh=>⟨by omega,h.2⟩) λh=>⟨by omega,hA.symm,by rw[RJ,<-h.2];exact Rk.Ac _ s⟩) (by omega)
  have book:∀ {g':Goroutine} {w':World} {es:Array Event} {s' m' BR:Nat} {jO CR:Int},stepG P false g w=.go g' w' es->Aside Y.Wg w w'->WgAt ty Y.Wg w' jO CR->(∀ e∈es,Bk Y.Wg e) ->
    (∀ jx e,es[jx]?=some e->(MemAct.ofEvent e).touch?=none∨0<deafBehind dd (es.extract 0 jx))->s'<=6->WSit P ty Y.Wg Y.C N Kv Kv 0 (Y.kc*x+1) (val x 0) s' m' BR g' w'->deafBehind dd es=BR ->
    Go.ConcN.Mode j (upd D x ⟨s',0,BR⟩) tag jO CR->((s'<sg/\cnt ⟨s',0,BR⟩<=cnt (D x))∨(s'=sg/\m'+1=m)) ->
    ∃ m₁ ops μ',runT P (crowd gs w sl) (Y.base+x)=(.next m₁,ops)/\BQ (Y.base+n) μ' μ/\Inv P ty Y N val n T G μ' m₁ (t++ops) :=
   λhgo Af Fj CU hd RM LL RN tF p=>Ky hgo Af Fj CU hd RM LL RN (λ_ ht _=>tF.retag ht) p
  have idle:∀ {g':Goroutine} {m':Nat},stepG P false g w=.go g' w #[]->WSit P ty Y.Wg Y.C N Kv Kv 0 (Y.kc*x+1) (val x 0) sg m' dd g' w->m'+1=m ->
    ∃ m₁ ops μ',runT P (crowd gs w sl) (Y.base+x)=(.next m₁,ops)/\BQ (Y.base+n) μ' μ/\Inv P ty Y N val n T G μ' m₁ (t++ops):=by
   intro g' m' hgo LL F;exact book hgo (.refl Y.Wg w) I.wg (by simp) (by simp) h6 LL rfl (same _ _) (.inr ⟨rfl,F⟩)
  cases h with
  |r0 h=>omega
  |k1 h =>
   rcases Goes.cases h with kP|⟨m',rfl,iR⟩
   ·obtain⟨_,g',hgo,m₂,hk⟩:=kP w (Go.ConcN.RW.refl w);exact book hgo (.refl Y.Wg w) I.wg (by intro e c;simp at c;subst c;exact .inl rfl) (by intro jx e c;exact .inl (by have:=sh c;simp at this;subst this;rfl)) (by decide) (.d1 hk) rfl (I.mode.counted hx (by omega) (.inr rfl) _ _) (.inl ⟨by omega,by simp[cnt,CQ]⟩)
   ·obtain⟨g',w',es,hgo,⟨rfl,rfl⟩,Ae⟩:=iR w (Go.ConcN.RW.refl w);exact idle hgo (.k1 Ae) rfl
  |d1 h =>
   rcases Goes.cases h with kP|⟨m',rfl,iR⟩
   ·obtain⟨_,OB⟩:=kP w (Go.ConcN.RW.refl w);have sS:=I.wg;have Fl:=I.mode;have Qh:cnt (D x)=1:=by simp[cnt,CQ]
    have YQ:1<=Vc j D:=by have:=le_sumTo (f:=λx=>cnt (D x)) hx;simp only[Vc];omega
    have bk2:∀ e∈#[rd (stA Y.Wg),wr (stA Y.Wg)],Bk Y.Wg e:=by intro e c;simp at c;rcases c with rfl|rfl <;> exact bk_cell _ _ rfl
    have Qm:∀ jx e,(#[rd (stA Y.Wg),wr (stA Y.Wg)]:Array Event)[jx]?=some e->(MemAct.ofEvent e).touch?=none∨0<deafBehind 1 ((#[rd (stA Y.Wg),wr (stA Y.Wg)]:Array Event).extract 0 jx):=by
     intro jx e c
     match jx,c with
     |0,_=>exact .inr (by simp[deafBehind])
     |1,_=>exact .inr (by simp[deafBehind,rd])
     |jx+2,c=>simp at c
    have Uz:∀ q,cnt (⟨1,q,1⟩:WD)=0:=λ_=>rfl
    have cx:∀ q,OpenSt j D->OpenSt j (upd D x ⟨1,q,1⟩):=λq h a H=>by
     by_cases e:a=x
     ·subst e;rw[upd_same];simp
     ·rw[upd_ne D _ e];exact h a H
    generalize Wx:st=RQ at Fl sS;generalize Wy:sm=Wz at Fl sS;cases Fl with
    |opn l z u =>
     obtain⟨v,J⟩:∃ v,Vc j D+pend tag=v+1:=⟨Vc j D+pend tag-1,by omega⟩
     rw[J] at sS;have Lk:WgAt ty Y.Wg w (((v:Nat)+1)*KK+((0:Nat):Int)) 0:=by simpa using sS
     obtain⟨g',hgo,_,hq⟩:=OB v 0 (by omega) (by omega) Lk
     obtain⟨q,hq⟩:=hq (by omega)
     have Qn:Vc j (upd D x ⟨1,0,1⟩)+pend tag=v:=by have:=Vc_upd D (⟨1,0,1⟩:WD) hx;have:=Uz 0;omega
     refine book hgo (aside_setCell w (stA Y.Wg) _) (sS.setSt _) bk2 Qm (by decide) (.quit hq) rfl ?_ (.inl ⟨by omega,by simp[cnt]⟩)
     have e:((v:Nat):Int)*KK+((0:Nat):Int)=((Vc j (upd D x ⟨1,0,1⟩)+pend tag:Nat):Int)*KK:=by rw[Qn];simp
     rw[e];exact .opn l (cx 0 z) (λvs ev=>by have:=u vs ev;omega)
    |reg l z u =>
     obtain⟨v,J⟩:∃ v,Vc j D=v+1:=⟨Vc j D-1,by omega⟩
     rw[J] at sS;have hp:pend tag=0:=by cases tag <;> first|rfl|exact l.elim
     have Lk:WgAt ty Y.Wg w (((v:Nat)+1)*KK+((1:Nat):Int)) 0:=by simpa using sS
     obtain⟨g',hgo,R,hq⟩:=OB v 1 (by omega) (by omega) Lk
     by_cases Ib:v=0
     ·subst Ib;obtain⟨m₂,hk⟩:=R ⟨rfl,rfl⟩;refine book hgo (aside_setCell w (stA Y.Wg) _) (sS.setSt _) bk2 Qm (by decide) (.d2 hk) rfl ?_ (.inl ⟨by omega,by simp[cnt]⟩)
      have tf:∀ a,a<j->a≠x->(D a).stage=1:=λa H e=>by
       have c0:=others_uncounted hx J Qh a H e;have:=z a H;simp only[cnt] at c0;split at c0 <;> omega
      have:=Go.ConcN.Mode.last (j:=j) (D:=upd D x ⟨4,0,1⟩) (tag:=tag) x l hx (by rw[upd_same];simp) (λa H e=>by rw[upd_ne D _ e];exact tf a H e)
      rw[upd_same] at this;simpa using this
     ·obtain⟨q,hq⟩:=hq (by omega)
      have Qn:Vc j (upd D x ⟨1,0,1⟩)=v:=by have:=Vc_upd D (⟨1,0,1⟩:WD) hx;have:=Uz 0;omega
      refine book hgo (aside_setCell w (stA Y.Wg) _) (sS.setSt _) bk2 Qm (by decide) (.quit hq) rfl ?_ (.inl ⟨by omega,by simp[cnt]⟩)
      have e:((v:Nat):Int)*KK+((1:Nat):Int)=((Vc j (upd D x ⟨1,0,1⟩):Nat):Int)*KK+1:=by rw[Qn];simp
      rw[e];exact .reg l (cx 0 z) (by omega)
    |last L _ z u X =>
     by_cases e:x=L
     ·subst e;omega
     ·have:=X x hx e;omega
    |sema z=>have:=z x hx;omega
    |fin _ z=>have:=z x hx;omega
   ·obtain⟨g',w',es,hgo,⟨rfl,rfl⟩,Ae⟩:=iR w (Go.ConcN.RW.refl w);exact idle hgo (.d1 Ae) rfl
  |d2 h =>
   rcases Goes.cases h with kP|⟨m',rfl,iR⟩
   ·obtain⟨_,H0⟩:=kP w (Go.ConcN.RW.refl w);obtain⟨OC,tf,e1,e2⟩:=I.mode.isLast hx (by omega)
    have sS:=I.wg;rw[e1,e2,CQ] at sS;obtain⟨g',hgo,m₂,hk⟩:=H0 (by simpa using sS)
    refine book hgo (.refl Y.Wg w) sS (by intro e c;simp at c;subst c;exact bk_cell _ _ rfl) (by intro jx e c;match jx,c with|0,_=>exact .inr (by simp[deafBehind])|jx+1,c=>simp at c) (by decide) (.d3 hk) rfl ?_ (.inl ⟨by omega,by simp[cnt]⟩)
    have:=Go.ConcN.Mode.last (j:=j) (D:=upd D x ⟨3,0,1⟩) (tag:=tag) x OC hx (by rw[upd_same];simp) (λa H e=>by rw[upd_ne D _ e];exact tf a H e)
    rw[upd_same] at this;simpa using this
   ·obtain⟨g',w',es,hgo,⟨rfl,rfl⟩,Ae⟩:=iR w (Go.ConcN.RW.refl w);exact idle hgo (.d2 Ae) rfl
  |d3 h =>
   rcases Goes.cases h with kP|⟨m',rfl,iR⟩
   ·obtain⟨_,H0⟩:=kP w (Go.ConcN.RW.refl w);obtain⟨OC,tf,e1,e2⟩:=I.mode.isLast hx (by omega)
    have sS:=I.wg;rw[e1,e2,CQ] at sS;obtain⟨g',hgo,m₂,hk⟩:=H0 (by simpa using sS)
    refine book hgo (aside_setCell w (stA Y.Wg) _) (sS.setSt 0) (by intro e c;simp at c;subst c;exact bk_cell _ _ rfl) (by intro jx e c;match jx,c with|0,_=>exact .inr (by simp[deafBehind])|jx+1,c=>simp at c) (by decide) (.d4 hk) rfl ?_ (.inl ⟨by omega,by simp[cnt]⟩)
    have:=Go.ConcN.Mode.last (j:=j) (D:=upd D x ⟨2,0,1⟩) (tag:=tag) x OC hx (by rw[upd_same];simp) (λa H e=>by rw[upd_ne D _ e];exact tf a H e)
    rw[upd_same] at this;simpa using this
   ·obtain⟨g',w',es,hgo,⟨rfl,rfl⟩,Ae⟩:=iR w (Go.ConcN.RW.refl w);exact idle hgo (.d3 Ae) rfl
  |d4 h =>
   rcases Goes.cases h with kP|⟨m',rfl,iR⟩
   ·obtain⟨_,WA,H0⟩:=kP w (Go.ConcN.RW.refl w);obtain⟨OC,tf,e1,e2⟩:=I.mode.isLast hx (by omega)
    have sS:=I.wg;rw[e1,e2,CQ] at sS;obtain⟨g',hgo,q,hq⟩:=H0 (by simpa using sS)
    have tG:g'.status=.running:=by
     cases q with
     |zero=>exact absurd hq.2 (by decide)
     |succ q=>exact hq.elim (λx=>absurd x.2 (by decide)) (λx=>x.1)
    refine Ky hgo (aside_setCell w (smA Y.Wg) _) (sS.setSm 1) (es:=semEvents (smA Y.Wg)) ?_ ?_ (by decide) (.quit hq) (by simp[deafBehind,semEvents]) ?_ (.inl ⟨by omega,by simp[cnt]⟩)
    ·intro e c;simp[semEvents] at c;rcases c with rfl|rfl|rfl|rfl
     ·exact .inl rfl
     ·exact bk_cell _ _ rfl
     ·exact bk_cell _ _ rfl
     ·exact .inr (.inl rfl)
    ·intro jx e c
     match jx,c with
     |0,c=>simp[semEvents] at c;subst c;exact .inl rfl
     |1,_=>exact .inr (by simp[deafBehind,semEvents])
     |2,_=>exact .inr (by simp[deafBehind,semEvents])
     |3,c=>simp[semEvents] at c;subst c;exact .inl rfl
     |jx+4,c=>simp[semEvents] at c
    ·intro tag' ht U;have WB:=U WA tG;have e3:tag'=.w3:=by
      rcases ht with rfl|⟨_,rfl⟩
      ·cases tag' <;> first|rfl|exact OC.elim|exact absurd rfl WB
      ·rfl
     subst e3;simp only[aX];exact .sema λa H=>by
      by_cases e:a=x
      ·subst e;rw[upd_same]
      ·rw[upd_ne D _ e];exact tf a H e
   ·obtain⟨g',w',es,hgo,⟨rfl,rfl⟩,Ae⟩:=iR w (Go.ConcN.RW.refl w);exact idle hgo (.d4 Ae) rfl
  |quit h =>
   cases m with
   |zero=>rw[h.1] at pP;cases pP
   |succ q =>
    rcases h with⟨hf,_⟩|⟨_,g',es,Kz,iR,hq⟩
    ·rw[hf] at pP;cases pP
    ·have CU:∀ e∈es,Bk Y.Wg e:=λe c=>bk_of_mute (Kz e c)
     have Oo:∀ jx e,es[jx]?=some e->(MemAct.ofEvent e).touch?=none∨0<deafBehind dd (es.extract 0 jx):=λjx e c=>.inl (touch_mute (Kz e (sh c)))
     exact book (iR w) (.refl Y.Wg w) I.wg CU Oo (by decide) (.quit hq) rfl (same _ _) (.inr ⟨rfl,rfl⟩)
end
end Go.AM
namespace Go.AM
open Go.Conc
open Go.ConcN (WD CTag Vc Ssum pend phi cnt WgLive PayAt Has RW DWs WSit RelBy sumTo upd upd_same upd_ne AtR0 isW3 isOpen OpenSt deafBehind_idle bk_cell okW_none Vc_upd Vc_le le_sumTo others_uncounted sumTo_upd_out bk_dis bk_en bk_rd bk_rw bk_sem allQuit_of exists_counted)
open Go.ConcR (KK WgAt stA smA rd wr mk Payload g_of_ofEvents Bk bk_of_mute ofEvent_loc_mark ofEvent_cell ofEvent_mk)
variable [Payload]
section
variable {P:Program}{ty:TypeId}{Y:Lay}{N:Nat}{val:Nat->Nat->Value}{n:Nat}{T l:Goroutine->St->Prop}{u hm':Nat->Nat}{F H:Nat->Mem}{j:Nat}{tag:CTag}{rk:Rk}{d:Nat}{a:Goroutine}{s:St}{w w':World}
 {U:Mu} {R:Array Goroutine} {sl:Option (Nat×Nat)} {t:Trace} {D:Nat->WD} {A:Nat->Nat} {K:Nat->Rk} {st sm:Int}
omit [Payload] in
theorem TL.congr{B:Nat}(h:TL Y u F t j B)(e:∀ y,y<j->H y=F y):TL Y u H t j B :=
 ⟨h.base,h.Ei,h.hC,h.ne,h.Ku,h.LD,h.LF,λx J=>by rw[e x J];exact h.ms x J,h.T0,h.nr,h.seen,h.old,h.LG,h.CO,λi a hi ha u=>(h.new i a hi ha u).imp id λ⟨x,J,z,G⟩=>⟨x,J,z,by rw[e x J];exact G⟩,
  λx J=>by rw[e x J];exact h.mw x J,h.over⟩
theorem WS.congr{x a st d:Nat}{r:Rk}{g:Goroutine}(h:WS P ty Y N val u F x a st r d g w)(e:H x=F x):WS P ty Y N val u H x a st r d g w:=by
 cases h with
 |am z G E=>exact .am z G (by rw[e];exact E)
 |rel z=>exact .rel z
 |tail h0 z=>exact .tail h0 z
theorem Com.congr{q:Nat}(h:Com P ty Y N val u F j R w t D A K q)(e:∀ y,y<j->H y=F y):Com P ty Y N val u H j R w t D A K q :=
 ⟨h.size,h.lv,h.above,λx J=>let ⟨g,z,G⟩:=h.wk x J;⟨g,z,G.congr (e x J)⟩,h.tl.congr e,h.norel,h.deaf0,h.deafW,h.rel,h.va,h.yB,h.pay,h.live,h.xf,h.yC,h.HZ,h.kc,λy I=>by rw[e y I];exact h.IM y I⟩
omit [Payload] in
theorem IQ{σ σ':List aj}{s2:St}{es:Array Event}(hw:iC Y u F j s)(hh:ag σ s)(S:eK s es)(st:Step σ s σ' s2) :
  (∀ e∈es,(MemAct.ofEvent e).low s2.w.heap.size)/\(∀ e∈es,∀ a,(MemAct.ofEvent e).touch?=some a->a.loc.isMemory=true->qc Y (lU u s.w.heap.size 0) a) /\
  (∀ e∈es,∀ a,(MemAct.ofEvent e).touch?=some a->a.kind=.plain->a.write=true->∀ x,x<j->∀ b o v,a.loc=.cell ⟨b,o,none⟩->F x b o≠some v) /\
  (∀ e∈es,e.loc≠.mark .disable/\e.loc≠.mark .enable)/\∀ e∈es,∀ a,e.loc≠.mark (.release a):=by
 have key:∀ e∈es,(MemAct.ofEvent e).low s2.w.heap.size/\(∀ a,(MemAct.ofEvent e).touch?=some a->a.loc.isMemory=true->qc Y (lU u s.w.heap.size 0) a) /\
   (∀ a,(MemAct.ofEvent e).touch?=some a->a.kind=.plain->a.write=true->∀ x,x<j->∀ b o v,a.loc=.cell ⟨b,o,none⟩->F x b o≠some v)/\(e.loc≠.mark .disable/\e.loc≠.mark .enable)/\∀ a,e.loc≠.mark (.release a):=by
  intro e k;have h:=S e k;obtain⟨loc,wr,sy⟩:=e;cases loc with
  |cell ad =>
   obtain⟨z,G,E⟩:=h;simp only at z G E;subst z;have p:ad.block<s.w.heap.size/\u ad.block=0/\ad.block≠Y.C/\ad.block≠Y.Wg/\¬Y.Sh ad.block:=by
    rcases E with E|⟨⟨L,Z,E⟩,_⟩|⟨_,v,E⟩
    ·exact E.elim
    ·obtain⟨k1,k2,O,W,V⟩:=hw.blk _ (.inr ⟨L,Z,E⟩);exact⟨V,k1,k2,O,W⟩
    ·obtain⟨k1,k2,O,W,V⟩:=hw.M _ _ _ E;exact⟨V,k1,k2,O,W⟩
   refine⟨by rw[ofEvent_cell];exact bF p.1 st.size,λb c _=>?_,λb c _ Q x J b' o v hl X=>?_,⟨by simp,by simp⟩,by simp⟩
   ·rw[ofEvent_cell] at c;simp only[MemAct.touch?,bO] at c;subst c;exact .inr ⟨ad.block,rfl,by rw[dJ p.1];exact p.2.1,p.2.2.2.1,p.2.2.1,p.2.2.2.2,rfl⟩
   ·rw[ofEvent_cell] at c;simp only[MemAct.touch?,bO] at c;subst c;simp only at Q hl;have hM:=hw.ms x J b' o v X;cases hl;rcases E with E|⟨_,E⟩|⟨E,_⟩
    ·exact E.elim
    ·rw[E Q] at hM;cases hM
    ·rw[E] at Q;cases Q
  |obj r =>
   obtain⟨z,G⟩:=h;simp only at z G;subst z;obtain⟨L,Z,E⟩:=G.resolve_left id;obtain⟨k1,k2,O,W,V⟩:=hw.blk _ (.inr ⟨L,Z,E⟩);refine⟨?_,λb c _=>?_,λb c _ _ x _ b' o v hl=>?_,⟨by simp,by simp⟩,by simp⟩
   ·simp[MemAct.ofEvent,MemAct.low,Loc.low];exact bF V st.size
   ·simp[MemAct.ofEvent,MemAct.touch?] at c;subst c;exact .inr ⟨r,rfl,by rw[dJ V];exact k1,O,k2,W,rfl⟩
   ·simp[MemAct.ofEvent,MemAct.touch?] at c;subst c;cases hl
  |mark m =>
   simp only[oU] at h;rcases h with rfl|⟨f,rfl⟩
   ·exact⟨by simp[MemAct.ofEvent,MemAct.low],λb c=>by simp[MemAct.ofEvent,MemAct.touch?] at c,λb c=>by simp[MemAct.ofEvent,MemAct.touch?] at c,⟨by simp,by simp⟩,by simp⟩
   ·exact⟨by simp[MemAct.ofEvent,MemAct.low],λb c=>by simp[MemAct.ofEvent,MemAct.touch?] at c,λb c=>by simp[MemAct.ofEvent,MemAct.touch?] at c,⟨by simp,by simp⟩,by simp⟩
  |_=>exact h.elim
 exact⟨λe k=>(key e k).1,λe k=>(key e k).2.1,λe k=>(key e k).2.2.1,λe k=>(key e k).2.2.2.1,λe k=>(key e k).2.2.2.2⟩
theorem qI(I:qH P ty Y N val n T l U R w t u F j D A K d tag rk a s st sm){a':Goroutine}{es:Array Event}{tag':CTag}{rk':Rk}{jO CR:Int}{s':St}(hgo:stepG P true a w=.go a' w' es)
  (hh:∀ b,b<w.heap.size->hm' b=u b) (Eg:w.heap.size<=w'.heap.size) (RR:∀ y,y<j->CP Y u (F y) y w w')
  (RS:∀ e∈es,(MemAct.ofEvent e).low w'.heap.size) (WC:∀ e∈es,∀ a,(MemAct.ofEvent e).touch?=some a->a.loc.isMemory=true->qc Y hm' a)
  (WE:∀ e∈es,∀ a,(MemAct.ofEvent e).touch?=some a->a.kind=.plain->a.write=true->∀ x,x<j->∀ b o v,a.loc=.cell ⟨b,o,none⟩->F x b o≠some v)
  (LH:∀ e∈es,∀ a,e.loc≠.mark (.release a)) (Fo:PayAt Y.C N w') (sS:WgAt ty Y.Wg w' jO CR)
  (CV:CS P ty Y N val n T l tag' j rk' (deafBehind d es) a' s') (OD:br s' { s' with w:=w' }) (g:iC Y hm' F j s') (q:Go.ConcN.Mode j D tag' jO CR)
  (p:phi n (Vc j D) tag'<phi n (Vc j D) tag∨(phi n (Vc j D) tag'=phi n (Vc j D) tag/\Rk.lt rk' rk)) :
  ∃ m₁ ops μ',runT P (crowd R w sl) 0=(.next m₁,ops)/\BQ (Y.base+n) μ' U/\Inv P ty Y N val n T l μ' m₁ (t++ops):=by
 have c:=I.fa.tl.base;have pP:=runT_crowd_go (P:=P) (sl:=sl) (i:=0) I.a0 (by simpa using hgo)
 refine⟨_,_,(phi n (Vc j D) tag'+Ssum j D+sumTo j A,(K,rk')),pP,?_,_,w',sl,hm',F,j,D,A,K,deafBehind d es,tag',rk',a',s',jO,CR,rfl,
  ⟨Go.ConcN.get_map_set_same _ _ _ (by rw[I.fa.size];omega),CV,OD,g,I.fa.step0 hh Eg RR RS WC WE LH Fo ⟨_,_,sS⟩,sS,q,rfl⟩⟩
 rw[I.mu];rcases p with h|⟨z,G⟩
 ·exact Prod.Lex.left _ _ (by omega)
 ·rw[z];exact Prod.Lex.right _ (Prod.Lex.right _ G)
theorem gq(I:qH P ty Y N val n T l U R w t u F j D A K d tag rk a s st sm){a':Goroutine}{es:Array Event}{rk':Rk}{s1 s':St}(z:br s1 { s1 with w:=w })(q:iC Y u F j s1)(hgo:stepG P true a w=.go a' s'.w es)
  (RK:oB { s1 with w:=w } s' es∨Es Y.Wg { s1 with w:=w } s' es) (CV:CS P ty Y N val n T l tag j rk' d a' s') (p:Rk.lt rk' rk) :
  ∃ m₁ ops μ',runT P (crowd R w sl) 0=(.next m₁,ops)/\BQ (Y.base+n) μ' U/\Inv P ty Y N val n T l μ' m₁ (t++ops):=by
 rcases RK with⟨⟨σ,σ',hh,ia,g⟩,S⟩|⟨rfl,ad,UA,ND⟩
 ·have O:iC Y u F j { s1 with w:=w }:=q.rely z.size;obtain⟨e1,e2,e3,e4,e5⟩:=IQ O hh S g;have tE:∀ b,b<w.heap.size->(u b≠0∨b=Y.C∨b=Y.Wg)->s'.w.heap[b]?=w.heap[b]?:=λb c qA=>g.eC b c λL Z Cz=>by
   obtain⟨q1,q2,q3,_⟩:=O.blk b (.inr ⟨L,Z,Cz⟩);rcases qA with h|h|h
   ·exact h q1
   ·exact q2 h
   ·exact q3 h
  have Fi:=I.fa.tl.base;refine qI I hgo (hm':=lU u w.heap.size 0) (λb c=>dJ c) g.size (λy hy=>⟨g.size,λb c Wv=>tE b c (.inl (by omega)),λb o v X _=>ia.mem b o v (g.mem _ _ _ (q.ms y hy b o v X)),λo _ _=>iD (tE _ I.fa.yC (.inr (.inl rfl))) o,g.os,g.tape,g.output⟩) e1 e2 e3 e5 ?_
   (I.wg.of_block (tE _ I.fa.xf (.inr (.inr rfl)))) (s':=s') (tag':=tag) (rk':=rk') (by rw[deafBehind_idle e4];exact CV) (br.tD ia.mem) (O.step ia g I.fa.xf I.fa.yC I.fa.HZ) I.mode (.inr ⟨rfl,p⟩)
  obtain⟨cs,c1,c2⟩:=I.fa.pay;exact⟨cs,(tE _ I.fa.yC (.inr (.inl rfl))).trans c1,c2⟩
 ·have IS:∀ e∈es,e=mk (.read ad)∨e=mk (.write ad):=by
   intro e k;rcases ND with rfl|rfl
   ·simp at k;exact .inl k
   ·simp at k;exact .inr k
  refine qI I hgo (hm':=u) (λb c=>rfl) (ar _) (λy hy=>.refl ..) (λe k=>?_) (λe k b c _=>?_) (λe k b c hk=>?_) (λe k=>?_) I.fa.pay I.wg (s':={ s1 with w:=w }) (tag':=tag) (rk':=rk') ?_ (z.trans' ) (q.rely z.size) I.mode (.inr ⟨rfl,p⟩)
  ·have hW:=I.fa.xf;rcases IS e k with rfl|rfl <;> (rw[ofEvent_mk];show ad.block<_;rw[UA];exact hW)
  ·rcases IS e k with rfl|rfl <;> (rw[ofEvent_mk] at c;simp[MemAct.touch?] at c;subst c;exact .inl ⟨ad,rfl,UA,by simp⟩)
  ·rcases IS e k with rfl|rfl <;> (rw[ofEvent_mk] at c;simp[MemAct.touch?] at c;subst c;cases hk)
  ·rcases IS e k with rfl|rfl <;> simp[mk]
  ·rw[deafBehind_idle (λe k=>by rcases IS e k with rfl|rfl <;> simp[mk])];exact CV
theorem ft(I:qH P ty Y N val n T l U R w t u F j D A K d tag rk a s st sm){a':Goroutine}{es:Array Event}{tag':CTag}{rk':Rk}{jO CR:Int}{s1:St}(z:br s1 { s1 with w:=w })(g:iC Y u F j s1)
  (hgo:stepG P true a w=.go a' w' es) (Af:Aside Y.Wg w w') (Fj:WgAt ty Y.Wg w' jO CR) (CU:∀ e∈es,Bk Y.Wg e) (CV:CS P ty Y N val n T l tag' j rk' (deafBehind d es) a' { s1 with w:=w' }) (tF:Go.ConcN.Mode j D tag' jO CR)
  (p:phi n (Vc j D) tag'<phi n (Vc j D) tag∨(phi n (Vc j D) tag'=phi n (Vc j D) tag/\Rk.lt rk' rk)) :
  ∃ m₁ ops μ',runT P (crowd R w sl) 0=(.next m₁,ops)/\BQ (Y.base+n) μ' U/\Inv P ty Y N val n T l μ' m₁ (t++ops):=by
 obtain⟨cs,Qh,Kh⟩:=I.fa.pay;have G:br s1 { s1 with w:=w' }:=g.Ff z (Ad.wg Af);refine qI I hgo (hm':=u) (λb c=>rfl) (by rw[Af.size];exact ar _) (λy hy=>.wg Af I.fa.tl.Ei I.fa.tl.base (λb o v X=>(I.fa.tl.ms y hy b o v X).2.2.1) I.fa.tl.ne) (Fh CU (by rw[Af.size];exact I.fa.xf)) (λe k b c u=>?_) (λe k b c hk=>?_) (yD CU)
  ⟨cs,(Af.block _ I.fa.tl.ne).trans Qh,Kh⟩ Fj CV G.trans' (g.rely G.size) tF p
 ·rcases CU e k with q|q|⟨ad,wr,rfl,ha⟩
  ·rw[ofEvent_loc_mark q] at c;cases c
  ·rw[ofEvent_loc_mark q] at c;cases c
  ·rw[ofEvent_cell] at c;simp only[MemAct.touch?,bO] at c;subst c;exact .inl ⟨ad,rfl,ha,by simp⟩
 ·rcases CU e k with q|q|⟨ad,wr,rfl,ha⟩
  ·rw[ofEvent_loc_mark q] at c;cases c
  ·rw[ofEvent_loc_mark q] at c;cases c
  ·rw[ofEvent_cell] at c;simp only[MemAct.touch?,bO] at c;subst c;cases hk
end
section
variable {P:Program}{ty:TypeId}{Y:Lay}{N:Nat}{val:Nat->Nat->Value}{n:Nat}{T f:Goroutine->St->Prop}{l hm':Nat->Nat}{u k:Nat->Mem}{j:Nat}{tag:CTag}{rk:Rk}{d:Nat}{a:Goroutine}{s:St}{w w':World}
 {E:Mu} {z:Array Goroutine} {sl:Option (Nat×Nat)} {t:Trace} {D:Nat->WD} {A:Nat->Nat} {K:Nat->Rk} {st F:Int}
theorem CS.bound(h:CS P ty Y N val n T f tag j rk d a s):j+pend tag<=n:=by
 cases h <;> simp only[pend] <;> (try simp) <;> omega
omit [Payload] in
theorem gu{S:Goroutine->St->Prop}(h:iB (Cx.lead P ty Y.Wg) (Es Y.Wg) S rk a s)(p:br s { s with w:=w })(G:iC Y l u j s)(live:WgLive ty Y.Wg w) :
  (∃ s',br s' { s' with w:=w }/\iC Y l u j s'/\S a s')∨∃ s',br s' { s' with w:=w }/\iC Y l u j s'/\∃ g' s2 es r',stepG P true a w=.go g' s2.w es/\(oB { s' with w:=w } s2 es∨Es Y.Wg { s' with w:=w } s2 es)/\iB (Cx.lead P ty Y.Wg) (Es Y.Wg) S r' g' s2/\Rk.lt r' rk:=by
 rcases h.norm (λs0=>br s0 { s0 with w:=w }/\iC Y l u j s0) (λs0 s' C hi=>⟨hi.1.ghost C,hi.2.ghost C⟩) (λH=>False.elim H) ⟨p,G⟩ with⟨s',⟨k1,c⟩,B⟩|⟨_,s',⟨k1,c⟩,B⟩
 ·exact .inl ⟨s',k1,c,B⟩
 ·exact .inr ⟨s',k1,c,B _ ⟨k1,λ_=>live⟩⟩
theorem WS.quits{x a st d:Nat}{r:Rk}{g:Goroutine}(h:WS P ty Y N val l u x a st r d g w)(b:st=1):∃ m,QuitsD P m d g:=by
 cases h with
 |am _ _ _=>cases b
 |rel _=>cases b
 |tail _ h=>exact⟨_,h.quits b⟩
theorem WS.small{x a st d:Nat}{r:Rk}{g:Goroutine}(h:WS P ty Y N val l u x a st r d g w)(b:st=1):a=0:=by
 cases h with
 |am _ _ _=>cases b
 |rel _=>rfl
 |tail _ h=>rfl
set_option maxHeartbeats 1600000 in
theorem Fp(I:qH P ty Y N val n T f E z w t l u j D A K d tag rk a s st F)(hn:n<2147483648)(Qo:∀ g s,f g s->dh (Cx.lead P ty Y.Wg) (Es Y.Wg) (AtW1 P ty Y T f) g s)(pP:a.status=.running) :
  ∃ W ops,runT P (crowd z w sl) 0=(.next W,ops)/\((∃ hm' k,Fin P Y N val n T hm' k W (t++ops))∨∃ μ',BQ (Y.base+n) μ' E/\Inv P ty Y N val n T f μ' W (t++ops)):=by
 have Wu:=Vc_le j D;have Fi:=I.fa.tl.base;have live:=I.fa.live;have fin:∀ {X:Prop},(∃ W ops μ',runT P (crowd z w sl) 0=(.next W,ops)/\BQ (Y.base+n) μ' E/\Inv P ty Y N val n T f μ' W (t++ops)) ->
   ∃ W ops,runT P (crowd z w sl) 0=(.next W,ops)/\((∃ hm' k,Fin P Y N val n T hm' k W (t++ops))∨∃ μ',BQ (Y.base+n) μ' E/\Inv P ty Y N val n T f μ' W (t++ops)) :=
  λ{_} ⟨W,ops,μ',p,h2,h3⟩=>⟨W,ops,p,.inr ⟨μ',h2,h3⟩⟩
 have hbound:=I.cs.bound;have cs:=I.cs;have Q:=I.wg;have O:=I.mode;cases cs with
 |@skd r rk g s hr h =>
  rcases gu h I.rely I.lead live with⟨s',k1,c,_,g',J,R⟩|⟨s',k1,c,g',s2,es,r',J,V,R,U⟩
  ·obtain⟨r2,R⟩:=R { s' with w:=w } (eG k1 live);exact fin (X:=True) (ft I k1 c (J w) (.refl Y.Wg w) Q bk_dis (.sa1 hr R) (O.reopen ab ab rfl (by simp)) (.inl (by simp only[phi];omega)))
  ·exact fin (X:=True) (gq I k1 c J V (.skd hr R) U)
 |@sa1 r rk g s hr h =>
  rcases gu h I.rely I.lead live with⟨s',k1,c,_,Z⟩|⟨s',k1,c,g',s2,es,r',J,V,R,U⟩
  ·obtain⟨ho,e1,e2,_⟩:=O.open_inv ab;rw[e1,e2] at Q;obtain⟨a',J,r2,R⟩:=Z { s' with w:=w } (eG k1 live) (Vc (n-(r+1)) D) (by omega) (by simpa[pend] using Q)
   refine fin (X:=True) (ft I k1 c J (aside_setCell w (stA Y.Wg) _) (Q.setSt _) bk_rw (.ske hr R) ?_ (.inl (by simp only[phi];omega)))
   have e:(((Vc (n-(r+1)) D:Nat):Int)+1)*KK=((Vc (n-(r+1)) D+pend (.sp r 3):Nat):Int)*KK:=by simp[pend]
   rw[e];exact .opn ab ho (by simp)
  ·exact fin (X:=True) (gq I k1 c J V (.sa1 hr R) U)
 |@ske r rk g s hr h =>
  rcases gu h I.rely I.lead live with⟨s',k1,c,_,g',J,R⟩|⟨s',k1,c,g',s2,es,r',J,V,R,U⟩
  ·obtain⟨r2,R⟩:=R { s' with w:=w } (eG k1 live);exact fin (X:=True) (ft I k1 c (J w) (.refl Y.Wg w) Q bk_en (.sgo hr R) (O.reopen ab ab rfl (by simp)) (.inl (by simp only[phi];omega)))
  ·exact fin (X:=True) (gq I k1 c J V (.ske hr R) U)
 |@sgo r rk g s hr h =>
  rcases gu h I.rely I.lead live with⟨s',k1,c,_,Z⟩|⟨s',k1,c,g',s2,es,r',J,V,R,U⟩
  ·obtain⟨a',child,WG,_,⟨rc,RH⟩,BE⟩:=Z { s' with w:=w } (eG k1 live);obtain⟨ho,e1,e2,_⟩:=O.open_inv ab;rw[e1,e2] at Q;have tG:=runT_crowd_spawn (P:=P) (sl:=sl) (i:=0) I.a0 (by simpa using WG)
   rw[I.fa.size] at tG;have B:iC Y l u (n-(r+1)) { s' with w:=w }:=c.rely k1.size
   let k:=upd u (n-(r+1)) s'.M
   have UB:∀ y,y<n-(r+1)->k y=u y:=λy hy=>upd_ne u _ (by omega)
   have RU:k (n-(r+1))=s'.M:=upd_same u _ _;have LM:br (St.child { s' with w:=w }) { St.child { s' with w:=w } with w:=w }:=br.tD k1.mem;have OE:kO l (k (n-(r+1))) (Y.base+(n-(r+1))) (St.child { s' with w:=w }):=by
    refine⟨λb hb=>?_,λb o v hv=>⟨.inr (by rw[RU];exact hv),(B.M b o v hv).2.2.2.2⟩⟩
    rcases hb with hb|⟨L,hL,_⟩
    ·exact hb.elim
    ·simp[St.child] at hL
   have BS:=(I.fa.congr UB).spawn (a':=a') (x:={ g:=0,fn:=a.frame.fn,pos:=a.frame.place,act:=.go (Y.base+(n-(r+1))) }) (y:={ g:=Y.base+(n-(r+1)),fn:=child.frame.fn,pos:=a.frame.place,act:=.start }) ⟨rfl,rfl⟩ ⟨rfl,rfl⟩
    (λb o v hv=>by rw[RU] at hv;exact B.M b o v hv) RH LM OE
   have eV:Vc (n-(r+1)+1) (upd D (n-(r+1)) ⟨7,0,0⟩)=Vc (n-(r+1)) D+1:=by
    simp only[Vc,sumTo,upd_same];rw[sumTo_upd_out D _ cnt (ar _)];rfl
   have eS:Ssum (n-(r+1)+1) (upd D (n-(r+1)) ⟨7,0,0⟩)=Ssum (n-(r+1)) D+7:=by
    simp only[Ssum,sumTo,upd_same];rw[sumTo_upd_out D _ WD.stage (ar _)]
   have eA:sumTo (n-(r+1)+1) (upd A (n-(r+1)) 1)=sumTo (n-(r+1)) A+1:=by
    have:sumTo (n-(r+1)) (upd A (n-(r+1)) 1)=sumTo (n-(r+1)) A:=sumTo_upd_out A 1 id (i:=n-(r+1)) (j:=n-(r+1)) (ar _);show sumTo (n-(r+1)) (upd A (n-(r+1)) 1)+upd A (n-(r+1)) 1 (n-(r+1))=_;rw[upd_same];exact cn (·+1) this
   have Qp:OpenSt (n-(r+1)+1) (upd D (n-(r+1)) ⟨7,0,0⟩):=λi hi=>by
    by_cases e:i=n-(r+1)
    ·subst e;rw[upd_same];simp
    ·rw[upd_ne D _ e];exact ho i (by omega)
   have Qq:((z.setIfInBounds 0 a').push child)[0]?=some a':=by
    have h0:0<z.size:=by rw[I.fa.size];omega
    rw[sd (by simpa using h0),<-bw,l6 h0]
   have xg:iC Y l k (n-(r+1)+1) { s' with w:=w }:=⟨B.blk,B.M,λy hy b o v hv=>by
    rcases bz y (n-(r+1)) with p|p
    ·rw[UB y p] at hv;exact B.ms y p b o v hv
    ·obtain rfl:y=n-(r+1):=by omega
     rw[RU] at hv;exact hv⟩
   have ej:n-(r+1)+1=n-r:=by omega
   rw[ej] at BS eV eS eA Qp xg;have RV:∀ tag',pend tag'=0->((Vc (n-(r+1)) D+pend (.sp r 2):Nat):Int)*KK=((Vc (n-r) (upd D (n-(r+1)) ⟨7,0,0⟩)+pend tag':Nat):Int)*KK:=λtag' hp=>by rw[eV,hp];simp[pend]
   cases r with
   |zero =>
    obtain⟨r3,R⟩:=BE;simp only[k6] at BS eV eS eA Qp RV xg;refine⟨_,_,tG,.inr ⟨(phi n (Vc n (upd D (n-(0+1)) ⟨7,0,0⟩)) .kd+Ssum n (upd D (n-(0+1)) ⟨7,0,0⟩)+sumTo n (upd A (n-(0+1)) 1),(upd K (Y.base+(n-(0+1))) rc,r3)),by rw[I.mu];exact Prod.Lex.left _ _ (by simp only[phi];omega),
     _,w,sl,l,k,n,_,_,_,0,.kd,r3,a',{ s' with w:=w },_,_,rfl,⟨Qq,.kd R,k1.trans',xg,BS,Q,?_,rfl⟩⟩⟩
    rw[RV .kd rfl];exact .opn ab Qp (by simp)
   |succ r' =>
    obtain⟨r3,R⟩:=BE;refine⟨_,_,tG,.inr ⟨(phi n (Vc (n-(r'+1)) (upd D (n-(r'+1+1)) ⟨7,0,0⟩)) (.sp r' 5)+Ssum (n-(r'+1)) (upd D (n-(r'+1+1)) ⟨7,0,0⟩)+sumTo (n-(r'+1)) (upd A (n-(r'+1+1)) 1),(upd K (Y.base+(n-(r'+1+1))) rc,r3)),by rw[I.mu];exact Prod.Lex.left _ _ (by simp only[phi];omega),
     _,w,sl,l,k,n-(r'+1),_,_,_,0,.sp r' 5,r3,a',{ s' with w:=w },_,_,rfl,⟨Qq,.skd (by omega) R,k1.trans',xg,BS,Q,?_,rfl⟩⟩⟩
    rw[RV (.sp r' 5) rfl];exact .opn ab Qp (by simp)
  ·exact fin (X:=True) (gq I k1 c J V (.sgo hr R) U)
 |kd h =>
  rcases gu h I.rely I.lead live with⟨s',k1,c,_,g',J,R⟩|⟨s',k1,c,g',s2,es,r',J,V,R,U⟩
  ·obtain⟨r2,R⟩:=Qo _ _ (R { s' with w:=w } (eG k1 live));exact fin (X:=True) (ft I k1 c (J w) (.refl Y.Wg w) Q bk_dis (.w1 R) (O.reopen ab ab rfl (by simp)) (.inl (by simp only[phi];omega)))
  ·exact fin (X:=True) (gq I k1 c J V (.kd R) U)
 |w1 h =>
  rcases gu h I.rely I.lead live with⟨s',k1,c,_,Z⟩|⟨s',k1,c,g',s2,es,r',J,V,R,U⟩
  ·obtain⟨ho,e1,e2,_⟩:=O.open_inv ab;rw[e1,e2] at Q;have hV:=Vc_le n D;obtain⟨a',J,h0,qA⟩:=Z { s' with w:=w } (eG k1 live) (Vc n D) (by omega) (by simpa[pend] using Q)
   by_cases hv:Vc n D=0
   ·obtain⟨r2,R⟩:=h0 hv;refine fin (X:=True) (ft I k1 c J (.refl Y.Wg w) Q bk_rd (.ke R) ?_ (.inl (by simp only[phi];omega)))
    have e:((Vc n D+pend .w1:Nat):Int)*KK=0:=by rw[hv];simp[pend]
    rw[e];exact .fin ab (allQuit_of ho hv)
   ·obtain⟨r2,R⟩:=qA hv;refine fin (X:=True) (ft I k1 c J (.refl Y.Wg w) Q bk_rd (.w2 R) ?_ (.inl (by simp only[phi];omega)))
    have:=O.reopen (tag':=.w2 (Vc n D)) ab ab rfl (λvs e=>by cases e;omega)
    rwa [e1,e2] at this
  ·exact fin (X:=True) (gq I k1 c J V (.w1 R) U)
 |@w2 vs rk g s h =>
  rcases gu h I.rely I.lead live with⟨s',k1,c,_,Z⟩|⟨s',k1,c,g',s2,es,r',J,V,R,U⟩
  ·obtain⟨ho,e1,e2,LN⟩:=O.open_inv ab;rw[e1,e2] at Q;obtain⟨hle,p⟩:=LN vs rfl;obtain⟨RX,OF⟩:=Z { s' with w:=w } (eG k1 live) (Vc n D) (by omega) (by simpa[pend] using Q)
   by_cases e:Vc n D=vs
   ·obtain⟨a',J,r2,R⟩:=RX e;exact fin (X:=True) (ft I k1 c J (aside_setCell w (stA Y.Wg) _) (Q.setSt _) bk_rw (.w3 R) (.reg ab ho (by omega)) (.inl (by simp only[phi];omega)))
   ·obtain⟨a',J,R⟩:=OF e;obtain⟨r2,R⟩:=Qo _ _ R;refine fin (X:=True) (ft I k1 c J (.refl Y.Wg w) Q bk_rd (.w1 R) ?_ (.inl (by simp only[phi];omega)))
    have:=O.reopen (tag':=.w1) ab ab rfl (by simp)
    rwa [e1,e2] at this
  ·exact fin (X:=True) (gq I k1 c J V (.w2 R) U)
 |@w3 rk g s h =>
  rcases gu h I.rely I.lead live with⟨s',k1,c,kP⟩|⟨s',k1,c,g',s2,es,r',J,V,R,U⟩
  ·obtain⟨_,Oc,Z⟩:=kP;obtain⟨IT,OG⟩:=Z { s' with w:=w } (eG k1 live);obtain⟨x,hx⟩:=Rk.Fg s rk;have OH:AtW3 P ty Y T a { s' with w:=w }:=AtW3.rely ⟨pP,Oc,Z⟩ (eG k1 live);generalize st=RQ at O Q;generalize F=Wz at O Q;cases O with
   |opn p _ _=>exact p.elim
   |reg p h2 h3=>exact fin (X:=True) (ft I k1 c (IT ⟨_,Q⟩) (.refl Y.Wg w) Q (by simp) (.blk (rk:=x) OH) (.reg ab h2 h3) (.inr ⟨rfl,hx⟩))
   |last L p h2 h3 h4=>exact fin (X:=True) (ft I k1 c (IT ⟨_,Q⟩) (.refl Y.Wg w) Q (by simp) (.blk (rk:=x) OH) (.last L ab h2 h3 h4) (.inr ⟨rfl,hx⟩))
   |sema h2 =>
    obtain⟨a',J,r2,R⟩:=OG Q;exact fin (X:=True) (ft I k1 c J (aside_setCell w (smA Y.Wg) _) (Q.setSm 0) bk_sem (.w4 R) (.fin ab h2) (.inl (by simp only[phi];omega)))
   |fin p _=>exact p.elim
  ·exact fin (X:=True) (gq I k1 c J V (.w3 R) (Rk.BO U))
 |blk h=>simp at pP
 |w4 h =>
  rcases gu h I.rely I.lead live with⟨s',k1,c,_,Z⟩|⟨s',k1,c,g',s2,es,r',J,V,R,U⟩
  ·obtain⟨hq,e1,e2⟩:=O.fin_inv ab;rw[e1,e2] at Q;obtain⟨a',J,r2,R⟩:=Z { s' with w:=w } (eG k1 live) Q;exact fin (X:=True) (ft I k1 c J (.refl Y.Wg w) Q bk_rd (.ke R) (.fin ab hq) (.inl (by simp only[phi];omega)))
  ·exact fin (X:=True) (gq I k1 c J V (.w4 R) U)
 |ke h =>
  rcases gu h I.rely I.lead live with⟨s',k1,c,_,g',J,R⟩|⟨s',k1,c,g',s2,es,r',J,V,R,U⟩
  ·obtain⟨r2,R⟩:=R { s' with w:=w } (eG k1 live);obtain⟨hq,e1,e2⟩:=O.fin_inv ab;rw[e1,e2] at Q;exact fin (X:=True) (ft I k1 c (J w) (.refl Y.Wg w) Q bk_en (.acq R) (.fin ab hq) (.inl (by simp only[phi];omega)))
  ·exact fin (X:=True) (gq I k1 c J V (.ke R) U)
 |acq h =>
  rcases gu h I.rely I.lead live with⟨s',k1,c,_,a',J,R⟩|⟨s',k1,c,g',s2,es,r',J,V,R,U⟩
  ·obtain⟨hq,e1,e2⟩:=O.fin_inv ab;have tG:=runT_crowd_go (P:=P) (sl:=sl) (i:=0) I.a0 (by simpa using J w)
   have ev:MemOp.ofEvents 0 a.frame.fn a.frame.place #[mk (.acquire (stA Y.Wg))]=#[{ g:=0,fn:=a.frame.fn,pos:=a.frame.place,act:=.mark (.acquire (stA Y.Wg)) }]:=by rw[ofEvents_eq];simp[ofEvent_mk]
   have tH:=I.fa.step0 (g:=a) (g':=a') (fn:=a.frame.fn) (pos:=a.frame.place) (es:=#[mk (.acquire (stA Y.Wg))]) (hm':=l) (w':=w) (λ_ _=>rfl) (ar _) (λy _=>.refl ..) (by simp;exact I.fa.xf) (by intro e he b hb;simp at he;subst he;simp[mk,MemAct.ofEvent,MemAct.touch?] at hb) (by intro e he b hb;simp at he;subst he;simp[mk,MemAct.ofEvent,MemAct.touch?] at hb) (by intro e he;simp at he;subst he;simp[mk]) I.fa.pay live
   have YR:deafBehind 0 #[mk (.acquire (stA Y.Wg))]=0:=rfl;have hy:(t++#[({ g:=0,fn:=a.frame.fn,pos:=a.frame.place,act:=.mark (.acquire (stA Y.Wg)) }:MemOp)])[t.size]?=some { g:=0,fn:=a.frame.fn,pos:=a.frame.place,act:=.mark (.acquire (stA Y.Wg)) }:=by simp
   have OI:=tH.tl.RG (by rw[tH.deaf0];rfl) (tH.norel _) (q:=t.size) (by rw[ev,act?_of hy]) (by rw[ev];simp[Trace.g?]) (by rw[ev];exact⟨0,by simp[Trace.g?],by rw[deaf_old (ar _)];exact I.fa.deaf0⟩) (λx hx=>by
    obtain⟨r,hr⟩:=I.fa.rel x hx (by rw[hq x hx];omega)
    exact⟨r,hr.appOther g_of_ofEvents (by omega),lt_of_act? hr.act⟩)
   have HW:∃ q,Leavers P (t++MemOp.ofEvents 0 a.frame.fn a.frame.place #[mk (.acquire (stA Y.Wg))]) ((z.map (woken P a a' w)).setIfInBounds 0 a') q:=by
    have each:∀ i,∃ m,∀ g,0<i->((z.map (woken P a a' w)).setIfInBounds 0 a')[i]?=some g->QuitsD P m (Deaf (t++MemOp.ofEvents 0 a.frame.fn a.frame.place #[mk (.acquire (stA Y.Wg))]) i) g:=by
     intro i;cases Kn:((z.map (woken P a a' w)).setIfInBounds 0 a')[i]? with
     |none=>exact⟨0,λg _ C=>by cases C⟩
     |some g =>
      rcases iq i with e|Fq
      ·exact⟨0,λg' h=>by omega⟩
      ·rcases bz i Y.base with U|No
       ·obtain⟨m,_,LI⟩:=tH.lv i g Fq U Kn;exact⟨m,λg' _ Ae=>by cases Ae;exact LI⟩
       ·obtain⟨x,rfl⟩:∃ x,i=Y.base+x:=⟨i-Y.base,by omega⟩
        have hx:x<n:=by
         have:=(dE.1 Kn).1;rw[tH.size] at this;omega
        obtain⟨g0,BN,RY⟩:=tH.wk x hx;rw[Kn] at BN;cases BN;obtain⟨m,LI⟩:=RY.quits (hq x hx);refine⟨m,λg' _ Ae=>?_⟩
        cases Ae;rw[tH.deafW x hx];exact LI
    exact⟨λi=>Classical.choose (each i),λi g hi C=>pr (each i) g hi C,λi hi=>tH.above i (by rw[tH.size] at hi;exact hi)⟩
   obtain⟨q,HW⟩:=HW;refine⟨_,_,tG,.inl ⟨l,u,⟨_,w,sl,a',s',q,rfl,Go.ConcN.get_map_set_same _ _ _ (by rw[I.fa.size];omega),tH.size,R { s' with w:=w } (eG k1 live),k1,c,HW,OI,tH.norel,I.fa.pay,λx hx i hi=>?_,I.fa.yC,I.fa.xf,I.fa.HZ⟩⟩⟩
   obtain⟨g0,_,RY⟩:=I.fa.wk x hx;rcases iq i with e|Fq
   ·subst e;exact I.fa.yB x hx (by rw[hq x hx];omega)
   ·exact I.fa.va x hx (RY.small (hq x hx)) i Fq hi
  ·exact fin (X:=True) (gq I k1 c J V (.acq R) U)
end
end Go.AM
namespace Go.AM
open Go.Conc
open Go.ConcN (WD CTag Vc Ssum pend phi cnt WgLive PayAt Has WSit RelBy sumTo upd upd_same upd_ne exists_counted)
open Go.ConcR (KK WgAt stA smA Payload)
variable [Payload]
section
variable {P:Program}{ty:TypeId}{Y:Lay}{N:Nat}{val:Nat->Nat->Value}{n:Nat}{T c:Goroutine->St->Prop}{p:Nat->Nat}{y:Nat->Mem}{j:Nat}{tag:CTag}{rk:Rk}{d:Nat}{a:Goroutine}{s:St}{w:World}
 {l:Mu} {f:Array Goroutine} {sl:Option (Nat×Nat)} {t:Trace} {D:Nat->WD} {A:Nat->Nat} {K:Nat->Rk} {st u:Int}
theorem WS.running_of{x a st d:Nat}{r:Rk}{g:Goroutine}(h:WS P ty Y N val p y x a st r d g w)(b:st≠1):g.status=.running:=by
 cases h with
 |am h1 _ _=>exact h1.run λ_ _ x=>x.1
 |rel h1=>exact Goes.running (λ_ _ x=>x.1) w (Go.ConcN.RW.refl w) h1
 |tail _ h1=>exact h1.running_of b
theorem someone_runs(I:qH P ty Y N val n T c l f w t p y j D A K d tag rk a s st u):∃ (i:Nat)(g:Goroutine),f[i]?=some g/\g.status=.running:=by
 rcases I.cs.status with⟨e,_⟩|⟨_,rfl⟩
 ·exact⟨0,a,I.a0,e⟩
 ·have b:=I.mode;cases b with
  |opn h1 _ _=>exact h1.elim
  |reg _ _ k =>
   obtain⟨i,hi,o⟩:=exists_counted k;obtain⟨g,h,e⟩:=I.fa.wk i hi;exact⟨_,g,h,e.running_of (by omega)⟩
  |last L _ m k _ =>
   obtain⟨g,h,e⟩:=I.fa.wk L m;exact⟨_,g,h,e.running_of (by omega)⟩
  |fin h1 _=>exact h1.elim
theorem all_awake(I:qH P ty Y N val n T c l f w t p y j D A K d tag rk a s st u):∀ g∈f,awake g:=by
 intro g q B;obtain⟨i,hi⟩:=Array.mem_iff_getElem?.1 q;rcases iq i with rfl|e
 ·rw[I.a0] at hi;cases hi;rcases I.cs.status with⟨k,_⟩|⟨k,_⟩ <;> rw[k] <;> simp
 ·rcases bz i Y.base with o|v
  ·obtain⟨m,_,z⟩:=I.fa.lv i g e o hi;rcases z.status with h|h <;> rw[h] <;> simp
  ·obtain⟨x,rfl⟩:∃ x,i=Y.base+x:=⟨i-Y.base,by omega⟩
   have r:x<j:=by
    have:=(dE.1 hi).1;rw[I.fa.size] at this;omega
   obtain⟨g',b,k⟩:=I.fa.wk x r;rw[hi] at b;cases b;rcases k.status with h|h <;> rw[h] <;> simp
theorem qH.at(I:qH P ty Y N val n T c l f w t p y j D A K d tag rk a s st u)(b:Nat):qH P ty Y N val n T c l f (w.at b) t p y j D A K d tag rk a s st u :=
 ⟨I.a0,I.cs,I.rely.more (ar _) (λ_ _=>rfl) (λ_ _ _ _ h=>h) rfl rfl rfl,I.lead,I.fa.at b,I.wg,I.mode,I.mu⟩
theorem Ag(I:qH P ty Y N val n T c l f w t p y j D A K d tag rk a s st u){i:Nat}(hi:0<i)(x:i<Y.base){g:Goroutine}(E:f[i]?=some g)(b:g.status=.running) :
  ∃ o ops μ',runT P (crowd f w sl) i=(.next o,ops)/\BQ (Y.base+n) μ' l/\Inv P ty Y N val n T c μ' o (t++ops):=by
 obtain⟨m,L,F⟩:=I.fa.lv i g hi x E;cases m with
 |zero=>rw[F.1] at b;cases b
 |succ m =>
  rcases F with⟨G,_⟩|⟨_,g',es,z,r,B⟩
  ·rw[G] at b;cases b
  ·have C:(i==0)=false:=by simp;omega
   have q:=runT_crowd_go (P:=P) (sl:=sl) (i:=i) E (by rw[C];exact r w)
   obtain⟨tag',rk',v,h,H⟩:=I.cs.wokenBy g g' w;have e:Go.ConcN.Mode j D tag' st u:=I.mode.retag h;refine⟨_,_,(phi n (Vc j D) tag'+Ssum j D+sumTo j A,(upd K i (Rk.nat m),rk')),q,?_,_,w,sl,p,y,j,D,A,_,d,tag',rk',woken P g g' w a,s,st,u,rfl,
    ⟨by rw[Go.ConcN.get_map_set _ _ _ _ (by omega),I.a0];rfl,v,I.rely,I.lead,I.fa.leave hi x z B,I.wg,e,rfl⟩⟩
   rw[I.mu,Go.ConcN.phi_retag n _ h];exact Prod.Lex.right _ (Prod.Lex.left _ _ ⟨i,by omega,by rw[upd_same,L];exact Rk.Ac _ s,λk J=>upd_ne K _ J⟩)
theorem Fs(H:n<2147483648)(C:∀ g s,c g s->dh (Cx.lead P ty Y.Wg) (Es Y.Wg) (AtW1 P ty Y T c) g s){m:Machine}(h:Inv P ty Y N val n T c l m t) :
  ∃ b ops,stepT P m=(.next b,ops)/\((∃ hm' IU,Fin P Y N val n T hm' IU b (t++ops))∨∃ e,BQ (Y.base+n) e l/\Inv P ty Y N val n T c e b (t++ops)):=by
 obtain⟨f,w,sl,p,y,j,D,A,K,Q,tag,rk,a,s,st,u,rfl,I⟩:=h;obtain⟨i,g,L,o,r,k,q⟩:=crowd_pick (P:=P) (w:=w) (sl:=sl) (all_awake I) (someone_runs I);rw[q];have B:=I.at L;have J:j<=n:=by have:=I.cs.bound;omega
 rcases iq i with rfl|v
 ·rw[I.a0] at r;cases r;exact Fp (sl:=o) B H C k
 ·rcases bz i Y.base with F|O
  ·obtain⟨b,ops,e,E,G,z⟩:=Ag (sl:=o) B v F r k;exact⟨b,ops,E,.inr ⟨e,G,z⟩⟩
  ·obtain⟨x,rfl⟩:∃ x,i=Y.base+x:=⟨i-Y.base,by omega⟩
   have M:x<j:=by
    have:=(dE.1 r).1;rw[I.fa.size] at this;omega
   obtain⟨b,ops,e,E,G,z⟩:=stepWorker (sl:=o) B H J I.cs.bound M r k;exact⟨b,ops,E,.inr ⟨e,G,z⟩⟩
theorem CW(z:n<2147483648)(q:∀ g s,c g s->dh (Cx.lead P ty Y.Wg) (Es Y.Wg) (AtW1 P ty Y T c) g s):∀ (l:Mu)(m:Machine)(t:Trace),Inv P ty Y N val n T c l m t ->
  ∃ M k i hm' IU,runNT P M m t=(.next k,i)/\Fin P Y N val n T hm' IU k i:=by
 intro l
 induction (LJ (Y.base+n)).apply l with
 |intro l _ v =>
  intro m t h;obtain⟨b,ops,r,e⟩:=Fs z q h;rcases e with⟨hm',IU,e⟩|⟨o,e,B⟩
  ·exact⟨1,b,t++ops,hm',IU,by simp[runNT,r],e⟩
  ·obtain⟨M,k,i,hm',IU,k1,x⟩:=v o e b (t++ops) B;exact⟨M+1,k,i,hm',IU,by simp only[runNT,r];exact k1,x⟩
theorem NP.fork{g:Goroutine}{s s0:St}{T':Goroutine->St->Prop}(kc:Nat)(Uv:0<kc)(Wg C:Nat)(hn:n<2147483648)(qA:C≠Wg)(hg:dX s s0)(pP:g.status=.running)
  (hC:∃ L∈s.β,C∈L.bs) (hW:∃ L∈s.β,Wg∈L.bs) (I:∀ b,(s.own b∨∃ L∈s.β,b∈L.bs)->b<s.w.heap.size)
  (h0:∀ b,(b=C∨b=Wg)->¬s0.own b/\(∀ L∈s0.β,b∉L.bs)/\∀ o,s0.M b o=none) (X:WgAt ty Wg s.w 0 0) (Fo:PayAt C N s.w)
  (h:∀ Y:Lay,Y.Wg=Wg->Y.C=C->Y.kc=kc->∃ T c,(∀ g s,c g s->dh (Cx.lead P ty Y.Wg) (Es Y.Wg) (AtW1 P ty Y T c) g s)/\Spawns P ty Y N val n c n g s0 /\
   ∀ g' s',T g' s'->fA s'->PayAt C N s'.w->(∀ x,x<n->∀ i,i<kc->s'.w.cell? ⟨C,kc*x+i,none⟩=some (val x i))->C<s'.w.heap.size->(∀ b,(b=C∨b=Wg)->¬s'.own b/\(∀ L∈s'.β,b∉L.bs)/\∀ o,s'.M b o=none) ->
    ∃ s2,T' g' s2/\s2.w=s'.w/\fA s2/\∀ Sh:Nat->Prop,Clear Sh s'->¬Sh C->Clear Sh s2):NP P g s T':=by
 intro Sh f sl t q p ha z hP hc LH;have S:¬Sh C:=λhs=>let ⟨L,z,m⟩:=hC;hc.β C hs L z m
 have RZ:¬Sh Wg:=λhs=>let ⟨L,z,m⟩:=hW;hc.β Wg hs L z m
 have LO:=I C (.inr hC);have R0:=I Wg (.inr hW);have Fq:1<=f.size:=(dE.1 ha).1
 let Y:Lay:={ Sh:=Sh,T0:=t.size,Wg:=Wg,C:=C,base:=f.size,kc:=kc }
 obtain⟨T,c,Qo,B,R2⟩:=h Y rfl rfl rfl;have W:=hc.ghost hg;have IS:fA s0:=.ghost hg;have H:iC Y (λ_=>0) (λ_ _ _=>none) 0 s0:=by
  refine⟨λb m=>⟨rfl,λe=>?_,λe=>?_,λe=>?_,by rw[hg.w];exact I b (hg.blk b m)⟩,λb o v Q=>⟨rfl,λe=>?_,λe=>?_,λe=>?_,fA.lt IS Q⟩,λx E=>absurd E (hI x)⟩
  ·obtain⟨q1,q2,_⟩:=h0 b (.inl e);rcases m with m|⟨L,z,m⟩
   ·exact q1 m
   ·exact q2 L z m
  ·obtain⟨q1,q2,_⟩:=h0 b (.inr e);rcases m with m|⟨L,z,m⟩
   ·exact q1 m
   ·exact q2 L z m
  ·rcases m with m|⟨L,z,m⟩
   ·exact W.own b e m
   ·exact W.β b e L z m
  ·rw[(h0 b (.inl e)).2.2 o] at Q;cases Q
  ·rw[(h0 b (.inr e)).2.2 o] at Q;cases Q
  ·rw[W.M b e o] at Q;cases Q
 have U:Com P ty Y N val (λ_=>0) (λ_ _ _=>none) 0 f s.w t (λ_=>⟨0,0,0⟩) (λ_=>0) (λi=>Rk.nat (q i)) 0 :=
  ⟨rfl,λi g hi _ Kn=>⟨q i,rfl,z.old i g hi Kn⟩,z.above,λx E=>absurd E (hI x),TL.start hP rfl Fq qA RZ S,LH,hP.hears,λx E=>absurd E (hI x),λx E=>absurd E (hI x),λx E=>absurd E (hI x),λx E=>absurd E (hI x),
   Fo,⟨_,_,X⟩,R0,LO,hc.lt,Uv,λx E=>absurd E (hI x)⟩
 have R:br s0 { s0 with w:=s.w }:=by
  have:=br.tD IS;rw[<-hg.w];exact this
 have F:∃ l,Inv P ty Y N val n T c l (crowd f s.w sl) t:=by
  cases n with
  |zero =>
   obtain⟨r,B⟩:=B;exact⟨_,f,s.w,sl,_,_,0,_,_,_,0,.kd,r,g,s0,_,_,rfl,⟨ha,.kd B,R,H,U,X,by have:=Go.ConcN.Mode.opn (j:=0) (D:=λ_=>(⟨0,0,0⟩:WD)) (tag:=.kd) ab (λi hi=>absurd hi (hI i)) (by simp);simpa[Vc,sumTo,pend] using this,rfl⟩⟩
  |succ n =>
   obtain⟨r,B⟩:=B;have Qs:CS P ty Y N val (n+1) T c (.sp n 5) (n+1-(n+1)) r 0 g s0:=.skd (Nat.lt_succ_self n) B;rw[n6] at Qs;exact⟨_,f,s.w,sl,_,_,0,_,_,_,0,.sp n 5,r,g,s0,_,_,rfl,⟨ha,Qs,R,H,U,X,by have:=Go.ConcN.Mode.opn (j:=0) (D:=λ_=>(⟨0,0,0⟩:WD)) (tag:=.sp n 5) ab (λi hi=>absurd hi (hI i)) (by simp);simpa[Vc,sumTo,pend] using this,rfl⟩⟩
 obtain⟨l,F⟩:=F;obtain⟨M,m',t',hm',IU,V,⟨WH,w',WI,a',J,q',rfl,Qq,_,hT,zG,OJ,gf,WJ,R3,WK,O,WL,WM,WN⟩⟩:=CW hn Qo l _ _ F;have Z:iC Y hm' IU n { J with w:=w' }:=OJ.rely zG.size;have G:∀ b,(b=C∨b=Wg∨Sh b)->¬J.own b/\(∀ L∈J.β,b∉L.bs)/\∀ o,J.M b o=none:=by
  intro b m;have key:∀ x,(hm' x=0/\x≠Y.C/\x≠Y.Wg/\¬Y.Sh x/\x<w'.heap.size)->x≠b:=by
   rintro x ⟨_,h1,h2,h3,_⟩ rfl;rcases m with e|e|e
   ·exact h1 e
   ·exact h2 e
   ·exact h3 e
  refine⟨λho=>key b (Z.blk b (.inl ho)) rfl,λL z Cz=>key b (Z.blk b (.inr ⟨L,z,Cz⟩)) rfl,λo=>?_⟩
  cases hM:J.M b o with
  |none=>rfl
  |some v=>exact absurd rfl (key b (Z.M b o v hM))
 obtain⟨s2,WO,LN,LI,Kh⟩:=R2 a' { J with w:=w' } hT (λb o v Q=>zG.mem b o v Q) WK O WL (λb m=>G b (m.elim .inl λe=>.inr (.inl e)))
 have zE:Clear (λb=>Sh b∨b=Wg) { J with w:=w' }:=by
  have k:∀ b,(Sh b∨b=Wg)->¬J.own b/\(∀ L∈J.β,b∉L.bs)/\∀ o,J.M b o=none:=λb m=>G b (m.elim (λe=>.inr (.inr e)) λe=>.inr (.inl e))
  exact⟨λb m=>(k b m).1,λb m=>(k b m).2.1,λb m=>(k b m).2.2,λb m=>m.elim (WN b) λe=>by rw[e];exact WM⟩
 refine⟨M,_,WH,a',s2,WI,t',q',by rw[LN];exact V,LI,Qq,gf,by rw[LN];exact WJ,Kh _ zE (λe=>e.elim S λe=>qA e),R3,WO⟩
end
end Go.AM
namespace Go.AM
open Go.Conc Go.RowKit Go.Conc.Lib Go.ConcR.Gen
open Go.ConcN (WgLive)
open Go.ConcR (KK WgAt stA smA rd wr mk DC0)
variable {L:WgLink}
section
variable (P:Program)(R:World->World->Prop)(L:WgLink)(Wg:Nat)(a:Goroutine)
def So(g:Goroutine)(_:World):Prop:=g.status=.running/\∃ g',(∀ w,stepG P true g w=.go g' w #[mk .enable])/\∀ w1,WgLive L.tWg Wg w1->∃ m,Goes P true R DC0 (λg _=>g=a) m g' w1
def Yx(g:Goroutine)(_:World):Prop:=g.status=.running/\∃ g' ad,ad.block=Wg/\(∀ w,stepG P true g w=.go g' w #[mk (.read ad)])/\∀ w1,WgLive L.tWg Wg w1->∃ m,Goes P true R DC0 (So P R L Wg a) m g' w1
def UR(g:Goroutine)(w:World):Prop:=g.status=.running/\∀ v:Nat,v<2147483647->WgAt L.tWg Wg w (v*KK) 0 ->
 ∃ g',stepG P true g w=.go g' (w.setCell (stA Wg) (.int .u64 ((v+1)*KK))) #[rd (stA Wg),wr (stA Wg)]/\∃ m,Goes P true R DC0 (λg w=>Yx P R L Wg a g w∨So P R L Wg a g w) m g' (w.setCell (stA Wg) (.int .u64 ((v+1)*KK)))
def Yy(g:Goroutine)(_:World):Prop:=g.status=.running/\∃ g',(∀ w,stepG P true g w=.go g' w #[mk .disable])/\∀ w1,WgLive L.tWg Wg w1->∃ m,Goes P true R DC0 (UR P R L Wg a) m g' w1
end
set_option maxRecDepth 100000 in
set_option maxHeartbeats 2000000 in
theorem Ja{P:Program}(H:WgLib P L){R:World->World->Prop}{Wg:Nat}(c:∀ {w w1},WgLive L.tWg Wg w->R w w1->WgLive L.tWg Wg w1){b₀:Frame}{a₀:Act}{ops₀:Array Oper}{i₀:Nat}{rest₀:List Nat}{k₀:List Item}{cs:List Frame}
  (w:World) (b:WgLive L.tWg Wg w) :
  Goes P true R DC0 (Yy P R L Wg (G (b₀.at (a₀.put ((ops₀[i₀]?).bind (·.dst)) (.tuple #[])) (.inRegion ops₀ rest₀::k₀)) cs)) 12
   (G ((base L.add).at ⟨#[.pointer (some ⟨Wg,0,none⟩),.int .i64 1,undef,undef,undef,undef,undef,undef,undef,undef,undef,undef,undef,undef,undef,undef,undef,undef,undef,undef,undef,undef,undef,undef,undef,undef,undef,undef,undef,undef,undef,undef,undef,undef,undef,undef,undef,undef,undef,undef,undef,undef,undef,undef,undef,undef,undef,undef,undef,undef,undef,undef,undef,undef,undef,undef,undef,undef,undef,undef,undef,undef,undef,undef,undef,undef,undef,undef,undef,undef,undef,undef,undef,undef,undef,undef,undef,undef,undef,undef,undef,undef,undef,undef,undef,undef,undef,undef,undef,undef,undef,undef,undef,undef,undef,undef,undef,undef,undef,undef,undef,undef,undef,undef,undef,undef,undef,undef,undef,undef,undef,undef,undef,undef,undef,undef,undef],[]⟩ [.code (body_add L)]) (b₀.at a₀ (.inRegion ops₀ (i₀::rest₀)::k₀)::cs)) w:=by
 lib_facts
 simp only[body_add,addFn,cK]
 repeat (u_c stepG_seq c b)
 u_cond true c b
 repeat (u_c stepG_seq c b)
 u_reg c b
 u_op c b
 u_op c b
 u_c stepG_region_end c b
 repeat (u_c stepG_seq c b)
 u_cond false c b
 u_c stepG_skip c b
 repeat (u_c stepG_seq c b)
 u_reg c b
 refine Goes.stop (λm g=>?_)
 refine⟨rfl,_,λw=>stepG_mark0 .disable (by simp) rfl rfl (by k_ne) rfl H.f_disable (x_disable_n L) (x_disable_b L) (x_disable_x L) (x_disable_f L),λw b=>?_⟩
 clear g;refine⟨40,?_⟩
 walk_nrm
 u_c stepG_region_end c b
 repeat (u_c stepG_seq c b)
 u_reg c b
 u_defer c b
 u_c stepG_region_end c b
 repeat (u_c stepG_seq c b)
 u_reg c b
 u_op c b
 u_c stepG_region_end c b
 repeat (u_c stepG_seq c b)
 u_reg c b
 u_bub c b
 u_c stepG_region_end c b
 repeat (u_c stepG_seq c b)
 u_cond false c b
 u_c stepG_skip c b
 repeat (u_c stepG_seq c b)
 u_reg c b
 u_op c b
 u_op c b
 u_op c b
 u_op c b
 u_op c b
 u_op c b
 u_call H.f_uAdd (nm_uAdd L) uAddFn c b
 repeat (u_c stepG_seq c b)
 u_reg c b
 u_op c b
 u_c stepG_region_end c b
 repeat (u_c stepG_seq c b)
 u_reg c b
 u_op c b
 u_op c b
 u_op c b
 u_op c b
 refine Goes.stop (λh e=>?_)
 replace b:=c b e
 clear e;refine⟨rfl,λv x j=>?_⟩
 have l:KK=4294967296:=rfl;have p:IntKind.u64.wrap ((v:Int)*KK+4294967296)=((v:Int)+1)*KK:=by rw[IntKind.wrap_u64];simp only[l];omega
 refine⟨_,(stepG_add_atomic rfl rfl (by k_ne) rfl H.f_addU64 (x_addU64_n L) (x_addU64_b L) (x_addU64_x L) .u64 (x_addU64_f L) rfl rfl j.cellSt (j.thaw 0)).trans (by rw[p];rfl),110,?_⟩
 replace b:WgLive L.tWg Wg (h.setCell (stA Wg) (.int .u64 (((v:Int)+1)*KK))):=⟨_,_,j.setSt _⟩
 clear j
 walk_nrm
 u_op c b
 u_c stepG_region_end c b
 u_c stepG_ret' c b
 u_leave1 H.f_uAdd c b
 u_op c b
 u_c stepG_region_end c b
 have r:bits .and .u64 (((v:Int)+1)*4294967296) 2147483648=0:=by
  have:=Go.ConcN.st_flag (v+1) 0 (by omega) (by omega)
  simpa using this
 have q:bits .and .u64 (((v:Int)+1)*4294967296) 2147483647=0:=by
  have:=Go.ConcN.st_waiters (v+1) 0 (by omega) (by omega)
  simpa using this
 have t:((v:Int)+1+2147483648) % 4294967296-2147483648=(v:Int)+1:=by omega
 have s:¬((v:Int)+1<0):=by omega
 have u:(0:Int)<(v:Int)+1:=by omega
 repeat (u_c stepG_seq c b)
 u_reg c b
 u_op c b
 u_op c b
 u_op c b
 u_op c b
 u_skip c b
 u_skip c b
 u_op c b
 u_c stepG_region_end c b
 repeat (u_c stepG_seq c b)
 u_cond false c b
 u_c stepG_skip c b
 repeat (u_c stepG_seq c b)
 u_reg c b
 u_op c b
 u_op c b
 u_op c b
 u_op c b
 u_c stepG_region_end c b
 repeat (u_c stepG_seq c b)
 u_reg c b
 u_op c b
 u_op c b
 u_op c b
 u_op c b
 u_c stepG_region_end c b
 by_cases k:(v:Int)+1=1
 ·repeat (u_c stepG_seq c b)
  u_reg c b
  u_op c b
  u_op c b
  u_op c b
  u_op c b
  u_op c b
  u_op c b
  u_op c b
  u_op c b
  u_op c b
  u_op c b
  u_c stepG_region_end c b
  repeat (u_c stepG_seq c b)
  u_cond true c b
  repeat (u_c stepG_seq c b)
  u_reg c b
  u_op c b
  u_op c b
  u_op c b
  u_conv H.underlying_tPU32 H.room_tU32 (Go.ConcN.Gen.WgLive.cell1 b).choose_spec c b
  refine Goes.stop (λn f=>.inl ?_)
  clear f;refine⟨rfl,_,⟨Wg,1,none⟩,rfl,λw=>stepG_markAt .read (by simp) rfl rfl (by k_ne) rfl H.f_raceRead (x_raceRead_n L) (x_raceRead_b L) (x_raceRead_x L) (x_raceRead_f L) (ad:=⟨Wg,1,none⟩) (by simp[Act.eval]),λw b=>⟨50,?_⟩⟩
  walk_nrm
  u_c stepG_region_end c b
  repeat (u_c stepG_seq c b)
  u_reg c b
  u_op c b
  u_op c b
  u_c stepG_region_end c b
  repeat (u_c stepG_seq c b)
  u_cond false c b
  u_c stepG_skip c b
  repeat (u_c stepG_seq c b)
  u_reg c b
  u_op c b
  u_op c b
  u_op c b
  u_skip c b
  u_skip c b
  u_op c b
  u_op c b
  u_skip c b
  u_skip c b
  u_skip c b
  u_skip c b
  u_op c b
  u_c stepG_region_end c b
  repeat (u_c stepG_seq c b)
  u_cond false c b
  u_c stepG_skip c b
  repeat (u_c stepG_seq c b)
  u_reg c b
  u_op c b
  u_op c b
  u_op c b
  u_skip c b
  u_skip c b
  u_op c b
  u_c stepG_region_end c b
  repeat (u_c stepG_seq c b)
  u_cond true c b
  u_c stepG_ret' c b
  refine Goes.stop (λi d=>?_)
  clear d;refine⟨rfl,_,λw=>stepG_unwind_entry (v:=.tuple #[]) (evs:=#[mk .enable]) rfl H.f_enable (x_enable_n L) (x_enable_b L) (x_enable_x L) (x_enable_f L) (by simp[Extern.Race.none_]) (by simp[mk]) (by simp[mk]),λw b=>⟨1,?_⟩⟩
  u_leave0 H.f_add c b
  exact Goes.stop λ_ _=>rfl
 ·have o:((v:Int)+1==1)=false:=by simpa using k
  repeat (u_c stepG_seq c b)
  u_reg c b
  u_op c b
  u_op c b
  u_op c b
  u_op c b
  u_op c b
  u_op c b
  u_op c b
  u_op c b
  u_op c b
  u_op c b
  u_c stepG_region_end c b
  repeat (u_c stepG_seq c b)
  u_cond false c b
  u_c stepG_skip c b
  repeat (u_c stepG_seq c b)
  u_reg c b
  u_op c b
  u_op c b
  u_c stepG_region_end c b
  repeat (u_c stepG_seq c b)
  u_cond false c b
  u_c stepG_skip c b
  repeat (u_c stepG_seq c b)
  u_reg c b
  u_op c b
  u_op c b
  u_op c b
  u_skip c b
  u_skip c b
  u_op c b
  u_op c b
  u_skip c b
  u_skip c b
  u_skip c b
  u_skip c b
  u_op c b
  u_c stepG_region_end c b
  repeat (u_c stepG_seq c b)
  u_cond false c b
  u_c stepG_skip c b
  repeat (u_c stepG_seq c b)
  u_reg c b
  u_op c b
  u_op c b
  u_op c b
  u_skip c b
  u_skip c b
  u_op c b
  u_c stepG_region_end c b
  repeat (u_c stepG_seq c b)
  u_cond true c b
  u_c stepG_ret' c b
  refine Goes.stop (λi d=>.inr ?_)
  clear d;refine⟨rfl,_,λw=>stepG_unwind_entry (v:=.tuple #[]) (evs:=#[mk .enable]) rfl H.f_enable (x_enable_n L) (x_enable_b L) (x_enable_x L) (x_enable_f L) (by simp[Extern.Race.none_]) (by simp[mk]) (by simp[mk]),λw b=>⟨1,?_⟩⟩
  u_leave0 H.f_add c b
  exact Goes.stop λ_ _=>rfl
end Go.AM
namespace Go.AM
open Go.Conc Go.RowKit Go.Conc.Lib Go.ConcR.Gen
open Go.ConcN (WgLive)
open Go.ConcR (KK WgAt stA smA rd wr mk DC0)
section
variable (P:Program)(R:World->World->Prop)(L:WgLink)(Wg:Nat)(a:Goroutine)(b:Goroutine->Prop)
def OW(g:Goroutine)(_:World):Prop:=g.status=.running/\∃ g',(∀ w,stepG P true g w=.go g' w #[mk (.acquire (stA Wg))])/\∀ w1,WgLive L.tWg Wg w1->∃ m,Goes P true R DC0 (λg _=>g=a) m g' w1
def Sp(g:Goroutine)(_:World):Prop:=g.status=.running/\∃ g',(∀ w,stepG P true g w=.go g' w #[mk .enable])/\∀ w1,WgLive L.tWg Wg w1->∃ m,Goes P true R DC0 (OW P R L Wg a) m g' w1
def US(g:Goroutine)(w:World):Prop:=g.status=.running/\(WgAt L.tWg Wg w 0 0->∃ g',stepG P true g w=.go g' w #[rd (stA Wg)]/\∃ m,Goes P true R DC0 (Sp P R L Wg a) m g' w)
def UT(g:Goroutine)(w:World):Prop:=g.status=.running/\g.offers=none/\((∃ st,WgAt L.tWg Wg w st 0)->stepG P true g w=.go { g with status:=.blocked } w #[]) /\
 (WgAt L.tWg Wg w 0 1->∃ g',stepG P true g w=.go g' (w.setCell (smA Wg) (.int .u32 0)) (semEvents (smA Wg))/\∃ m,Goes P true R DC0 (US P R L Wg a) m g' (w.setCell (smA Wg) (.int .u32 0)))
def UU(g:Goroutine)(_:World):Prop:=g.status=.running/\∃ g' ad,ad.block=Wg/\(∀ w,stepG P true g w=.go g' w #[mk (.write ad)])/\∀ w1,WgLive L.tWg Wg w1->∃ m,Goes P true R DC0 (UT P R L Wg a) m g' w1
def UW(vs:Nat)(g:Goroutine)(w:World):Prop:=g.status=.running/\∀ v:Nat,v<2147483648->WgAt L.tWg Wg w (v*KK) 0 ->
 (v=vs->∃ g',stepG P true g w=.go g' (w.setCell (stA Wg) (.int .u64 (v*KK+1))) #[rd (stA Wg),wr (stA Wg)]/\∃ m,Goes P true R DC0 (UU P R L Wg a) m g' (w.setCell (stA Wg) (.int .u64 (v*KK+1)))) /\
 (v≠vs->∃ g',stepG P true g w=.go g' w #[rd (stA Wg)]/\∃ m,Goes P true R DC0 (λg _=>b g) m g' w)
def Yz(g:Goroutine)(w:World):Prop:=g.status=.running/\∀ v:Nat,v<2147483648->WgAt L.tWg Wg w (v*KK) 0 ->
 ∃ g',stepG P true g w=.go g' w #[rd (stA Wg)]/\(v=0->∃ m,Goes P true R DC0 (Sp P R L Wg a) m g' w)/\(v≠0->∃ m,Goes P true R DC0 (UW P R L Wg a b v) m g' w)
def YA(g:Goroutine)(_:World):Prop:=g.status=.running/\∃ g',(∀ w,stepG P true g w=.go g' w #[mk .disable])/\∀ w1,WgLive L.tWg Wg w1->∃ m,Goes P true R DC0 (λg _=>b g) m g' w1
end
def Mf(L:WgLink)(Wg:Nat)(c:Frame)(cs:List Frame)(g:Goroutine):Prop :=
 ∃ T:Array Value,g=G ((base L.wait).at ⟨T,[]⟩ [.code (L7 L),.inLoop (L7 L),.inBlock 0]) (c::cs)/\T.size=84/\T[0]?=some (.pointer (some ⟨Wg,0,none⟩))
set_option maxRecDepth 100000 in
set_option maxHeartbeats 2000000 in
theorem Ar{L:WgLink}{P:Program}(H:WgLib P L){R:World->World->Prop}{Wg:Nat}(b:∀ {w w1},WgLive L.tWg Wg w->R w w1->WgLive L.tWg Wg w1){c:Frame}{cs:List Frame}(w:World)(a:WgLive L.tWg Wg w) :
  Goes P true R DC0 (YA P R L Wg (Mf L Wg c cs)) 6 (G ((base L.wait).at ⟨#[.pointer (some ⟨Wg,0,none⟩),undef,undef,undef,undef,undef,undef,undef,undef,undef,undef,undef,undef,undef,undef,undef,undef,undef,undef,undef,undef,undef,undef,undef,undef,undef,undef,undef,undef,undef,undef,undef,undef,undef,undef,undef,undef,undef,undef,undef,undef,undef,undef,undef,undef,undef,undef,undef,undef,undef,undef,undef,undef,undef,undef,undef,undef,undef,undef,undef,undef,undef,undef,undef,undef,undef,undef,undef,undef,undef,undef,undef,undef,undef,undef,undef,undef,undef,undef,undef,undef,undef,undef,undef],[]⟩ [.code (body_wait L)]) (c::cs)) w:=by
 lib_facts
 unfold Mf;simp only[L7,body_wait,waitFn,cK]
 repeat (u_c stepG_seq b a)
 u_cond true b a
 repeat (u_c stepG_seq b a)
 u_reg b a
 refine Goes.stop (λe d=>?_)
 clear d;refine⟨rfl,_,λw=>stepG_mark0 .disable (by simp) rfl rfl (by k_ne) rfl H.f_disable (x_disable_n L) (x_disable_b L) (x_disable_x L) (x_disable_f L),λw a=>⟨6,?_⟩⟩
 walk_nrm
 u_c stepG_region_end b a
 repeat (u_c stepG_seq b a)
 u_c stepG_block b a
 u_c stepG_loop b a
 exact Goes.stop λ_ _=>⟨_,rfl,rfl,rfl⟩
end Go.AM
namespace Go.AM
open Go.Conc Go.RowKit Go.Conc.Lib Go.ConcR.Gen
open Go.ConcN (WgLive)
open Go.ConcN.Gen
open Go.ConcR (KK WgAt stA smA rd wr mk DC0)
set_option maxRecDepth 100000 in
set_option maxHeartbeats 4000000 in
theorem Aq{L:WgLink}{P:Program}(H:WgLib P L){R:World->World->Prop}{Wg:Nat}(b:∀ {w w1},WgLive L.tWg Wg w->R w w1->WgLive L.tWg Wg w1){b₀:Frame}{a₀:Act}{ops₀:Array Oper}{i₀:Nat}{rest₀:List Nat}{k₀:List Item}{cs:List Frame}
  (g:Goroutine) (u:Mf L Wg (b₀.at a₀ (.inRegion ops₀ (i₀::rest₀)::k₀)) cs g) (w:World) (a:WgLive L.tWg Wg w) :
  ∃ m,Goes P true R DC0 (Yz P R L Wg (G (b₀.at (a₀.put ((ops₀[i₀]?).bind (·.dst)) (.tuple #[])) (.inRegion ops₀ rest₀::k₀)) cs) (Mf L Wg (b₀.at a₀ (.inRegion ops₀ (i₀::rest₀)::k₀)) cs)) m g w:=by
 lib_facts
 obtain⟨T,rfl,p,t⟩:=u;obtain⟨v0,v1,v2,v3,v4,v5,v6,v7,v8,v9,v10,v11,Y4,Y5,Y6,Y7,Y8,Y9,Za,z,v20,Zb,Q,Zc,Zd,Ze,Zf,Zg,D,Zh,v30,Y,Zi,x,M,Zj,A,Zk,Zl,Zm,Z,Zn,Zo,Zp,C,Zq,Zr,E,Zs,Zt,U,Zu,Zv,J,Zw,B,Zx,Zy,Zz,ZA,V,X,ZB,ZC,ZD,K,ZE,ZF,W,ZG,F,I,ZH,O,ZI,ZJ,ZK,ZL,ZM,ZN,ZO,ZP,N,y,rfl⟩:=array84 T p;simp only[il,l8,bO] at t;subst t;refine⟨30,?_⟩;unfold Mf;simp only[L7,body_wait,waitFn,cK]
 u_c stepG_block b a
 repeat (u_c stepG_seq b a)
 u_reg b a
 u_op b a
 u_op b a
 u_op b a
 u_call H.f_uLoad (nm_uLoad L) uLoadFn b a
 repeat (u_c stepG_seq b a)
 u_reg b a
 u_op b a
 u_c stepG_region_end b a
 repeat (u_c stepG_seq b a)
 u_reg b a
 u_op b a
 u_op b a
 u_op b a
 refine Goes.stop (λq j=>?_)
 replace a:=b a j
 clear j;refine⟨rfl,λv hv d=>?_⟩
 rcases iq v with rfl|ZQ
 ·replace d:WgAt L.tWg Wg q 0 0:=by simpa using d
  refine⟨_,stepG_load_atomic (v:=0) rfl rfl (by k_ne) rfl H.f_loadU64 (x_loadU64_n L) (x_loadU64_b L) (x_loadU64_x L) .u64 (x_loadU64_f L) rfl d.cellSt,λ_=>⟨80,?_⟩,λh=>absurd rfl h⟩
  clear d
  walk_nrm
  u_op b a
  u_c stepG_region_end b a
  u_c stepG_ret' b a
  u_leave1 H.f_uLoad b a
  u_op b a
  u_c stepG_region_end b a
  repeat (u_c stepG_seq b a)
  u_reg b a
  u_op b a
  u_op b a
  u_op b a
  u_op b a
  u_c stepG_region_end b a
  repeat (u_c stepG_seq b a)
  u_reg b a
  u_op b a
  u_op b a
  u_op b a
  u_op b a
  u_c stepG_region_end b a
  repeat (u_c stepG_seq b a)
  u_reg b a
  u_op b a
  u_op b a
  u_c stepG_region_end b a
  repeat (u_c stepG_seq b a)
  u_cond true b a
  repeat (u_c stepG_seq b a)
  u_cond true b a
  repeat (u_c stepG_seq b a)
  u_reg b a
  refine Goes.stop (λf c=>?_)
  clear c;refine⟨rfl,_,λw=>stepG_mark0 .enable (by simp) rfl rfl (by k_ne) rfl H.f_enable (x_enable_n L) (x_enable_b L) (x_enable_x L) (x_enable_f L),λw a=>⟨20,?_⟩⟩
  walk_nrm
  u_c stepG_region_end b a
  repeat (u_c stepG_seq b a)
  u_reg b a
  u_op b a
  u_conv H.underlying_tWgP H.room_tWg (Go.ConcN.Gen.WgLive.cell0 a).choose_spec b a
  refine Goes.stop (λf c=>?_)
  clear c;refine⟨rfl,_,λw=>stepG_markAt .acquire (by simp) rfl rfl (by k_ne) rfl H.f_acquire (x_acquire_n L) (x_acquire_b L) (x_acquire_x L) (x_acquire_f L) (by simp[Act.eval,stA]),λw a=>⟨40,?_⟩⟩
  walk_nrm
  u_c stepG_region_end b a
  repeat (u_c stepG_seq b a)
  u_reg b a
  u_op b a
  u_op b a
  u_op b a
  u_op b a
  u_op b a
  u_op b a
  u_op b a
  u_op b a
  u_skip b a
  u_skip b a
  u_op b a
  u_c stepG_region_end b a
  repeat (u_c stepG_seq b a)
  u_cond false b a
  u_c stepG_skip b a
  u_c stepG_ret' b a
  u_leave0 H.f_wait b a
  exact Goes.stop λ_ _=>rfl
 ·obtain⟨S,l⟩:∃ S:Int,(v:Int)*KK=S:=⟨_,rfl⟩;have a1:S / 4294967296=(v:Int):=by rw[<-l];simp only[KK];omega
  have b1:bits .and .u64 S 2147483648=0:=by rw[<-l];have:=Go.ConcN.st_flag v 0 (by omega) (by omega);simpa[KK] using this
  have b2:bits .and .u64 S 2147483647=0:=by rw[<-l];have:=Go.ConcN.st_waiters v 0 (by omega) (by omega);simpa[KK] using this
  have c1:IntKind.i32.wrap (v:Int)=(v:Int):=by rw[IntKind.wrap_i32];omega
  have w1:IntKind.u64.wrap (S+1)=S+1:=by rw[IntKind.wrap_u64,<-l];simp only[KK];omega
  have q3:decide ((v:Int)<0)=false:=fh (by omega)
  have q4:decide (0<(v:Int))=true:=bx (by omega)
  have q5:((v:Int)==0)=false:=by simp;omega
  have q6:decide ((v:Int)=0)=false:=fh (by omega)
  rw[l] at d;refine⟨_,stepG_load_atomic (v:=S) rfl rfl (by k_ne) rfl H.f_loadU64 (x_loadU64_n L) (x_loadU64_b L) (x_loadU64_x L) .u64 (x_loadU64_f L) rfl d.cellSt,λh0=>absurd h0 (by omega),λ_=>⟨80,?_⟩⟩
  clear d
  walk_nrm
  u_op b a
  u_c stepG_region_end b a
  u_c stepG_ret' b a
  u_leave1 H.f_uLoad b a
  u_op b a
  u_c stepG_region_end b a
  repeat (u_c stepG_seq b a)
  u_reg b a
  u_op b a
  u_op b a
  u_op b a
  u_op b a
  u_c stepG_region_end b a
  repeat (u_c stepG_seq b a)
  u_reg b a
  u_op b a
  u_op b a
  u_op b a
  u_op b a
  u_c stepG_region_end b a
  repeat (u_c stepG_seq b a)
  u_reg b a
  u_op b a
  u_op b a
  u_c stepG_region_end b a
  repeat (u_c stepG_seq b a)
  u_cnd false b a
  u_c stepG_skip b a
  repeat (u_c stepG_seq b a)
  u_reg b a
  u_op b a
  u_op b a
  u_op b a
  u_op b a
  u_op b a
  u_op b a
  u_call H.f_uCas (nm_uCas L) uCasFn b a
  repeat (u_c stepG_seq b a)
  u_reg b a
  u_op b a
  u_c stepG_region_end b a
  repeat (u_c stepG_seq b a)
  u_reg b a
  u_op b a
  u_op b a
  u_op b a
  u_op b a
  u_op b a
  refine Goes.stop (λf c=>?_)
  replace a:=b a c
  clear c;refine⟨rfl,λv' Qn d=>⟨λe=>?_,λe=>?_⟩⟩
  ·subst e;rw[l] at d ⊢;refine⟨_,(stepG_cas_hit (v:=S) (n:=S+1) rfl rfl (by k_ne) rfl H.f_casU64 (x_casU64_n L) (x_casU64_b L) (x_casU64_x L) .u64 (x_casU64_f L) rfl rfl rfl d.cellSt (d.thaw 0)).trans (by rfl),90,?_⟩
   replace a:WgLive L.tWg Wg (f.setCell (stA Wg) (.int .u64 (S+1))):=⟨_,_,d.setSt _⟩
   clear d
   walk_nrm
   u_op b a
   u_c stepG_region_end b a
   u_c stepG_ret' b a
   u_leave1 H.f_uCas b a
   u_c stepG_region_end b a
   repeat (u_c stepG_seq b a)
   u_cond true b a
   repeat (u_c stepG_seq b a)
   u_reg b a
   u_op b a
   u_op b a
   u_op b a
   u_op b a
   u_c stepG_region_end b a
   repeat (u_c stepG_seq b a)
   u_cond true b a
   repeat (u_c stepG_seq b a)
   u_reg b a
   u_op b a
   u_op b a
   u_op b a
   u_conv H.underlying_tPU32 H.room_tU32 (Go.ConcN.Gen.WgLive.cell1 a).choose_spec b a
   refine Goes.stop (λf c=>?_)
   clear c;refine⟨rfl,_,⟨Wg,1,none⟩,rfl,λw=>stepG_markAt .write (by simp) rfl rfl (by k_ne) rfl H.f_raceWrite (x_raceWrite_n L) (x_raceWrite_b L) (x_raceWrite_x L) (x_raceWrite_f L) (ad:=⟨Wg,1,none⟩) (by simp[Act.eval]),λw a=>⟨60,?_⟩⟩
   walk_nrm
   u_c stepG_region_end b a
   repeat (u_c stepG_seq b a)
   u_reg b a
   u_op b a
   u_c stepG_region_end b a
   repeat (u_c stepG_seq b a)
   u_reg b a
   u_op b a
   u_op b a
   u_op b a
   u_op b a
   u_skip b a
   u_op b a
   u_c stepG_region_end b a
   repeat (u_c stepG_seq b a)
   u_cond false b a
   u_c stepG_skip b a
   repeat (u_c stepG_seq b a)
   u_reg b a
   u_op b a
   u_op b a
   u_op b a
   u_op b a
   refine Goes.stop (λo i=>?_)
   replace a:=b a i
   clear i;refine⟨rfl,rfl,λ⟨st,d⟩=>stepG_semacquire_wait rfl rfl rfl H.f_semacquire (x_semacquire_n L) (x_semacquire_b L) (x_semacquire_x L) (x_semacquire_f L) (by simp[Act.eval,smA]) d.cellSm,λr=>?_⟩
   refine⟨_,(stepG_semacquire (n:=1) rfl rfl (by k_ne) rfl H.f_semacquire (x_semacquire_n L) (x_semacquire_b L) (x_semacquire_x L) (x_semacquire_f L) (by simp[Act.eval,smA]) r.cellSm (by k_ne) (r.thaw 1)).trans (by rfl),40,?_⟩
   replace a:WgLive L.tWg Wg (o.setCell (smA Wg) (.int .u32 0)):=⟨_,_,r.setSm 0⟩
   clear r
   walk_nrm
   u_c stepG_region_end b a
   repeat (u_c stepG_seq b a)
   u_reg b a
   u_op b a
   u_op b a
   u_op b a
   u_call H.f_uLoad (nm_uLoad L) uLoadFn b a
   repeat (u_c stepG_seq b a)
   u_reg b a
   u_op b a
   u_c stepG_region_end b a
   repeat (u_c stepG_seq b a)
   u_reg b a
   u_op b a
   u_op b a
   u_op b a
   refine Goes.stop (λs k=>?_)
   replace a:=b a k
   clear k;refine⟨rfl,λd=>⟨_,stepG_load_atomic (v:=0) rfl rfl (by k_ne) rfl H.f_loadU64 (x_loadU64_n L) (x_loadU64_b L) (x_loadU64_x L) .u64 (x_loadU64_f L) rfl d.cellSt,40,?_⟩⟩
   clear d
   walk_nrm
   u_op b a
   u_c stepG_region_end b a
   u_c stepG_ret' b a
   u_leave1 H.f_uLoad b a
   u_op b a
   u_op b a
   u_c stepG_region_end b a
   repeat (u_c stepG_seq b a)
   u_cond true b a
   repeat (u_c stepG_seq b a)
   u_reg b a
   refine Goes.stop (λf c=>?_)
   clear c;refine⟨rfl,_,λw=>stepG_mark0 .enable (by simp) rfl rfl (by k_ne) rfl H.f_enable (x_enable_n L) (x_enable_b L) (x_enable_x L) (x_enable_f L),λw a=>⟨20,?_⟩⟩
   walk_nrm
   u_c stepG_region_end b a
   repeat (u_c stepG_seq b a)
   u_reg b a
   u_op b a
   u_conv H.underlying_tWgP H.room_tWg (Go.ConcN.Gen.WgLive.cell0 a).choose_spec b a
   refine Goes.stop (λf c=>?_)
   clear c;refine⟨rfl,_,λw=>stepG_markAt .acquire (by simp) rfl rfl (by k_ne) rfl H.f_acquire (x_acquire_n L) (x_acquire_b L) (x_acquire_x L) (x_acquire_f L) (by simp[Act.eval,stA]),λw a=>⟨40,?_⟩⟩
   walk_nrm
   u_c stepG_region_end b a
   repeat (u_c stepG_seq b a)
   u_reg b a
   u_op b a
   u_c stepG_region_end b a
   repeat (u_c stepG_seq b a)
   u_cond false b a
   u_c stepG_skip b a
   u_c stepG_ret' b a
   u_leave0 H.f_wait b a
   exact Goes.stop λ_ _=>rfl
  ·refine⟨_,stepG_cas_miss (v:=(v':Int)*KK) (old:=S) (n:=S+1) rfl rfl (by k_ne) rfl H.f_casU64 (x_casU64_n L) (x_casU64_b L) (x_casU64_x L) .u64 (x_casU64_f L) rfl rfl rfl d.cellSt (d.thaw 0) (by rw[<-l];simp only[KK];omega),30,?_⟩
   clear d
   walk_nrm
   u_op b a
   u_c stepG_region_end b a
   u_c stepG_ret' b a
   u_leave1 H.f_uCas b a
   u_c stepG_region_end b a
   repeat (u_c stepG_seq b a)
   u_cond false b a
   u_c stepG_skip b a
   u_c stepG_inBlock b a
   u_c stepG_inLoop b a
   exact Goes.stop λ_ _=>⟨_,rfl,by simp,by simp⟩
end Go.AM
