/- Part 3. No condition. -/
import Derived.Test.YtnfgfnpbmbalmaaGreatDoorA2
import Derived.Sort.LotD5
import Derived.Sort.Walk13a
import Derived.Conc.Beside
import Derived.Conc.CrowdRun
import Derived.Conc.WgGenN2
import Derived.Conc.WgGenN3
set_option linter.all false
set_option maxHeartbeats 8000000
open Go renaming Value → ak
open Option renaming some → aa
open Go renaming Program → aq
open Go renaming TypeId → ar
open Bool renaming true → ab
open Go renaming Goroutine → au
open Go renaming Frame → aR
open Go renaming Oper → aw
open Go renaming FuncId → aW
open Go.Region renaming wanted → bj
open Go renaming execOp → ay
open Go renaming Operand → an
open Option renaming none → af
open Bool renaming false → ae
open Go renaming undef → aj
open Go.World renaming cell? → a9
open List renaming getD_eq_getElem?_getD → ai
open Go.Sem renaming events_bind → aO
open Go.Result renaming evThen_ok → aU
open Go renaming World → az
open Go renaming stepG → aK
open List renaming range → bh
open Go.MemAct renaming ofEvent → aM
open Nat renaming beq → aG
open Nat renaming ble → bo
open Go.Region renaming ready → bc
open Go.Proofs.Tryz renaming prog → ah
open Go.Conc renaming stepG_seq → aD
open Go.Conc renaming stepG_region_end → aA
namespace Go.AM.R1
section
open Go.Proofs
variable {X:Cx ah}
def ua{p:Bs}{i:Nat}(h:i<p.length):codeOf (p.take (i+1))=27*codeOf (p.take i)+(cB p i-97) % 256+1:=by
 unfold codeOf;rw[j7,br h];simp only[nJ,Option.toList_some,jk,List.foldl_nil,cB,ai,br h,fJ]
def jT{p:Bs}(h:bG p=ab){i:Nat}(hi:i<=p.length):0<=codeOf (p.take i)/\codeOf (p.take i)<282429536481:=by
 simp only[bG,bL,ba] at h;obtain⟨d,a⟩:=wE (p.take i) 0 1 0 (λb c=>iw h.2 b (iK c)) (by omega) (by omega) (by omega)
 have:=Qc (n:=(p.take i).length) (by rw[List.length_take];omega)
 rw[Int.one_mul] at a;exact⟨d,Int.lt_of_lt_of_le a this⟩
def wF{p:Bs}{i:Nat}(h:i<p.length):p.getD i 0∈p:=by
 grind
abbrev tb2:List (Nat×dk):=[(41,jZ aI (λk=>dB (ck k)) λ_=>[]),(218,jZ aS (λs=>dB (bG s)) λ_=>[])]
def oa:bD X tb2:=.cons t41 (.cons t218 .nil)
abbrev dNm(n:Int):D:=.eK [.one (.c (.int .i64 n)),.one (.c .nV)]
def KJ(k:Int)(p:Bs)(g:ck k=ab)(b:bG p=ab):Ev X 220 [dI k,dS p] [] (dNm (hO k p)) []:=by
 refine Ev.bQ Tryz.func220 rfl λr=>?_
 have a:=b;simp only[bG,bL,ba] at a;have c:=g;simp only[ck,bL,ba] at c;refine aC oa [(8,ae),(13,ae)] 100 rfl (by simp[ag,g,b]) ?_
 refine AK.wi (λi=>i<=p.length) (λi:Nat=>[(0,dI k),(1,dS p),(6,dI (codeOf (p.take i))),(19,dI p.length),(20,dI i)]) (λ_=>[]) (λi=>p.length-i) 0 rfl (by simp[ag.cat,ag,codeOf]) (by omega) rfl ?_
 intro i hi
 by_cases h:i<p.length
 .have f:=jT b hi;have q:=jT b (i:=i+1) (by omega)
  have e:=ua h;refine aX [(21,ab)] 100 rfl ?_ (AK.again (i+1) rfl ?_ ?_ ?_ rfl)
  .simp only[ag,cA,bx];simp[-ai,h,cA];have n:=iw a.2 (p.getD i 0) (wF h);have d:97<=cB p i/\cB p i<=122:=by unfold cB;omega
   omega
  .have n:=iw a.2 (p.getD i 0) (wF h);have d:97<=cB p i/\cB p i<=122:=by unfold cB;omega
   have o:(cB p i-97) % 256=cB p i-97:=Int.emod_eq_of_lt (by omega) (by omega)
   rw[o] at e;simp[-ai,ag.cat,ag,cA,e]
  .show i+1<=p.length;omega
  grind
 .have e:i=p.length:=by omega
  subst e;have f:=p6 b;refine aX [(21,ae)] 100 rfl (by simp[ag]) (AK.leave rfl rfl ?_)
  refine bk rfl ?_ (AK.bn rfl ?_)
  .rw[b7];have j:0<=codeOf p*(2*k+1):=Int.mul_nonneg f.1 (by omega)
   have l:codeOf p*(2*k+1)<=282429536481*199:=Int.mul_le_mul (by omega) (by omega) (by omega) (by omega)
   generalize codeOf p*(2*k+1)=m at j l;simp only[ag,bx];simp;omega
  .rw[b7];refine ag.cat.2 ⟨?_,ag.cat.2 ⟨rfl,av⟩⟩;show (_:Int)=_;rw[Int.mul_comm 7919 k];rfl
def t220:dM X 220 (p9 aI aS (λk p=>dNm (hO k p)) λk p=>[ck k=ab,bG p=ab]):=.tm λk p h=>KJ k p h.1 h.2
def RK{P:aq}{o:aw}{j:an->D}{σ:List aV}{op:BinOp}{t ty:ar}{x:an}(h:o.op=.binOp op t x (.const .nilIface) ty){c:Bool}{ms:Array (String×ar)}(m:P.underlying t=aa (.interface ms))
  (p:j x=.e (.one (.c .nV))) (n:j (.const .nilIface)=.e (.one (.c .nV)))
  (k:lr op ab=aa c):bH P o j σ (.e (.one (.c (.bool c)))) σ:=by
 refine .quiet λs ρ q l=>?_
 have f:=l x;have d:=l (.const .nilIface);rw[p] at f;rw[n] at d
 replace f:=fy f
 replace d:=fy d
 generalize a:ρ x=vx at f;generalize b:ρ (.const .nilIface)=vy at d;cases f;cases d;have i:(Op.equal t .nilIface .nilIface).run P s.w=.ok ab s.w:=by
  show (Op.equalIn (9999+1) t _ _).run P s.w=_;unfold Op.equalIn;simp[underlying,m]
 have g:∀ es,(Op.equal t .nilIface .nilIface).events P s.w es=es:=λes=>by
  show (Op.equalIn (9999+1) t _ _).events P s.w es=es;unfold Op.equalIn;simp[underlying,m]
 cases op <;> simp only[lr,reduceCtorEq,di] at k
 .subst k;exact⟨.bool ab,by simp[ay,h,a,b,eqGuard,binOp,i],Rd.bool,by simp[ay,h,a,b,eqGuard,binOp,i,g]⟩
 .subst k;exact⟨.bool ae,by simp[ay,h,a,b,eqGuard,binOp,i],Rd.bool,by simp[ay,h,a,b,eqGuard,binOp,i,g]⟩
def Hm(k:Int)(p:Bs) (n:Int)(a:ck k=ab)(b:bG p=ab):Ev X 192 [dI k,dS p,dI n] [] (dB (hO k p==n)) []:=by
 refine Ev.bQ Tryz.func192 rfl λc=>?_
 refine aC (bD.cons t220 .nil) [(17,ab)] 100 rfl ?_ ?_
 .simp[ag,a,b]
 refine AK.law (RK rfl Tryz.underlying196 rfl rfl rfl) rfl rfl ?_;refine aC (bD.cons t220 .nil) [(17,ab)] 100 rfl ?_ (AK.bn rfl ?_)
 .rfl
 .rfl
def t192:dM X 192 (Dw aI aS aI (λk p n=>dB (hO k p==n)) λk p _=>[ck k=ab,bG p=ab]):=.I8 λk p n h=>Hm k p n h.1 h.2
abbrev dQ(n:Int):D:=.e (.one (.c (.int .u64 n)))
def _root_.Go.AM.AW.Gd{P:aq}{X:Cx P}{N:Nat}{Q:Post}{φ:Fr}{σ:List aV}{x y:Code}(h:AW X N y Q φ σ):AW X N (.cond (.const (.bool ae)) x y) Q φ σ:=by
 intro s a f hh b k cs S hb hQ;refine .ctl hh rfl (λ_=>u4 (t:=ae) rfl) λg h1=>?_
 exact h g a (f.rely h1 hh) (hh.rely h1) b k cs S hb λe c σ' s' a' q i d st=>hQ e c σ' s' a' q i d (h1.stepW.trans st)
def _root_.Go.AM.AK.Gd{P:aq}{X:Cx P}{N:Nat}{Qf:Post}{K:List It}{φ:Fr}{σ:List aV}{x y:Code}(h:AK X N Qf (.code y::K) .normal φ σ):AK X N Qf (.code (.cond (.const (.bool ae)) x y)::K) .normal φ σ:=AW.Gd h
def Ky{P:aq}{o:aw}{p:an->D}{σ:List aV}{op:BinOp}{t ty:ar}{x y:an}{k n:IntKind}{a b:Int} (c:Int)(h:o.op=.binOp op t x y ty)
  (u:p x=.e (.one (.c (.int k a)))) (r:p y=.e (.one (.c (.int n b)))) (m:bx k c)
  (d:∀ w,(binOp op t (.int k a) (.int n b)).run P w=.ok (.int k c) w) (l:∀ w,(binOp op t (.int k a) (.int n b)).events P w #[]=#[]) :
  bH P o p σ (.e (.one (.c (.int k c)))) σ:=by
 refine .quiet λs ρ v q=>?_
 have i:=q x;have f:=q y;rw[u] at i;rw[r] at f
 replace i:=fy i
 replace f:=fy f
 generalize g:ρ x=vx at i;generalize j:ρ y=vy at f;cases i;cases f;exact⟨.int k c,by simp only[ay,h,bY,g,j,gA,b9,d,cY],.int m,by simp[ay,h,g,j,gA,jK,d,l]⟩
def Ew:Ev X 252 [dQ 1,dQ 2] [] (.eK [.one (.c (.int .u64 0)),.one (.c (.int .u64 2))]) []:=by
 refine Ev.bQ Tryz.func252 rfl λa=>?_
 refine dY rfl (by simp[ag,bx]) (AK.bn rfl ?_)
 simp[ag,ag.cat]
def Ex:Ev X 252 [dQ 1,dQ 3] [] (.eK [.one (.c (.int .u64 0)),.one (.c (.int .u64 3))]) []:=by
 refine Ev.bQ Tryz.func252 rfl λa=>?_
 refine dY rfl (by simp[ag,bx]) (AK.bn rfl ?_)
 simp[ag,ag.cat]
def UJ:dk:=λargs σ=>match args,σ with
 |[.e (.one (.c (.int .u64 1))),.e (.one (.c (.int .u64 c)))],[]=>aa (.eK [.one (.c (.int .u64 0)),.one (.c (.int .u64 c))],[],[c=2∨c=3])
 |_,_=>af
def t252:dM X 252 UJ:=by
 intro args σ res σ' obs h a;unfold UJ at h;split at h
 .cases h;rcases a with rfl|rfl
  .exact Ew
  .exact Ex
 .cases h
def RQ(c:Int)(a:c=2∨c=3):Ev X 246 [dQ 1,dQ c] [] (.eK [.one (.c (.int .u64 0)),.one (.c (.int .u64 c))]) []:=by
 refine Ev.bQ Tryz.func246 rfl λb=>?_
 refine aC (bD.cons t252 .nil) [] 100 rfl av ?_;refine AK.Gd ?_;refine aC (bD.cons t252 .nil) [] 100 rfl ?_ (AK.bn rfl ?_)
 .simp[ag,a]
 .simp[ag,ag.cat]
def RH:dk:=λargs σ=>match args,σ with
 |[.e (.one (.c (.int .u64 1))),.e (.one (.c (.int .u64 c)))],[]=>aa (.eK [.one (.c (.int .u64 0)),.one (.c (.int .u64 c))],[],[c=2∨c=3])
 |_,_=>af
def t246:dM X 246 RH:=by
 intro args σ res σ' obs h a;unfold RH at h;split at h
 .cases h;exact RQ _ a
 .cases h
end
section
open Go.Proofs
open Go.Sort (bitsLen)
variable {X:Cx ah}
def x9:List UInt8:=(bh 256).map λi=>UInt8.ofNat (bitsLen i)
def kz{x k:Nat}(h:x<2 ^ k):bitsLen x<=k:=by
 unfold bitsLen;split
 .omega
 .rename_i a
  have:=(Nat.log2_lt a).2 h;omega
def Pq{x:Nat}(h:x<256):(iS x9 x).toNat=bitsLen x:=by
 unfold iS x9;rw[bA,ai,nE,List.getElem?_range h];have:=kz (x:=x) (k:=8) h;simp only[j9,fJ];rw[UInt8.toNat_ofNat'];omega
def uw{n k:Nat}(h:2 ^ k<=n):bitsLen n=k+bitsLen (n / 2 ^ k):=by
 have a:0<2 ^ k:=Nat.two_pow_pos k;have d:0<n / 2 ^ k:=Nat.div_pos h a;unfold bitsLen;rw[aY (by omega),aY (by omega)]
 have e:Nat.log2 n=k+Nat.log2 (n / 2 ^ k):=by
  rw[Nat.log2_eq_iff (by omega)]
  have c:=Nat.log2_self_le (n:=n / 2 ^ k) (by omega)
  have b:=Nat.lt_log2_self (n:=n / 2 ^ k)
  constructor
  .rw[Nat.pow_add,nN];exact eL (et _ c) (Nat.div_mul_le_self n _)
  .rw[show k+Nat.log2 (n / 2 ^ k)+1=k+(Nat.log2 (n / 2 ^ k)+1) by omega,Nat.pow_add]
   have:=(Nat.div_lt_iff_lt_mul a).1 b
   rwa [nN] at this
 omega
set_option maxRecDepth 100000 in
def ML(n:Nat)(l:n<=4000000):Ev X 216 [dQ n] [] (dI (bitsLen n)) []:=by
 refine Ev.bQ Tryz.func216 rfl λj=>?_
 have fin:∀ {T:List UInt8} {x:Nat},T=x9->x<256->(iS T (x:Int)).toNat=bitsLen x:=λb i=>by rw[b];exact Pq i
 have d:∀ {T:List UInt8},T=x9->T.length=256:=λb=>by rw[b];rfl
 by_cases h:65536<=n
 .have c:((n:Int).toNat / 2 ^ Int.toNat 16)=n / 65536:=by simp
  have e:bitsLen n=16+bitsLen (n / 65536):=uw (n:=n) (k:=16) h;have f:=kz (x:=n / 65536) (k:=8) (by simp;omega)
  refine aX [(4,ae),(8,ab),(14,ae)] 200 rfl ?_ (AK.bn rfl ?_)
  .generalize b:(ByteArray.data _).toList=T;have a:T=x9:=by rw[<-b];decide +kernel
   simp only[ag,c,fin a (show n / 65536<256 by omega),d a,bx,ba,bM];and_intros <;> omega
  .generalize b:(ByteArray.data _).toList=T;have a:T=x9:=by rw[<-b];decide +kernel
   simp only[ag,ag.cat,c,fin a (show n / 65536<256 by omega),aF,aE]
   omega
 by_cases g:256<=n
 .have c:((n:Int).toNat / 2 ^ Int.toNat 8)=n / 256:=by simp
  have e:bitsLen n=8+bitsLen (n / 256):=uw (n:=n) (k:=8) g;have f:=kz (x:=n / 256) (k:=8) (by simp;omega)
  refine aX [(4,ae),(8,ae),(14,ab)] 200 rfl ?_ (AK.bn rfl ?_)
  .generalize b:(ByteArray.data _).toList=T;have a:T=x9:=by rw[<-b];decide +kernel
   simp only[ag,c,fin a (show n / 256<256 by omega),d a,bx,ba,bM];and_intros <;> omega
  .generalize b:(ByteArray.data _).toList=T;have a:T=x9:=by rw[<-b];decide +kernel
   simp only[ag,ag.cat,c,fin a (show n / 256<256 by omega),aF,aE]
   omega
 .have f:=kz (x:=n) (k:=8) (by simp;omega)
  refine aX [(4,ae),(8,ae),(14,ae)] 200 rfl ?_ (AK.bn rfl ?_)
  .generalize b:(ByteArray.data _).toList=T;have a:T=x9:=by rw[<-b];decide +kernel
   simp only[ag,fin a (show n<256 by omega),d a,bx,ba,bM];and_intros <;> omega
  .generalize b:(ByteArray.data _).toList=T;have a:T=x9:=by rw[<-b];decide +kernel
   simp only[ag,ag.cat,fin a (show n<256 by omega),aF,aE]
   omega
def MF(n:Nat)(a:n<=4000000):Ev X 190 [dQ n] [] (dI (bitsLen n)) []:=by
 refine Ev.bQ Tryz.func190 rfl λb=>?_
 refine dY rfl av ?_;refine AK.Gd ?_;refine dY rfl av ?_;refine AK.cQ (ML n a) [] rfl ?_;refine dY rfl av (AK.bn rfl ?_);simp[ag,ag.cat]
end
section
open Go.Proofs
open Go.Sort (swp bitsLen xorNextN xorNextN_lt xorNext xorNext_toNat breakStep breakPatterns)
variable {X:Cx ah}
abbrev bQ(r:Nat):aV:=.cells 269 [.c (.int .u64 r)]
def Pr(r:Nat):Ev X 230 [.e (.one (.ptr 0 0))] [bQ r] (dQ (xorNextN r)) [bQ (xorNextN r)]:=by
 refine Ev.bQ Tryz.func230 rfl λd=>?_
 have b:(2:Nat) ^ Int.toNat 13=8192:=by decide
 have c:(2:Nat) ^ Int.toNat 7=128:=by decide
 have a:(2:Nat) ^ Int.toNat 17=131072:=by decide
 refine dY rfl ?_ ?_
 .simp only[ag];omega
 refine AK.norm [bQ (xorNextN r)] rfl ?_ (AK.dJ [0] rfl ?_ rfl rfl rfl g7)
 .simp only[ag,ag.cat,xorNextN,bA,b,c,a,aE]
 .simp only[ag,ag.cat,xorNextN,bA,b,c,a]
theorem Ps(n:Nat)(a:n<=4000000):Ev X 229 [dI n] [] (dQ ((1 <<< bitsLen n:Nat):Int)) []:=by
 refine Ev.bQ Tryz.func229 rfl λb=>?_
 have l:=kz (x:=n) (k:=22) (by grind)
 refine dY rfl (by simp only[ag,bx];and_intros <;> omega) ?_
 refine AK.cQ (MF n a) [] rfl ?_;refine dY rfl ?_ (AK.bn rfl ?_)
 .simp only[ag];omega
 .have c:2 ^ bitsLen n<=2 ^ 22:=zt (by omega) l
  simp only[ag,ag.cat,Nat.shiftLeft_eq,bA]
  grind
def De{L:Nat}(h:0<L):1 <<< bitsLen L<=2*L:=by
 rw[Nat.shiftLeft_eq,Nat.one_mul];unfold bitsLen;rw[aY (by omega),Nat.pow_succ]
 grind [Nat.log2_self_le]
def MM(L:Nat):1<=1 <<< bitsLen L:=by
 rw[Nat.shiftLeft_eq,Nat.one_mul]
 grind
def Tv(a L M:Nat):Nat->Nat->UInt64×Array Int->UInt64×Array Int
 |0,_,st=>st
 |k+1,idx,st=>Tv a L M k (idx+1) (breakStep a L M st idx)
def tK{d:Array Int}{a L:Nat}(h:8<=L):breakPatterns d a (a+L)=(Tv a L (1 <<< bitsLen L) 3 (a+L / 4*2-1) (UInt64.ofNat L,d)).2:=by
 unfold breakPatterns;simp only[uO];rw[bd h];rfl
def Bb{a L M idx:Nat}{r:UInt64}{d:Array Int}:breakStep a L M (r,d) idx=(xorNext r,swp d idx (a+if (xorNextN r.toNat &&& (M-1))≥L then (xorNextN r.toNat &&& (M-1))-L else (xorNextN r.toNat &&& (M-1)))):=by
 unfold breakStep;simp only[xorNext_toNat]
abbrev Zi(n a L M:Nat)(k:Nat):Fr:=[(0,kF n),(1,dI a),(6,dI L),(7,.e (.one (.ptr 1 0))),(8,dQ M),(9,dI ((a+L / 4*2-1+(3-k):Nat):Int))]
def MD(n:Nat)(d:Array Int)(a b:Nat)(p:d.size=n)(v:a<=b)(z:b<=n)(y:n<=4000000) :
  Ev X 208 [kF n,dI a,dI b] [bI n d] (.eK []) [bI n (breakPatterns d a b)]:=by
 refine Ev.bQ Tryz.func208 rfl λC=>?_
 obtain⟨L,rfl⟩:∃ L,b=a+L:=⟨b-a,by omega⟩
 by_cases w:8<=L
 .rw[tK w];have B:=De (L:=L) (by omega)
  have t:=MM L;have m:(UInt64.ofNat L).toNat=L:=by grind [UInt64.toNat_ofNat']
  refine aX [(15,ab)] 200 rfl ?_ ?_
  .simp only[ag,bx,ba,aF,aE];and_intros <;> omega
  have key:∀ x:Int,x=(L:Int)->Ev X 229 [dI x] [] (dQ ((1 <<< bitsLen L:Nat):Int)) []:=by
   grind [Ps]
  refine AK.cQ (key _ (by omega)) [] rfl ?_
  refine dY rfl ?_ ?_
  .simp only[ag,bx,ba,aF,aE];and_intros <;> omega
  generalize u:1 <<< bitsLen L=M at *;refine AK.bP 2 (λs:Nat×UInt64×Array Int=>s.2.2.size=n/\s.1<=3/\(Tv a L M s.1 (a+L / 4*2-1+(3-s.1)) s.2).2=(Tv a L M 3 (a+L / 4*2-1) (UInt64.ofNat L,d)).2) (λs=>Zi n a L M s.1) (λs=>[bI n s.2.2,bQ s.2.1.toNat]) (λs=>s.1) (3,UInt64.ofNat L,d) rfl ?_ rfl ?_ rfl ⟨p,bg _,rfl⟩ ?_
  .simp only[ag.cat,ag,aF,aE];and_intros <;> omega
  .simp only[ag.cat,ag,aP,m,aF,aE]
   grind
  rintro⟨k,r,d1⟩ ⟨l,q,c⟩;simp only at l q c;cases k with
  |zero =>
   rw[<-c];refine aX [(33,ae)] 200 rfl ?_ (AK.leaveD rfl rfl ?_)
   .simp only[ag,bx,bM,aF,aE];and_intros <;> omega
   exact b6.tj [0] rfl av rfl rfl rfl g7
  |succ k =>
   have A:xorNextN r.toNat<18446744073709551616:=xorNextN_lt _ (UInt64.toNat_lt r);have o:xorNextN r.toNat &&& (M-1)<=M-1:=Nat.and_le_right;have i:((M:Int)-1).toNat=M-1:=by omega
   refine aX [(33,ab)] 200 rfl ?_ ?_
   .simp only[ag,bx,ba,aF,aE];and_intros <;> omega
   refine AK.cQ (Pr r.toNat) [1] rfl ?_;have f:=Bb (a:=a) (L:=L) (M:=M) (idx:=a+L / 4*2-1+(3-(k+1))) (r:=r) (d:=d1);generalize j:xorNextN r.toNat &&& (M-1)=O at *
   by_cases g:L<=O
   .rw[bd g] at f;have h:((a:Int)+((O:Int)-(L:Int))).toNat=a+(O-L):=by omega
    refine aX [(43,ab)] 200 rfl ?_ (AK.aQ (k,xorNext r,swp d1 (a+L / 4*2-1+(3-(k+1))) (a+(O-L))) rfl ?_ ?_ ?_ ?_)
    .simp only[ag,bt,bA,i,j,h,bx,ba,aF,aE];and_intros <;> omega
    .simp only[ag.cat,ag,aF,aE];omega
    .simp only[ag.cat,ag,bt,bA,i,j,h,xorNext_toNat,aE,aF];exact hI l (by omega) (by omega) (λ_ _=>rfl)
    .refine⟨by grind [size_swp],by grind,?_⟩
     rw[<-c,Tv,f,show a+L / 4*2-1+(3-(k+1))+1=a+L / 4*2-1+(3-k) by omega]
    .simp
   .rw[aY g] at f;have h:((a:Int)+(O:Int)).toNat=a+O:=by omega
    refine aX [(43,ae)] 200 rfl ?_ (AK.aQ (k,xorNext r,swp d1 (a+L / 4*2-1+(3-(k+1))) (a+O)) rfl ?_ ?_ ?_ ?_)
    .simp only[ag,bt,bA,i,j,h,bx,bM,aF,aE];and_intros <;> omega
    .simp only[ag.cat,ag,aF,aE];omega
    .simp only[ag.cat,ag,bt,bA,i,j,h,xorNext_toNat,aE,aF];exact hI l (by omega) (by omega) (λ_ _=>rfl)
    .refine⟨by grind [size_swp],by grind,?_⟩
     rw[<-c,Tv,f,show a+L / 4*2-1+(3-(k+1))+1=a+L / 4*2-1+(3-k) by omega]
    .simp
 .have e:breakPatterns d a (a+L)=d:=by unfold breakPatterns;grind
  rw[e];refine aX [(15,ae)] 200 rfl ?_ ?_
  .simp only[ag,bx,bM,aF,aE];and_intros <;> omega
  exact b6.tj [0] rfl av rfl rfl rfl g7
end
section
open Go.Proofs
open Go.Sort (swp scanUp scanDown partLoop partEqLoop partition partitionEqual ltInt)
variable {X:Cx ah}
theorem mL{p:Int->Bool}{d:Array Int}{j i:Nat}(h:i<=j)(a:p d[i]! = ab):scanUp p d j i=scanUp p d j (i+1):=by
 rw[scanUp.eq_1 p d j i,bd (by grind)]
theorem gB{p:Int->Bool}{d:Array Int}{j i:Nat}(h:i<=j->p d[i]! = ae):scanUp p d j i=i:=by
 rw[scanUp,aY]
 grind
theorem kI{p:Int->Bool}{d:Array Int}{j i:Nat}(b:1<=j)(h:i<=j)(c:p d[j]! = ab):scanDown p d i j=scanDown p d i (j-1):=by
 obtain⟨j,rfl⟩:∃ a,j=a+1:=⟨j-1,by omega⟩
 rw[scanDown,bd (by grind),pF]
theorem fp{p:Int->Bool}{d:Array Int}{j i:Nat}(h:i<=j->p d[j]! = ae):scanDown p d i j=j:=by
 cases j with
 |zero=>rfl
 |succ j =>
  rw[scanDown,aY]
  grind
def nC{p:Int->Bool}{d:Array Int}{j:Nat}:∀ (m i:Nat),j+1-i<=m->i<=scanUp p d j i/\(scanUp p d j i<=j+1∨scanUp p d j i=i):=by
 intro m
 induction m with
 |zero=>intro i h;rw[gB (λa=>by omega)];omega
 |succ m b =>
  intro i h
  by_cases c:i<=j
  .cases a:p d[i]! with
   |true=>grind [mL]
   |false=>grind [gB]
  grind
def kW{p:Int->Bool}{d:Array Int}{i:Nat}:∀ j:Nat,scanDown p d i j<=j/\(i<=scanDown p d i j+1∨scanDown p d i j=j):=by
 intro j
 induction j with
 |zero=>rw[show scanDown p d i 0=0 from rfl];omega
 |succ j c =>
  by_cases b:i<=j+1
  .cases a:p d[j+1]! with
   |true=>grind [kI]
   |false=>grind [fp]
  grind [fp]
def partLoop_eq{a i j:Nat}{d:Array Int}{i2 j2:Nat}(f:1<=i)(hi:i2=scanUp (λx=>ltInt x d[a]!) d j i)(b:j2=scanDown (λx=>!ltInt x d[a]!) d i2 j) :
  partLoop ltInt a i j d=if i2>j2 then (j2,d) else partLoop ltInt a (i2+1) (j2-1) (swp d i2 j2):=by
 have c:=nC (p:=λx=>ltInt x d[a]!) (d:=d) (j:=j) (j+1-i) i (bg _)
 have e:=kW (p:=λx=>!ltInt x d[a]!) (d:=d) (i:=i2) j
 rw[<-hi] at c;rw[<-b] at e;rw[partLoop.eq_1,<-hi,<-b]
 grind
def Df{d c:Array Int}{a b v i j:Nat}(e:c=swp d a v)(hi:i=scanUp (λx=>ltInt x c[a]!) c (b-1) (a+1))(f:j=scanDown (λx=>!ltInt x c[a]!) c i (b-1))(h:i>j):partition ltInt d a b v=(j,ab,swp c j a):=by
 unfold partition
 grind
def Dg{d c:Array Int}{a b v i j:Nat}(f:c=swp d a v)(hi:i=scanUp (λx=>ltInt x c[a]!) c (b-1) (a+1))(g:j=scanDown (λx=>!ltInt x c[a]!) c i (b-1))(h:¬i>j){r:Nat×Array Int}(e:partLoop ltInt a (i+1) (j-1) (swp c i j)=r):partition ltInt d a b v=(r.1,ae,swp r.2 r.1 a):=by
 subst e;unfold partition
 grind
def Pn(n:Nat)(d:Array Int)(a b v:Nat)(Q:d.size=n)(T:a<b)(W:b<=n)(Z:v<n)(V:n<=4000000) :
  Ev X 214 [kF n,dI a,dI b,dI v] [bI n d] (.eK [.one (.c (.int .i64 (partition ltInt d a b v).1)),.one (.c (.bool (partition ltInt d a b v).2.1))]) [bI n (partition ltInt d a b v).2.2]:=by
 have h:bD X [(212,uv)]:=.cons xo .nil;refine Ev.bQ Tryz.func214 rfl λY=>?_
 refine aC h [(1000002,ab)] 200 rfl ?_ ?_
 .simp only[ag,bt,bA,bx,aF,aE];and_intros <;> omega
 refine AK.norm [bI n (swp d a v)] rfl ?_ ?_
 .simp only[ag.cat,ag,bt,bA,aE,aF];exact hI Q (by omega) (by omega) (λ_ _=>rfl)
 have o:(swp d a v).size=n:=by grind [size_swp]
 obtain⟨f,M⟩:∃ f,f=swp d a v:=⟨_,rfl⟩;rw[<-M] at o ⊢;refine aC h [] 200 rfl ?_ ?_
 .simp only[ag,bx];and_intros <;> omega
 refine AK.kQ (S2:=Unit) 0 rfl rfl (λ_=>True) (λ_=>[(0,kF n),(1,dI a),(10,dI ((scanUp (λx=>ltInt x f[a]!) f (b-1) (a+1)):Nat)),(11,dI (b-1:Nat))]) (λ_=>[bI n f]) 1 (λk:Nat=>a+1<=k/\k<=n+1/\scanUp (λx=>ltInt x f[a]!) f (b-1) k=scanUp (λx=>ltInt x f[a]!) f (b-1) (a+1)) (λk=>[(0,kF n),(1,dI a),(10,dI (k:Nat)),(11,dI (b-1:Nat))]) (λ_=>[bI n f]) (λk=>b-1+1-k) (a+1) rfl ?_ rfl ?_ rfl ⟨bg _,by omega,rfl⟩ ?_ ?_
 .simp[ag.cat,ag,aP] <;> omega
 .simp[ag.cat,ag,aP]
 .rintro out k ⟨u,y,t⟩
  by_cases w:k<=b-1
  .by_cases L:(λx=>ltInt x f[a]!) f[k]! = ab
   .have g:ltInt f[k]! f[a]! = ab:=by grind
    refine aC h [(32,ab),(42,ab)] 200 rfl ?_ (AK.aQ (k+1) rfl ?_ ?_ ?_ ?_)
    .simp only[ag,bt,bA,g,bx,ba,aF,aE];and_intros <;> omega
    .simp only[ag.cat,ag,aF,aE];omega
    .simp[ag.cat,ag,aP]
    .grind [mL]
    .omega
   .have g:ltInt f[k]! f[a]! = ae:=by grind
    refine aC h [(32,ab),(42,ae)] 200 rfl ?_ (AK.leaveD rfl rfl ?_)
    .simp only[ag,bt,bA,g,bx,ba,aF,aE];and_intros <;> omega
    have e:scanUp (λx=>ltInt x f[a]!) f (b-1) (a+1)=k:=by grind [gB]
    exact out () av rfl (by simp only[ag.cat,ag,e,aF,aE]) rfl (by simp[ag.cat,ag,aP])
  .refine aC h [(32,ae)] 200 rfl ?_ (AK.leaveD rfl rfl ?_)
   .simp only[ag,bx,bM,aF,aE];omega
   have e:scanUp (λx=>ltInt x f[a]!) f (b-1) (a+1)=k:=by grind [gB]
   exact out () av rfl (by simp only[ag.cat,ag,e,aF,aE]) rfl (by simp[ag.cat,ag,aP])
 rintro⟨⟩ -;have R:=nC (p:=λx=>ltInt x f[a]!) (d:=f) (j:=b-1) (b-1+1-(a+1)) (a+1) (bg _)
 obtain⟨i,hi⟩:∃ i,i=scanUp (λx=>ltInt x f[a]!) f (b-1) (a+1):=⟨_,rfl⟩
 rw[<-hi] at R ⊢;refine aC h [] 200 rfl av ?_;refine AK.kQ (S2:=Unit) 2 rfl rfl (λ_=>True) (λ_=>[(0,kF n),(1,dI a),(10,dI (i:Nat)),(11,dI ((scanDown (λx=>!ltInt x f[a]!) f (i) (b-1)):Nat))]) (λ_=>[bI n f]) 1 (λk:Nat=>k<=b-1/\k<=n/\scanDown (λx=>!ltInt x f[a]!) f (i) k=scanDown (λx=>!ltInt x f[a]!) f (i) (b-1)) (λk=>[(0,kF n),(1,dI a),(10,dI (i:Nat)),(11,dI (k:Nat))]) (λ_=>[bI n f]) (λk=>k) (b-1) rfl ?_ rfl ?_ rfl ⟨bg _,by omega,rfl⟩ ?_ ?_
 .simp[ag.cat,ag,aP] <;> omega
 .simp[ag.cat,ag,aP]
 .rintro out k ⟨u,y,t⟩
  by_cases w:i<=k
  .by_cases L:(λx=>!ltInt x f[a]!) f[k]! = ab
   .have g:ltInt f[k]! f[a]! = ae:=by grind
    refine aC h [(48,ab),(58,ae)] 200 rfl ?_ (AK.aQ (k-1) rfl ?_ ?_ ?_ ?_)
    .simp only[ag,bt,bA,g,bx,ba,aF,aE];and_intros <;> omega
    .simp only[ag.cat,ag,aF,aE];omega
    .simp[ag.cat,ag,aP]
    .exact⟨by omega,by omega,by grind [kI]⟩
    .omega
   .have g:ltInt f[k]! f[a]! = ab:=by grind
    refine aC h [(48,ab),(58,ab)] 200 rfl ?_ (AK.leaveD rfl rfl ?_)
    .simp only[ag,bt,bA,g,bx,ba,aF,aE];and_intros <;> omega
    have e:scanDown (λx=>!ltInt x f[a]!) f (i) (b-1)=k:=by grind [fp]
    exact out () av rfl (by simp only[ag.cat,ag,e,aF,aE]) rfl (by simp[ag.cat,ag,aP])
  .refine aC h [(48,ae)] 200 rfl ?_ (AK.leaveD rfl rfl ?_)
   .simp only[ag,bx,bM,aF,aE];omega
   have e:scanDown (λx=>!ltInt x f[a]!) f (i) (b-1)=k:=by grind [fp]
   exact out () av rfl (by simp only[ag.cat,ag,e,aF,aE]) rfl (by simp[ag.cat,ag,aP])
 rintro⟨⟩ -;have U:=kW (p:=λx=>!ltInt x f[a]!) (d:=f) (i:=i) (b-1)
 obtain⟨j,O⟩:∃ j,j=scanDown (λx=>!ltInt x f[a]!) f i (b-1):=⟨_,rfl⟩
 rw[<-O] at U ⊢
 by_cases J:j<i
 .rw[Df M hi O J];refine aC h [(65,ab),(1000009,ab)] 200 rfl ?_ ?_
  .simp only[ag,bt,bA,bx,ba,aF,aE];and_intros <;> omega
  refine AK.norm [bI n (swp f j a)] rfl ?_ ?_
  .simp only[ag.cat,ag,bt,bA,aE,aF];exact hI o (by omega) (by omega) (λ_ _=>rfl)
  refine aC h [] 200 rfl av (AK.dJ [0] rfl ?_ rfl rfl rfl g7);simp[ag.cat,ag]
 refine aC h [(65,ae),(1000011,ab)] 200 rfl ?_ ?_
 .simp only[ag,bt,bA,bx,bM,aF,aE];and_intros <;> omega
 refine AK.norm [bI n (swp f i j)] rfl ?_ ?_
 .simp only[ag.cat,ag,bt,bA,aE,aF];exact hI o (by omega) (by omega) (λ_ _=>rfl)
 refine aC h [] 200 rfl ?_ ?_
 .simp only[ag,bx];and_intros <;> omega
 have G:(swp f i j).size=n:=by grind [size_swp]
 obtain⟨r,K⟩:∃ r,partLoop ltInt a (i+1) (j-1) (swp f i j)=r:=⟨_,rfl⟩;rw[Dg M hi O (by omega) K]
 obtain⟨d1,P⟩:∃ d1,d1=swp f i j:=⟨_,rfl⟩;rw[<-P] at G K ⊢;refine AK.kQ (S2:=Unit) 4 rfl rfl (λ_=>r.1<n/\r.2.size=n) (λ_=>[(0,kF n),(1,dI a),(11,dI r.1)]) (λ_=>[bI n r.2]) 1 (λs:Nat×Nat×Array Int=>s.2.2.size=n/\a+1<=s.1/\s.1<=n+1/\s.2.1<n/\partLoop ltInt a s.1 s.2.1 s.2.2=r) (λs=>[(0,kF n),(1,dI a),(10,dI s.1),(11,dI s.2.1)]) (λs=>[bI n s.2.2]) (λs=>s.2.1+1-s.1) (i+1,j-1,d1) rfl ?_ rfl ?_ rfl ⟨G,by grind,by grind,by grind,K⟩ ?_ ?_
 .simp only[ag.cat,ag,aF,aE];and_intros <;> omega
 .simp[ag.cat,ag,aP]
 .rintro A ⟨i3,l,d2⟩ ⟨C,N,D,I,m⟩;simp only at C N D I m;refine aC h [] 200 rfl av ?_;refine AK.kQ (S2:=Unit) 6 rfl rfl (λ_=>True) (λ_=>[(0,kF n),(1,dI a),(10,dI ((scanUp (λx=>ltInt x d2[a]!) d2 (l) (i3)):Nat)),(11,dI (l:Nat))]) (λ_=>[bI n d2]) 1 (λk:Nat=>i3<=k/\k<=n+1/\scanUp (λx=>ltInt x d2[a]!) d2 (l) k=scanUp (λx=>ltInt x d2[a]!) d2 (l) (i3)) (λk=>[(0,kF n),(1,dI a),(10,dI (k:Nat)),(11,dI (l:Nat))]) (λ_=>[bI n d2]) (λk=>l+1-k) (i3) rfl ?_ rfl ?_ rfl ⟨bg _,by omega,rfl⟩ ?_ ?_
  .simp[ag.cat,ag,aP] <;> omega
  .simp[ag.cat,ag,aP]
  .rintro out k ⟨u,y,t⟩
   by_cases w:k<=l
   .by_cases L:(λx=>ltInt x d2[a]!) d2[k]! = ab
    .have g:ltInt d2[k]! d2[a]! = ab:=by grind
     refine aC h [(101,ab),(111,ab)] 200 rfl ?_ (AK.aQ (k+1) rfl ?_ ?_ ?_ ?_)
     .simp only[ag,bt,bA,g,bx,ba,aF,aE];and_intros <;> omega
     .simp only[ag.cat,ag,aF,aE];omega
     .simp[ag.cat,ag,aP]
     .grind [mL]
     .omega
    .have g:ltInt d2[k]! d2[a]! = ae:=by grind
     refine aC h [(101,ab),(111,ae)] 200 rfl ?_ (AK.leaveD rfl rfl ?_)
     .simp only[ag,bt,bA,g,bx,ba,aF,aE];and_intros <;> omega
     have e:scanUp (λx=>ltInt x d2[a]!) d2 (l) (i3)=k:=by grind [gB]
     exact out () av rfl (by simp only[ag.cat,ag,e,aF,aE]) rfl (by simp[ag.cat,ag,aP])
   .refine aC h [(101,ae)] 200 rfl ?_ (AK.leaveD rfl rfl ?_)
    .simp only[ag,bx,bM,aF,aE];omega
    have e:scanUp (λx=>ltInt x d2[a]!) d2 (l) (i3)=k:=by grind [gB]
    exact out () av rfl (by simp only[ag.cat,ag,e,aF,aE]) rfl (by simp[ag.cat,ag,aP])
  rintro⟨⟩ -;have c1:=nC (p:=λx=>ltInt x d2[a]!) (d:=d2) (j:=l) (l+1-i3) i3 (bg _)
  obtain⟨i4,B⟩:∃ i4,i4=scanUp (λx=>ltInt x d2[a]!) d2 l i3:=⟨_,rfl⟩
  rw[<-B] at c1 ⊢;refine aC h [] 200 rfl av ?_;refine AK.kQ (S2:=Unit) 8 rfl rfl (λ_=>True) (λ_=>[(0,kF n),(1,dI a),(10,dI (i4:Nat)),(11,dI ((scanDown (λx=>!ltInt x d2[a]!) d2 (i4) (l)):Nat))]) (λ_=>[bI n d2]) 1 (λk:Nat=>k<=l/\k<=n/\scanDown (λx=>!ltInt x d2[a]!) d2 (i4) k=scanDown (λx=>!ltInt x d2[a]!) d2 (i4) (l)) (λk=>[(0,kF n),(1,dI a),(10,dI (i4:Nat)),(11,dI (k:Nat))]) (λ_=>[bI n d2]) (λk=>k) (l) rfl ?_ rfl ?_ rfl ⟨bg _,by omega,rfl⟩ ?_ ?_
  .simp[ag.cat,ag,aP] <;> omega
  .simp[ag.cat,ag,aP]
  .rintro out k ⟨u,y,t⟩
   by_cases w:i4<=k
   .by_cases L:(λx=>!ltInt x d2[a]!) d2[k]! = ab
    .have g:ltInt d2[k]! d2[a]! = ae:=by grind
     refine aC h [(117,ab),(127,ae)] 200 rfl ?_ (AK.aQ (k-1) rfl ?_ ?_ ?_ ?_)
     .simp only[ag,bt,bA,g,bx,ba,aF,aE];and_intros <;> omega
     .simp only[ag.cat,ag,aF,aE];omega
     .simp[ag.cat,ag,aP]
     .exact⟨by omega,by omega,by grind [kI]⟩
     .omega
    .have g:ltInt d2[k]! d2[a]! = ab:=by grind
     refine aC h [(117,ab),(127,ab)] 200 rfl ?_ (AK.leaveD rfl rfl ?_)
     .simp only[ag,bt,bA,g,bx,ba,aF,aE];and_intros <;> omega
     have e:scanDown (λx=>!ltInt x d2[a]!) d2 (i4) (l)=k:=by grind [fp]
     exact out () av rfl (by simp only[ag.cat,ag,e,aF,aE]) rfl (by simp[ag.cat,ag,aP])
   .refine aC h [(117,ae)] 200 rfl ?_ (AK.leaveD rfl rfl ?_)
    .simp only[ag,bx,bM,aF,aE];omega
    have e:scanDown (λx=>!ltInt x d2[a]!) d2 (i4) (l)=k:=by grind [fp]
    exact out () av rfl (by simp only[ag.cat,ag,e,aF,aE]) rfl (by simp[ag.cat,ag,aP])
  rintro⟨⟩ -;have c2:=kW (p:=λx=>!ltInt x d2[a]!) (d:=d2) (i:=i4) l
  obtain⟨z,E⟩:∃ z,z=scanDown (λx=>!ltInt x d2[a]!) d2 i4 l:=⟨_,rfl⟩
  rw[<-E] at c2 ⊢;have q:=partLoop_eq (by omega) B E
  by_cases F:z<i4
  .have e:=q;rw[m,bd F] at e;refine aC h [(134,ab)] 200 rfl ?_ (AK.leaveD rfl rfl ?_)
   .simp only[ag,bx,ba];omega
   exact A () (by grind) rfl (by simp only[ag.cat,ag,e,aF,aE]) rfl (by simp[ag.cat,ag,aP,e])
  .have e:=q;rw[m,aY (by omega)] at e
   refine aC h [(134,ae),(1000019,ab)] 200 rfl ?_ ?_
   .simp only[ag,bt,bA,bx,bM,aF,aE];and_intros <;> omega
   refine AK.norm [bI n (swp d2 i4 z)] rfl ?_ ?_
   .simp only[ag.cat,ag,bt,bA,aE,aF];exact hI C (by omega) (by omega) (λ_ _=>rfl)
   refine aC h [] 200 rfl ?_ (AK.aQ (i4+1,z-1,swp d2 i4 z) rfl ?_ ?_ ?_ ?_)
   .simp only[ag,bx];and_intros <;> omega
   .simp only[ag.cat,ag,aF,aE];and_intros <;> omega
   .simp[ag.cat,ag,aP]
   .grind [size_swp]
   grind
 rintro⟨⟩ ⟨S,H⟩;refine aC h [(1000022,ab)] 200 rfl ?_ ?_
 .simp only[ag,bt,bA,bx,aF,aE];and_intros <;> omega
 refine AK.norm [bI n (swp r.2 r.1 a)] rfl ?_ ?_
 .simp only[ag.cat,ag,bt,bA,aE,aF];exact hI H (by omega) (by omega) (λ_ _=>rfl)
 refine aC h [] 200 rfl av (AK.dJ [0] rfl ?_ rfl rfl rfl g7);simp[ag.cat,ag]
def partEqLoop_eq{a i j:Nat}{d:Array Int}{i2 j2:Nat}(f:1<=i)(hi:i2=scanUp (λx=>!ltInt d[a]! x) d j i)(b:j2=scanDown (λx=>ltInt d[a]! x) d i2 j) :
  partEqLoop ltInt a i j d=if i2>j2 then (i2,d) else partEqLoop ltInt a (i2+1) (j2-1) (swp d i2 j2):=by
 have c:=nC (p:=λx=>!ltInt d[a]! x) (d:=d) (j:=j) (j+1-i) i (bg _)
 have e:=kW (p:=λx=>ltInt d[a]! x) (d:=d) (i:=i2) j
 rw[<-hi] at c;rw[<-b] at e;rw[partEqLoop.eq_1,<-hi,<-b]
 grind
def IC(n:Nat)(d:Array Int)(a b v:Nat)(H:d.size=n)(K:a<b)(N:b<=n)(P:v<n)(M:n<=4000000) :
  Ev X 213 [kF n,dI a,dI b,dI v] [bI n d] (dI (partitionEqual ltInt d a b v).1) [bI n (partitionEqual ltInt d a b v).2]:=by
 have g:bD X [(212,uv)]:=.cons xo .nil;refine Ev.bQ Tryz.func213 rfl λO=>?_
 refine aC g [(1000002,ab)] 200 rfl ?_ ?_
 .simp only[ag,bt,bA,bx,aF,aE];and_intros <;> omega
 refine AK.norm [bI n (swp d a v)] rfl ?_ ?_
 .simp only[ag.cat,ag,bt,bA,aE,aF];exact hI H (by omega) (by omega) (λ_ _=>rfl)
 have E:(swp d a v).size=n:=by grind [size_swp]
 unfold partitionEqual;generalize swp d a v=d1 at *;obtain⟨r,G⟩:∃ r,partEqLoop ltInt a (a+1) (b-1) d1=r:=⟨_,rfl⟩;rw[G];refine aC g [] 200 rfl ?_ ?_
 .simp only[ag,bx];and_intros <;> omega
 refine AK.kQ (S2:=Unit) 0 rfl rfl (λ_=>r.1<=n+1/\r.2.size=n) (λ_=>[(0,kF n),(1,dI a),(9,dI r.1)]) (λ_=>[bI n r.2]) 1 (λs:Nat×Nat×Array Int=>s.2.2.size=n/\a+1<=s.1/\s.1<=n+1/\s.2.1<n/\partEqLoop ltInt a s.1 s.2.1 s.2.2=r) (λs=>[(0,kF n),(1,dI a),(9,dI s.1),(10,dI s.2.1)]) (λs=>[bI n s.2.2]) (λs=>s.2.1+1-s.1) (a+1,b-1,d1) rfl ?_ rfl ?_ rfl ⟨E,by grind,by grind,by grind,G⟩ ?_ ?_
 .simp only[ag.cat,ag,aF,aE];and_intros <;> omega
 .simp[ag.cat,ag,aP]
 .rintro m ⟨i3,c,d2⟩ ⟨t,B,u,z,h⟩;simp only at t B u z h;refine aC g [] 200 rfl av ?_;refine AK.kQ (S2:=Unit) 2 rfl rfl (λ_=>True) (λ_=>[(0,kF n),(1,dI a),(9,dI ((scanUp (λx=>!ltInt d2[a]! x) d2 (c) (i3)):Nat)),(10,dI (c:Nat))]) (λ_=>[bI n d2]) 1 (λk:Nat=>i3<=k/\k<=n+1/\scanUp (λx=>!ltInt d2[a]! x) d2 (c) k=scanUp (λx=>!ltInt d2[a]! x) d2 (c) (i3)) (λk=>[(0,kF n),(1,dI a),(9,dI (k:Nat)),(10,dI (c:Nat))]) (λ_=>[bI n d2]) (λk=>c+1-k) (i3) rfl ?_ rfl ?_ rfl ⟨bg _,by omega,rfl⟩ ?_ ?_
  .simp[ag.cat,ag,aP] <;> omega
  .simp[ag.cat,ag,aP]
  .rintro out k ⟨C,F,A⟩
   by_cases D:k<=c
   .by_cases L:(λx=>!ltInt d2[a]! x) d2[k]! = ab
    .have f:ltInt d2[a]! d2[k]! = ae:=by grind
     refine aC g [(31,ab),(41,ae)] 200 rfl ?_ (AK.aQ (k+1) rfl ?_ ?_ ?_ ?_)
     .simp only[ag,bt,bA,f,bx,ba,aF,aE];and_intros <;> omega
     .simp only[ag.cat,ag,aF,aE];omega
     .simp[ag.cat,ag,aP]
     .grind [mL]
     .omega
    .have f:ltInt d2[a]! d2[k]! = ab:=by grind
     refine aC g [(31,ab),(41,ab)] 200 rfl ?_ (AK.leaveD rfl rfl ?_)
     .simp only[ag,bt,bA,f,bx,ba,aF,aE];and_intros <;> omega
     have e:scanUp (λx=>!ltInt d2[a]! x) d2 (c) (i3)=k:=by grind [gB]
     exact out () av rfl (by simp only[ag.cat,ag,e,aF,aE]) rfl (by simp[ag.cat,ag,aP])
   .refine aC g [(31,ae)] 200 rfl ?_ (AK.leaveD rfl rfl ?_)
    .simp only[ag,bx,bM,aF,aE];omega
    have e:scanUp (λx=>!ltInt d2[a]! x) d2 (c) (i3)=k:=by grind [gB]
    exact out () av rfl (by simp only[ag.cat,ag,e,aF,aE]) rfl (by simp[ag.cat,ag,aP])
  rintro⟨⟩ -;have c1:=nC (p:=λx=>!ltInt d2[a]! x) (d:=d2) (j:=c) (c+1-i3) i3 (bg _)
  obtain⟨i4,o⟩:∃ i4,i4=scanUp (λx=>!ltInt d2[a]! x) d2 c i3:=⟨_,rfl⟩
  rw[<-o] at c1 ⊢;refine aC g [] 200 rfl av ?_;refine AK.kQ (S2:=Unit) 4 rfl rfl (λ_=>True) (λ_=>[(0,kF n),(1,dI a),(9,dI (i4:Nat)),(10,dI ((scanDown (λx=>ltInt d2[a]! x) d2 (i4) (c)):Nat))]) (λ_=>[bI n d2]) 1 (λk:Nat=>k<=c/\k<=n/\scanDown (λx=>ltInt d2[a]! x) d2 (i4) k=scanDown (λx=>ltInt d2[a]! x) d2 (i4) (c)) (λk=>[(0,kF n),(1,dI a),(9,dI (i4:Nat)),(10,dI (k:Nat))]) (λ_=>[bI n d2]) (λk=>k) (c) rfl ?_ rfl ?_ rfl ⟨bg _,by omega,rfl⟩ ?_ ?_
  .simp[ag.cat,ag,aP] <;> omega
  .simp[ag.cat,ag,aP]
  .rintro out k ⟨C,F,A⟩
   by_cases D:i4<=k
   .by_cases L:(λx=>ltInt d2[a]! x) d2[k]! = ab
    .have f:ltInt d2[a]! d2[k]! = ab:=by grind
     refine aC g [(48,ab),(58,ab)] 200 rfl ?_ (AK.aQ (k-1) rfl ?_ ?_ ?_ ?_)
     .simp only[ag,bt,bA,f,bx,ba,aF,aE];and_intros <;> omega
     .simp only[ag.cat,ag,aF,aE];omega
     .simp[ag.cat,ag,aP]
     .exact⟨by omega,by omega,by grind [kI]⟩
     .omega
    .have f:ltInt d2[a]! d2[k]! = ae:=by grind
     refine aC g [(48,ab),(58,ae)] 200 rfl ?_ (AK.leaveD rfl rfl ?_)
     .simp only[ag,bt,bA,f,bx,ba,aF,aE];and_intros <;> omega
     have e:scanDown (λx=>ltInt d2[a]! x) d2 (i4) (c)=k:=by grind [fp]
     exact out () av rfl (by simp only[ag.cat,ag,e,aF,aE]) rfl (by simp[ag.cat,ag,aP])
   .refine aC g [(48,ae)] 200 rfl ?_ (AK.leaveD rfl rfl ?_)
    .simp only[ag,bx,bM,aF,aE];omega
    have e:scanDown (λx=>ltInt d2[a]! x) d2 (i4) (c)=k:=by grind [fp]
    exact out () av rfl (by simp only[ag.cat,ag,e,aF,aE]) rfl (by simp[ag.cat,ag,aP])
  rintro⟨⟩ -;have c2:=kW (p:=λx=>ltInt d2[a]! x) (d:=d2) (i:=i4) c
  obtain⟨l,w⟩:∃ l,l=scanDown (λx=>ltInt d2[a]! x) d2 i4 c:=⟨_,rfl⟩
  rw[<-w] at c2 ⊢;have q:=partEqLoop_eq (by omega) o w
  by_cases y:l<i4
  .have e:=q;rw[h,bd y] at e;refine aC g [(64,ab)] 200 rfl ?_ (AK.leaveD rfl rfl ?_)
   .simp only[ag,bx,ba];omega
   exact m () (by grind) rfl (by simp only[ag.cat,ag,e,aF,aE]) rfl (by simp[ag.cat,ag,aP,e])
  .have e:=q;rw[h,aY (by omega)] at e
   refine aC g [(64,ae),(1000009,ab)] 200 rfl ?_ ?_
   .simp only[ag,bt,bA,bx,bM,aF,aE];and_intros <;> omega
   refine AK.norm [bI n (swp d2 i4 l)] rfl ?_ ?_
   .simp only[ag.cat,ag,bt,bA,aE,aF];exact hI t (by omega) (by omega) (λ_ _=>rfl)
   refine aC g [] 200 rfl ?_ (AK.aQ (i4+1,l-1,swp d2 i4 l) rfl ?_ ?_ ?_ ?_)
   .simp only[ag,bx];and_intros <;> omega
   .simp only[ag.cat,ag,aF,aE];and_intros <;> omega
   .simp[ag.cat,ag,aP]
   .grind [size_swp]
   grind
 rintro⟨⟩ ⟨J,I⟩;refine aC g [] 200 rfl av (AK.dJ [0] rfl ?_ rfl rfl rfl g7);simp[ag.cat,ag]
end
section
open Go.Proofs
open Go.Sort (swp scanSorted shiftDown shiftUp partialIns partialInsertionSort ltInt)
variable {X:Cx ah}
theorem xp{d:Array Int}{b i:Nat}(h:i<b)(a:ltInt d[i]! d[i-1]! = ae):scanSorted ltInt d b i=scanSorted ltInt d b (i+1):=by
 rw[scanSorted.eq_1 ltInt d b i,bd (by grind)]
theorem om{d:Array Int}{b i:Nat}(h:i<b->ltInt d[i]! d[i-1]! = ab):scanSorted ltInt d b i=i:=by
 rw[scanSorted,aY]
 grind
def Mz{d:Array Int}{b:Nat}:∀ (m i:Nat),b-i<=m->i<=b->i<=scanSorted ltInt d b i/\scanSorted ltInt d b i<=b:=by
 intro m
 induction m with
 |zero=>grind [om]
 |succ m f =>
  intro i h c
  by_cases e:i<b
  .cases a:ltInt d[i]! d[i-1]! with
   |false=>grind [xp]
   |true=>grind [om]
  grind
theorem MA{d:Array Int}{j:Nat}(b:1<=j)(h:ltInt d[j]! d[j-1]! = ab):shiftDown ltInt j d=shiftDown ltInt (j-1) (swp d j (j-1)):=by
 obtain⟨j,rfl⟩:∃ a,j=a+1:=⟨j-1,by omega⟩
 simp only[pF] at h ⊢;rw[shiftDown,aY (by simp[h])]
theorem Db{d:Array Int}{j:Nat}(h:1<=j->ltInt d[j]! d[j-1]! = ae):shiftDown ltInt j d=d:=by
 cases j with
 |zero=>rfl
 |succ j =>
  have:=h (by omega)
  simp only[pF] at this;rw[shiftDown,bd (by grind)]
theorem MB{d:Array Int}{b j:Nat}(a:j<b)(h:ltInt d[j]! d[j-1]! = ab):shiftUp ltInt b j d=shiftUp ltInt b (j+1) (swp d j (j-1)):=by
 rw[shiftUp.eq_1 ltInt b j d,bd a,aY (by simp[h])]
theorem Dc{d:Array Int}{b j:Nat}(h:j<b->ltInt d[j]! d[j-1]! = ae):shiftUp ltInt b j d=d:=by
 rw[shiftUp]
 grind
abbrev Qz(n a b i s:Nat):Fr:=[(0,kF n),(1,dI a),(2,dI b),(7,dI i),(8,dI (5-(s:Int)))]
def Pk{a b s i:Nat}{d:Array Int}:partialIns ltInt a b (s+1) i d=(if scanSorted ltInt d b i=b then (d,ab) else if b-a<50 then (d,ae) else
  partialIns ltInt a b s (scanSorted ltInt d b i) (if b-scanSorted ltInt d b i≥2 then shiftUp ltInt b (scanSorted ltInt d b i+1) (if scanSorted ltInt d b i-a≥2 then shiftDown ltInt (scanSorted ltInt d b i-1) (swp d (scanSorted ltInt d b i) (scanSorted ltInt d b i-1)) else swp d (scanSorted ltInt d b i) (scanSorted ltInt d b i-1)) else (if scanSorted ltInt d b i-a≥2 then shiftDown ltInt (scanSorted ltInt d b i-1) (swp d (scanSorted ltInt d b i) (scanSorted ltInt d b i-1)) else swp d (scanSorted ltInt d b i) (scanSorted ltInt d b i-1)))):=rfl
def xq(n:Nat)(d:Array Int)(a b:Nat)(M:d.size=n)(N:a<b)(U:b<=n)(T:n<=4000000) :
  Ev X 211 [kF n,dI a,dI b] [bI n d] (dB (partialInsertionSort ltInt d a b).2) [bI n (partialInsertionSort ltInt d a b).1]:=by
 have g:bD X [(212,uv)]:=.cons xo .nil;refine Ev.bQ Tryz.func211 rfl λW=>?_
 obtain⟨r,J⟩:∃ r,partialIns ltInt a b 5 (a+1) d=r:=⟨_,rfl⟩;have E:partialInsertionSort ltInt d a b=r:=J;rw[E];refine aC g [] 200 rfl (by simp only[ag,bx];omega) ?_
 refine AK.kQ (S2:=Unit) 0 rfl rfl (λ_=>r.2=ae) (λ_=>[(0,kF n)]) (λ_=>[bI n r.1]) 1 (λs:Nat×Nat×Array Int=>s.2.2.size=n/\s.1<=5/\a+1<=s.2.1/\s.2.1<=b/\partialIns ltInt a b s.1 s.2.1 s.2.2=r) (λs=>Qz n a b s.2.1 s.1) (λs=>[bI n s.2.2]) (λs=>s.1) (5,a+1,d) rfl ?_ rfl ?_ rfl ⟨M,by grind,by grind,by grind,J⟩ ?_ ?_
 .simp[ag.cat,ag]
 .simp[ag.cat,ag,aP]
 .rintro w ⟨s,i,d1⟩ ⟨I,A,hi,q,f⟩;simp only at I A hi q f;cases s with
  |zero =>
   rw[partialIns] at f;refine aC g [(14,ae)] 200 rfl ?_ (AK.leaveD rfl rfl ?_)
   .simp[ag]
   exact w () (by grind) rfl (by simp[ag.cat,ag]) rfl (by simp[ag.cat,ag,aP,<-f])
  |succ s =>
   rw[Pk] at f;refine aC g [(14,ab)] 200 rfl (by simp only[ag,ba];omega) ?_
   refine AK.kQ (S2:=Unit) 2 rfl rfl (λ_=>True) (λ_=>Qz n a b (scanSorted ltInt d1 b i) (s+1)) (λ_=>[bI n d1]) 1 (λk:Nat=>i<=k/\k<=b/\scanSorted ltInt d1 b k=scanSorted ltInt d1 b i) (λk=>Qz n a b k (s+1)) (λ_=>[bI n d1]) (λk=>b-k) i rfl ?_ rfl ?_ rfl ⟨bg _,q,rfl⟩ ?_ ?_
   .simp[ag.cat,ag]
   .simp[ag.cat,ag,aP]
   .rintro out k ⟨Q,S,P⟩
    by_cases R:k<b
    .have B:((k:Int)-1).toNat=k-1:=by omega
     cases p:ltInt d1[k]! d1[k-1]! with
     |false =>
      refine aC g [(19,ab),(30,ae)] 200 rfl ?_ (AK.aQ (k+1) rfl ?_ ?_ ?_ ?_)
      .simp only[ag,bt,bA,B,p,bx,ba,aF,aE];and_intros <;> omega
      .simp only[ag.cat,ag,aF,aE];omega
      .simp[ag.cat,ag,aP]
      .grind [xp]
      .omega
     |true =>
      refine aC g [(19,ab),(30,ab)] 200 rfl ?_ (AK.leaveD rfl rfl ?_)
      .simp only[ag,bt,bA,B,p,bx,ba,aF,aE];and_intros <;> omega
      have e:scanSorted ltInt d1 b i=k:=by grind [om]
      exact out () av rfl (by simp only[ag.cat,ag,e,aF,aE]) rfl (by simp[ag.cat,ag,aP])
    .refine aC g [(19,ae)] 200 rfl ?_ (AK.leaveD rfl rfl ?_)
     .simp only[ag,bx,bM,aF,aE];omega
     have e:scanSorted ltInt d1 b i=k:=by grind [om]
     exact out () av rfl (by simp only[ag.cat,ag,e,aF,aE]) rfl (by simp[ag.cat,ag,aP])
   rintro⟨⟩ -;have c:=Mz (d:=d1) (b:=b) (b-i) i (bg _) q;obtain⟨i2,G⟩:∃ i2,i2=scanSorted ltInt d1 b i:=⟨_,rfl⟩;rw[<-G] at c f ⊢
   by_cases u:i2=b
   .rw[bd u] at f;rw[<-f];refine aC g [(37,ab)] 200 rfl ?_ (AK.eh (b6.mk [0] rfl ?_ rfl rfl rfl g7))
    .simp[ag,u]
    .simp[ag,ag.cat]
   rw[aY u] at f
   by_cases v:b-a<50
   .rw[bd v] at f;rw[<-f];refine aC g [(37,ae),(41,ab)] 200 rfl ?_ (AK.eh (b6.mk [0] rfl ?_ rfl rfl rfl g7))
    .simp[ag,bx];omega
    .simp[ag,ag.cat]
   rw[aY v] at f;have B:((i2:Int)-1).toNat=i2-1:=by omega
   refine aC g [(37,ae),(41,ae),(1000012,ab)] 200 rfl ?_ ?_
   .simp only[ag,bt,bA,B,bx,bM,dt,cW,aF,aE];and_intros <;> omega
   refine AK.norm [bI n (swp d1 i2 (i2-1))] rfl ?_ ?_
   .simp only[ag.cat,ag,bt,bA,B,aE,aF];exact hI I (by omega) (by omega) (λ_ _=>rfl)
   have z:(swp d1 i2 (i2-1)).size=n:=by grind [size_swp]
   obtain⟨d2,D⟩:∃ d2,d2=swp d1 i2 (i2-1):=⟨_,rfl⟩;rw[<-D] at z f ⊢;obtain⟨d3,o⟩:∃ d3,d3=if i2-a≥2 then shiftDown ltInt (i2-1) d2 else d2:=⟨_,rfl⟩
   rw[<-o] at f;have Y:∀ (j:Nat) (d:Array Int),(shiftDown ltInt j d).size=d.size:=by
    intro j
    induction j with
    |zero=>intro d;rfl
    |succ j V =>
     intro d;rw[shiftDown];grind [size_swp]
   have H:d3.size=n:=by
    grind
   apply AK.join (Qz n a b i2 (s+1)) [bI n d3]
   .intro out
    by_cases L:i2-a≥2
    .rw[bd L] at o;refine aC g [(61,ab)] 200 rfl ?_ ?_
     .simp only[ag,bx,ba,aF,aE];and_intros <;> omega
     refine AK.kQ (S2:=Unit) 4 rfl rfl (λ_=>True) (λ_=>Qz n a b i2 (s+1)) (λ_=>[bI n d3]) 1 (λs:Nat×Array Int=>s.2.size=n/\s.1<b/\shiftDown ltInt s.1 s.2=d3) (λs2=>Qz n a b i2 (s+1)++[(9,dI s2.1)]) (λs=>[bI n s.2]) (λs=>s.1) (i2-1,d2) rfl ?_ rfl ?_ rfl ⟨z,by grind,o.symm⟩ ?_ ?_
     .simp only[ag.cat,ag,aF,aE];omega
     .simp[ag.cat,ag,aP]
     .rintro h ⟨j,d4⟩ ⟨m,F,l⟩;simp only at m F l
      by_cases x:1<=j
      .have t:((j:Int)-1).toNat=j-1:=by omega
       cases p:ltInt d4[j]! d4[j-1]! with
       |true =>
        refine aC g [(65,ab),(77,ab)] 200 rfl ?_ (AK.aQ (j-1,swp d4 j (j-1)) rfl ?_ ?_ ?_ ?_)
        .simp only[ag,bt,bA,t,p,bx,ba,aF,aE];and_intros <;> omega
        .simp only[ag.cat,ag,aF,aE];omega
        .simp only[ag.cat,ag,bt,bA,t,aE,aF];exact hI m (by omega) (by omega) (λ_ _=>rfl)
        .grind [MA]
        grind
       |false =>
        refine aC g [(65,ab),(77,ae)] 200 rfl ?_ (AK.leaveD rfl rfl ?_)
        .simp only[ag,bt,bA,t,p,bx,ba,aF,aE];and_intros <;> omega
        have e:d3=d4:=by grind [Db]
        exact h () av rfl (by simp[ag.cat,ag]) rfl (by simp[ag.cat,ag,aP,e])
      .refine aC g [(65,ae)] 200 rfl ?_ (AK.leaveD rfl rfl ?_)
       .simp only[ag,bM];omega
       have e:d3=d4:=by grind [Db]
       exact h () av rfl (by simp[ag.cat,ag]) rfl (by simp[ag.cat,ag,aP,e])
     rintro⟨⟩ -;refine aC g [(1000018,ab)] 200 rfl av ?_;exact out _ _ rfl (by simp[ag.cat,ag])
    .rw[aY L] at o;rw[<-o];refine aC g [(61,ae),(1000018,ab)] 200 rfl ?_ ?_
     .simp only[ag,bx,bM,aF,aE];and_intros <;> omega
     exact out _ _ rfl (by simp[ag.cat,ag])
   by_cases K:b-i2≥2
   .rw[bd K] at f;obtain⟨d5,y⟩:∃ d5,shiftUp ltInt b (i2+1) d3=d5:=⟨_,rfl⟩;rw[y] at f;refine aC g [(98,ab)] 200 rfl ?_ ?_
    .simp only[ag,bx,ba,aF,aE];and_intros <;> omega
    refine AK.kQ (S2:=Unit) 6 rfl rfl (λ_=>d5.size=n) (λ_=>Qz n a b i2 (s+1)) (λ_=>[bI n d5]) 1 (λs:Nat×Array Int=>s.2.size=n/\1<=s.1/\s.1<=b/\shiftUp ltInt b s.1 s.2=d5) (λs2=>Qz n a b i2 (s+1)++[(10,dI s2.1)]) (λs=>[bI n s.2]) (λs=>b-s.1) (i2+1,d3) rfl ?_ rfl ?_ rfl ⟨H,by grind,by grind,y⟩ ?_ ?_
    .simp only[ag.cat,ag,aF,aE];omega
    .simp[ag.cat,ag,aP]
    .rintro h ⟨j,d4⟩ ⟨m,x,F,l⟩;simp only at m x F l
     by_cases O:j<b
     .have t:((j:Int)-1).toNat=j-1:=by omega
      cases p:ltInt d4[j]! d4[j-1]! with
      |true =>
       refine aC g [(103,ab),(115,ab)] 200 rfl ?_ (AK.aQ (j+1,swp d4 j (j-1)) rfl ?_ ?_ ?_ ?_)
       .simp only[ag,bt,bA,t,p,bx,ba,aF,aE];and_intros <;> omega
       .simp only[ag.cat,ag,aF,aE];omega
       .simp only[ag.cat,ag,bt,bA,t,aE,aF];exact hI m (by omega) (by omega) (λ_ _=>rfl)
       .grind [size_swp,MB]
       grind
      |false =>
       refine aC g [(103,ab),(115,ae)] 200 rfl ?_ (AK.leaveD rfl rfl ?_)
       .simp only[ag,bt,bA,t,p,bx,ba,aF,aE];and_intros <;> omega
       have e:d5=d4:=by grind [Dc]
       exact h () (by grind) rfl (by simp[ag.cat,ag]) rfl (by simp[ag.cat,ag,aP,e])
     .refine aC g [(103,ae)] 200 rfl ?_ (AK.leaveD rfl rfl ?_)
      .simp only[ag,bM];omega
      have e:d5=d4:=by grind [Dc]
      exact h () (by grind) rfl (by simp[ag.cat,ag]) rfl (by simp[ag.cat,ag,aP,e])
    rintro⟨⟩ A;refine aC g [] 200 rfl ?_ (AK.aQ (s,i2,d5) rfl ?_ ?_ ?_ ?_)
    .simp only[ag,bx];omega
    .simp only[ag.cat,ag,aF,aE];omega
    .simp[ag.cat,ag,aP]
    .grind
    grind
   .rw[aY K] at f;refine aC g [(98,ae)] 200 rfl ?_ (AK.aQ (s,i2,d3) rfl ?_ ?_ ?_ ?_)
    .simp only[ag,bx,bM,aF,aE];and_intros <;> omega
    .simp only[ag.cat,ag,aF,aE];omega
    .simp[ag.cat,ag,aP]
    .grind
    grind
 rintro⟨⟩ C;refine aC g [] 200 rfl av (AK.dJ [0] rfl ?_ rfl rfl rfl g7);simp[ag,ag.cat,C]
end
section
open Go.Proofs
open Go.Sort (swp pdq rd Rd Below SWO insertionSort heapSort breakPatterns choosePivot reverseRange partialInsertionSort partition partitionEqual Hint ltInt PermIn SortedIn)
variable {X:Cx ah}
abbrev VF(n a b c:Nat)(wb wp:Bool):Fr:=[(0,kF n),(1,dI a),(2,dI b),(3,dI c),(8,dB wb),(9,dB wp)]
def zd{h:Hint}:nA h=2↔h=.decreasing:=by cases h <;> simp[nA]
def tI{h:Hint}:nA h=1↔h=.increasing:=by cases h <;> simp[nA]
structure PqS where
 a:Nat
 b:Nat
 lim:Nat
 wb:Bool
 wp:Bool
 d:Array Int
def Pl(n:Nat)(d:Array Int){a b:Nat}(c:d.size=n)(h:b<=n)(e:a<=n)(f:n<=4000000){r:Array Int}(g:r=insertionSort ltInt d a b):Ev X 206 [kF n,dI a,dI b] [bI n d] (.eK []) [bI n r]:=by
 grind [SY]
def MC(n:Nat)(d:Array Int){a b:Nat}(e:d.size=n)(c:a<=b)(h:1<=b-a)(i:b<=n)(f:n<=4000000){r:Array Int}(g:r=heapSort ltInt d a b):Ev X 207 [kF n,dI a,dI b] [bI n d] (.eK []) [bI n r]:=by
 grind [Pm]
def SZ(n:Nat)(G:n<=4000000):∀ (m:Nat)(d:Array Int)(a b lim:Nat),b-a<=m->d.size=n->a<=b->b<=n->lim<=100->Below ltInt a b d ->
  ∀ {x y z:Int},x=a->y=b->z=lim->∀ {R:Array Int},R=pdq ltInt d a b lim ab ab->Ev X 189 [kF n,dI x,dI y,dI z] [bI n d] (.eK []) [bI n R]:=by
 have i:bD X [(212,uv)]:=.cons xo .nil;have F:SWO ltInt:=Go.Sort.swo_ltInt;have hpi:=Go.Sort.partialInsertionSort_holds (lt:=ltInt);have hpt:=Go.Sort.partition_holds ltInt;have hpe:=Go.Sort.partitionEqual_holds ltInt;have N:=Go.Sort.reverseRange_holds (α:=Int);have M:=Go.Sort.pdq_sorts ltInt;intro m
 induction m using Nat.strongRecOn with
 |_ m ih =>
 intro d a b lim hm hd hab hb hl hB x y z hx hy hz R hR;subst hx hy hz;refine Ev.bQ Tryz.func189 rfl λhf=>?_
 refine aC i [] 200 rfl av ?_;refine AK.bP 1 (λs:PqS=>s.d.size=n/\s.a<=s.b/\s.b<=n/\s.lim<=100/\s.b-s.a<=b-a/\Below ltInt s.a s.b s.d/\pdq ltInt s.d s.a s.b s.lim s.wb s.wp=R) (λs=>VF n s.a s.b s.lim s.wb s.wp) (λs=>[bI n s.d]) (λs=>s.b-s.a) ⟨a,b,lim,ab,ab,d⟩ rfl ?_ rfl ?_ rfl ⟨hd,hab,hb,hl,bg _,hB,hR.symm⟩ ?_
 .simp[ag.cat,ag]
 .simp[ag.cat,ag,aP]
 clear hf hB hd hR;rintro⟨f,h,q,wb,wp,d1⟩ ⟨O,u,j,Un,XW,hB,k⟩;simp only at O u j Un XW hB k
 by_cases B:h-f<=12
 .rw[Go.Sort.pdq_small B] at k;refine aC i [(23,ab)] 200 rfl ?_ ?_
  .simp only[ag,bx,ba];and_intros <;> omega
  refine AK.cQ (Pl n d1 (a:=f) (b:=h) O j (by omega) G k.symm) [0] rfl ?_
  refine aC i [] 200 rfl av (AK.eh (b6.mk [0] rfl av rfl rfl rfl g7))
 by_cases Q:q=0
 .rw[Go.Sort.pdq_heap B Q] at k;refine aC i [(23,ae),(29,ab)] 200 rfl ?_ ?_
  .simp only[ag,bx,bM,fS];and_intros <;> omega
  refine AK.cQ (MC n d1 (a:=f) (b:=h) O u (by omega) j G k.symm) [0] rfl ?_
  refine aC i [] 200 rfl av (AK.eh (b6.mk [0] rfl av rfl rfl rfl g7))
 have l:f<h:=by omega
 obtain⟨f1,f2,f3,f4,f5,V,W,f8⟩:=Go.Sort.rd_facts (limit:=q) (wb:=wb) (wp:=wp) F hpi N l (by grind) hB
 have fl:=Go.Sort.rd_lim_le (lt:=ltInt) (d:=d1) (a:=f) (b:=h) (limit:=q) (wb:=wb) (wp:=wp);have S:=Go.Sort.rd_dec (lt:=ltInt) (d:=d1) (a:=f) (b:=h) (limit:=q) (wb:=wb) (wp:=wp);have T:=Go.Sort.rd_not (lt:=ltInt) (d:=d1) (a:=f) (b:=h) (limit:=q) (wb:=wb) (wp:=wp);have H:=Go.Sort.rd_pi_yes (lt:=ltInt) (d:=d1) (a:=f) (b:=h) (limit:=q) (wb:=wb) (wp:=wp);have fno:=Go.Sort.rd_pi_no (lt:=ltInt) (d:=d1) (a:=f) (b:=h) (limit:=q) (wb:=wb) (wp:=wp);have fc:=Go.Sort.rd_c (lt:=ltInt) (d:=d1) (a:=f) (b:=h) (limit:=q) (wb:=wb) (wp:=wp);have fd1:wb=ae->(rd ltInt d1 f h q wb wp).d1=breakPatterns d1 f h/\(rd ltInt d1 f h q wb wp).lim=q-1:=by grind [Go.Sort.rd_false]
 have Z:wb=ab->(rd ltInt d1 f h q wb wp).d1=d1/\(rd ltInt d1 f h q wb wp).lim=q:=by grind [Go.Sort.rd_true]
 have E:=Go.Sort.pdq_done (lt:=ltInt) (d:=d1) (wb:=wb) (wp:=wp) B Q;have geq:=Go.Sort.pdq_eq (lt:=ltInt) (d:=d1) (wb:=wb) (wp:=wp) B Q;have C:=Go.Sort.pdq_left (lt:=ltInt) (d:=d1) (wb:=wb) (wp:=wp) B Q;have w:=Go.Sort.pdq_right (lt:=ltInt) (d:=d1) (wb:=wb) (wp:=wp) B Q;rw[O] at f1 f4 W;rw[k] at E geq C w;generalize rd ltInt d1 f h q wb wp=r at *
 apply AK.join (VF n f h r.lim wb wp++[(10,dI ((h-f:Nat):Int))]) [bI n r.d1]
 .intro out;cases wb with
  |false =>
   obtain⟨I,J⟩:=fd1 rfl;refine aC i [(23,ae),(29,ae)] 200 rfl ?_ ?_
   .simp only[ag,bx,bM,dt,cW];and_intros <;> omega
   refine AK.cQ (MD n d1 f h O u j G) [0] rfl ?_;rw[<-I];refine aC i [(1000010,ab)] 200 rfl ?_ ?_
   .simp only[ag,bx];and_intros <;> omega
   exact out _ _ rfl (by simp only[ag.cat,ag,J,aF,aE];and_intros <;> omega)
  |true =>
   obtain⟨I,J⟩:=Z rfl;subst I;refine aC i [(23,ae),(29,ae),(1000010,ab)] 200 rfl ?_ ?_
   .simp only[ag,bx,bM,dt,cW];and_intros <;> omega
   exact out _ _ rfl (by simp only[ag.cat,ag,J,aF,aE];and_intros <;> omega)
 refine aC i [] 200 rfl av ?_;refine AK.cQ (IB n r.d1 f h u j (by omega) G) [0] rfl ?_
 rw[<-fc]
 apply AK.join (VF n f h r.lim wb wp++[(10,dI ((h-f:Nat):Int)),(11,dI r.pivot),(12,dI (nA r.hint))]) [bI n r.d2]
 .intro out
  by_cases v:r.c.2=.decreasing
  .obtain⟨I,J,e3⟩:=S v;refine aC i [(50,ab)] 200 rfl ?_ ?_
   .simp only[ag,fS,zd];exact v
   refine AK.cQ (S0 n r.d1 f h f1 (by omega) (by omega) j G) [0] rfl ?_
   rw[<-I];refine aC i [(1000015,ab)] 200 rfl ?_ ?_
   .simp only[ag,bx];and_intros <;> omega
   exact out _ _ rfl (by simp only[ag.cat,ag,J,e3,nA,aF,aE];and_intros <;> omega)
  .obtain⟨I,J,e3⟩:=T v;rw[<-I];refine aC i [(50,ae),(1000015,ab)] 200 rfl ?_ ?_
   .simp only[ag,dt,cW,zd];exact v
   exact out _ _ rfl (by simp only[ag.cat,ag,J,e3,aF,aE])
 by_cases t:r.pi.2=ab
 ·
  have p:(wb&&wp&&decide (r.hint=.increasing))=ab:=by
   grind
  have e:=H p;simp only[bL,ba] at p;obtain⟨⟨rfl,rfl⟩,D⟩:=p;refine aC i [(67,ab)] 200 rfl ?_ ?_
  .simp only[ag,fS,tI];exact D
  refine AK.cQ (xq n r.d2 f h f4 l j G) [0] rfl ?_;rw[<-e,t,<-E t];refine aC i [] 200 rfl av (AK.eh (b6.mk [0] rfl av rfl rfl rfl g7))
 rw[mf] at t
 apply AK.join (VF n f h r.lim wb wp++[(10,dI ((h-f:Nat):Int)),(11,dI r.pivot)]) [bI n r.pi.1]
 .intro out;cases o:(wb&&wp&&decide (r.hint=.increasing)) with
  |true =>
   have e:=H o;simp only[bL,ba] at o;obtain⟨⟨rfl,rfl⟩,D⟩:=o;refine aC i [(67,ab)] 200 rfl ?_ ?_
   .simp only[ag,fS,tI];exact D
   refine AK.cQ (xq n r.d2 f h f4 l j G) [0] rfl ?_;rw[<-e,t];refine aC i [(1000017,ab)] 200 rfl av ?_;exact out _ _ rfl (by simp[ag.cat,ag])
  |false =>
   have e:r.d2=r.pi.1:=by grind
   rw[e];cases wb with
   |false =>
    refine aC i [(1000017,ab)] 200 rfl av ?_;exact out _ _ rfl (by simp[ag.cat,ag])
   |true =>
    cases wp with
    |false =>
     refine aC i [(1000017,ab)] 200 rfl av ?_;exact out _ _ rfl (by simp[ag.cat,ag])
    |true =>
     refine aC i [(67,ae),(1000017,ab)] 200 rfl ?_ ?_
     .simp only[ag,dt,cW,tI]
      grind
     exact out _ _ rfl (by simp[ag.cat,ag])
 have ep:((f:Int)-1).toNat=f-1:=by omega
 cases o:(decide (f>0)&&!ltInt r.pi.1[f-1]! r.pi.1[r.pivot]!) with
 |true =>
  have A:=o;simp only[bL,ba,jh] at A;obtain⟨L,Y,K,q4,_⟩:=Go.Sort.round_eq (mid:=(partitionEqual ltInt r.pi.1 f h r.pivot).1) (d4:=(partitionEqual ltInt r.pi.1 f h r.pivot).2) F hpe A.1 V.1 V.2 (by grind) f8 A.2 rfl
  have g:=geq t o ⟨L,Y⟩;refine aC i [(74,ab),(85,ae)] 200 rfl ?_ ?_
  .simp only[ag,bt,bA,ep,A.2,bx,ba,aF,aE];and_intros <;> omega
  refine AK.cQ (IC n r.pi.1 f h r.pivot W l j (by omega) G) [0] rfl ?_
  refine aC i [] 200 rfl av (AK.aQ ⟨(partitionEqual ltInt r.pi.1 f h r.pivot).1,h,r.lim,wb,wp,(partitionEqual ltInt r.pi.1 f h r.pivot).2⟩ rfl ?_ ?_ ?_ ?_)
  .simp[ag.cat,ag]
  .simp[ag.cat,ag,aP]
  .grind
  grind
 |false =>
  obtain⟨L,Y,K,q4,q5,q6,q7⟩:=Go.Sort.round_part (mid:=(partition ltInt r.pi.1 f h r.pivot).1) (ap:=(partition ltInt r.pi.1 f h r.pivot).2.1) (d4:=(partition ltInt r.pi.1 f h r.pivot).2.2) F hpt V.1 V.2 (by grind) f8 rfl
  apply AK.join (VF n f h r.lim wb wp++[(10,dI ((h-f:Nat):Int)),(11,dI r.pivot)]) [bI n r.pi.1]
  .intro out
   by_cases ha0:0<f
   .have sV:ltInt r.pi.1[f-1]! r.pi.1[r.pivot]! = ab:=by
     grind
    refine aC i [(74,ab),(85,ab),(1000020,ab)] 200 rfl ?_ ?_
    .simp only[ag,bt,bA,ep,sV,bx,ba,aF,aE];and_intros <;> omega
    exact out _ _ rfl (by simp[ag.cat,ag])
   .refine aC i [(74,ae),(1000020,ab)] 200 rfl ?_ ?_
    .simp only[ag,bM];omega
    exact out _ _ rfl (by simp[ag.cat,ag])
  refine aC i [] 200 rfl av ?_;refine AK.cQ (Pn n r.pi.1 f h r.pivot W l j (by omega) G) [0] rfl ?_
  have gl:=C t o ⟨L,Y⟩;have gr:=w t o ⟨L,Y⟩;generalize partition ltInt r.pi.1 f h r.pivot=P at *;rw[W] at K
  by_cases U:P.1-f<h-P.1
  .have g:=gl U;obtain⟨w1,w2⟩:=M F P.2.2 f P.1 r.lim ab ab L (by grind) q4
   obtain⟨w3,_⟩:=q6 _ w1 w2;refine aC i [(113,ab)] 200 rfl ?_ ?_
   .simp only[ag,bx,ba,aF,aE];and_intros <;> omega
   refine AK.cQ (ih (P.1-f) (by omega) P.2.2 f P.1 r.lim (bg _) K L (by omega) (by omega) q4 rfl rfl rfl rfl) [0] rfl ?_
   refine aC i [] 200 rfl ?_ (AK.aQ ⟨P.1+1,h,r.lim,decide (P.1-f≥(h-f) / 8),P.2.1,pdq ltInt P.2.2 f P.1 r.lim ab ab⟩ rfl ?_ ?_ ?_ ?_)
   .simp only[ag,bx,aF,aE];and_intros <;> omega
   .simp only[ag.cat,ag,aF,aE]
    grind
   .simp[ag.cat,ag,aP]
   .exact⟨by simp only;rw[w1.1,K],by grind,j,by grind,by grind,w3,g.symm⟩
   grind
  .have g:=gr U;obtain⟨w1,w2⟩:=M F P.2.2 (P.1+1) h r.lim ab ab (by omega) (by grind) q5
   obtain⟨w3,_⟩:=q7 _ w1 w2;refine aC i [(113,ae)] 200 rfl ?_ ?_
   .simp only[ag,bx,bM,aF,aE];and_intros <;> omega
   refine AK.cQ (ih (h-(P.1+1)) (by omega) P.2.2 (P.1+1) h r.lim (bg _) K (by omega) j (by omega) q5 (x:=(P.1:Int)+1) (by omega) rfl rfl rfl) [0] rfl ?_
   refine aC i [] 200 rfl ?_ (AK.aQ ⟨f,P.1,r.lim,decide (h-P.1≥(h-f) / 8),P.2.1,pdq ltInt P.2.2 (P.1+1) h r.lim ab ab⟩ rfl ?_ ?_ ?_ ?_)
   .trivial
   .simp only[ag.cat,ag,aF,aE]
    grind
   .simp[ag.cat,ag,aP]
   .exact⟨by simp only;rw[w1.1,K],by grind,by grind,by grind,by grind,w3,g.symm⟩
   grind
end
section
open Go.Proofs
variable {X:Cx ah}
abbrev ph:dk:=jZ aS (λp=>dS (iG p)) λ_=>[]
abbrev An(r:Option Bs):D:=.eK [.one (.c (.str (r.getD []))),.one (.c (.bool r.isSome))]
def Ep(c:dM X 219 ph)(b:Bs):Ev X 191 [dS b] [] (An (eU b)) []:=by
 refine Ev.bQ Tryz.func191 rfl λf=>?_
 have e:bD X [(217,RI),(218,jZ aS (λs=>dB (bG s)) λ_=>[]),(219,ph)]:=.cons t217 (.cons t218 (.cons c .nil))
 by_cases a:bG (strip b)=ab
 .by_cases d:iG (strip b)=b
  .refine aC e [(10,ae),(15,ae)] 100 rfl ?_ (AK.bn rfl ?_)
   .simp[ag,a,d]
   .simp[ag,ag.cat,eU,a,d]
  .refine aC e [(10,ae),(15,ab)] 100 rfl ?_ (AK.bn rfl ?_)
   .simp[ag,a,d]
   .simp[ag,ag.cat,eU,a,d]
 .refine aC e [(10,ab),(15,ab)] 100 rfl ?_ (AK.bn rfl ?_)
  .simp[ag,a]
  .simp[ag,ag.cat,eU,a]
def UI(a:dM X 219 ph):dM X 191 (jZ aS (λb=>An (eU b)) λ_=>[]):=.ox λb _=>Ep a b
def wG{b p:Bs}(h:eU b=aa p):bG p=ab:=by
 unfold eU at h;split at h
 .rename_i a;cases h;exact(bL _ _▸a).1
 .cases h
abbrev X5(x:cC):D:=To.enc x
def KL(c:dM X 219 ph)(x:cC) (k:Int)(d:ck k=ab):Ev X 173 [X5 x,dI k] [] (An (chunk k x)) []:=by
 refine Ev.bQ Tryz.func173 rfl λh=>?_
 have f:bD X [(191,jZ aS (λb=>An (eU b)) λ_=>[]),(192,Dw aI aS aI (λk p n=>dB (hO k p==n)) λk p _=>[ck k=ab,bG p=ab])]:=.cons (UI c) (.cons t192 .nil)
 cases a:eU x.2 with
 |none =>
  refine aC f [(16,ab),(23,ab)] 100 rfl ?_ (AK.bn rfl ?_)
  .simp[ag,a]
  .simp[ag,ag.cat,chunk,a]
 |some p =>
  have g:=wG a
  by_cases e:hO k p=x.1
  .refine aC f [(16,ae),(23,ae)] 100 rfl ?_ (AK.bn rfl ?_)
   .simp[ag,a,e,d,g]
   .simp[ag,ag.cat,chunk,a,e,d]
  .refine aC f [(16,ae),(23,ab)] 100 rfl ?_ (AK.bn rfl ?_)
   .simp[ag,a,e,d,g]
   .simp[ag,ag.cat,chunk,a,e,d]
def KM(a:dM X 219 ph):dM X 173 (p9 To aI (λx k=>An (chunk k x)) λ_ k=>[ck k=ab]):=.tm λx k h=>KL a x k h
end
end Go.AM.R1
namespace Go.AM
section
open Go.Conc (G)
section
variable {P:aq}{X:Cx P}
def Yields{ι:Type}(X:Cx P)(d:Nat)(ds:List D)(σ:List aV)(res:Bool)(σ':ι->List aV):Prop :=
 ∀ s (vs:List ak) (l:Nat),cz σ s vs ds->aJ σ s->(∃ L,s.β[d]?=aa L/\L.v=.func (.yield l) #[] #[]) ->
  ∃ fn tmps assign body,(Instr.yield l vs.toArray).run P s.w=.ok (.round l fn tmps assign body) s.w/\(Instr.yield l vs.toArray).events P s.w #[]=#[⟨.obj l,ae,ae⟩] /\
  ∀ (S:au->St->Prop) (c:aR) (cs:List aR),(∀ i s',aJ (σ' i) s'->cD σ s (σ' i) s'->ft X S (G (c.finish (.bool res)) cs) s') ->
   ft X S (G (Frame.round l fn tmps assign body .normal) (c::cs)) s
def mD{w:az}{l:Nat}{r:Loop}(h:w.heap[l]?=aa (.loop r)):(Instr.getLoop l).run P w=.ok r w/\∀ es,(Instr.getLoop l).events P w es=es.push ⟨.obj l,ae,ae⟩:=by
 have c:(getObj l).run P w=.ok (.loop r) w:=by simp only[getObj,Sem.run,h]
 have d:∀ es,(getObj l).events P w es=es.push ⟨.obj l,ae,ae⟩:=λes=>by simp only[getObj,Sem.events,Sem.runT,h];rfl
 constructor
 .simp[Instr.getLoop,c]
 .intro es;simp[Instr.getLoop,c,d]
def o7{w:az}{l:Nat}{r r':Loop}(h:w.heap[l]?=aa (.loop r)):(setObj l (.loop r')).run P w=.ok () { w with heap:=w.heap.setIfInBounds l (.loop r') }/\∀ es,(setObj l (.loop r')).events P w es=es.push ⟨.obj l,ab,ae⟩:=by
 constructor
 .simp only[setObj,Sem.run,h]
 .intro es;simp only[setObj,Sem.events,Sem.runT,h];rfl
def G9{w:az}{l:Nat}{r:Loop}{args:Array ak}(h:w.heap[l]?=aa (.loop r))(c:args.size=r.params.size) :
  (Instr.yield l args).run P w=.ok (.round l r.fn ((r.params.zip args).foldl (λtmps (t,a)=>tmps.setIfInBounds t a) r.tmps) r.assign r.body) w/\(Instr.yield l args).events P w #[]=#[⟨.obj l,ae,ae⟩]:=by
 obtain⟨d,e⟩:=mD (P:=P) h
 constructor
 .simp[Instr.yield,d,c]
 .simp[Instr.yield,d,e,c]
def Ha{w:az}{l:Nat}{r:Loop}(h:w.heap[l]?=aa (.loop r))(d:r.state=.ready) :
  (Instr.beginRound l).run P w=.ok () { w with heap:=w.heap.setIfInBounds l (.loop { r with state:=.busy }) }/\(Instr.beginRound l).events P w #[]=#[⟨.obj l,ae,ae⟩,⟨.obj l,ab,ae⟩]:=by
 obtain⟨e,g⟩:=mD (P:=P) h;obtain⟨c,f⟩:=o7 (P:=P) (r':={ r with state:=.busy }) h
 constructor
 .simp[Instr.beginRound,e,c,d]
 .simp[Instr.beginRound,e,g,c,f,d]
def zX{w:az}{l:Nat}{r:Loop}(h:w.heap[l]?=aa (.loop r))(j:Option Code) :
  (Instr.endRound l j).run P w=.ok (.bool j.isNone) { w with heap:=w.heap.setIfInBounds l (.loop { r with state:=if j.isNone then .ready else .done,pending:=j }) }/\(Instr.endRound l j).events P w #[]=#[⟨.obj l,ae,ae⟩,⟨.obj l,ab,ae⟩]:=by
 obtain⟨d,f⟩:=mD (P:=P) h;obtain⟨c,e⟩:=o7 (P:=P) (r':={ r with state:=if j.isNone then .ready else .done,pending:=j }) h
 constructor
 .simp only[Instr.endRound,bY,d,c,b9,cY]
 .simp only[Instr.endRound,aO,d,f,c,e,aU,Sem.events_pure];rfl
def BT{w:az}{l:Nat}{r:Loop}(h:w.heap[l]?=aa (.loop r))(c:r.state≠.busy) :
  (Instr.endLoop l).run P w=.ok r.pending { w with heap:=w.heap.setIfInBounds l (.loop { r with state:=.exhausted }) }/\(Instr.endLoop l).events P w #[]=#[⟨.obj l,ae,ae⟩,⟨.obj l,ab,ae⟩]:=by
 obtain⟨d,g⟩:=mD (P:=P) h;obtain⟨e,f⟩:=o7 (P:=P) (r':={ r with state:=.exhausted }) h;have j:(r.state==.busy)=ae:=by cases i:r.state <;> simp_all
 constructor
 .simp[Instr.endLoop,d,e,c]
 .simp[Instr.endLoop,d,g,f,c]
section steps
variable {b:aR}{a:Act}{k:List Item}{cs:List aR}{w:az}{main:Bool}
def BU{o:aw}{e:an}{xs:Array an}{c:Array ar}{l:Nat}(d:o.op=.call { callee:=.value e,args:=xs,argTypes:=c })(f:a.eval e=.func (.yield l) #[] #[]) :
  (ay a.eval o).run P w=(Instr.yield l (xs.toList.map a.eval).toArray).run P w/\(ay a.eval o).events P w #[]=(Instr.yield l (xs.toList.map a.eval).toArray).events P w #[]:=by
 have g:xs.map a.eval=(xs.toList.map a.eval).toArray:=by grind
 constructor
 .simp[ay,d,resolve,f,Deferred.ofValue,invoke,g]
 .simp[ay,d,resolve,f,Deferred.ofValue,invoke,g]
def J5{ops:Array aw}{i:Nat}{rest:List Nat}{o:aw}{l:Nat}{fn:aW}{tmps:Array ak}{assign body:Code}{w':az}(f:ops[i]?=aa o)(g:bj o (yielded ops a.tmps)=ab)
  (h:b.kind≠.early) (e:(ay a.eval o).run P w=.ok (.round l fn tmps assign body) w') :
  aK P main (G (b.aT a (.inRegion ops (i::rest)::k)) cs) w=.go (G (Frame.round l fn tmps assign body .normal) (b.aT a (.inRegion ops (i::rest)::k)::cs)) w' (Go.Conc.listed P b.fn a o w):=by
 have d:(b.kind==CallKind.early)=ae:=by grind
 rw[u5 f g (λc j=>by grind [rC])]
 simp[stepG.apply,e,G,Frame.aT,d,GStep.after,Go.Conc.listed]
def J6{l:Nat}{r:Loop}(g:b.roundOf=aa l)(i:b.kind≠.early)(h:w.heap[l]?=aa (.loop r))(d:r.state=.ready) :
  aK P main (G (b.aT a (.beginRound::k)) cs) w=.go (G (b.aT a k) cs) { w with heap:=w.heap.setIfInBounds l (.loop { r with state:=.busy }) } (seen P b.fn #[⟨.obj l,ae,ae⟩,⟨.obj l,ab,ae⟩]):=by
 obtain⟨e,f⟩:=Ha (P:=P) h d;have c:(b.kind==CallKind.early)=ae:=by grind
 simp[G,aK,stepG.exec,stepG.apply,Frame.aT,g,c,e,f,GStep.after,Frame.finish]
def BV{l:Nat}{r:Loop}{j:Option Code}{e:List Item}{c:aR}(i:b.roundOf=aa l)(f:b.kind=.normal)(h:w.heap[l]?=aa (.loop r))
  (n:(j=af/\e=[])∨(j=aa .ret/\∃ k1,e=.code .ret::k1)∨(∃ id k1,j=aa (.exit id)/\e=.code (.exit id)::k1/\exitTo id k1=af)) :
  aK P main (G (b.aT a e) (c::cs)) w=.go (G (c.finish (.bool j.isNone)) cs) { w with heap:=w.heap.setIfInBounds l (.loop { r with state:=if j.isNone then .ready else .done,pending:=j }) } (seen P b.fn #[⟨.obj l,ae,ae⟩,⟨.obj l,ab,ae⟩]):=by
 obtain⟨d,g⟩:=zX (P:=P) h j;rcases n with⟨rfl,rfl⟩|⟨rfl,k1,rfl⟩|⟨id,k1,rfl,rfl,m⟩
 .simp only[Option.isNone_none,cu] at d;simp[G,aK,stepG.exec,Frame.aT,i,d,g,GStep.after,doReturn,f]
 .simp only[Option.isNone_some,cd,jE] at d;simp[G,aK,stepG.exec,Frame.aT,i,d,g,GStep.after,doReturn,f]
 .simp only[Option.isNone_some,cd,jE] at d;simp[G,aK,stepG.exec,Frame.aT,i,d,g,GStep.after,doReturn,f,m]
def D9{l:Nat}{r:Loop}(h:w.heap[l]?=aa (.loop r))(c:r.state≠.busy) :
  aK P main (G (b.aT a (.endRangeFunc l::k)) cs) w=.go (G (b.aT a ((r.pending.map Item.code).toList++k)) cs) { w with heap:=w.heap.setIfInBounds l (.loop { r with state:=.exhausted }) } (seen P b.fn #[⟨.obj l,ae,ae⟩,⟨.obj l,ab,ae⟩]):=by
 obtain⟨d,e⟩:=BT (P:=P) h c;simp[G,aK,stepG.exec,Frame.aT,d,e,GStep.after]
def xN{fn:aW}{tmps:Array ak}{params:Array Tmp}{assign body:Code} :
  (Instr.enterLoop fn tmps params assign body af).run P w=.ok (w.heap.size+1,[{ target:=.collected w.heap.size,args:=#[] }]) { w with heap:=(w.heap.push (.deferred (aa []))).push (.loop { state:=.ready,pending:=af,fn,tmps,params,assign,body,defers:=w.heap.size }) } /\
  (Instr.enterLoop fn tmps params assign body af).events P w #[]=#[]:=by
 have c:∀ (o:Obj) (w:az),(newObj o).run P w=.ok w.heap.size { w with heap:=w.heap.push o }:=λo w=>by simp only[newObj,Sem.run]
 have d:∀ (o:Obj) (w:az) es,(newObj o).events P w es=es:=λo w es=>by simp only[newObj,Sem.events,Sem.runT]
 constructor
 .simp[Instr.enterLoop,c];rfl
 .simp[Instr.enterLoop,c,d]
def zY{f:an}{ps:Array Tmp}{assign body:Code}{F:aW}{fn:Func}{c:List ak}(r:b.roundOf=af)(s:b.kind≠.early)(j:P.funcs[F]?=aa fn)(n:(fn.name== "runtime.NumGoroutine")=ae)(i:fn.body.isNone=ae)
  (p:a.eval f=.func (.func F) #[] c.toArray) :
  aK P main (G (b.aT a (.code (.rangeFunc f ps assign body)::k)) cs) w =
   .go (G (Frame.enter P F (Value.func (.yield (w.heap.size+1)) #[] #[]::c).toArray .normal) (b.aT { a with defers:={ target:=.collected w.heap.size,args:=#[] }::a.defers } (.inRangeFunc (w.heap.size+1)::k)::cs))
    { w with heap:=(w.heap.push (.deferred (aa []))).push (.loop { state:=.ready,pending:=af,fn:=b.fn,tmps:=a.tmps,params:=ps,assign,body,defers:=w.heap.size }) } #[]:=by
 obtain⟨o,q⟩:=xN (P:=P) (w:=w) (fn:=b.fn) (tmps:=a.tmps) (params:=ps) (assign:=assign) (body:=body);have h:(b.kind==CallKind.early)=ae:=by grind
 have g:fn.name≠ "runtime.NumGoroutine":=by grind
 have e:fn.body≠af:=by grind
 have l:∀ (d:List Deferred) (t:List Item) (m:FrameMode),({ fn:=b.fn,tmps:=a.tmps,todo:=t,defers:=d,mode:=m,kind:=b.kind,roundOf:=b.roundOf }:aR).eval f=.func (.func F) #[] c.toArray:=by
  intro d t m;rw[<-p];cases f <;> rfl
 simp only[G,aK,stepG.exec,Frame.aT,r] at l ⊢;simp[o,q,GStep.after,stepG.apply,resolve,l,Deferred.ofValue,invoke,callFunc,j,g,e,h,seen];rfl
end steps
end
section
variable {P:aq}{X:Cx P}
def aJ.zZ{σ:List aV}{s:St}(hh:aJ σ s){b N:Nat}{a:Fr}{r:Loop}(c:σ[b]?=aa (.loop N a r)){l:Nat}(hl:∃ L,s.β[b]?=aa L/\L.v=.func (.yield l) #[] #[]) :
  ∃ tmps fn df,s.β[b]?=aa ⟨.func (.yield l) #[] #[],[l]⟩/\s.w.heap[l]?=aa (.loop { r with tmps:=tmps,fn:=fn,defers:=df })/\tmps.size=N/\(∀ t,dc σ s (tmps.getD t aj) (look a t))/\(∀ o,s.M l o=af):=by
 obtain⟨L,h1,h2⟩:=hl;obtain⟨l',tmps,fn,df,d,f,e,g,h⟩:=hh.box b _ L c h1
 grind
def aJ.z0{σ:List aV}{s:St}(hh:aJ σ s){c N:Nat}{a:Fr}{r r':Loop}{B':aV}(k:σ[c]?=aa (.loop N a r)){l:Nat}{tmps:Array ak}{fn df:Nat}(n:s.β[c]?=aa ⟨.func (.yield l) #[] #[],[l]⟩)
  (D:s.w.heap[l]?=aa (.loop { r with tmps:=tmps,fn:=fn,defers:=df })) (q:tmps.size=N) (j:∀ t,dc σ s (tmps.getD t aj) (look a t)) (u:∀ o,s.M l o=af) (d:B'=.dead∨B'=.loop N a r') :
  aJ (σ.set c B') { s with w:={ s.w with heap:=s.w.heap.setIfInBounds l (.loop { r' with tmps:=tmps,fn:=fn,defers:=df }) } }/\Step σ s (σ.set c B') { s with w:={ s.w with heap:=s.w.heap.setIfInBounds l (.loop { r' with tmps:=tmps,fn:=fn,defers:=df }) } }:=by
 have C:l<s.w.heap.size:=hh.lt _ (bU n) l (by simp)
 have y:∀ b,b≠l->(s.w.heap.setIfInBounds l (.loop { r' with tmps:=tmps,fn:=fn,defers:=df }))[b]?=s.w.heap[b]?:=λb hb=>by grind
 have z:s.β.set c ⟨.func (.yield l) #[] #[],[l]⟩=s.β:=by
  apply iM
  grind
 have m:c<σ.length:=(cr.1 k).1;have f:ij (.loop N a r) ⟨.func (.yield l) #[] #[],[l]⟩ B' ⟨.func (.yield l) #[] #[],[l]⟩:=by rcases d with rfl|rfl <;> rfl
 have ex:Ext σ s (σ.set c B') { s with w:={ s.w with heap:=s.w.heap.setIfInBounds l (.loop { r' with tmps:=tmps,fn:=fn,defers:=df }) } }:=by
  refine⟨λ_ _ _ h=>h,λi B L x g=>?_⟩
  by_cases e:c=i
  .grind
  .exact⟨B,L,by grind,g,.refl _ _⟩
 have:=hh.iP (M':=s.M) (w':={ s.w with heap:=s.w.heap.setIfInBounds l (.loop { r' with tmps:=tmps,fn:=fn,defers:=df }) }) (B':=B') (L':=⟨.func (.yield l) #[] #[],[l]⟩) k n f (by simp) (λb _ hb=>y b (by grind)) (λ_ _ _ _=>rfl) (λ_ _ _ h=>h)
  (λb o v A=>by
   have p:b≠l:=by grind
   rw[<-hh.mem b o v A];simp only[a9]
   grind) (λb hb=>by grind) rfl rfl rfl (by
   rcases d with rfl|rfl
   .trivial
   .refine⟨l,tmps,fn,df,rfl,?_,q,λt=>?_,u⟩
    .grind
    .have:=(j t).mono ex hh.len
     grind)
 grind
def AK.yield{ι:Type}{N:Nat}{Qf:Post}{K:List It}{φ:Fr}{σ:List aV}{σ':ι->List aV}{all rest:List aw}{o:aw}{C:an}{xs:Array an}{A:Array ar}{i:Nat}{ds:List D}{res:Bool}(Z:Yields X i ds σ res σ')
  (hg:o.guard=af) (U:gy N o.dst=ab) (R:o.op=.call { callee:=.value C,args:=xs,argTypes:=A }) {J:Nat} {u:Fr} {r:Loop} (m:σ[i]?=aa (.loop J u r)) (Y:b5 φ C=.e (.one (.ref i))) (B:xs.toList.map (b5 φ)=ds)
  (k:∀ j,AK X N Qf (.ops all rest::K) .normal (lC o.dst (.e (.one (.c (.bool res)))) φ) (σ' j)):AK X N Qf (.ops all (o::rest)::K) .normal φ σ:=by
 intro s a f hh b kk cs S idx hb jH hQ;cases idx with
 |nil=>exact jH.elim
 |cons j idx =>
 refine .next rfl λh v=>?_
 have x:=X.ik v;have d:=hh.rely x;have y:=f.rely x hh;have H:=dX y C;rw[Y] at H;obtain⟨_,L,F,z,_⟩:=(show gx _ h _ (.ref i) from H)
 obtain⟨l,tmps,fn,df,T,h4,h5,h6,h7⟩:=d.box i _ L m F;subst T;have n:cz σ h (xs.toList.map a.eval) ds:=by grind [nQ,dX]
 obtain⟨Q,E,assign,body,V,W,O⟩:=Z h (xs.toList.map a.eval) l n d ⟨_,F,rfl⟩;obtain⟨M,r2⟩:=BU (P:=P) (w:=h.w) (a:=a) R z;refine⟨_,h,_,J5 jH.1 (dv hg) hb (M.trans V),⟨⟨σ,σ,d,d,.refl _ _⟩,eZ.seen ?_⟩,O S _ _ λG s' lb st=>?_⟩
 .rw[r2,W];exact .one (lU (L:=⟨.func (.yield l) #[] #[],[l]⟩) (bU F) (by simp))
 have g:=kg (b:=b) (a:=a) (k:=kk) all.toArray j idx (.bool res);rw[jH.1] at g;simp only[nF] at g;rw[g];refine k G s' _ ?_ lb b kk cs S idx hb jH.2 λp σ2 s2 a2 q f2 h2 oB=>hQ p σ2 s2 a2 q f2 h2 ((x.stepW.trans st).trans oB)
 cases I:o.dst with
 |none=>exact y.mono st d.len
 |some t=>exact(y.mono st d.len).put (il U t I) (show dc (σ' G) s' (.bool res) (.e (.one (.c (.bool res)))) from Rd.bool)
def qE:List Tmp->List D->Fr->Fr
 |t::ts,d::ds,φ=>qE ts ds ((t,d)::φ)
 |_,_,φ=>φ
def N0(N:Nat):List Tmp->Bool
 |[]=>ab
 |t::ts=>match bo (t+1) N with|true=>N0 N ts|false=>ae
def FY{N:Nat}{σ:List aV}{s:St}:∀ {ps:List Tmp}{ds:List D}{vs:List ak}{φ:Fr}{a:Act},cx N σ s φ a->cz σ s vs ds->N0 N ps=ab->cx N σ s (qE ps ds φ) { a with tmps:=(ps.zip vs).foldl (λtmps (t,v)=>tmps.setIfInBounds t v) a.tmps }
 |[],ds,vs,φ,a,h,_,_=>by simpa[qE] using h
 |_::_,[],[],φ,a,h,_,_=>by simpa[qE] using h
 |_::_,[],_::_,φ,a,h,b,_=>b.elim
 |_::_,_::_,[],φ,a,h,b,_=>b.elim
 |t::ts,d::ds,v::vs,φ,a,h,b,c=>by
  simp only[N0] at c;split at c
  .rename_i e
   have:=FY (h.put (d:=t) (db e) b.1) b.2 c;simpa[qE,Act.put] using this
  grind
def Rl:Exit->Option (Option Code)
 |.normal=>aa af
 |.ret=>aa (aa .ret)
 |.exit id=>aa (aa (.exit id))
 |_=>af
def Yields.intro{ι:Type}{k N:Nat}{f:Fr}{r:Loop}{ds:List D}{σ:List aV}{σ':ι->List aV}{j:Option Code}(o:σ[k]?=aa (.loop N f r))(W:r.state=.ready)(hlen:ds.length=r.params.size)(O:N0 N r.params.toList=ab)
  (h:AW X N r.assign (λe J σ1=>e=.normal/\σ1[k]?=aa (.loop N f r)/\AW X N r.body (λe φ2 σ2=>Rl e=aa j/\σ2[k]?=aa (.loop N f { r with state:=.busy }) /\
   ∃ i,Hb (σ2.set k (.loop N f { r with state:=if j.isNone then .ready else .done,pending:=j })) (σ' i)) J (σ1.set k (.loop N f { r with state:=.busy }))) (qE r.params.toList ds f) σ):Yields X k ds σ j.isNone σ':=by
 intro s vs l IZ hh hl;obtain⟨tmps,fn,df,h1,h2,h3,h4,h5⟩:=hh.zZ o hl;have PF:vs.length=r.params.size:=by grind [cz.get]
 obtain⟨y1,y2⟩:=G9 (P:=P) (args:=vs.toArray) h2 (by grind)
 refine⟨_,_,_,_,y1,y2,λS c cs hS=>?_⟩
 let b:aR:={ fn:=fn,tmps:=#[],todo:=[],defers:=[],mode:=.run,kind:=.normal,roundOf:=aa l }
 have hb:b.kind≠.early:=by simp[b]
 have hf:cx N σ s (qE r.params.toList ds f) { tmps:=(r.params.zip vs.toArray).foldl (λtmps (t,a)=>tmps.setIfInBounds t a) tmps,defers:=[] }:=by
  have:=FY (a:={ tmps:=tmps,defers:=[] }) (φ:=f) ⟨h3,⟨[],av⟩,h4⟩ IZ O;have e:(r.params.zip vs.toArray).foldl (λtmps (x:Tmp×ak)=>tmps.setIfInBounds x.1 x.2) tmps=(r.params.toList.zip vs).foldl (λtmps (x:Tmp×ak)=>tmps.setIfInBounds x.1 x.2) tmps:=by
   rw[<-Array.foldl_toList];simp
  grind
 show ft X S (G (b.aT { tmps:=(r.params.zip vs.toArray).foldl (λtmps (t,a)=>tmps.setIfInBounds t a) tmps,defers:=[] } [.code r.assign,.beginRound,.code r.body]) (c::cs)) s
 refine h s _ hf hh b [.beginRound,.code r.body] (c::cs) S hb ?_;rintro e J σ1 s1 a1 ⟨rfl,p,q⟩ f1 A I;refine .next rfl λs2 sO=>?_
 have K:=X.ik sO;have m:=A.rely K;have f2:=f1.rely K A;have Q:∃ L,s2.β[k]?=aa L/\L.v=.func (.yield l) #[] #[]:=by
  obtain⟨B',L',k1,T,M⟩:=(I.trans K.stepW).box k _ _ o h1;rw[p] at k1;cases k1;exact⟨L',T,M⟩
 obtain⟨Y,fn2,V9,g1,g2,g3,g4,g5⟩:=m.zZ p Q;have g6:=m.z0 (r':={ r with state:=.busy }) p g1 g2 g3 g4 g5 (.inr rfl);have C:∀ {s:St} {σ:List aV} {L:Loc},s.β[k]?=aa L->L.bs=[l]->eZ s #[⟨.obj l,ae,ae⟩,⟨.obj l,ab,ae⟩]:=λ{s σ L} hL hb =>
  .two (lU (bU hL) (by grind)) (lU (bU hL) (by grind))
 refine⟨_,_,_,J6 (l:=l) rfl hb g2 W,⟨⟨_,_,m,g6.1,g6.2⟩,eZ.seen (C (σ:=σ1) g1 rfl)⟩,?_⟩;have y:=g6.2.oG m;have P3:=g6.1;refine q _ a1 (f2.mono y m.len) P3 b [] (c::cs) S hb ?_;rintro e φ3 V s3 a3 ⟨hj,u,ii,B⟩ f3 F U;have stA:=((I.trans K.stepW).trans y).trans U;have fin:∀ E g,cj s3 g->((j=af/\E=[])∨(j=aa .ret/\∃ k1,E=.code .ret::k1)∨(∃ id k1,j=aa (.exit id)/\E=.code (.exit id)::k1/\exitTo id k1=af)) ->
   ∃ g' s' es,aK P X.main (G (b.aT a3 E) (c::cs)) g.w=.go g' s'.w es/\qx g s' es/\ft X S g' s':=by
  intro E g d Z;have n:=F.rely d;have H:∃ L,g.β[k]?=aa L/\L.v=.func (.yield l) #[] #[]:=by
   obtain⟨B',L',k1,T,M⟩:=(stA.trans d.stepW).box k _ _ o h1;rw[u] at k1;cases k1;exact⟨L',T,M⟩
  obtain⟨R,fn5,df5,p1,p2,p3,p4,p5⟩:=n.zZ u H;have z:=n.z0 (r':={ r with state:=if j.isNone then .ready else .done,pending:=j }) u p1 p2 p3 p4 p5 (.inr rfl)
  obtain⟨p7,p8,_⟩:=B _ z.1;exact⟨_,_,_,BV (l:=l) rfl rfl p2 Z,⟨⟨_,_,n,z.1,z.2⟩,eZ.seen (C (σ:=V) p1 rfl)⟩,hS ii _ p7 (((stA.trans d.stepW).trans (z.2.oG n)).trans (p8.oG z.1))⟩
 cases e with
 |normal =>
  cases hj;exact .next rfl λg d=>fin [] g (X.ik d) (.inl ⟨rfl,rfl⟩)
 |ret =>
  cases hj;intro pre;exact .next rfl λg d=>fin _ g (X.ik d) (.inr (.inl ⟨rfl,pre,rfl⟩))
 |exit id =>
  cases hj;intro pre hp;refine .next rfl λg d=>fin _ g (X.ik d) (.inr (.inr ⟨id,_,rfl,rfl,?_⟩))
  have:=hp [];simpa[exitTo] using this
 |_=>cases hj
end
def nD{P:aq}(X:Cx P)(N:Nat)(c:Code)(Q:Post)(φ:Fr)(σ:List aV):Prop :=
 ∀ s a,cx N σ s φ a->aJ σ s->∀ (b:aR) (k:List Item) (cs:List aR) (S:au->St->Prop),b.kind≠.early->b.roundOf=af ->
  (∀ e d σ' s' a',Q e d σ'->cx N σ' s' d a'->aJ σ' s'->cD σ s σ' s'->ends X S b k cs e a' s')->ft X S (G (b.aT a (.code c::k)) cs) s
section
variable {P:aq}{X:Cx P}{N:Nat}{Q:Post}{φ:Fr}{σ:List aV}
def AW.top{c:Code}(h:AW X N c Q φ σ):nD X N c Q φ σ:=λs a f hh b k cs S hb _ d=>h s a f hh b k cs S hb d
def nD.seq{x y:Code}(h:nD X N x (FZ (nD X N y Q) Q) φ σ):nD X N (.seq x y) Q φ σ:=by
 intro s a j hh b k cs S hb Na hQ;refine .ctl hh rfl (λ_=>nR) λl h1=>?_
 refine h l a (j.rely h1 hh) (hh.rely h1) b (.code y::k) cs S hb Na ?_;intro e i σ' s' a' q g f st;have c:=h1.stepW.trans st;cases e with
 |normal=>exact q s' a' g f b k cs S hb Na λe d σ2 s2 a2 q2 f2 h2 oB=>hQ e d σ2 s2 a2 q2 f2 h2 (c.trans oB)
 |_=>exact ends.cons (λ_ _=>rfl) (by simp) (hQ _ _ _ _ _ q g f c)
def nD.block{id:Nat}{c:Code}(h:nD X N c (z8 id Q) φ σ):nD X N (.block id c) Q φ σ:=by
 intro s a m hh b k cs S hb Na hQ;refine .ctl hh rfl (λ_=>rB) λn h1=>?_
 refine h n a (m.rely h1 hh) (hh.rely h1) b (.inBlock id::k) cs S hb Na ?_;intro e g σ' s' a' q i f st;have d:=h1.stepW.trans st;cases e with
 |normal =>
  exact .ctl f rfl (λ_=>qy) λs2 h2=>hQ .normal g σ' s2 a' q (i.rely h2 f) (f.rely h2) (d.trans h2.stepW)
 |exit I7 =>
  simp only[z8] at q;split at q
  .rename_i e
   subst e;intro pre hp;refine .ctl f rfl (λ_=>zx (k':=k) (by rw[hp];simp[exitTo])) λs2 h2=>?_
   exact hQ .normal g σ' s2 a' q (i.rely h2 f) (f.rely h2) (d.trans h2.stepW)
  .rename_i j
   intro pre hp;have:=hQ (.exit I7) g σ' s' a' q i f d (pre++[.inBlock id]) (λk'=>by
    rw[j8,hp];have:(id==I7)=ae:=by grind
    simp[exitTo,this])
   grind
 |ret=>exact hQ _ _ _ _ _ q i f d
 |panic ch=>exact hQ _ _ _ _ _ q i f d
 |goto l=>exact hQ _ _ _ _ _ q i f d
 |outgrown=>exact hQ _ _ _ _ _ q i f d
def aJ.Rm{s:St}(h:aJ σ s){o:Nat->Prop}(e:∀ b,o b->b<s.w.heap.size/\∀ L∈s.β,b∉L.bs):aJ σ { s with own:=o } :=
 ⟨h.mem,h.len,λl B L a c=>eP.carry (σ:=σ) (s:=s) (σ':=σ) (s':={ s with own:=o }) ⟨λ_ _ _ h=>h,λ_ B L h d=>⟨B,L,h,d,.refl _ _⟩⟩ h.len (λ_ _=>⟨rfl,λ_=>rfl⟩) (h.box l B L a c),h.gg,h.lt,e⟩
def aJ.iu{s:St}(h:aJ σ s){r:Nat}{o:Nat->Prop}(j:s.own r)(m:∀ b,o b->s.own b)(k:¬o r)(g:∀ i,s.M r i=af)(f:s.w.heap[r]?=aa (.deferred (aa []))) :
  aJ (σ++[.qV]) { s with β:=s.β++[⟨.int .i64 r,[r]⟩],own:=o }/\eR s { s with β:=s.β++[⟨.int .i64 r,[r]⟩],own:=o }:=by
 obtain⟨t,p⟩:=h.own r j;have ex:Ext σ s (σ++[.qV]) { s with β:=s.β++[⟨.int .i64 r,[r]⟩],own:=o }:=by
  refine⟨λ_ _ _ h=>h,λl B L c a=>⟨B,L,?_,?_,.refl _ _⟩⟩
  .grind
  grind
 refine⟨⟨h.mem,by simp[h.len],?_,?_,?_,?_⟩,⟨rfl,λ_ _ _ h=>h,λ_ _ _=>rfl,h.mem,?_⟩⟩
 .intro l B L c a;rcases fT a with d|⟨hl,rfl⟩
  .have hl:l<σ.length:=by rw[<-h.len];grind
   rw[jD hl] at c;exact(h.box l B L c d).carry ex h.len λ_ _=>⟨rfl,λ_=>rfl⟩
  .rw[hl,h.len,gk (bg _)] at c;simp at c;subst c;exact⟨r,rfl,f,g⟩
 .intro l l' L L' a e b hb oO;rcases fT a with k1|⟨e1,rfl⟩ <;> rcases fT e with n|⟨e2,rfl⟩
  .exact h.gg l l' L L' k1 n b hb oO
  .grind
  .grind
  grind
 .intro L a b hb;simp only[gC,kY] at a;rcases a with a|rfl
  .exact h.lt L a b hb
  grind
 .intro b hb;obtain⟨q,p2⟩:=h.own b (m b hb)
  grind
 grind
def J7:Option Code->Option Exit
 |none=>aa .normal
 |some .ret=>aa .ret
 |some (.exit id)=>aa (.exit id)
 |_=>af
def nD.rangeFunc{ι:Type}{f:an}{ps:Array Tmp}{assign body:Code}{F:aW}{capD:List D}{res:ι->D}{σ':ι->List aV}{r':ι->Loop}
  (M6:∀ s a,cx N σ s φ a->aJ σ s->∃ n:List ak,a.eval f=.func (.func F) #[] n.toArray/\cz σ s n capD)
  (Nm:cM X F (.e (.one (.ref σ.length))::capD) (σ++[.loop N φ { state:=.ready,pending:=af,fn:=0,tmps:=#[],params:=ps,assign:=assign,body:=body,defers:=0 }]) res σ')
  (hl:∀ i,(σ' i)[σ.length]?=aa (.loop N φ (r' i))/\(r' i).state≠.busy)
  (k:∀ i,∃ e,J7 (r' i).pending=aa e/\Q e φ ((σ' i).set σ.length .dead++[.qV])):nD X N (.rangeFunc f ps assign body) Q φ σ:=by
 intro s a fr hh b kk cs S hb Na hQ;obtain⟨⟨fn,TT,R,H⟩,z⟩:=Nm;refine .next rfl λd Tc=>?_
 have hr:=X.ik Tc;have g:=hh.rely hr;have f1:=fr.rely hr hh;obtain⟨n,hv,C⟩:=M6 d a f1 g;generalize VU:d.w.heap.size=r;have u:=λmain=>zY (P:=P) (main:=main) (k:=kk) (cs:=cs) (ps:=ps) (assign:=assign) (body:=body) (b:=b) (w:=d.w) Na hb TT R H hv
 rw[VU] at u
 let w1:az:={ d.w with heap:=d.w.heap.push (.deferred (aa [])) }
 let lo:Loop:={ state:=.ready,pending:=af,fn:=b.fn,tmps:=a.tmps,params:=ps,assign:=assign,body:=body,defers:=r }
 let w2:az:={ d.w with heap:=(d.w.heap.push (.deferred (aa []))).push (.loop lo) }
 have Ds:w2.heap.size=r+2:=by grind
 have acM:w1.heap.size=r+1:=by grind
 have hk1:∀ b,b<d.w.heap.size->w1.heap[b]?=d.w.heap[b]?:=λb hb=>by
  grind
 have T:∀ b,b<w1.heap.size->w2.heap[b]?=w1.heap[b]?:=λb hb=>by
  grind
 have hk2:∀ b,b<d.w.heap.size->w2.heap[b]?=d.w.heap[b]?:=λb hb=>by grind
 have O:w2.heap[r]?=aa (.deferred (aa [])):=by
  grind
 have W:w2.heap[r+1]?=aa (.loop lo):=by
  grind
 have nM:∀ b,d.w.heap.size<=b->∀ o,d.M b o=af:=λb hb o=>by
  cases x:d.M b o with
  |none=>rfl
  |some v=>have:=g.block x;omega
 let L1:Loc:=⟨.func (.yield (r+1)) #[] #[],[r+1]⟩
 let L2:Loc:=⟨.int .i64 r,[r]⟩
 let rr:Loop:={ state:=.ready,pending:=af,fn:=0,tmps:=#[],params:=ps,assign:=assign,body:=body,defers:=0 }
 obtain⟨g1,g2⟩:=g.grow (M':=d.M) (w':=w2) (by omega) hk2 (λ_ _ _=>rfl) (λb hb o v x=>by grind) rfl rfl rfl
 have J:Ext σ d (σ++[.loop N φ rr]) ⟨d.β++[L1],d.M,w2,d.own⟩:=by
  refine⟨λ_ _ _ h=>h,λl B L hB m=>⟨B,L,?_,?_,.refl _ _⟩⟩
  .grind
  grind
 obtain⟨a1,a2⟩:=g1.gT (B:=.loop N φ rr) (L:=L1) g2 rfl g ⟨r+1,a.tmps,b.fn,r,rfl,W,f1.size,λt=>(f1.slot t).mono J g.len,λo=>nM _ (by omega) o⟩ (λb hb=>by
  grind)
 have hD:=a1.Rm (o:=λb=>d.own b∨b=r) (by
  rintro b (hb|rfl)
  .exact a1.own b hb
  .refine⟨by grind,λL m=>?_⟩
   simp only[gC,kY] at m;rcases m with m|rfl
   .intro V;have:=g.lt L m b V;omega
   grind)
 have d1:=g.lE;obtain⟨e1,e2⟩:=d1.grow (M':=d.M) (w':=w1) (by omega) hk1 (λ_ _ _=>rfl) (λb hb o v x=>by grind) rfl rfl rfl
 obtain⟨e3,e4⟩:=e1.gT (B:=.dead) (L:=L2) e2 rfl d1 av (λb hb=>by grind)
 obtain⟨e5,e6⟩:=e3.grow (M':=d.M) (w':=w2) (by grind) T (λ_ _ _=>rfl) (λb hb o v x=>by
  grind) rfl rfl rfl
 obtain⟨e7,e8⟩:=e5.gT (B:=.dead) (L:=L1) e6 rfl e3 av (λb hb=>by grind)
 have Wd:eR ⟨d.β++[L2]++[L1],d.M,w2,d.own⟩ ⟨d.β++[L1],d.M,w2,λb=>d.own b∨b=r⟩:=by
  refine⟨rfl,λ_ _ _ h=>h,λ_ _ _=>rfl,a1.mem,?_⟩
  rintro b ((hb|rfl)|⟨L,m,hb⟩)
  .grind
  .exact .inr ⟨L2,by simp,by grind⟩
  grind
 refine⟨_,⟨d.β++[L2]++[L1],d.M,w2,d.own⟩,_,u X.main,⟨⟨_,_,d1,e7,e4.trans e8⟩,.nil⟩,.ghost Wd (z _ (Value.func (.yield (r+1)) #[] #[]::n) ?_ hD S _ λi Th v s4 E mQ We st4=>?_)⟩
 .refine⟨⟨λB p=>?_,L1,?_,rfl,rfl⟩,?_⟩
  .rw[gk (bg _)] at p;simp at p;subst p;rfl
  .show (d.β++[L1])[σ.length]?=_;rw[<-g.len,gk (bg _)];simp
  .exact C.mono (σ:=σ) (s:=d) (σ':=σ++[.loop N φ rr]) (s':=⟨d.β++[L1],d.M,w2,λb=>d.own b∨b=r⟩) ⟨J.mem,J.box⟩ g.len
 have Z:(b.aT { a with defers:={ target:=.collected r,args:=#[] }::a.defers } (.inRangeFunc (r+1)::kk)).finish v=b.aT { a with defers:={ target:=.collected r,args:=#[] }::a.defers } (.endRangeFunc (r+1)::kk):=by simp[Frame.finish,Frame.aT]
 refine pM (cs:=cs) (c:=b.aT { a with defers:={ target:=.collected r,args:=#[] }::a.defers } (.inRangeFunc (r+1)::kk)) We E λs5 hr5=>?_
 rw[Z];refine .next rfl λs6 Y=>?_
 have hr6:=X.ik Y;have y:=(We.rely hr5).rely hr6;have U:=(st4.trans hr5.stepW).trans hr6.stepW;obtain⟨I,Wf⟩:=hl i;have hLl:∃ L,s6.β[σ.length]?=aa L/\L.v=.func (.yield (r+1)) #[] #[]:=by
  obtain⟨B',L',k1,k2,k3⟩:=U.box σ.length (.loop N φ rr) L1 (show (σ++[aV.loop N φ rr])[σ.length]?=_ from List.getElem?_concat_length) (by
   show (d.β++[L1])[σ.length]?=_;rw[<-g.len,gk (bg _)];simp)
  rw[I] at k1;cases k1;exact⟨L',k2,k3⟩
 obtain⟨K,fn6,df6,p1,p2,p3,p4,p5⟩:=y.zZ I hLl;obtain⟨q1,q2⟩:=y.z0 (r':={ r' i with state:=.exhausted }) (B':=.dead) I p1 p2 p3 p4 p5 (.inl rfl);refine⟨_,_,_,D9 p2 Wf,⟨⟨_,_,y,q1,q2⟩,eZ.seen (.two (lU (bU p1) (by simp)) (lU (bU p1) (by simp)))⟩,?_⟩
 have j:=U.trans (q2.oG y);generalize hs7:({ s6 with w:={ s6.w with heap:=s6.w.heap.setIfInBounds (r+1) (.loop { { r' i with state:=.exhausted } with tmps:=K,fn:=fn6,defers:=df6 }) } }:St)=s7 at q1 q2 j;have h7r:s7.own r:=by rw[j.own];grind
 have h7d:s7.w.heap[r]?=aa (.deferred (aa [])):=by rw[j.eN r (.inr rfl)];exact O
 have h7M:∀ o,s7.M r o=af:=λo=>by
  rw[j.jz r (by grind) (λL m=>(hD.own r (.inr rfl)).2 L m)]
  grind
 obtain⟨t1,t2⟩:=q1.iu (r:=r) (o:=d.own) h7r (λb hb=>by rw[j.own];grind) (λV=>by have:=(g.own r V).1;omega) h7M h7d
 refine .ghost t2 ?_;have A:cD σ d ((σ' i).set σ.length .dead++[.qV]) { s7 with β:=s7.β++[⟨.int .i64 r,[r]⟩],own:=d.own }:=by
  refine⟨?_,λb hb=>?_,λb o v x=>j.mem b o v x,λb hb hn o=>?_,λL m b hb=>?_,λl B L hB m=>?_,j.os,j.tape,j.output,rfl⟩
  .grind
  .show s7.w.heap[b]?=_;rw[j.eN b (.inl hb)];exact hk2 b (g.own b hb).1
  .show s7.M b o=_;rw[j.jz b (by grind) (λL m=>?_)]
   grind
  .simp only[gC,kY] at m;rcases m with m|rfl
   .rcases j.xC L m b hb with h1|⟨L0,h1,h2⟩
    .grind
    grind
   grind
  .have QH:=(cr.1 hB).1;have QI:=(cr.1 m).1;obtain⟨B',L',k1,k2,k3⟩:=j.box l B L (by grind) (by grind)
   grind
 have fF:cx N ((σ' i).set σ.length .dead++[.qV]) { s7 with β:=s7.β++[⟨.int .i64 r,[r]⟩],own:=d.own } φ { a with defers:={ target:=.collected r,args:=#[] }::a.defers }:=by
  have x:=f1.mono A g.len;obtain⟨ls,Rn⟩:=f1.defers;refine⟨x.size,⟨((σ' i).set σ.length .dead).length::ls,⟨⟨?_,⟨.int .i64 r,[r]⟩,r,?_,rfl,rfl⟩,λV=>?_,Rn.mono A.ext⟩⟩,x.slot⟩
  .grind
  .show (s7.β++_)[_]?=_;rw[<-q1.len,gk (bg _)];simp
  .have h1:=Rn.BW _ V
   grind
 obtain⟨e,p,hq⟩:=k i;have q:=hQ e φ _ _ _ hq fF t1 (hr.stepW.trans A);revert p;show J7 (r' i).pending=aa e->ft X S (G (b.aT _ (((r' i).pending.map Item.code).toList++kk)) cs) _;intro p;cases hp:(r' i).pending with
 |none=>rw[hp] at p;cases p;exact q
 |some c =>
  rw[hp] at p;cases c <;> simp only[J7,reduceCtorEq,di] at p
  .subst p;exact q [] (λ_=>rfl)
  .subst p;exact q kk
def cx.callee{t:Nat}{F:aW}{cap:List C}(hl:look φ t=.e (.one (.c (.fn (.func F) [] cap)))):∀ s a,cx N σ s φ a->aJ σ s->∃ b:List ak,a.eval (.tmp t)=.func (.func F) #[] b.toArray/\cz σ s b (fY cap):=by
 intro s a d _;have h:=d.slot t;rw[hl] at h;have h:=fy h;show ∃ b:List ak,a.tmps.getD t aj=.func (.func F) #[] b.toArray/\_;generalize a.tmps.getD t aj=v at h;cases h with
 |fn fs cs hl Bl f1 f2 h1 h2 r1 r2 =>
  grind [lP]
def cM.z9{ι:Type}{f:aW}{fn:Func}{c:Code}{args:List D}{σ':ι->List aV}{res:ι->D}(m:P.funcs[f]?=aa fn)(d:(fn.name== "runtime.NumGoroutine")=ae)(hb:fn.body=aa c)(g:bo args.length fn.ntmps=ab)
  (h:Fits args σ->nD X fn.ntmps c (λe φ σ1=>∃ j,b6 fn σ.length (res j) (σ' j) e φ σ1) (js 0 args) σ):cM X f args σ res σ':=by
 refine⟨⟨fn,m,d,by grind⟩,λs0 vs hr hh=>?_⟩
 exact(cM.P4 m d hb (db g) λs a f l b k cs S o i n=>h ⟨s0,vs,hr,hh⟩ s a f l b k cs S o i n).2 s0 vs hr hh
def XK(fn:Func)(res:D)(σ':List aV):Post:=λe φ σ1 =>
 (e=.ret∨e=.normal)/\σ1=σ'/\mv σ'=ab/\∃ ds d ps,xH φ fn.results.toList=aa ds/\rL ds=aa d/\Dt d res=aa ps/\ag ps
def cM.mV{ι:Type}{f:aW}{fn:Func}{c:Code}{args:List D}{σ':ι->List aV}{res:ι->D}(p:P.funcs[f]?=aa fn)(k:(fn.name== "runtime.NumGoroutine")=ae)(hb:fn.body=aa c)(g:bo args.length fn.ntmps=ab)
  (h:AW X fn.ntmps c (λe φ σ1=>∃ j,XK fn (res j) (σ' j) e φ σ1) (js 0 args) σ):cM X f args σ res σ':=by
 refine⟨⟨fn,p,k,by grind⟩,λs vs hr hh S cs hS=>?_⟩
 obtain⟨hl,J⟩:=cz.get hr
 let b:aR:={ fn:=f,tmps:=#[],todo:=[],defers:=[],mode:=.run,kind:=.normal,roundOf:=af }
 have a:Frame.enter P f vs.toArray .normal=b.aT { tmps:=vs.toArray++Array.replicate (fn.ntmps-vs.toArray.size) aj,defers:=[] } [.code c]:=by
  simp[Frame.enter,Frame.aT,p,hb,b]
 rw[a];have g:=db g;refine h s { tmps:=vs.toArray++Array.replicate (fn.ntmps-vs.toArray.size) aj,defers:=[] } ⟨by grind,⟨[],av⟩,λt=>?_⟩ hh b [] cs S (by simp[b]) ?_
 .rw[nY];simp only[gD,cu,mh];have:=J t;rcases cJ t vs.length with z|A
  .have e:(vs.toArray++Array.replicate (fn.ntmps-vs.toArray.size) aj).getD t aj=(vs[t]?).getD aj:=by
    simp only[dG]
    grind
   grind
  .rw[q8 (by omega)]
   trivial
 .rintro e E σ1 s1 a1 ⟨F,o,rfl,n,ds,d,ps,h1,h2,C,y⟩ B m st;have fin:∀ (fr:aR) s2,cj s1 s2->fr.fn=f->fr.tmps=a1.tmps->fr.defers=a1.defers->fr.mode=.returning->fr.kind=.normal->ft X S (G fr cs) s2:=by
   intro fr s2 sO e1 e2 e3 e4 e5;have q:=B.rely sO m;obtain⟨v,x,H,I⟩:=tP (P:=P) q h1 h2;obtain⟨ls,i⟩:=q.defers;have r:a1.defers=[]:=by
    cases ls with
    |nil=>cases u:a1.defers with
     |nil=>rfl
     |cons d ds=>rw[u] at i;exact i.elim
    |cons l ls=>exact absurd rfl (na n _ (bU (i.BW l (by simp))))
   refine hS F fr v _ ⟨e1,e4,by grind,e5,fn,by grind,λw _=>?_⟩ (qA C y H) (m.rely sO) (st.trans sO.stepW)
   rw[e2];exact⟨x w,λe o=>by rw[I w #[]] at o;grind⟩
  rcases o with rfl|rfl
  .intro pre;exact .ctl m rfl (λ_=>DI rfl) λs2 sO=>fin _ s2 sO rfl rfl (k7 _) rfl rfl
  .exact .ctl m rfl (λ_=>DJ rfl) λs2 sO=>fin _ s2 sO rfl rfl (k7 _) rfl rfl
end
end
end Go.AM
namespace Go.AM.R1
section
open Go.Proofs
variable {X:Cx ah}
def RL(x:cC) (n:Int):Ev X 172 [X5 x,.e (.one (.c (.rp [.int .i64 n])))] [] (dB (x.1==n)) []:=by
 refine Ev.bQ Tryz.func172 rfl λa=>?_
 refine bk rfl av (AK.bn rfl ?_);simp[ag]
def RM:dk:=λargs σ=>match args,σ with
 |[.e (.agg [.c (.int .i64 a0),.c (.str a1)]),.e (.one (.c (.rp [.int .i64 n])))],[]=>aa (dB (a0==n),[],[a1=a1])
 |_,_=>af
def t172:dM X 172 RM:=by
 intro args σ res σ' obs h c;unfold RM at h;split at h
 .rename_i b a n
  cases h;exact RL (b,a) n
 .cases h
abbrev KN(n:Int):D:=.e (.one (.c (.fn (.func 172) [] [.rp [.int .i64 n]])))
def Ao(l:List cC) (n:Int):Int:=match l.findIdx? (λx=>x.1==n) with|some i=>i|none=>-1
def Oj{t:List cC}{n:Int}{i:Nat}(hi:i<t.length)(h:(t.getD i (0,[])).1=n)(a:∀ j,j<i->(t.getD j (0,[])).1≠n):Ao t n=i:=by
 have:t.findIdx? (λf=>f.1==n)=aa i:=by
  rw[qu];refine⟨hi,?_,λj b=>?_⟩
  .grind
  grind
 rw[Ao,this]
def Hn{t:List cC}{n:Int}(a:∀ j,j<t.length->(t.getD j (0,[])).1≠n):Ao t n=-1:=by
 have:t.findIdx? (λf=>f.1==n)=af:=by
  rw[qX];intro f b;obtain⟨j,c,rfl⟩:=dH b
  grind
 rw[Ao,this]
def Ol(t:List cC) (n:Int):Ev X 171 [dK.sl t,KN n] [] (dI (Ao t n)) []:=by
 refine Ev.bQ Tryz.func171 rfl λe=>?_
 have d:=e.sl 0 rfl;have b:bD X [(172,RM)]:=.cons t172 .nil;refine aC b [] 100 rfl av ?_;refine AK.jP (λi=>i<=t.length/\∀ j,j<i->(t.getD j (0,[])).1≠n) (λi:Nat=>[(0,dK.sl t),(1,KN n),(7,dI t.length),(8,dI i)]) (λ_=>[]) (λi=>t.length-i) 0 rfl ?_ rfl av ⟨by omega,by omega⟩ ?_
 .simp[ag.cat,ag,aP.same]
 rintro i ⟨hi,a⟩
 by_cases h:i<t.length
 .by_cases c:(t.getD i (0,[])).1=n
  .refine aC b [(9,ab),(16,ab)] 100 rfl ?_ (AK.gK (b6.zero rfl ?_))
   .simp only[ag,bA]
    grind
   .simp[ag,Oj h c a]
  .refine aC b [(9,ab),(16,ae)] 100 rfl ?_ (AK.fW (i+1) rfl ?_ rfl av ?_ ?_)
   .simp only[ag,bA];exact⟨by simp only[bx];omega,av,dt.2 c,by omega,by omega,cn (by omega)⟩
   .simp[ag.cat,ag,aP.same]
   .grind
   .omega
 .refine aC b [(9,ae)] 100 rfl (by simp[ag];omega) (AK.leave rfl rfl ?_)
  refine aC b [] 100 rfl av (AK.bn rfl ?_);simp[ag,Hn (λj f=>a j (by omega))]
def RN:dk:=λargs σ=>match args,σ with
 |[d,.e (.one (.c (.fn (.func 172) [] [.rp [.int .i64 n]])))],[]=>match kR 2 d with
  |none=>af
  |some (m,es)=>aa (dI (Ao (dK.list m es) n),[],[dK.fits m es])
 |_,_=>af
def t171:dM X 171 RN:=by
 intro args σ res σ' obs h a;unfold RN at h;split at h
 .rename_i d n
  split at h
  .cases h
  rename_i m es hd
  cases h;exact(Ol _ n).args (λ_ vs=>cz.imp (λ_=>dK.jS hd a) (cz.imp (λ_ r=>r) (λ_ r=>r)) vs)
 .cases h
def Er(t:List cC) (n:Int):(Ao t n=-1/\t.find? (λx=>x.1==n)=af)∨∃ i:Nat,i<t.length/\Ao t n=i/\t.find? (λx=>x.1==n)=aa (t.getD i (0,[])):=by
 unfold Ao;cases h:t.findIdx? (λx=>x.1==n) with
 |none =>
  grind
 |some i =>
  rw[qu] at h;obtain⟨hi,a,b⟩:=h;refine .inr ⟨i,hi,rfl,?_⟩;rw[vo]
  grind
def Et(a:dM X 219 ph) (k:Int)(p:bw) (n:Int)(g:ck k=ab):Ev X 137 [dI k,xQ p,dI n] [] (An (dA k p n)) []:=by
 refine Ev.bQ Tryz.func137 rfl λh=>?_
 have f:bD X [(171,RN),(173,p9 To aI (λx k=>An (chunk k x)) λ_ k=>[ck k=ab])]:=.cons t171 (.cons (KM a) .nil)
 have d:dK.list p.2.length (dK.fn p.2)=p.2:=dK.list_fn _;refine aX [] 7 rfl av ?_;refine AK.freeze 5 1 rfl rfl rfl ?_;rcases Er p.2 n with⟨b,c⟩|⟨i,hi,b,c⟩
 .refine aC f [(14,ab)] 100 rfl ?_ (AK.bn rfl ?_)
  .simp only[ag,d,b];exact⟨rfl,dK.aH _⟩
  .simp[ag.cat,ag,dA,c]
 .refine aC f [(14,ae)] 100 rfl ?_ (AK.bn rfl ?_)
  .simp only[ag,d,b];exact⟨g,by omega,by omega,eC (by omega),dK.aH _⟩
  .have e:dA k p n=chunk k (p.2.getD i (0,[])):=by simp only[dA,c]
   rw[e,d,b];simp only[bA];exact ag.cat.2 ⟨rfl,ag.cat.2 ⟨rfl,av⟩⟩
def RO(a:dM X 219 ph):dM X 137 (Dw aI (Ho dK) aI (λk p n=>An (dA k p n)) λk _ _=>[ck k=ab]):=.I8 λk p n h=>Et a k p n h
end
end Go.AM.R1
namespace Go.AM
section
open Go.Conc
def gz (s:St):Prop:=∀ b o v,s.M b o=aa v->s.w.cell? ⟨b,o,af⟩=aa v
def lS (c:Nat->Prop):Go.Loc->Prop
  | .cell a=>c a.block
  | .obj r=>c r
  | _=>False
structure Clear (c:Nat->Prop) (s:St):Prop where
  own:∀ b,c b->¬s.own b
  β:∀ b,c b->∀ L∈s.β,b∉L.bs
  M:∀ b,c b->∀ o,s.M b o=af
  lt:∀ b,c b->b<s.w.heap.size
section
variable {c:Nat->Prop} {s s':St}
def Clear.step {σ σ':List aV} (h:Clear c s) (st:Step σ s σ' s'):Clear c s':=by
  refine⟨λb hb=>by rw[st.own];exact h.own b hb,λb hb L f a=>?_,λb hb o=>by rw[st.jz b (h.lt b hb) (h.β b hb)];exact h.M b hb o,λb hb=>cG (h.lt b hb) st.size⟩
  rcases st.xC L f b a with h1|⟨d,e,h1⟩
  · exact absurd (h.lt b hb) (kB.2 h1)
  · exact h.β b hb d e h1
theorem Clear.ghost (h:Clear c s) (k:eR s s'):Clear c s':=by
  have hn:∀ b,c b->¬(s'.own b∨∃ L∈s'.β,b∈L.bs):=λb hb e=>by
    rcases k.blk b e with e|⟨L,a,e⟩
    · exact h.own b hb e
    · exact h.β b hb L a e
  exact⟨λb hb e=>hn b hb (.inl e),λb hb L a e=>hn b hb (.inr ⟨L,a,e⟩),λb hb o=>by rw[k.jz b (h.β b hb)];exact h.M b hb o,λb hb=>by rw[k.w];exact h.lt b hb⟩
def Clear.forget (h:Clear c s) (k:mR s s'):Clear c s':=by
  refine⟨λb hb=>by rw[k.own];exact h.own b hb,λb hb=>by rw[k.β];exact h.β b hb,λb hb o=>?_,λb hb=>by rw[k.w];exact h.lt b hb⟩
  cases e:s'.M b o with
  | none=>rfl
  | some v=>rw[<-k.less b o v e,h.M b hb o]
def Clear.at (h:Clear c s) (d:Nat):Clear c { s with w:=s.w.at d }:=⟨h.own,h.β,h.M,h.lt⟩
def gz.at (h:gz s) (d:Nat):gz { s with w:=s.w.at d }:=h
theorem gz.ghost (k:eR s s'):gz s':=λb o v a=>by rw[k.w];exact k.cell b o v a
def gz.forget (h:gz s) (k:mR s s'):gz s':=λb o v a=>by rw[k.w];exact h b o v (k.less b o v a)
def gz.lt (h:gz s) {b o:Nat} {v:ak} (a:s.M b o=aa v):b<s.w.heap.size:=by
  have:=h b o v a;rcases cJ b s.w.heap.size with h1|h1
  · exact h1
  · simp[a9,zo h1] at this
def cj.at (h:gz s) (d:Nat):cj s { s with w:=s.w.at d }:=⟨rfl,rfl,rfl,bg _,λ_ _=>rfl,h,rfl,rfl,rfl⟩
def QJ {σ:List aV} {e:Event} (k:aJ σ s) (n:Clear c s) (h:oE s e) {B:Nat} (o:s.w.heap.size<=B):EvL (lS c) B e:=by
  obtain⟨l,wr,q⟩:=e;cases l with
  | cell a =>
    obtain⟨g,j,b⟩:=h;simp only at g j b;subst g;have key:¬c a.block/\a.block<s.w.heap.size:=by
      rcases b with b|⟨⟨L,i,b⟩,_⟩|⟨_,v,b⟩
      · exact b.elim
      · exact⟨λx=>n.β _ x L i b,k.lt L i _ b⟩
      · refine⟨λx=>?_,gz.lt k.mem b⟩
        rw[n.M _ x] at b;cases b
    exact evL_cell a wr key.1 (cG key.2 o)
  | obj r =>
    obtain⟨g,j⟩:=h;simp only at g j;subst g;obtain⟨L,i,b⟩:=j.resolve_left id;refine⟨λx d p=>?_,by simp,by simp,?_⟩
    · simp[aM,MemAct.touch?] at d
      subst d;exact absurd b (n.β _ p L i)
    · simp[aM,MemAct.low,Loc.low]
      exact cG (k.lt L i _ b) o
  | mark m =>
    simp only[oE] at h;rcases h with rfl|⟨f,rfl⟩
    · exact⟨λx d=>by simp[aM,MemAct.touch?] at d,by simp,by simp,by simp[aM,MemAct.low]⟩
    · exact⟨λx d=>by simp[aM,MemAct.touch?] at d,by simp,by simp,by simp[aM,MemAct.low]⟩
  | _=>exact h.elim
end
def rD (t:Trace):Prop:=∀ a,NoRelease a t
def rD.app {t:Trace} (h:rD t) {g:Nat} {fn:aW} {pos:String} {es:Array Event} (b:∀ e∈es,∀ a,e.loc≠.mark (.release a)):rD (t++MemOp.ofEvents g fn pos es) :=
  λa=>(h a).app λop mo hx=>by
    grind [Go.Conc.mem_ofEvents,Go.ConcR.loc_of_ofEvent]
def DK {s:St} {e:Event} (d:oE s e) (a:Addr):e.loc≠.mark (.release a):=by
  intro b;obtain⟨loc,wr,g⟩:=e;simp only at b;subst b;rcases d with h|⟨f,h⟩ <;> cases h
def vq {e:Event} (d:e.mute=ab) (a:Addr):e.loc≠.mark (.release a):=by
  intro b;obtain⟨loc,wr,f⟩:=e;simp only at b;subst b;simp[Event.mute] at d
def TH (P:aq) (g:au) (s:St) (T:au->St->Prop):Prop :=
  ∀ (c:Nat->Prop) (e:Array au) (sl:Option (Nat×Nat)) (t:Trace) (q:Nat->Nat),gz s->e[0]?=aa g->Leavers P t e q->Past (lS c) s.w.heap.size t->Clear c s->rD t ->
    ∃ (N:Nat) (b:Nat->Prop) (a:Array au) (g':au) (s':St) (f:Option (Nat×Nat)) (d:Trace) (h:Nat->Nat),
      runNT P N (crowd e s.w sl) t=(.next (crowd a s'.w f),d)/\gz s'/\a[0]?=aa g'/\Leavers P d a h/\Past (lS b) s'.w.heap.size d/\Clear b s'/\rD d/\T g' s'
def Cx.beside (P:aq):Cx P:={ main:=ab,rely:=λs s'=>cj s s'/\∃ d,s'={ s with w:=s.w.at d },xF:=TH P,ik:=λh=>h.1,Bp:=True }
instance (P:aq):(Cx.beside P).jr:=⟨av⟩
theorem runNT_add {P:aq}:∀ (N M:Nat) {m a:Machine} {t b:Trace},runNT P N m t=(.next a,b)->runNT P (N+M) m t=runNT P M a b
  | 0,M,m,a,t,b,h=>by simp[runNT] at h;grind
  | N+1,M,m,a,t,b,h=>by
    rw[show N+1+M=(N+M)+1 by omega]
    simp only[runNT] at h ⊢;cases d:stepT P m with
    | mk r ops =>
      rw[d] at h;cases r with
      | next m1=>exact runNT_add N M h
      | ended o w=>grind
def ft.beside {P:aq} {S:au->St->Prop} {g:au} {s:St} (h:ft (Cx.beside P) S g s):TH P g s S:=by
  induction h with
  | stop h=>intro c b sl t q A r o v u hn;exact⟨0,c,b,_,_,sl,t,q,rfl,A,r,o,v,u,hn,h⟩
  | ghost hg _ L =>
    intro c b sl t q A r o v u hn;have:=L c b sl t q (.ghost hg) r o (by rw[hg.w];exact v) (u.ghost hg) hn
    rwa [hg.w] at this
  | forget _ hg _ L =>
    intro c b sl t q A r o v u hn;have:=L c b sl t q (A.forget hg) r o (by rw[hg.w];exact v) (u.forget hg) hn
    rwa [hg.w] at this
  | xF hj _ L =>
    intro c b sl t q A r o v u hn;obtain⟨N,m,f,g',s',l,E,K,h1,h2,h3,h4,h5,h6,h6n,h7⟩:=hj c b sl t q A r o v u hn;obtain⟨M,Sh2,gs2,g2,s2,sl2,t2,q2,k1,R⟩:=L g' s' h7 m f l E K h2 h3 h4 h5 h6 h6n;exact⟨N+M,Sh2,gs2,g2,s2,sl2,t2,q2,by grind [runNT_add],R⟩
  | @step g s Y ns ne hr h1 h2 _ L =>
    intro c b sl t q;have key:∀ (n:Nat) (b:Array au) (d:Nat) (sl:Option (Nat×Nat)) (t:Trace) (q:Nat->Nat),Go.ConcN.sumTo b.size q<=n->gz s->b[0]?=aa g->Leavers P t b q->Past (lS c) s.w.heap.size t->Clear c s->rD t ->
        ∃ (N:Nat) (m:Nat->Prop) (f:Array au) (g':au) (s':St) (l:Option (Nat×Nat)) (E:Trace) (K:Nat->Nat),
          runNT P N (crowd b (s.w.at d) sl) t=(.next (crowd f s'.w l),E)/\gz s'/\f[0]?=aa g'/\Leavers P E f K/\Past (lS m) s'.w.heap.size E/\Clear m s'/\rD E/\S g' s':=by
      intro n
      induction n with
      | zero=>?_
      | succ n ihn=>?_
      all_goals
        intro b d sl t q hn A r o v u F;have haw:∀ g∈b,awake g:=by
          intro x hx;obtain⟨i,hi,rfl⟩:=Array.mem_iff_getElem.1 hx;rcases oQ i with rfl|D
          · grind [awake_of]
          · exact awake_of ((o.old i _ D (fR hi)).status.elim .inl λx=>.inr (.inr x))
        obtain⟨i,x,d2,l,hi,hg,I⟩:=crowd_pick (P:=P) (w:=s.w.at d) (sl:=sl) haw ⟨0,g,r,hr⟩;rw[show (s.w.at d).at d2=s.w.at d2 from rfl] at I
        rcases oQ i with rfl|D
        · obtain rfl:x=g:=by grind
          have B:(Cx.beside P).rely s { s with w:=s.w.at d2 }:=⟨cj.at A d2,d2,rfl⟩;have hgo:=h1 _ B;obtain⟨⟨σ,σ',hh,lb,st⟩,Q⟩:=h2 _ B;have p:=runT_crowd_go (P:=P) (sl:=l) (i:=0) hi (show aK P (0==0) x (s.w.at d2)=_ from hgo)
          have Ds:((b.map (woken P x (Y { s with w:=s.w.at d2 }) (ns { s with w:=s.w.at d2 }).w)).setIfInBounds 0 (Y { s with w:=s.w.at d2 })).size=b.size:=by simp
          have X:0<b.size:=(ia.1 r).1;have W:Clear c { s with w:=s.w.at d2 }:=u.at d2;obtain⟨N,m,f,g',s',C,E,K,k1,R⟩:=L _ B c ((b.map (woken P x (Y { s with w:=s.w.at d2 }) (ns { s with w:=s.w.at d2 }).w)).setIfInBounds 0 (Y { s with w:=s.w.at d2 })) l
            (t++MemOp.ofEvents 0 x.frame.fn x.frame.place (ne { s with w:=s.w.at d2 })) q lb.mem (by grind)
            ⟨λj y hj hy=>by
              have Bq:0≠j:=by omega
              rw[sR Bq,Array.getElem?_map] at hy;obtain⟨z,hz,rfl⟩:=sT.1 hy;have G:=o.old j z hj hz;rw[woken_quitsD G,Deaf_other t (by omega) _ (λop mo=>by grind [Go.Conc.mem_ofEvents])]
              exact G,λj hj=>by
              rw[Deaf_other t (g':=0) (by grind) _ (λop mo=>by grind [Go.Conc.mem_ofEvents])]
              exact o.above j (by grind)⟩
            ((v.mono st.size).own λe T=>QJ hh W (Q e T) st.size) (W.step st) (F.app λe T a=>DK (Q e T) a)
          exact⟨N+1,m,f,g',s',C,E,K,by simp only[runNT,I,p];exact k1,R⟩
        · have G:=o.old i x D hi
          have Z:(i==0)=ae:=by grind
          have X:i<b.size:=(ia.1 hi).1;cases J:q i with
          | zero=>rw[J] at G;rw[G.1] at hg;cases hg
          | succ k =>
            rw[J] at G;rcases G with⟨hf,_⟩|⟨_,g',es,U,O,hq'⟩
            · grind
            have abp:Go.ConcN.sumTo b.size (Go.ConcN.upd q i k)+(k+1)=Go.ConcN.sumTo b.size q+k:=by
              have:=Go.ConcN.sumTo_upd q k id X;simpa[J] using this
            first
            | (exfalso;omega)
            | (have p:=runT_crowd_go (P:=P) (sl:=l) (i:=i) hi (by rw[Z];exact O (s.w.at d2))
               have Ds:((b.map (woken P x g' (s.w.at d2))).setIfInBounds i g').size=b.size:=by simp
               obtain⟨N,m,f,g2,s',C,E,K,k1,R⟩:=ihn ((b.map (woken P x g' (s.w.at d2))).setIfInBounds i g') d2 l (t++MemOp.ofEvents i x.frame.fn x.frame.place es) (Go.ConcN.upd q i k) (by grind) A
                (by
                  grind [woken_run])
                ⟨λj y hj hy=>by
                  by_cases H:i=j
                  · grind [Go.ConcN.upd_same,Deaf_own]
                  · rw[sR H,Array.getElem?_map] at hy
                    obtain⟨z,hz,rfl⟩:=sT.1 hy;have V:=o.old j z hj hz;rw[woken_quitsD V,Go.ConcN.upd_ne q k (mi H),Deaf_other t H _ (λop mo=>by grind [Go.Conc.mem_ofEvents])]
                    exact V,λj hj=>by
                  rw[Deaf_other t (g':=i) (by grind) _ (λop mo=>by grind [Go.Conc.mem_ofEvents])]
                  exact o.above j (by grind)⟩
                (v.mute (by omega) U) u (F.app λe T a=>vq (U e T) a)
               exact⟨N+1,m,f,g2,s',C,E,K,by simp only[runNT,I,p];exact k1,R⟩)
    intro A r o v u F;have:=key _ b s.w.drawn sl t q (bg _) A r o v u F
    rwa [show s.w.at s.w.drawn=s.w from rfl] at this
inductive Rk where
 |leaf
 |node (f:St->Rk)
def Rk.lt:Rk->Rk->Prop
 |_,.leaf=>False
 |x,.node f=>∃ s,x=f s∨Rk.lt x (f s)
def Rk.acc:∀ r:Rk,Acc Rk.lt r
 |.leaf=>⟨_,λ_ h=>h.elim⟩
 |.node f=>⟨_,λ_ ⟨s,e⟩=>e.elim (λe=>e▸Rk.acc (f s)) λh=>(Rk.acc (f s)).inv h⟩
def Rk.nat:Nat->Rk
 |0=>.leaf
 |n+1=>.node λ_=>Rk.nat n
def Rk.D6(n:Nat)(s:St):Rk.lt (Rk.nat n) (Rk.nat (n+1)):=⟨s,.inl rfl⟩
def Vec(j:Nat)(a D:Nat->Rk):Prop:=∃ i,i<j/\Rk.lt (a i) (D i)/\∀ k,k≠i->a k=D k
def JR:∀ j,WellFounded (Vec j)
 |0=>⟨λ_=>⟨_,λ_ ⟨i,h,_⟩=>absurd h (ji i)⟩⟩
 |j+1=>by
  have l:=JR j;have key:∀ a:Rk,∀ D:Nat->Rk,D j=a->Acc (Vec (j+1)) D:=by
   intro a
   induction Rk.acc a with
   |intro a _ f =>
    intro D
    induction l.apply D with
    |intro D _ b =>
     intro m;refine⟨_,λk h=>?_⟩
     obtain⟨i,hi,d,g⟩:=h;rcases cJ i j with e|e
     .exact b k ⟨i,e,d,g⟩ (by grind)
     grind
  exact⟨λD=>key _ D rfl⟩
section
variable {P:aq}
def kq(X:Cx P)(E:St->St->Array Event->Prop)(S:au->St->Prop):Rk->au->St->Prop
 |.leaf,g,s=>S g s
 |.node f,g,s=>S g s∨(∃ s',(eR s s'∨(X.Bp/\mR s s'))/\kq X E S (f s) g s') ∨
   (g.status=.running/\∀ a,X.rely s a->∃ g' s' es,aK P X.main g a.w=.go g' s'.w es/\(qx a s' es∨E a s' es)/\kq X E S (f a) g' s')
variable {X:Cx P}{E:St->St->Array Event->Prop}{S c:au->St->Prop}
def ek(X:Cx P)(E:St->St->Array Event->Prop)(S:au->St->Prop)(g:au)(s:St):Prop:=∃ r,kq X E S r g s
theorem ek.ghost{g:au}{s s':St}(h:eR s s')(k:ek X E S g s'):ek X E S g s:=by
 obtain⟨r,k⟩:=k;exact⟨.node λ_=>r,.inr (.inl ⟨s',.inl h,k⟩)⟩
def ek.forget{g:au}{s s':St}(hl:X.Bp)(h:mR s s')(k:ek X E S g s'):ek X E S g s:=by
 obtain⟨r,k⟩:=k;exact⟨.node λ_=>r,.inr (.inl ⟨s',.inr ⟨hl,h⟩,k⟩)⟩
def ek.step{g:au}{s:St}(d:g.status=.running)(h:∀ a,X.rely s a->∃ g' s' es,aK P X.main g a.w=.go g' s'.w es/\(qx a s' es∨E a s' es)/\ek X E S g' s'):ek X E S g s:=by
 classical
 have hh:∀ a,∃ r:Rk,X.rely s a->∃ g' s' es,aK P X.main g a.w=.go g' s'.w es/\(qx a s' es∨E a s' es)/\kq X E S r g' s':=by
  intro a
  by_cases b:X.rely s a
  .obtain⟨g',s',es,h1,h2,r,e⟩:=h a b;exact⟨r,λ_=>⟨g',s',es,h1,h2,e⟩⟩
  .exact⟨.leaf,λh=>absurd h b⟩
 exact⟨.node λa=>Classical.choose (hh a),.inr (.inr ⟨d,λa b=>Classical.choose_spec (hh a) b⟩)⟩
def ek.bind{g:au}{s:St}(h:ek X E S g s)(k:∀ g s,S g s->ek X E c g s):ek X E c g s:=by
 obtain⟨r,h⟩:=h
 induction r generalizing g s with
 |leaf=>exact k g s h
 |node f a =>
  rcases h with h|⟨s',h1,h2⟩|⟨b,h⟩
  .grind
  .rcases h1 with h1|⟨hl,h1⟩
   .exact .ghost h1 (a _ h2)
   .exact .forget hl h1 (a _ h2)
  .exact .step b λd e=>by
    grind
def ft.toE{g:au}{s:St}(hj:∀ g s T,¬X.xF g s T)(h:ft X S g s):ek X E S g s:=by
 induction h with
 |stop h=>exact⟨.leaf,h⟩
 |step ng ns ne hr h1 h2 _ a=>exact .step hr λb d=>⟨_,_,_,h1 b d,.inl (h2 b d),a b d⟩
 |ghost hg _ a=>exact .ghost hg a
 |forget hl hg _ a=>exact .forget hl hg a
 |xF hjj _ _=>grind
def kq.norm(I:St->Prop)(m:∀ s s',eR s s'->I s->I s')(l:X.Bp->∀ s s',mR s s'->I s->I s'):∀ {r:Rk}{g:au}{s:St},kq X E S r g s->I s ->
  (∃ s',I s'/\S g s')∨(g.status=.running/\∃ s',I s'/\∀ a,X.rely s' a->∃ g' s2 es r',aK P X.main g a.w=.go g' s2.w es/\(qx a s2 es∨E a s2 es)/\kq X E S r' g' s2/\Rk.lt r' r)
 |.leaf,_,s,h,hi=>.inl ⟨s,hi,h⟩
 |.node f,g,s,h,hi=>by
  rcases h with h|⟨s',h1,h2⟩|⟨o,h⟩
  .grind
  .have j:I s':=h1.elim (λx=>m s s' x hi) λx=>l x.1 s s' x.2 hi
   rcases kq.norm I m l h2 j with k|⟨k,s2,q,p⟩
   .grind
   .refine .inr ⟨k,s2,q,λa i=>?_⟩
    obtain⟨g',b,es,r',k1,e,d,n⟩:=p a i;exact⟨g',b,es,r',k1,e,d,s,.inr n⟩
  .refine .inr ⟨o,s,hi,λa i=>?_⟩
   obtain⟨g',b,es,k1,e,d⟩:=h a i;exact⟨g',b,es,f a,k1,e,d,a,.inl rfl⟩
def ek.goes{R:az->az->Prop}{D:az->az->Array Event->Prop}{Stop:au->az->Prop}(I:St->Prop)(l:∀ s a,I s->X.rely s a->I a)(e:∀ s a,I s->X.rely s a->R s.w a.w)
  (i:∀ s es,I s->∀ w',D s.w w' es->w'=s.w/\(qx s s es∨E s s es)) (j:∀ s,I s->X.rely s s) (k:∀ g s,I s->Stop g s.w->ek X E S g s) :
  ∀ (n:Nat) (g:au) (s:St),I s->Goes P X.main R D Stop n g s.w->ek X E S g s
 |0,g,s,hi,h=>k g s hi (h s.w (e s s hi (j s hi)))
 |n+1,g,s,hi,h=>by
  rcases h with h|⟨q,h⟩
  .grind
  .refine .step q λa m=>?_
   have h1:=h a.w (e s a hi m);have b:=l s a hi m;cases d:aK P X.main g a.w with
   |go g' w' es =>
    rw[d,goes_go] at h1;obtain⟨o,p⟩:=h1;obtain⟨rfl,f⟩:=i a es b w' o;exact⟨g',a,es,rfl,f,ek.goes I l e i j k n g' a b p⟩
   |_=>rw[d] at h1;exact h1.elim
end
theorem cj.ghost{s s':St}{w:az}(h:cj s { s with w:=w })(k:eR s s'):cj s' { s' with w:=w }:=by
 refine⟨rfl,rfl,rfl,by rw[k.w];exact h.size,λb hb=>by rw[k.w];exact h.eN b (k.blk b hb),λb o v d=>?_,by rw[k.w];exact h.os,by rw[k.w];exact h.tape,by rw[k.w];exact h.output⟩
 have e:=k.cell b o v d
 by_cases hb:∃ L∈s.β,b∈L.bs
 .have:=h.eN b (.inr hb);simp only[a9] at e ⊢
  grind
 .have:s.M b o=aa v:=by
   rw[<-k.jz b (λL f a=>hb ⟨L,f,a⟩)];exact d
  exact h.mem b o v this
def cj.forget{s s':St}{w:az}(h:cj s { s with w:=w })(k:mR s s'):cj s' { s' with w:=w } :=
 ⟨rfl,rfl,rfl,by rw[k.w];exact h.size,λb hb=>by rw[k.w];exact h.eN b (by rw[<-k.own,<-k.β];exact hb),λb o v a=>h.mem b o v (k.less b o v a),by rw[k.w];exact h.os,by rw[k.w];exact h.tape,by rw[k.w];exact h.output⟩
def cj.vY{s:St}(h:gz s):cj s s:=⟨rfl,rfl,rfl,bg _,λ_ _=>rfl,h,rfl,rfl,rfl⟩
def cj.trans'{s:St}{w:az}(h:cj s { s with w:=w }):cj { s with w:=w } { s with w:=w }:=cj.vY h.mem
def cj.trans{s a s2:St}(h:cj s a)(k:cj a s2):cj s s2 :=
 ⟨k.β.trans h.β,k.M.trans h.M,k.own.trans h.own,eL h.size k.size,λb hb=>by rw[k.eN b (by rw[h.own,h.β];exact hb),h.eN b hb],λb o v d=>k.mem b o v (by rw[h.M];exact d),k.os.trans h.os,k.tape.trans h.tape,k.output.trans h.output⟩
end
section
open Go.Conc
open Go.ConcN (fork_knows RelBy)
open Go.ConcR (stA smA)
def lV:Go.Loc->Option Nat
 |.cell a=>aa a.block
 |.obj r=>aa r
 |_=>af
def BN{l:Go.Loc}(h:l.isMemory=ab):∃ b,lV l=aa b:=by
 cases l <;> simp[Go.Loc.isMemory] at h <;> exact⟨_,rfl⟩
def G2{x:MemAct}{a:Touch}{B b:Nat}(h:x.touch?=aa a)(g:x.low B)(c:lV a.loc=aa b):b<B:=by
 cases x with
 |access e =>
  simp[MemAct.touch?] at h;subst h;simp only at c;obtain⟨loc,wr,i⟩:=e;cases loc <;> simp[lV] at c <;> subst c <;> exact g
 |mark m =>
  cases m <;> simp[MemAct.touch?] at h <;> subst h <;> simp[lV] at c <;> subst c <;> exact g
 |_=>simp[MemAct.touch?] at h
structure Lay where
 Sh:Nat->Prop
 T0:Nat
 Wg:Nat
 C:Nat
 base:Nat
 kc:Nat
def r6(Y:Lay)(d:Nat->Nat)(a:Touch):Prop :=
 (∃ ad,a.loc=.cell ad/\ad.block=Y.Wg/\a.kind≠.plain)∨(∃ b,lV a.loc=aa b/\d b=0/\b≠Y.Wg/\b≠Y.C/\¬Y.Sh b/\a.kind=.plain)
def qm(Y:Lay)(d:Nat->Nat)(f:Mem)(x:Nat)(a:Touch):Prop :=
 (∃ ad,a.loc=.cell ad/\ad.block=Y.Wg/\a.kind=.atomic) ∨
 (a.kind=.plain/\((∃ b,lV a.loc=aa b/\d b=Y.base+x)∨(∃ o,a.loc=.cell ⟨Y.C,o,af⟩/\Y.kc*x<=o/\o<Y.kc*x+Y.kc)∨(a.write=ae/\∃ b o v,a.loc=.cell ⟨b,o,af⟩/\f b o=aa v)))
structure TL (Y:Lay)(d:Nat->Nat)(f:Nat->Mem)(t:Trace)(j B:Nat):Prop where
 base:1<=Y.base
 I2:d Y.Wg=0
 hC:d Y.C=0
 ne:Y.C≠Y.Wg
 PU:¬Y.Sh Y.Wg
 Re:¬Y.Sh Y.C
 I4:∀ b,Y.Sh b->d b=0
 ms:∀ x,x<j->∀ b o v,f x b o=aa v->d b=0/\b≠Y.C/\b≠Y.Wg/\¬Y.Sh b
 T0:Y.T0<=t.size
 nr:∀ said,¬Race said t
 seen:∀ op∈t,op.act.low B
 old:∀ i a,i<Y.T0->touchAt t i=aa a->a.loc.isMemory=ab->Knows t 0 i∨(lS Y.Sh a.loc/\a.kind=.atomic)
 Rf:∀ x,x<j->∀ i a,i<Y.T0->touchAt t i=aa a->a.loc.isMemory=ab->Knows t (Y.base+x) i∨(lS Y.Sh a.loc/\a.kind=.atomic)
 G3:∀ i a b,i<Y.T0->touchAt t i=aa a->lV a.loc=aa b->d b=0
 new:∀ i a,Y.T0<=i->touchAt t i=aa a->a.loc.isMemory=ab->(t.g? i=aa 0/\r6 Y d a)∨(∃ x,x<j/\t.g? i=aa (Y.base+x)/\qm Y d (f x) x a)
 mw:∀ x,x<j->∀ i a,Y.T0<=i->touchAt t i=aa a->t.g? i=aa 0->a.write=ab->∀ b o v,a.loc=.cell ⟨b,o,af⟩->f x b o=aa v->Knows t (Y.base+x) i
 over:∀ i g,i<Y.T0->t.g? i=aa g->g≠0->t.counts i->∃ k,t.g? k=aa 0/\HappensBefore t i k
section
variable {Y:Lay}{d hm':Nat->Nat}{f:Nat->Mem}{t u:Trace}{j B B':Nat}
theorem ve{i:Nat}{a:Touch}{g:Nat}(h:touchAt t i=aa a)(b:t.g? i=aa g):Knows t g i:=by
 obtain⟨x,c,_⟩:=touch_of h;have:x.g=g:=by simpa[Trace.g?,c] using b
 grind [knows_own]
def TL.low(h:TL Y d f t j B){i:Nat}{a:Touch}{b:Nat}(e:touchAt t i=aa a)(hb:lV a.loc=aa b):b<B:=by
 obtain⟨x,g,c⟩:=touch_of e;exact G2 c (h.seen x (uQ g)) hb
def TL.ta(h:TL Y d f t j B)(hh:∀ b,b<B->hm' b=d b)(r:B<=B')(s:Y.Wg<B)(hC:Y.C<B)(p:∀ b,Y.Sh b->b<B)(q:∀ x,x<j->∀ b o v,f x b o=aa v->b<B):TL Y hm' f t j B':=by
 have e:∀ i a,touchAt t i=aa a->r6 Y d a->r6 Y hm' a:=λi a c h1=>by
  rcases h1 with h1|⟨b,h1,h2,k⟩
  .exact .inl h1
  .exact .inr ⟨b,h1,by rw[hh b (h.low c h1)];exact h2,k⟩
 have g:∀ x i a,touchAt t i=aa a->qm Y d (f x) x a->qm Y hm' (f x) x a:=λx i a c h1=>by
  rcases h1 with h1|⟨n,⟨b,h1,h2⟩|h1⟩
  .exact .inl h1
  .exact .inr ⟨n,.inl ⟨b,h1,by rw[hh b (h.low c h1)];exact h2⟩⟩
  .exact .inr ⟨n,.inr h1⟩
 refine⟨h.base,by rw[hh _ s];exact h.I2,by rw[hh _ hC];exact h.hC,h.ne,h.PU,h.Re,λb hb=>by rw[hh b (p b hb)];exact h.I4 b hb,λx m b o v l=>by rw[hh b (q x m b o v l)];exact h.ms x m b o v l,
  h.T0,h.nr,λop mo=>MemAct.low_mono r (h.seen op mo),h.old,h.Rf,λi a b hi c hb=>by rw[hh b (h.low c hb)];exact h.G3 i a b hi c hb,λi a hi c d=>?_,h.mw,h.over⟩
 rcases h.new i a hi c d with⟨h1,h2⟩|⟨x,h1,h2,k⟩
 .grind
 grind
def TL.NS(h:TL Y d f t j B):Y.T0<=(t++u).size:=eL h.T0 (by simp)
theorem kD{i:Nat}(h:i<t.size):(t++u).g? i=t.g? i:=by simp[Trace.g?,getElem?_append_old h]
def TL.r7(h:TL Y d f t j B)(u:Trace):∀ i g,i<Y.T0->(t++u).g? i=aa g->g≠0->(t++u).counts i->∃ k,(t++u).g? k=aa 0/\HappensBefore (t++u) i k:=by
 intro i g hi hg Bq hc;have a:=cG hi h.T0;rw[kD a] at hg;obtain⟨k,c,hb⟩:=h.over i g hi hg Bq ((counts_old a).1 hc);have b:k<t.size:=by
  unfold Trace.g? at c
  grind
 exact⟨k,by grind [kD],hb_app u hb⟩
def BO{c:Nat->Prop}{l:Go.Loc}{b:Nat}(h:lS c l)(a:lV l=aa b):c b:=by
 cases l <;> simp[lV] at a <;> subst a <;> exact h
def TL.apart(h:TL Y d f t j B){x:Nat}(w:x<j){a b:Touch}{said:Bool}(m:r6 Y d b)(n:qm Y d (f x) x a)(hl:a.loc=b.loc)(z:a.kind=.plain∨b.kind=.plain∨(said=ab/\a.kind=.said/\b.kind=.said))
  (C:b.kind=.plain->b.write=ab->∀ l o v,b.loc=.cell ⟨l,o,af⟩->f x l o≠aa v) (r:a.write=ab∨b.write=ab):False:=by
 have s:=h.base;rcases n with⟨ad,e1,e2,e3⟩|⟨F,⟨c,e1,e2⟩|⟨o,e1,_⟩|⟨e1,l,o,v,e2,e3⟩⟩
 .rcases m with⟨i,e,g,k⟩|⟨c,e,g,k,_⟩
  .grind
  .rw[<-hl,e1] at e;simp only[lV,di] at e
   grind
 .rcases m with⟨i,e,g,k⟩|⟨p,e,g,k,_⟩
  .rw[hl,e] at e1;simp only[lV,di] at e1;rw[<-e1,g,h.I2] at e2;omega
  grind
 .rcases m with⟨i,e,g,k⟩|⟨p,e,g,k,q,_⟩
  .rw[<-hl,e1] at e;cases e;exact h.ne g
  .rw[<-hl,e1] at e;simp only[lV,di] at e
   grind
 .obtain⟨E,A,G,y⟩:=h.ms x w l o v e3;rcases m with⟨i,e,g,k⟩|⟨p,e,g,k,q,_,D⟩
  .grind
  grind
def TL.app0(h:TL Y d f t j B)(G:∀ op∈u,op.g=0)(hl:∀ op∈u,op.act.low B)(E:∀ op∈u,∀ a,op.act.touch?=aa a->a.loc.isMemory=ab->r6 Y d a)
  (L:∀ op∈u,∀ a,op.act.touch?=aa a->a.kind=.plain->a.write=ab->∀ x,x<j->∀ b o v,a.loc=.cell ⟨b,o,af⟩->f x b o≠aa v):TL Y d f (t++u) j B:=by
 have k:∀ {i:Nat} {a:Touch},touchAt (t++u) i=aa a->(i<t.size/\touchAt t i=aa a)∨(t.size<=i/\(t++u).g? i=aa 0/\∃ op∈u,op.act.touch?=aa a):=by
  intro i a e;obtain⟨x,p,z⟩:=touch_of e;rcases getElem?_append_cases p with⟨hi,H⟩|⟨hi,s⟩
  .grind [touchAt_of]
  .exact .inr ⟨hi,by simp[Trace.g?,p,G x s],x,s,z⟩
 refine⟨h.base,h.I2,h.hC,h.ne,h.PU,h.Re,h.I4,h.ms,h.NS,λsaid=>?_,seen_app h.seen hl,λi a hi e d=>?_,λx p i a hi e d=>?_,λi a b hi e hb=>?_,λi a hi e d=>?_,λx p i a hi e w A b o v m F=>?_,h.r7 u⟩
 .refine noRace_append (h.nr said) G λi a e op mo b hb hc=>?_
  have C:b.loc.isMemory=ab:=by rw[<-hc.1];exact hc.2.1
  have D:=E op mo b hb C;rcases cJ i Y.T0 with hi|hi
  .rcases h.old i a hi e hc.2.1 with I|⟨K,M⟩
   .exact I
   .exfalso;obtain⟨c,l⟩:=BN hc.2.1;have r:=BO K l;rcases D with⟨ad,e1,e2,e3⟩|⟨J,e1,e2,e3,P,O,N⟩
    .rw[hc.1,e1] at l;simp only[lV,di] at l;rw[<-l,e2] at r;exact h.PU r
    .rw[hc.1,e1] at l
     grind
  .rcases h.new i a hi e hc.2.1 with⟨w,_⟩|⟨x,p,w,y⟩
   .grind [ve]
   .exact(h.apart p D y hc.1 hc.2.2.2 (λh1 h2=>L op mo b hb h1 h2 x p) hc.2.2.1).elim
 .have n:touchAt t i=aa a:=by rw[<-touchAt_old (u:=u) (cG hi h.T0)];exact e
  exact(h.old i a hi n d).imp (·.app u) id
 .have n:touchAt t i=aa a:=by rw[<-touchAt_old (u:=u) (cG hi h.T0)];exact e
  exact(h.Rf x p i a hi n d).imp (·.app u) id
 .have n:touchAt t i=aa a:=by rw[<-touchAt_old (u:=u) (cG hi h.T0)];exact e
  exact h.G3 i a b hi n hb
 .rcases k e with⟨h1,h2⟩|⟨_,h2,op,mo,q⟩
  .rw[kD h1];exact h.new i a hi h2 d
  grind
 .rcases k e with⟨h1,h2⟩|⟨_,h2,op,mo,q⟩
  .rw[kD h1] at w;exact(h.mw x p i a hi h2 w A b o v m F).app u
  .exfalso;rcases E op mo a q (by rw[m];rfl) with⟨ad,e1,e2,e3⟩|⟨J,_,_,_,_,_,N⟩
   .rw[m] at e1;cases e1;exact(h.ms x p b o v F).2.2.1 e2
   grind
def TL.appW(h:TL Y d f t j B){x:Nat}(C:x<j)(Z:∀ op∈u,op.g=Y.base+x)(hl:∀ op∈u,op.act.low B)(ht:∀ op∈u,∀ a,op.act.touch?=aa a->a.loc.isMemory=ab->qm Y d (f x) x a):TL Y d f (t++u) j B:=by
 have ZZ:=h.base;have r:∀ {i:Nat} {a:Touch},touchAt (t++u) i=aa a->(i<t.size/\touchAt t i=aa a)∨(t.size<=i/\(t++u).g? i=aa (Y.base+x)/\∃ op∈u,op.act.touch?=aa a):=by
  intro i a q;obtain⟨y,z,Q⟩:=touch_of q;rcases getElem?_append_cases z with⟨hi,hy'⟩|⟨hi,E⟩
  .grind [touchAt_of]
  .exact .inr ⟨hi,by simp[Trace.g?,z,Z y E],y,E,Q⟩
 refine⟨h.base,h.I2,h.hC,h.ne,h.PU,h.Re,h.I4,h.ms,h.NS,λsaid=>?_,seen_app h.seen hl,λi a hi q d=>?_,λy z i a hi q d=>?_,λi a b hi q hb=>?_,λi a hi q d=>?_,λy z i a hi q I G b o v H U=>?_,h.r7 u⟩
 .refine noRace_append (h.nr said) Z λi a q op mo b hb hc=>?_
  have R:b.loc.isMemory=ab:=by rw[<-hc.1];exact hc.2.1
  have D:=ht op mo b hb R;obtain⟨c,l⟩:=BN hc.2.1;rcases cJ i Y.T0 with hi|hi
  .rcases h.Rf x C i a hi q hc.2.1 with K|⟨hs,hka⟩
   .exact K
   .exfalso;have n:=BO hs l;rw[hc.1] at l;rcases D with⟨ad,e1,e2,e3⟩|⟨e0,⟨c',e1,e2⟩|⟨o,e1,_⟩|⟨e1,p,o,v,e2,e3⟩⟩
    .rw[e1] at l;simp only[lV,di] at l;rw[<-l,e2] at n;exact h.PU n
    .rw[e1] at l;simp only[di] at l;rw[<-l] at n;rw[h.I4 _ n] at e2;omega
    .rw[e1] at l;simp only[lV,di] at l;rw[<-l] at n;exact h.Re n
    .rw[e2] at l;simp only[lV,di] at l;rw[<-l] at n;exact(h.ms x C p o v e3).2.2.2 n
  .rcases h.new i a hi q hc.2.1 with⟨I,N⟩|⟨y,z,I,M⟩
   ·
    by_cases F:a.write=ab/\∃ p o v,a.loc=.cell ⟨p,o,af⟩/\f x p o=aa v
    .obtain⟨h1,p,o,v,h2,X⟩:=F;exact h.mw x C i a hi q I h1 p o v h2 X
    .exfalso;refine h.apart (said:=said) C N D hc.1.symm ?_ (λ_ P p o v k U=>F ⟨P,p,o,v,k,U⟩) hc.2.2.1.symm
     rcases hc.2.2.2 with K|K|⟨h1,h2,X⟩
     .grind
     .grind
     grind
   .by_cases S:y=x
    .grind [ve]
    .exfalso;obtain⟨k,_,G,O⟩:=hc;rcases M with⟨ad,e1,e2,e3⟩|⟨e0,⟨c1,e1,e2⟩|⟨o,e1,e1l,e1u⟩|⟨e1,p,o,v,e2,e3⟩⟩
     .rcases D with⟨A,e,m,w⟩|⟨L,⟨c2,e,m⟩|⟨o,e,_⟩|⟨e,p,o,v,m,w⟩⟩
      .grind
      .rw[<-k,e1] at e;simp only[lV,di] at e;rw[<-e,e2,h.I2] at m;omega
      .rw[<-k,e1] at e;cases e;exact h.ne e2
      .rw[<-k,e1] at m;cases m;exact(h.ms x C p o v w).2.2.1 e2
     .rcases D with⟨A,e,m,w⟩|⟨L,⟨c2,e,m⟩|⟨o,e,_⟩|⟨e,p,o,v,m,w⟩⟩
      .rw[k,e] at e1;simp only[lV,di] at e1;rw[<-e1,m,h.I2] at e2;omega
      .grind
      .rw[k,e] at e1;simp only[lV,di] at e1;rw[<-e1,h.hC] at e2;omega
      .rw[k,m] at e1;simp only[lV,di] at e1;rw[<-e1,(h.ms x C p o v w).1] at e2;omega
     .rcases D with⟨A,e,m,w⟩|⟨L,⟨c2,e,m⟩|⟨J,e,T,V⟩|⟨e,p,J,v,m,w⟩⟩
      .rw[<-k,e1] at e;cases e;exact h.ne m
      .rw[<-k,e1] at e;simp only[lV,di] at e;rw[<-e,h.hC] at m;omega
      .rw[<-k,e1] at e;cases e;rcases Nat.lt_or_gt_of_ne S with h1|h1
       .have:=uS Y.kc (show y+1<=x from h1)
        grind
       .have:=uS Y.kc (show x+1<=y from h1)
        grind
      .rw[<-k,e1] at m;cases m;exact(h.ms x C _ _ v w).2.1 rfl
     .rcases D with⟨A,e,m,w⟩|⟨L,⟨c2,e,m⟩|⟨J,e,T,V⟩|⟨e,b2,J,v',m,w⟩⟩
      .rw[<-k,e2] at e;cases e;exact(h.ms y z p o v e3).2.2.1 m
      .rw[<-k,e2] at e;simp only[lV,di] at e;rw[<-e,(h.ms y z p o v e3).1] at m;omega
      .rw[<-k,e2] at e;cases e;exact(h.ms y z _ _ v e3).2.1 rfl
      grind
 .have s:touchAt t i=aa a:=by rw[<-touchAt_old (u:=u) (cG hi h.T0)];exact q
  exact(h.old i a hi s d).imp (·.app u) id
 .have s:touchAt t i=aa a:=by rw[<-touchAt_old (u:=u) (cG hi h.T0)];exact q
  exact(h.Rf y z i a hi s d).imp (·.app u) id
 .have s:touchAt t i=aa a:=by rw[<-touchAt_old (u:=u) (cG hi h.T0)];exact q
  exact h.G3 i a b hi s hb
 .rcases r q with⟨h1,h2⟩|⟨_,h2,op,mo,W⟩
  .rw[kD h1];exact h.new i a hi h2 d
  grind
 .rcases r q with⟨h1,h2⟩|⟨_,h2,_⟩
  .rw[kD h1] at I;exact(h.mw y z i a hi h2 I G b o v H U).app u
  grind
def TL.mute(h:TL Y d f t j B){g:Nat}(q:∀ op∈u,op.g=g)(hl:∀ op∈u,op.act.low B)(hn:∀ op∈u,op.act.touch?=af):TL Y d f (t++u) j B:=by
 have old:∀ {i:Nat} {a:Touch},touchAt (t++u) i=aa a->i<t.size/\touchAt t i=aa a:=by
  intro i a c;obtain⟨y,r,n⟩:=touch_of c
  grind [touchAt_of]
 refine⟨h.base,h.I2,h.hC,h.ne,h.PU,h.Re,h.I4,h.ms,h.NS,λsaid=>noRace_append (h.nr said) q λi a _ op mo b hb _=>(by grind),seen_app h.seen hl,λi a hi c d=>(h.old i a hi (old c).2 d).imp (·.app u) id,
  λx l i a hi c d=>(h.Rf x l i a hi (old c).2 d).imp (·.app u) id,λi a b hi c hb=>h.G3 i a b hi (old c).2 hb,λi a hi c d=>?_,λx l i a hi c m k b o v e p=>?_,h.r7 u⟩
 .rw[kD (old c).1];exact h.new i a hi (old c).2 d
 .rw[kD (old c).1] at m;exact(h.mw x l i a hi (old c).2 m k b o v e p).app u
def TL.fork(h:TL Y d f t j B){x y:MemOp}(n:x.g=0/\x.act=.go (Y.base+j))(m:y.g=Y.base+j/\y.act=.start)(D:Deaf t 0=0)(A:Deaf t (Y.base+j)=0)
  (G:∀ b o v,f j b o=aa v->d b=0/\b≠Y.C/\b≠Y.Wg/\¬Y.Sh b):TL Y d f (t++#[x,y]) (j+1) B:=by
 have E:∀ op∈#[x,y],op.act.touch?=af:=by
  intro op mo;simp only[List.mem_toArray,fb,rl,or_false] at mo;rcases mo with rfl|rfl
  .rw[n.2];rfl
  .rw[m.2];rfl
 have k:∀ op∈#[x,y],op.act.low B:=by
  intro op mo;simp only[List.mem_toArray,fb,rl,or_false] at mo;rcases mo with rfl|rfl
  .rw[n.2];trivial
  .rw[m.2];trivial
 have old:∀ {i:Nat} {a:Touch},touchAt (t++#[x,y]) i=aa a->i<t.size/\touchAt t i=aa a:=by
  intro i a c;obtain⟨z,p,F⟩:=touch_of c
  grind [touchAt_of]
 have q:∀ z,z<j+1->∀ b o v,f z b o=aa v->d b=0/\b≠Y.C/\b≠Y.Wg/\¬Y.Sh b:=λz p b o v s=>by
  rcases cJ z j with h1|h1
  .exact h.ms z h1 b o v s
  grind
 refine⟨h.base,h.I2,h.hC,h.ne,h.PU,h.Re,h.I4,q,h.NS,λsaid=>?_,seen_app h.seen k,λi a hi c d=>(h.old i a hi (old c).2 d).imp (·.app _) id,
  λz p i a hi c d=>?_,λi a b hi c hb=>h.G3 i a b hi (old c).2 hb,λi a hi c d=>?_,λz p i a hi c w r b o v l s=>?_,h.r7 _⟩
 .have e:t++#[x,y]=(t++#[x])++#[y]:=by grind
  rw[e];refine noRace_append (g:=Y.base+j) (noRace_append (g:=0) (h.nr said) (λop mo=>by grind) (λi a _ op mo b hb _=>?_)) (λop mo=>by grind) (λi a _ op mo b hb _=>?_)
  .grind
  grind
 .rcases cJ z j with h1|h1
  .exact(h.Rf z h1 i a hi (old c).2 d).imp (·.app _) id
  .obtain rfl:z=j:=by omega
   exact(h.old i a hi (old c).2 d).imp (fork_knows n m D A) id
 .rw[kD (old c).1];rcases h.new i a hi (old c).2 d with h1|⟨z,h1,h2⟩
  .grind
  grind
 .rw[kD (old c).1] at w;rcases cJ z j with h1|h1
  .exact(h.mw z h1 i a hi (old c).2 w r b o v l s).app _
  .obtain rfl:z=j:=by omega
   exact fork_knows n m D A (ve (old c).2 w)
def TL.Xq(h:TL Y d f t j B)(M:Deaf t 0=0)(hn:NoRelease (stA Y.Wg) t){q:Nat}(L:t.act? q=aa (.mark (.acquire (stA Y.Wg))))(w:t.g? q=aa 0)(E:t.heard q)
  (I:∀ x,x<j->∃ r,RelBy (stA Y.Wg) t (Y.base+x) r/\r<q):Past (lS λb=>Y.Sh b∨b=Y.Wg) B t:=by
 have m:∀ x,x<j->∀ i,t.g? i=aa (Y.base+x)->t.counts i->HappensBefore t i q:=by
  intro x y i v s;obtain⟨r,c,F⟩:=I x y;have e:HappensBefore t r q:=.single (.inr ⟨.marked F (.inr c.act) L (λk _ _=>hn k),c.heard,E⟩)
  have N:i<=r:=Nat.le_of_not_lt λo=>c.after i o v s
  rcases cJ i r with o|K
  .exact .trans (.single (.inl ⟨o,_,v,c.g⟩)) e
  grind
 have n:∀ {l:Go.Loc},lS Y.Sh l->lS (λb=>Y.Sh b∨b=Y.Wg) l:=λ{l} hl=>by cases l <;> first|exact .inl hl|exact hl
 refine⟨h.nr,λi a p d=>?_,λi g v D s=>?_,M,h.seen⟩
 .rcases cJ i Y.T0 with hi|hi
  .exact(h.old i a hi p d).imp id λ⟨h1,h2⟩=>⟨n h1,h2⟩
  .rcases h.new i a hi p d with⟨h1,_⟩|⟨x,y,v,G⟩
   .grind [ve]
   .rcases G with⟨ad,e1,e2,e3⟩|⟨O,_⟩
    .exact .inr ⟨by rw[e1];exact .inr e2,e3⟩
    .left
     have s:t.counts i:=⟨a,p,d,.inl (by grind)⟩
     obtain⟨z,J,C⟩:=sT.1 w;exact⟨q,z,J,C,.inr (m x y i v s)⟩
 .rcases cJ i Y.T0 with hi|hi
  .exact h.over i g hi v D s
  .obtain⟨a,p,d,H⟩:=s;rcases h.new i a hi p d with⟨h1,_⟩|⟨x,y,A,G⟩
   .grind
   .exact⟨q,w,m x y i A ⟨a,p,d,H⟩⟩
def TL.start{Y:Lay}{t:Trace}{B:Nat}{f:Nat->Mem}(e:Past (lS Y.Sh) B t)(o:Y.T0=t.size)(hb:1<=Y.base)(b:Y.C≠Y.Wg)(l:¬Y.Sh Y.Wg)(h:¬Y.Sh Y.C):TL Y (λ_=>0) f t 0 B :=
 ⟨hb,rfl,rfl,b,l,h,λ_ _=>rfl,λx c=>absurd c (ji x),by omega,e.clean,e.seen,λi a _ k d=>e.known i a k d,λx c=>absurd c (ji x),λ_ _ _ _ _ _=>rfl,
  λi a hi k _=>by
   obtain⟨x,c,_⟩:=touch_of k
   grind,λx c=>absurd c (ji x),λi g _ m b n=>e.over i g m b n⟩
end
end
section
open Go.Conc
open Go.ConcN (WD CTag Mode Vc Ssum pend phi cnt WgLive PayAt Has RW DWs WSit RelBy sumTo upd upd_same upd_ne AtR0 get_map_set get_map_set_same norel_of Deaf_still)
open Go.ConcR (KK WgAt stA smA rd wr mk Payload g_of_ofEvents)
def Cx.work(P:aq):Cx P:={ main:=ae,rely:=cj,xF:=λ_ _ _=>False,ik:=id,Bp:=True }
def Cx.lead(P:aq)(ty:ar)(Wg:Nat):Cx P:={ main:=ab,rely:=λs s'=>cj s s'/\(WgLive ty Wg s.w->WgLive ty Wg s'.w),xF:=λ_ _ _=>False,ik:=λh=>h.1,Bp:=False }
instance (P:aq):(Cx.work P).jr:=⟨av⟩
def E0:St->St->Array Event->Prop:=λ_ _ _=>False
def Es(Wg:Nat):St->St->Array Event->Prop:=λs s' es=>s'=s/\∃ a:Addr,a.block=Wg/\(es=#[mk (.read a)]∨es=#[mk (.write a)])
def PV:Nat->Go.Loc->Prop:=λ_ _=>False
variable [Payload]
structure Ub (C N lo k:Nat)(vs:Nat->ak)(w w':az):Prop where
 tape:w'.tape=w.tape
 os:w'.os=w.os
 output:w'.output=w.output
 size:w'.heap.size=w.heap.size
 block:∀ b,b≠C->w'.heap[b]?=w.heap[b]?
 pay:PayAt C N w'
 out:∀ o,(o<lo∨lo+k<=o)->w'.cell? ⟨C,o,af⟩=w.cell? ⟨C,o,af⟩
 new:∀ i,i<k->w'.cell? ⟨C,lo+i,af⟩=aa (vs i)
section
variable (P:aq)(ty:ar)(Y:Lay)(N:Nat)(val:Nat->Nat->ak)
def JS(x:Nat)(g:au)(s:St):Prop :=
 g.status=.running/\∀ w1,cj s { s with w:=w1 }->PayAt Y.C N w1->WgLive ty Y.Wg w1 ->
  ∃ g' w2 es,aK P ae g w1=.go g' w2 es/\Ub Y.C N (Y.kc*x) Y.kc (val x) w1 w2/\(∀ e∈es,∃ o,e=⟨.cell ⟨Y.C,o,af⟩,ab,ae⟩/\Y.kc*x<=o/\o<Y.kc*x+Y.kc) /\
   ∃ m,Goes P ae (RW ty Y.Wg Y.C N 0 (Y.kc*x)) Go.ConcR.DC0 (AtR0 P ty Y.Wg Y.C N 0 (Y.kc*x+1) (val x 0)) m g' w2
end
structure lW (f:Nat->Nat)(r:Mem)(g:Nat)(s:St):Prop where
 blk:∀ b,(s.own b∨∃ L∈s.β,b∈L.bs)->f b=g/\b<s.w.heap.size
 M:∀ b o v,s.M b o=aa v->(f b=g∨r b o=aa v)/\b<s.w.heap.size
structure jN (Y:Lay)(f:Nat->Nat)(A:Nat->Mem)(j:Nat)(s:St):Prop where
 blk:∀ b,(s.own b∨∃ L∈s.β,b∈L.bs)->f b=0/\b≠Y.C/\b≠Y.Wg/\¬Y.Sh b/\b<s.w.heap.size
 M:∀ b o v,s.M b o=aa v->f b=0/\b≠Y.C/\b≠Y.Wg/\¬Y.Sh b/\b<s.w.heap.size
 ms:∀ x,x<j->∀ b o v,A x b o=aa v->s.M b o=aa v
structure G4 (Y:Lay)(f:Nat->Nat)(r:Mem)(y:Nat)(w w':az):Prop where
 size:w.heap.size<=w'.heap.size
 blk:∀ b,b<w.heap.size->f b=Y.base+y->w'.heap[b]?=w.heap[b]?
 cell:∀ b o v,r b o=aa v->w.cell? ⟨b,o,af⟩=aa v->w'.cell? ⟨b,o,af⟩=aa v
 pay:∀ o,Y.kc*y<=o->o<Y.kc*y+Y.kc->w'.cell? ⟨Y.C,o,af⟩=w.cell? ⟨Y.C,o,af⟩
 os:w'.os=w.os
 tape:w'.tape=w.tape
 output:w'.output=w.output
omit [Payload] in
def G4.refl(Y:Lay)(f:Nat->Nat)(r:Mem)(y:Nat)(w:az):G4 Y f r y w w:=⟨bg _,λ_ _ _=>rfl,λ_ _ _ _ h=>h,λ_ _ _=>rfl,rfl,rfl,rfl⟩
omit [Payload] in
def G4.at(Y:Lay)(f:Nat->Nat)(r:Mem)(y:Nat)(w:az)(d:Nat):G4 Y f r y w (w.at d):=⟨bg _,λ_ _ _=>rfl,λ_ _ _ _ h=>h,λ_ _ _=>rfl,rfl,rfl,rfl⟩
structure D7 (Y:Lay)(f:Nat->Nat)(w w':az):Prop where
 size:w.heap.size<=w'.heap.size
 blk:∀ b,b<w.heap.size->f b=0->b≠Y.C->b≠Y.Wg->w'.heap[b]?=w.heap[b]?
 os:w'.os=w.os
 tape:w'.tape=w.tape
 output:w'.output=w.output
omit [Payload] in
def jO{w w':az}{b:Nat}(h:w'.heap[b]?=w.heap[b]?)(o:Nat):w'.cell? ⟨b,o,af⟩=w.cell? ⟨b,o,af⟩:=by simp[a9,h]
omit [Payload] in
def cj.more{s:St}{w w':az}(h:cj s { s with w:=w })(z:w.heap.size<=w'.heap.size)(c:∀ b,(s.own b∨∃ L∈s.β,b∈L.bs)->w'.heap[b]?=w.heap[b]?)
  (X:∀ b o v,s.M b o=aa v->w.cell? ⟨b,o,af⟩=aa v->w'.cell? ⟨b,o,af⟩=aa v) (l:w'.os=w.os) (q:w'.tape=w.tape) (t:w'.output=w.output):cj s { s with w:=w' } :=
 ⟨rfl,rfl,rfl,eL h.size z,λb J=>by show w'.heap[b]?=_;rw[c b J];exact h.eN b J,λb o v p=>X b o v p (h.mem b o v p),l.trans h.os,q.trans h.tape,t.trans h.output⟩
section
variable {Y:Lay}{f hm':Nat->Nat}{A:Nat->Mem}{j y:Nat}{s:St}{w w':az}
omit [Payload] in
def lW.JU(n:lW f (A y) (Y.base+y) s)(h:cj s { s with w:=w })(k:G4 Y f (A y) y w w'):cj s { s with w:=w' }:=by
 have z:=h.size;refine h.more k.size (λb c=>?_) (λb o v p K=>?_) k.os k.tape k.output
 .obtain⟨l,q⟩:=n.blk b c;exact k.blk b (cG q z) l
 .obtain⟨l,q⟩:=n.M b o v p;rcases l with l|l
  .rw[jO (k.blk b (cG q z) l) o];exact K
  .exact k.cell b o v l K
omit [Payload] in
def lW.ta{r:Mem}{g:Nat}(n:lW f r g s)(h:s.w.heap.size<=w.heap.size)(W:∀ b,b<w.heap.size->hm' b=f b):lW hm' r g s :=
 ⟨λb c=>let ⟨l,q⟩:=n.blk b c;⟨by grind,q⟩,λb o v p=>let ⟨l,q⟩:=n.M b o v p;⟨by grind,q⟩⟩
omit [Payload] in
def jN.JU(n:jN Y f A j s)(h:cj s { s with w:=w })(k:D7 Y f w w'):cj s { s with w:=w' }:=by
 have z:=h.size;refine h.more k.size (λb c=>?_) (λb o v p K=>?_) k.os k.tape k.output
 .obtain⟨l,q,t,F,E⟩:=n.blk b c;exact k.blk b (cG E z) l q t
 .obtain⟨l,q,t,F,E⟩:=n.M b o v p;rw[jO (k.blk b (cG E z) l q t) o];exact K
omit [Payload] in
def jN.ta(n:jN Y f A j s)(h:s.w.heap.size<=w.heap.size)(W:∀ b,b<w.heap.size->hm' b=f b):jN Y hm' A j s :=
 ⟨λb c=>let ⟨l,q,t,F,E⟩:=n.blk b c;⟨by grind,q,t,F,E⟩,
  λb o v p=>let ⟨l,q,t,F,E⟩:=n.M b o v p;⟨by grind,q,t,F,E⟩,n.ms⟩
omit [Payload] in
def lW.rely{r:Mem}{g:Nat}(n:lW f r g s)(h:s.w.heap.size<=w.heap.size):lW f r g { s with w:=w } :=
 ⟨λb c=>let ⟨l,q⟩:=n.blk b c;⟨l,cG q h⟩,λb o v p=>let ⟨l,q⟩:=n.M b o v p;⟨l,cG q h⟩⟩
omit [Payload] in
def jN.rely(n:jN Y f A j s)(h:s.w.heap.size<=w.heap.size):jN Y f A j { s with w:=w } :=
 ⟨λb c=>let ⟨l,q,t,F,E⟩:=n.blk b c;⟨l,q,t,F,cG E h⟩,λb o v p=>let ⟨l,q,t,F,E⟩:=n.M b o v p;⟨l,q,t,F,cG E h⟩,n.ms⟩
omit [Payload] in
theorem lW.ghost{r:Mem}{g:Nat}{s':St}(n:lW f r g s)(k:eR s s'):lW f r g s':=by
 refine⟨λb c=>by rw[k.w];exact n.blk b (k.blk b c),λb o v p=>?_⟩
 rw[k.w]
 by_cases c:∃ L∈s.β,b∈L.bs
 .obtain⟨l,q⟩:=n.blk b (.inr c)
  grind
 .exact n.M b o v (by rw[<-k.jz b (λL D u=>c ⟨L,D,u⟩)];exact p)
omit [Payload] in
def lW.forget{r:Mem}{g:Nat}{s':St}(n:lW f r g s)(k:mR s s'):lW f r g s' :=
 ⟨λb c=>by rw[k.w];exact n.blk b (by rw[<-k.own,<-k.β];exact c),λb o v p=>by rw[k.w];exact n.M b o v (k.less b o v p)⟩
omit [Payload] in
theorem jN.ghost{s':St}(n:jN Y f A j s)(k:eR s s'):jN Y f A j s':=by
 refine⟨λb c=>by rw[k.w];exact n.blk b (k.blk b c),λb o v p=>?_,λx R b o v p=>k.mem _ _ _ (n.ms x R b o v p)⟩
 rw[k.w]
 by_cases c:∃ L∈s.β,b∈L.bs
 .exact n.blk b (.inr c)
 .exact n.M b o v (by rw[<-k.jz b (λL D u=>c ⟨L,D,u⟩)];exact p)
def nj(f:Nat->Nat)(B g:Nat):Nat->Nat:=λb=>if b<B then f b else g
omit [Payload] in
theorem eT{f:Nat->Nat}{B g b:Nat}(h:b<B):nj f B g b=f b:=by simp[nj,h]
omit [Payload] in
theorem tb{f:Nat->Nat}{B g b:Nat}(h:B<=b):nj f B g b=g:=by simp[nj,kB.2 h]
omit [Payload] in
def lW.step{r:Mem}{g:Nat}{s':St}{σ σ':List aV}(n:lW f r g s)(G:aJ σ' s')(st:Step σ s σ' s'):lW (nj f s.w.heap.size g) r g s':=by
 refine⟨λb c=>?_,λb o v p=>?_⟩
 .rcases c with c|⟨L,D,c⟩
  .rw[st.own] at c;obtain⟨l,q⟩:=n.blk b (.inl c);exact⟨by grind [eT],cG q st.size⟩
  .have H:=G.lt L D b c;rcases st.xC L D b c with l|⟨O,I,l⟩
   .grind [tb]
   .obtain⟨k1,Q⟩:=n.blk b (.inr ⟨O,I,l⟩)
    grind [eT]
 .have H:=gz.lt G.mem p;rcases cJ b s.w.heap.size with l|l
  .rw[eT l]
   by_cases c:∃ L∈s.β,b∈L.bs
   .exact⟨.inl (n.blk b (.inr c)).1,H⟩
   .rw[st.jz b l (λL D u=>c ⟨L,D,u⟩)] at p
    exact⟨(n.M b o v p).1,H⟩
  grind [tb]
omit [Payload] in
def jN.step{s':St}{σ σ':List aV}(n:jN Y f A j s)(G:aJ σ' s')(st:Step σ s σ' s')(hW:Y.Wg<s.w.heap.size)(hC:Y.C<s.w.heap.size)(Z:∀ b,Y.Sh b->b<s.w.heap.size):jN Y (nj f s.w.heap.size 0) A j s':=by
 have S:∀ b,s.w.heap.size<=b->b<s'.w.heap.size->nj f s.w.heap.size 0 b=0/\b≠Y.C/\b≠Y.Wg/\¬Y.Sh b/\b<s'.w.heap.size:=λb l q =>
  ⟨tb l,by omega,by omega,λh=>by grind,q⟩
 refine⟨λb c=>?_,λb o v p=>?_,λx R b o v p=>st.mem _ _ _ (n.ms x R b o v p)⟩
 .rcases c with c|⟨L,D,c⟩
  .rw[st.own] at c;obtain⟨l,q,t,F,E⟩:=n.blk b (.inl c);exact⟨by grind [eT],q,t,F,cG E st.size⟩
  .have H:=G.lt L D b c;rcases st.xC L D b c with l|⟨O,I,l⟩
   .grind
   .obtain⟨k1,Q,U,T,V⟩:=n.blk b (.inr ⟨O,I,l⟩)
    grind [eT]
 .have H:=gz.lt G.mem p;rcases cJ b s.w.heap.size with l|l
  .by_cases c:∃ L∈s.β,b∈L.bs
   .obtain⟨k1,Q,U,T,V⟩:=n.blk b (.inr c)
    grind [eT]
   .rw[st.jz b l (λL D u=>c ⟨L,D,u⟩)] at p
    obtain⟨k1,Q,U,T,V⟩:=n.M b o v p
    grind [eT]
  grind
end
end
section
open Go.Conc
open Go.ConcN (WD CTag Mode Vc Ssum pend phi cnt WgLive PayAt Has RW DWs WSit RelBy sumTo upd upd_same upd_ne AtR0 get_map_set get_map_set_same norel_of Deaf_still)
open Go.ConcR (KK WgAt stA smA rd wr mk Payload g_of_ofEvents)
variable [Payload]
section
variable (P:aq)(ty:ar)(Y:Lay)(N:Nat)(val:Nat->Nat->ak)(l:Nat->Nat)(c:Nat->Mem)
inductive WS (x:Nat):Nat->Nat->Rk->Nat->au->az->Prop
 |am {r:Rk} {g:au} {s:St} {w:az}:kq (Cx.work P) E0 (JS P ty Y N val x) r g s->cj s { s with w:=w }->lW l (c x) (Y.base+x) s->WS x 1 7 r 0 g w
 |rel {m:Nat} {g:au} {w:az}:Goes P ae (RW ty Y.Wg Y.C N 0 (Y.kc*x)) Go.ConcR.DC0 (AtR0 P ty Y.Wg Y.C N 0 (Y.kc*x+1) (val x 0)) m g w->WS x 0 7 (Rk.nat m) 0 g w
 |tail {st m d:Nat} {g:au} {w:az}:st<=6->WSit P ty Y.Wg Y.C N PV PV 0 (Y.kc*x+1) (val x 0) st m d g w->WS x 0 st (Rk.nat m) d g w
structure Com (j:Nat)(n:Array au)(w:az)(t:Trace)(D:Nat->WD)(A:Nat->Nat)(K:Nat->Rk)(p:Nat):Prop where
 size:n.size=Y.base+j
 lv:∀ i g,0<i->i<Y.base->n[i]?=aa g->∃ m,K i=Rk.nat m/\QuitsD P m (Deaf t i) g
 above:∀ i,Y.base+j<=i->Deaf t i=0
 wk:∀ x,x<j->∃ g,n[Y.base+x]?=aa g/\WS P ty Y N val l c x (A x) (D x).stage (K (Y.base+x)) (D x).deaf g w
 tl:TL Y l c t j w.heap.size
 norel:rD t
 deaf0:Deaf t 0=p
 deafW:∀ x,x<j->Deaf t (Y.base+x)=(D x).deaf
 rel:∀ x,x<j->(D x).stage<=6->∃ r,RelBy (stA Y.Wg) t (Y.base+x) r
 xM:∀ x,x<j->A x=0->∀ i,1<=i->i<Y.kc->w.cell? ⟨Y.C,Y.kc*x+i,af⟩=aa (val x i)
 BQ:∀ x,x<j->(D x).stage<=6->Has Y.C (Y.kc*x) (val x 0) w
 pay:PayAt Y.C N w
 live:WgLive ty Y.Wg w
 Bn:Y.Wg<w.heap.size
 Dv:Y.C<w.heap.size
 M9:∀ b,Y.Sh b->b<w.heap.size
 kc:0<Y.kc
 NT:∀ y,y<j->∀ b o v,c y b o=aa v->b<w.heap.size
end
section
variable {P:aq}{ty:ar}{Y:Lay}{N:Nat}{val:Nat->Nat->ak}{l hm':Nat->Nat}{c:Nat->Mem}{j x:Nat}{n:Array au}{w w':az}{t:Trace}{D:Nat->WD}{A:Nat->Nat}{K:Nat->Rk}{p:Nat}
def RW.JU(k:G4 Y l (c x) x w w')(hl:WgLive ty Y.Wg w')(a:PayAt Y.C N w')(d:0<Y.kc):RW ty Y.Wg Y.C N 0 (Y.kc*x+1-1) w w' :=
 ⟨λb hb=>absurd hb (ji b),λ_=>hl,λ_=>a,k.pay _ (bg _) (by grind)⟩
def WS.JU{a st d:Nat}{r:Rk}{g:au}(h:WS P ty Y N val l c x a st r d g w)(k:G4 Y l (c x) x w w')(hl:WgLive ty Y.Wg w')(i:PayAt Y.C N w')(e:0<Y.kc)(hh:∀ b,b<w.heap.size->hm' b=l b) :
  WS P ty Y N val hm' c x a st r d g w':=by
 cases h with
 |am h1 h2 h3=>exact .am h1 (h3.JU h2 k) (h3.ta h2.size hh)
 |rel h1=>exact .rel (Goes.rely (λ_ _ _ h1 h2=>h1.trans h2) h1 (RW.JU k hl i e))
 |tail h0 h1=>exact .tail h0 (h1.rely (RW.JU k hl i e))
omit [Payload] in
def kq.run{X:Cx P}{E:St->St->Array Event->Prop}{S:au->St->Prop}(q:∀ g s,S g s->g.status=.running):∀ {r:Rk}{g:au}{s:St},kq X E S r g s->g.status=.running
 |.leaf,_,_,h=>q _ _ h
 |.node f,g,s,h=>by
  rcases h with h|⟨s',_,h⟩|⟨h,_⟩
  .grind
  .exact kq.run q (r:=f s) h
  grind
def WS.status{a st d:Nat}{r:Rk}{g:au}(h:WS P ty Y N val l c x a st r d g w):g.status=.running∨g.status=.finished:=by
 cases h with
 |am h1 _ _=>exact .inl (h1.run λg s h=>h.1)
 |rel h1=>exact .inl (Goes.running (λ_ _ x=>x.1) w (Go.ConcN.RW.refl w) h1)
 |tail _ h1=>exact h1.status
def WS.woken{a st d:Nat}{r:Rk}{g:au}(h:WS P ty Y N val l c x a st r d g w)(b e:au)(w':az):woken P b e w' g=g:=by
 unfold Go.Conc.woken;split
 .exact again_running _ h.status
 .rfl
def Com.at(h:Com P ty Y N val l c j n w t D A K p)(d:Nat):Com P ty Y N val l c j n (w.at d) t D A K p :=
 ⟨h.size,h.lv,h.above,λx a=>let ⟨g,h1,h2⟩:=h.wk x a;⟨g,h1,h2.JU (.at ..) h.live h.pay h.kc λ_ _=>rfl⟩,h.tl,h.norel,h.deaf0,h.deafW,h.rel,h.xM,h.BQ,h.pay,h.live,h.Bn,h.Dv,h.M9,h.kc,h.NT⟩
def Com.stepW(h:Com P ty Y N val l c j n w t D A K p)(hx:x<j){g g':au}{fn:aW}{pos:String}{es:Array Event}{a' qj d':Nat}{r':Rk}
  (hh:∀ b,b<w.heap.size->hm' b=l b) (F:w.heap.size<=w'.heap.size) (u:∀ y,y<j->y≠x->G4 Y l (c y) y w w')
  (R:WS P ty Y N val hm' c x a' qj r' d' g' w') (Uc:∀ e∈es,(aM e).low w'.heap.size) (Z0:∀ e∈es,∀ a,(aM e).touch?=aa a->a.loc.isMemory=ab->qm Y hm' (c x) x a)
  (T:∀ e∈es,∀ a,e.loc≠.mark (.release a)) (J:deafBehind (D x).deaf es=d')
  (acr:qj<=6->∃ r,RelBy (stA Y.Wg) (t++MemOp.ofEvents (Y.base+x) fn pos es) (Y.base+x) r)
  (h1:a'=0->∀ i,1<=i->i<Y.kc->w'.cell? ⟨Y.C,Y.kc*x+i,af⟩=aa (val x i)) (h0:qj<=6->Has Y.C (Y.kc*x) (val x 0) w') (I:PayAt Y.C N w') (B:WgLive ty Y.Wg w') :
  Com P ty Y N val hm' c j ((n.map (woken P g g' w')).setIfInBounds (Y.base+x) g') w' (t++MemOp.ofEvents (Y.base+x) fn pos es) (upd D x ⟨qj,0,d'⟩) (upd A x a') (upd K (Y.base+x) r') p:=by
 have hb:=h.tl.base;have G:∀ y,y≠x->Y.base+x≠Y.base+y:=λy d e=>d (by omega)
 have O:∀ i H,0<i->i<Y.base->((n.map (Go.Conc.woken P g g' w')).setIfInBounds (Y.base+x) g')[i]?=aa H->n[i]?=aa H:=by
  intro i H hi PW FR;rw[get_map_set _ _ _ _ (by omega)] at FR
  obtain⟨z,hz,rfl⟩:=sT.1 FR;obtain⟨m,_,hq⟩:=h.lv i z hi PW hz
  grind [woken_quitsD]
 refine⟨by simp[h.size],λi H hi PW FR=>?_,λi hi=>?_,λy d=>?_,?_,h.norel.app T,by rw[Deaf_other t (by omega) _ g_of_ofEvents,h.deaf0],λy d=>?_,λy d k=>?_,λy d M i V W=>?_,λy d k=>?_,I,B,cG h.Bn F,cG h.Dv F,λb hb=>cG (h.M9 b hb) F,h.kc,λy d b o v Z=>cG (h.NT y d b o v Z) F⟩
 .obtain⟨m,U,Q⟩:=h.lv i H hi PW (O i H hi PW FR);refine⟨m,by rw[upd_ne K _ (by omega)];exact U,?_⟩
  rw[Deaf_other t (by omega) _ g_of_ofEvents];exact Q
 .rw[Deaf_other t (by omega) _ g_of_ofEvents];exact h.above i hi
 .by_cases e:y=x
  .subst e;exact⟨g',get_map_set_same _ _ _ (by rw[h.size];omega),by rw[upd_same,upd_same,upd_same];exact R⟩
  .obtain⟨H,FR,L⟩:=h.wk y d;refine⟨H,by rw[get_map_set _ _ _ _ (G y e),FR,j9,L.woken],?_⟩
   rw[upd_ne A _ e,upd_ne D _ e,upd_ne K _ (G y e).symm];exact L.JU (u y d e) B I h.kc hh
 .refine(h.tl.ta hh F h.Bn h.Dv h.M9 λy d b o v Z=>?_).appW hx (λop mo=>by grind [Go.Conc.mem_ofEvents]) (λop mo=>?_) (λop mo a M hma=>?_)
  .exact h.NT y d b o v Z
  .grind [Go.Conc.mem_ofEvents]
  grind [Go.Conc.mem_ofEvents]
 .by_cases e:y=x
  .subst e;rw[Deaf_own,h.deafW y d,upd_same];exact J
  .rw[Deaf_other t (G y e) _ g_of_ofEvents,h.deafW y d,upd_ne D _ e]
 .by_cases e:y=x
  .subst e;rw[upd_same] at k;grind
  .rw[upd_ne D _ e] at k;obtain⟨r,hr⟩:=h.rel y d k;exact⟨r,hr.appOther g_of_ofEvents (G y e)⟩
 .by_cases e:y=x
  .subst e;rw[upd_same] at M;grind
  .rw[upd_ne A _ e] at M;rw[(u y d e).pay _ (by omega) (by omega)]
   exact h.xM y d M i V W
 .by_cases e:y=x
  .subst e;rw[upd_same] at k;grind
  .rw[upd_ne D _ e] at k;have:=h.BQ y d k;have hk:=h.kc;simp only[Has] at this ⊢;rw[(u y d e).pay _ (by omega) (by omega)]
   exact this
def Com.step0(h:Com P ty Y N val l c j n w t D A K p){g g':au}{fn:aW}{pos:String}{es:Array Event}
  (hh:∀ b,b<w.heap.size->hm' b=l b) (B:w.heap.size<=w'.heap.size) (k:∀ y,y<j->G4 Y l (c y) y w w')
  (T:∀ e∈es,(aM e).low w'.heap.size) (Z:∀ e∈es,∀ a,(aM e).touch?=aa a->a.loc.isMemory=ab->r6 Y hm' a)
  (U:∀ e∈es,∀ a,(aM e).touch?=aa a->a.kind=.plain->a.write=ab->∀ x,x<j->∀ b o v,a.loc=.cell ⟨b,o,af⟩->c x b o≠aa v)
  (J:∀ e∈es,∀ a,e.loc≠.mark (.release a)) (F:PayAt Y.C N w') (u:WgLive ty Y.Wg w') :
  Com P ty Y N val hm' c j ((n.map (woken P g g' w')).setIfInBounds 0 g') w' (t++MemOp.ofEvents 0 fn pos es) D A K (deafBehind p es):=by
 have hb:=h.tl.base;have hk:=h.kc;refine⟨by simp[h.size],λi R hi PW FR=>?_,λi hi=>?_,λy d=>?_,?_,h.norel.app J,by rw[Deaf_own,h.deaf0],λy d=>by rw[Deaf_other t (by omega) _ g_of_ofEvents,h.deafW y d],λy d G=>?_,λy d O i M Q=>?_,λy d G=>?_,F,u,cG h.Bn B,cG h.Dv B,λb hb=>cG (h.M9 b hb) B,h.kc,λy d b o v hv=>cG (h.NT y d b o v hv) B⟩
 .rw[get_map_set _ _ _ _ (by omega)] at FR
  obtain⟨z,W,rfl⟩:=sT.1 FR;obtain⟨m,L,I⟩:=h.lv i z hi PW W;exact⟨m,L,by rw[woken_quitsD I,Deaf_other t (by omega) _ g_of_ofEvents];exact I⟩
 .rw[Deaf_other t (by omega) _ g_of_ofEvents];exact h.above i hi
 .obtain⟨R,FR,H⟩:=h.wk y d;exact⟨R,by rw[get_map_set _ _ _ _ (by omega),FR,j9,H.woken],H.JU (k y d) u F h.kc hh⟩
 .refine(h.tl.ta hh B h.Bn h.Dv h.M9 h.NT).app0 (λop mo=>by grind [Go.Conc.mem_ofEvents]) (λop mo=>?_) (λop mo a O hma=>?_) (λop mo a O=>?_)
  .grind [Go.Conc.mem_ofEvents]
  .grind [Go.Conc.mem_ofEvents]
  grind [Go.Conc.mem_ofEvents]
 .obtain⟨r,V⟩:=h.rel y d G;exact⟨r,V.appOther g_of_ofEvents (by omega)⟩
 .rw[(k y d).pay _ (by omega) (by omega)]
  exact h.xM y d O i M Q
 .have:=h.BQ y d G;simp only[Has] at this ⊢;rw[(k y d).pay _ (by omega) (by omega)]
  exact this
def Com.leave(h:Com P ty Y N val l c j n w t D A K p){i m:Nat}(hi:0<i)(J:i<Y.base){g g':au}{fn:aW}{pos:String}{es:Array Event}
  (v:∀ e∈es,e.mute=ab) (R:QuitsD P m (deafBehind (Deaf t i) es) g') :
  Com P ty Y N val l c j ((n.map (woken P g g' w)).setIfInBounds i g') w (t++MemOp.ofEvents i fn pos es) D A (upd K i (Rk.nat m)) p:=by
 have hb:=h.tl.base;have B:∀ e∈es,∀ a,e.loc≠.mark (.release a):=λe Q a=>vq (v e Q) a
 refine⟨by simp[h.size],λk I C H b=>?_,λk C=>?_,λy o=>?_,?_,h.norel.app B,by rw[Deaf_other t (by omega) _ g_of_ofEvents,h.deaf0],λy o=>by rw[Deaf_other t (by omega) _ g_of_ofEvents,h.deafW y o],λy o F=>?_,h.xM,h.BQ,h.pay,h.live,h.Bn,h.Dv,h.M9,h.kc,h.NT⟩
 .by_cases e:k=i
  .subst e;rw[get_map_set_same _ _ _ (by grind)] at b
   cases b;exact⟨m,by rw[upd_same],by grind [Deaf_own]⟩
  .rw[get_map_set _ _ _ _ (mi e)] at b;obtain⟨z,M,rfl⟩:=sT.1 b;obtain⟨L,G,d⟩:=h.lv k z C H M;exact⟨L,by rw[upd_ne K _ e];exact G,by rw[woken_quitsD d,Deaf_other t (mi e) _ g_of_ofEvents];exact d⟩
 .rw[Deaf_other t (by omega) _ g_of_ofEvents];exact h.above k C
 .obtain⟨I,b,u⟩:=h.wk y o;exact⟨I,by rw[get_map_set _ _ _ _ (by omega),b,j9,u.woken],by rw[upd_ne K _ (by omega)];exact u⟩
 .exact h.tl.mute (g:=i) (λop mo=>by grind [Go.Conc.mem_ofEvents]) (λop mo=>by grind [Go.Conc.mem_ofEvents,low_mute]) (λop mo=>by grind [Go.Conc.mem_ofEvents,touch_mute])
 .obtain⟨r,O⟩:=h.rel y o F;exact⟨r,O.appOther g_of_ofEvents (by omega)⟩
def Com.spawn(h:Com P ty Y N val l c j n w t D A K 0){a' child:au}{x y:MemOp}{r:Rk}{s:St}(O:x.g=0/\x.act=.go (Y.base+j))(L:y.g=Y.base+j/\y.act=.start)
  (J:∀ b o v,c j b o=aa v->l b=0/\b≠Y.C/\b≠Y.Wg/\¬Y.Sh b/\b<w.heap.size)
  (T:kq (Cx.work P) E0 (JS P ty Y N val j) r child s) (G:cj s { s with w:=w }) (R:lW l (c j) (Y.base+j) s) :
  Com P ty Y N val l c (j+1) ((n.setIfInBounds 0 a').push child) w (t++#[x,y]) (upd D j ⟨7,0,0⟩) (upd A j 1) (upd K (Y.base+j) r) 0:=by
 have hb:=h.tl.base;have Q:∀ op∈#[x,y],op=x∨op=y:=by grind
 have d:∀ op∈#[x,y],op.act≠.mark .disable/\op.act≠.mark .enable:=by
  grind
 have u:∀ i,0<i->i<Y.base+j->((n.setIfInBounds 0 a').push child)[i]?=n[i]?:=λi hi sV=>by
  rw[Array.getElem?_push_lt (by simp[h.size];omega),<-fR,sR (by omega)]
 refine⟨by simp[h.size];omega,λi g hi PW hg=>?_,λi hi=>?_,λz k=>?_,h.tl.fork O L h.deaf0 (h.above _ (bg _)) λb o v H=>let ⟨h1,h2,I,M,_⟩:=J b o v H;⟨h1,h2,I,M⟩,λad=>(h.norel ad).app λop mo=>?_,by rw[Deaf_still t 0 _ d,h.deaf0],λz k=>?_,λz k e=>?_,λz k B=>?_,λz k e=>?_,h.pay,h.live,h.Bn,h.Dv,h.M9,h.kc,λz k b o v H=>?_⟩
 .rw[u i hi (by omega)] at hg
  obtain⟨m,h1,h2⟩:=h.lv i g hi PW hg;exact⟨m,by rw[upd_ne K _ (by omega)];exact h1,by rw[Deaf_still t _ _ d];exact h2⟩
 .rw[Deaf_still t _ _ d];exact h.above i (by omega)
 .rcases cJ z j with sV|a
  .obtain⟨g,hg,F⟩:=h.wk z sV;exact⟨g,by grind,by rw[upd_ne D _ (by omega),upd_ne A _ (by omega),upd_ne K _ (by omega)];exact F⟩
  .obtain rfl:z=j:=by omega
   refine⟨child,?_,by rw[upd_same,upd_same,upd_same];exact .am T G R⟩
   rw[show Y.base+z=(n.setIfInBounds 0 a').size by simp[h.size],Array.getElem?_push_size]
 .grind
 .rw[Deaf_still t _ _ d];rcases cJ z j with sV|a
  .rw[h.deafW z sV,upd_ne D _ (by omega)]
  .obtain rfl:z=j:=by omega
   rw[upd_same];exact h.above _ (bg _)
 .rcases cJ z j with sV|a
  .rw[upd_ne D _ (by omega)] at e
   obtain⟨r,G⟩:=h.rel z sV e;refine⟨r,G.appNot λop mo=>?_⟩
   grind
  .obtain rfl:z=j:=by omega
   rw[upd_same] at e
   grind
 .rcases cJ z j with sV|a
  .rw[upd_ne A _ (by omega)] at B
   exact h.xM z sV B
  .obtain rfl:z=j:=by omega
   rw[upd_same] at B
   grind
 .rcases cJ z j with sV|a
  .rw[upd_ne D _ (by omega)] at e
   exact h.BQ z sV e
  .obtain rfl:z=j:=by omega
   rw[upd_same] at e
   grind
 .rcases cJ z j with sV|a
  .exact h.NT z sV b o v H
  grind
end
end
section
open Go.Conc
open Go.ConcN (WD CTag Mode Vc Ssum pend phi cnt WgLive PayAt Has RW DWs WSit RelBy sumTo upd upd_same upd_ne AtR0)
open Go.ConcR (KK WgAt stA smA rd wr mk Payload g_of_ofEvents again_blocked)
variable [Payload]
section
variable (P:aq)(ty:ar)(Y:Lay)(N:Nat)(val:Nat->Nat->ak)(n:Nat)(T l:au->St->Prop)
def AtAcq(g:au)(s:St):Prop:=g.status=.running/\∃ g',(∀ w,aK P ab g w=.go g' w #[mk (.acquire (stA Y.Wg))])/\∀ c,(Cx.lead P ty Y.Wg).rely s c->T g' c
def AtKe(g:au)(s:St):Prop:=g.status=.running/\∃ g',(∀ w,aK P ab g w=.go g' w #[mk .enable])/\∀ c,(Cx.lead P ty Y.Wg).rely s c->(ek (Cx.lead P ty Y.Wg) (Es Y.Wg)) (AtAcq P ty Y T) g' c
def AtW4(g:au)(s:St):Prop:=g.status=.running/\∀ c,(Cx.lead P ty Y.Wg).rely s c->WgAt ty Y.Wg c.w 0 0->∃ g',aK P ab g c.w=.go g' c.w #[rd (stA Y.Wg)]/\(ek (Cx.lead P ty Y.Wg) (Es Y.Wg)) (AtKe P ty Y T) g' c
def AtW3(g:au)(s:St):Prop:=g.status=.running/\g.offers=af/\∀ c,(Cx.lead P ty Y.Wg).rely s c ->
 ((∃ st,WgAt ty Y.Wg c.w st 0)->aK P ab g c.w=.go { g with status:=.blocked } c.w #[]) /\
 (WgAt ty Y.Wg c.w 0 1->∃ g',aK P ab g c.w=.go g' (c.w.setCell (smA Y.Wg) (.int .u32 0)) (semEvents (smA Y.Wg))/\(ek (Cx.lead P ty Y.Wg) (Es Y.Wg)) (AtW4 P ty Y T) g' { c with w:=c.w.setCell (smA Y.Wg) (.int .u32 0) })
def AtW2(vs:Nat)(g:au)(s:St):Prop:=g.status=.running/\∀ c,(Cx.lead P ty Y.Wg).rely s c->∀ v:Nat,v<2147483648->WgAt ty Y.Wg c.w (v*KK) 0 ->
 (v=vs->∃ g',aK P ab g c.w=.go g' (c.w.setCell (stA Y.Wg) (.int .u64 (v*KK+1))) #[rd (stA Y.Wg),wr (stA Y.Wg)]/\(ek (Cx.lead P ty Y.Wg) (Es Y.Wg)) (AtW3 P ty Y T) g' { c with w:=c.w.setCell (stA Y.Wg) (.int .u64 (v*KK+1)) }) /\
 (v≠vs->∃ g',aK P ab g c.w=.go g' c.w #[rd (stA Y.Wg)]/\l g' c)
def AtW1(g:au)(s:St):Prop:=g.status=.running/\∀ c,(Cx.lead P ty Y.Wg).rely s c->∀ v:Nat,v<2147483648->WgAt ty Y.Wg c.w (v*KK) 0 ->
 ∃ g',aK P ab g c.w=.go g' c.w #[rd (stA Y.Wg)]/\(v=0->(ek (Cx.lead P ty Y.Wg) (Es Y.Wg)) (AtKe P ty Y T) g' c)/\(v≠0->(ek (Cx.lead P ty Y.Wg) (Es Y.Wg)) (AtW2 P ty Y T l v) g' c)
def AtKd(g:au)(s:St):Prop:=g.status=.running/\∃ g',(∀ w,aK P ab g w=.go g' w #[mk .disable])/\∀ c,(Cx.lead P ty Y.Wg).rely s c->l g' c
def St.child(s:St):St:={ β:=[],M:=s.M,w:=s.w,own:=λ_=>False }
def AtGo(j:Nat)(Next:au->St->Prop)(g:au)(s:St):Prop:=g.status=.running/\∀ c,(Cx.lead P ty Y.Wg).rely s c ->
 ∃ g' child,aK P ab g c.w=.spawn g' child c.w #[]/\child.status=.running/\ek (Cx.work P) E0 (JS P ty Y N val j) child c.child/\Next g' c
def AtKeS(j:Nat)(Next:au->St->Prop)(g:au)(s:St):Prop:=g.status=.running/\∃ g',(∀ w,aK P ab g w=.go g' w #[mk .enable])/\∀ c,(Cx.lead P ty Y.Wg).rely s c->(ek (Cx.lead P ty Y.Wg) (Es Y.Wg)) (AtGo P ty Y N val j Next) g' c
def AtA1(j:Nat)(Next:au->St->Prop)(g:au)(s:St):Prop:=g.status=.running/\∀ c,(Cx.lead P ty Y.Wg).rely s c->∀ v:Nat,v<2147483647->WgAt ty Y.Wg c.w (v*KK) 0 ->
 ∃ g',aK P ab g c.w=.go g' (c.w.setCell (stA Y.Wg) (.int .u64 ((v+1)*KK))) #[rd (stA Y.Wg),wr (stA Y.Wg)]/\(ek (Cx.lead P ty Y.Wg) (Es Y.Wg)) (AtKeS P ty Y N val j Next) g' { c with w:=c.w.setCell (stA Y.Wg) (.int .u64 ((v+1)*KK)) }
def AtKdS(j:Nat)(Next:au->St->Prop)(g:au)(s:St):Prop:=g.status=.running/\∃ g',(∀ w,aK P ab g w=.go g' w #[mk .disable])/\∀ c,(Cx.lead P ty Y.Wg).rely s c->(ek (Cx.lead P ty Y.Wg) (Es Y.Wg)) (AtA1 P ty Y N val j Next) g' c
def Spawns:Nat->au->St->Prop
 |0,g,s=>(ek (Cx.lead P ty Y.Wg) (Es Y.Wg)) (AtKd P ty Y l) g s
 |r+1,g,s=>(ek (Cx.lead P ty Y.Wg) (Es Y.Wg)) (AtKdS P ty Y N val (n-(r+1)) (Spawns r)) g s
def Rk.lift:Rk->Rk
 |.leaf=>.node λ_=>.leaf
 |.node f=>.node λs=>Rk.lift (f s)
omit [Payload] in
def Rk.FT:∀ {x r:Rk},Rk.lt x r->Rk.lt x.lift r.lift
 |_,.leaf,h=>h.elim
 |_,.node _,⟨s,h⟩=>⟨s,h.elim (λe=>.inl (by rw[e])) λh=>.inr (Rk.FT h)⟩
omit [Payload] in
def Rk.JV(s:St):∀ r:Rk,∃ x,Rk.lt x r.lift
 |.leaf=>⟨.leaf,s,.inl rfl⟩
 |.node f=>⟨(f s).lift,s,.inl rfl⟩
inductive CS:CTag->Nat->Rk->Nat->au->St->Prop
 |skd {r:Nat} {rk:Rk} {g:au} {s:St}:r<n->(kq (Cx.lead P ty Y.Wg) (Es Y.Wg)) (AtKdS P ty Y N val (n-(r+1)) (Spawns P ty Y N val n l r)) rk g s->CS (.sp r 5) (n-(r+1)) rk 0 g s
 |sa1 {r:Nat} {rk:Rk} {g:au} {s:St}:r<n->(kq (Cx.lead P ty Y.Wg) (Es Y.Wg)) (AtA1 P ty Y N val (n-(r+1)) (Spawns P ty Y N val n l r)) rk g s->CS (.sp r 4) (n-(r+1)) rk 1 g s
 |ske {r:Nat} {rk:Rk} {g:au} {s:St}:r<n->(kq (Cx.lead P ty Y.Wg) (Es Y.Wg)) (AtKeS P ty Y N val (n-(r+1)) (Spawns P ty Y N val n l r)) rk g s->CS (.sp r 3) (n-(r+1)) rk 1 g s
 |sgo {r:Nat} {rk:Rk} {g:au} {s:St}:r<n->(kq (Cx.lead P ty Y.Wg) (Es Y.Wg)) (AtGo P ty Y N val (n-(r+1)) (Spawns P ty Y N val n l r)) rk g s->CS (.sp r 2) (n-(r+1)) rk 0 g s
 |kd {rk:Rk} {g:au} {s:St}:(kq (Cx.lead P ty Y.Wg) (Es Y.Wg)) (AtKd P ty Y l) rk g s->CS .kd n rk 0 g s
 |w1 {rk:Rk} {g:au} {s:St}:(kq (Cx.lead P ty Y.Wg) (Es Y.Wg)) (AtW1 P ty Y T l) rk g s->CS .w1 n rk 1 g s
 |w2 {vs:Nat} {rk:Rk} {g:au} {s:St}:(kq (Cx.lead P ty Y.Wg) (Es Y.Wg)) (AtW2 P ty Y T l vs) rk g s->CS (.w2 vs) n rk 1 g s
 |w3 {rk:Rk} {g:au} {s:St}:(kq (Cx.lead P ty Y.Wg) (Es Y.Wg)) (AtW3 P ty Y T) rk g s->CS .w3 n rk.lift 1 g s
 |blk {rk:Rk} {g:au} {s:St}:AtW3 P ty Y T g s->CS .blk n rk 1 { g with status:=.blocked } s
 |w4 {rk:Rk} {g:au} {s:St}:(kq (Cx.lead P ty Y.Wg) (Es Y.Wg)) (AtW4 P ty Y T) rk g s->CS .w4 n rk 1 g s
 |ke {rk:Rk} {g:au} {s:St}:(kq (Cx.lead P ty Y.Wg) (Es Y.Wg)) (AtKe P ty Y T) rk g s->CS .ke n rk 1 g s
 |acq {rk:Rk} {g:au} {s:St}:(kq (Cx.lead P ty Y.Wg) (Es Y.Wg)) (AtAcq P ty Y T) rk g s->CS .acq n rk 0 g s
structure Fin (p:Nat->Nat)(o:Nat->Mem)(m:Machine)(t:Trace):Prop where
 out:∃ (gs:Array au) (w:az) (sl:Option (Nat×Nat)) (a:au) (s:St) (q:Nat->Nat),m=crowd gs w sl/\gs[0]?=aa a/\gs.size=Y.base+n/\T a { s with w:=w }/\cj s { s with w:=w }/\jN Y p o n s /\
  Leavers P t gs q/\Past (lS λb=>Y.Sh b∨b=Y.Wg) w.heap.size t/\rD t/\PayAt Y.C N w/\(∀ x,x<n->∀ i,i<Y.kc->w.cell? ⟨Y.C,Y.kc*x+i,af⟩=aa (val x i))/\Y.C<w.heap.size/\Y.Wg<w.heap.size/\∀ b,Y.Sh b->b<w.heap.size
abbrev Mu:=Nat×((Nat->Rk)×Rk)
def FU(M:Nat):Mu->Mu->Prop:=Prod.Lex (· < ·) (Prod.Lex (Vec M) Rk.lt)
omit [Payload] in
def Rg(M:Nat):WellFounded (FU M):=(Prod.lex Nat.lt_wfRel ⟨_,(Prod.lex ⟨Vec M,JR M⟩ ⟨Rk.lt,⟨Rk.acc⟩⟩).wf⟩).wf
structure tc (μ:Mu)(gs:Array au)(w:az)(t:Trace)(p:Nat->Nat)(o:Nat->Mem)(j:Nat)(D:Nat->WD)(A:Nat->Nat)(K:Nat->Rk)(d0:Nat)(tag:CTag)(rk:Rk)(a:au)(s:St) (st sm:Int):Prop where
 a0:gs[0]?=aa a
 cs:CS P ty Y N val n T l tag j rk d0 a s
 rely:cj s { s with w:=w }
 lead:jN Y p o j s
 gd:Com P ty Y N val p o j gs w t D A K d0
 wg:WgAt ty Y.Wg w st sm
 mode:Go.ConcN.Mode j D tag st sm
 mu:μ=(phi n (Vc j D) tag+Ssum j D+sumTo j A,(K,rk))
def Inv(i:Mu)(m:Machine)(t:Trace):Prop :=
 ∃ (b:Array au) (w:az) (sl:Option (Nat×Nat)) (p:Nat->Nat) (o:Nat->Mem) (j:Nat) (D:Nat->WD) (A:Nat->Nat) (K:Nat->Rk) (k:Nat) (tag:CTag) (rk:Rk) (a:au) (s:St) (st sm:Int),
  m=crowd b w sl/\tc P ty Y N val n T l i b w t p o j D A K k tag rk a s st sm
end
section
variable {P:aq}{ty:ar}{Y:Lay}{N:Nat}{val:Nat->Nat->ak}{n:Nat}{T l:au->St->Prop}{p hm':Nat->Nat}{o:Nat->Mem}{j:Nat}{tag:CTag}{rk:Rk}{d:Nat}{a:au}{s:St}{w w':az}
omit [Payload] in
def fN{s:St}(h:cj s { s with w:=w })(B:WgLive ty Y.Wg w):(Cx.lead P ty Y.Wg).rely s { s with w:=w }:=⟨h,λ_=>B⟩
omit [Payload] in
def AtW3.rely{g:au}{c:St}(h:AtW3 P ty Y T g s)(u:(Cx.lead P ty Y.Wg).rely s c):AtW3 P ty Y T g c :=
 ⟨h.1,h.2.1,λs2 z=>h.2.2 s2 ⟨u.1.trans z.1,λx=>z.2 (u.2 x)⟩⟩
def CS.status(h:CS P ty Y N val n T l tag j rk d a s):(a.status=.running/\tag≠.blk)∨(a.status=.blocked/\tag=.blk):=by
 cases h with
 |skd _ h=>exact .inl ⟨h.run λ_ _ x=>x.1,by simp⟩
 |sa1 _ h=>exact .inl ⟨h.run λ_ _ x=>x.1,by simp⟩
 |ske _ h=>exact .inl ⟨h.run λ_ _ x=>x.1,by simp⟩
 |sgo _ h=>exact .inl ⟨h.run λ_ _ x=>x.1,by simp⟩
 |kd h=>exact .inl ⟨h.run λ_ _ x=>x.1,by simp⟩
 |w1 h=>exact .inl ⟨h.run λ_ _ x=>x.1,by simp⟩
 |w2 h=>exact .inl ⟨h.run λ_ _ x=>x.1,by simp⟩
 |w3 h=>exact .inl ⟨h.run λ_ _ x=>x.1,by simp⟩
 |blk h=>grind
 |w4 h=>exact .inl ⟨h.run λ_ _ x=>x.1,by simp⟩
 |ke h=>exact .inl ⟨h.run λ_ _ x=>x.1,by simp⟩
 |acq h=>exact .inl ⟨h.run λ_ _ x=>x.1,by simp⟩
def CS.wokenBy(h:CS P ty Y N val n T l tag j rk d a s)(g g':au)(w':az) :
  ∃ tag' rk',CS P ty Y N val n T l tag' j rk' d (woken P g g' w' a) s/\(tag'=tag∨(tag=.blk/\tag'=.w3))/\(mayWake P g=ab->g'.status=.running->tag'≠.blk):=by
 unfold Go.Conc.woken;split
 .rcases h.status with⟨i,b⟩|⟨_,rfl⟩
  .grind [again_running]
  .cases h with
   |blk hb=>exact⟨.w3,Rk.lift .leaf,by rw[again_blocked hb.1 hb.2.1];exact .w3 (show kq _ _ _ .leaf _ _ from hb),.inr ⟨rfl,rfl⟩,λ_ _=>by simp⟩
 grind
def kO{μ:Mu}{gs:Array au}{sl:Option (Nat×Nat)}{t:Trace}{D:Nat->WD}{A:Nat->Nat}{K:Nat->Rk}{st sm:Int}(I:tc P ty Y N val n T l μ gs w t p o j D A K d tag rk a s st sm)
  {x:Nat} (W:x<j) {g g':au} {es:Array Event} {a' s' d':Nat} {r':Rk} {E H:Int} (hg:gs[Y.base+x]?=aa g) (hgo:aK P ae g w=.go g' w' es)
  (hh:∀ b,b<w.heap.size->hm' b=p b) (Ds:w.heap.size<=w'.heap.size) (O:∀ y,y<j->y≠x->G4 Y p (o y) y w w') (J:D7 Y p w w')
  (hws:WS P ty Y N val hm' o x a' s' r' d' g' w') (L:∀ e∈es,(aM e).low w'.heap.size) (Z:∀ e∈es,∀ a,(aM e).touch?=aa a->a.loc.isMemory=ab->qm Y hm' (o x) x a)
  (Ud:∀ e∈es,∀ a,e.loc≠.mark (.release a)) (G:deafBehind (D x).deaf es=d')
  (S:s'<=6->∃ r,RelBy (stA Y.Wg) (t++MemOp.ofEvents (Y.base+x) g.frame.fn g.frame.place es) (Y.base+x) r)
  (h1:a'=0->∀ i,1<=i->i<Y.kc->w'.cell? ⟨Y.C,Y.kc*x+i,af⟩=aa (val x i)) (h0:s'<=6->Has Y.C (Y.kc*x) (val x 0) w') (R:PayAt Y.C N w') (Q:WgAt ty Y.Wg w' E H)
  (F:∀ tag',(tag'=tag∨(tag=.blk/\tag'=.w3))->(mayWake P g=ab->g'.status=.running->tag'≠.blk)->Go.ConcN.Mode j (upd D x ⟨s',0,d'⟩) tag' E H)
  (sV:(s'+a'<(D x).stage+A x/\cnt ⟨s',0,d'⟩<=cnt (D x))∨(s'=(D x).stage/\a'=A x/\Rk.lt r' (K (Y.base+x)))) (hjn:Y.base+j<=Y.base+n) :
  ∃ q ops μ',runT P (crowd gs w sl) (Y.base+x)=(.next q,ops)/\FU (Y.base+n) μ' μ/\Inv P ty Y N val n T l μ' q (t++ops):=by
 have hb:=I.gd.tl.base;obtain⟨tag',rk',U,m,Xr⟩:=I.cs.wokenBy g g' w';have X:(Y.base+x==0)=ae:=by grind
 have V:=runT_crowd_go (P:=P) (sl:=sl) (i:=Y.base+x) hg (by rw[X];exact hgo)
 have e1:=Go.ConcN.sumTo_upd D (⟨s',0,d'⟩:WD) cnt W;have e2:=Go.ConcN.sumTo_upd D (⟨s',0,d'⟩:WD) WD.stage W;have e3:sumTo j (upd A x a')+A x=sumTo j A+a':=Go.ConcN.sumTo_upd A a' id W;refine⟨_,_,(phi n (Vc j (upd D x ⟨s',0,d'⟩)) tag'+Ssum j (upd D x ⟨s',0,d'⟩)+sumTo j (upd A x a'),(upd K (Y.base+x) r',rk')),V,?_,
  _,w',sl,hm',o,j,_,_,_,d,tag',rk',woken P g g' w' a,s,E,H,rfl,⟨by rw[Go.ConcN.get_map_set _ _ _ _ (by omega),I.a0];rfl,U,I.lead.JU I.rely J,I.lead.ta I.rely.size hh,
   I.gd.stepW W hh Ds O hws L Z Ud G S h1 h0 R ⟨_,_,Q⟩,Q,F tag' m Xr,rfl⟩⟩
 rw[I.mu,Go.ConcN.phi_retag n _ m];simp only[Vc,Ssum] at *;rcases sV with⟨q1,q2⟩|⟨q1,q2,q3⟩
 .refine Prod.Lex.left _ _ ?_;have:=Go.ConcN.phi_mono n (v':=sumTo j λa=>cnt (upd D x ⟨s',0,d'⟩ a)) (v:=sumTo j λa=>cnt (D a)) (by omega) tag
  omega
 .have ec:cnt (⟨s',0,d'⟩:WD)=cnt (D x):=by simp only[cnt,q1]
  have ev:(sumTo j λa=>cnt (upd D x ⟨s',0,d'⟩ a))=sumTo j λa=>cnt (D a):=by omega
  have es':(sumTo j λa=>(upd D x ⟨s',0,d'⟩ a).stage)=sumTo j λa=>(D a).stage:=by omega
  have ea:sumTo j (upd A x a')=sumTo j A:=by omega
  rw[ev,es',ea];exact Prod.Lex.right _ (Prod.Lex.left _ _ ⟨Y.base+x,by omega,by rw[upd_same];exact q3,λk hk=>upd_ne K _ hk⟩)
end
end
section
open Go.Conc
open Go.ConcN (WD CTag Vc Ssum pend phi cnt WgLive PayAt Has RW DWs WSit RelBy sumTo upd upd_same upd_ne AtR0 isW3 isOpen OpenSt deafBehind_idle bk_cell okW_none Vc_upd Vc_le le_sumTo others_uncounted)
open Go.ConcR (KK WgAt stA smA rd wr mk Payload g_of_ofEvents Bk bk_of_mute ofEvent_loc_mark ofEvent_cell)
variable [Payload]
section
variable {P:aq}{ty:ar}{Y:Lay}{N:Nat}{val:Nat->Nat->ak}{n:Nat}{T G:au->St->Prop}{E hm':Nat->Nat}{O:Nat->Mem}{j:Nat}{tag:CTag}{rk:Rk}{d:Nat}{a:au}{s:St}{w w':az}
omit [Payload] in
def G4.wg(h:Aside Y.Wg w w')(F:E Y.Wg=0)(k:1<=Y.base)(hM:∀ b o v,O j b o=aa v->b≠Y.Wg)(hC:Y.C≠Y.Wg):G4 Y E (O j) j w w' :=
 ⟨by rw[h.size];grind,λb _ oO=>h.block b (λe=>by grind),λb o v H S=>by rw[jO (h.block b (hM b o v H))];exact S,λo _ _=>jO (h.block _ hC) o,h.os,h.tape,h.output⟩
omit [Payload] in
def D7.wg(h:Aside Y.Wg w w'):D7 Y E w w':=⟨by rw[h.size];grind,λb _ _ _ z=>h.block b z,h.os,h.tape,h.output⟩
omit [Payload] in
def D7.refl(w:az):D7 Y E w w:=⟨bg _,λ_ _ _ _ _=>rfl,rfl,rfl,rfl⟩
omit [Payload] in
def JW{B:Nat}{es:Array Event}(h:∀ e∈es,Bk Y.Wg e)(F:Y.Wg<B):∀ e∈es,(aM e).low B:=by
 intro e c;rcases h e c with p|p|⟨ad,wr,rfl,J⟩
 .rw[ofEvent_loc_mark p];trivial
 .rw[ofEvent_loc_mark p];trivial
 .rw[ofEvent_cell];show ad.block<B;grind
omit [Payload] in
def NU{x:Nat}{es:Array Event}(h:∀ e∈es,Bk Y.Wg e):∀ e∈es,∀ a,(aM e).touch?=aa a->a.loc.isMemory=ab->qm Y E (O x) x a:=by
 intro e c b k _;rcases h e c with p|p|⟨ad,wr,rfl,J⟩
 .rw[ofEvent_loc_mark p] at k;cases k
 .rw[ofEvent_loc_mark p] at k;cases k
 .rw[ofEvent_cell] at k;simp only[MemAct.touch?,di] at k;subst k;exact .inl ⟨ad,rfl,J,rfl⟩
omit [Payload] in
def BR{es:Array Event}(h:∀ e∈es,Bk Y.Wg e):∀ e∈es,∀ a,e.loc≠.mark (.release a):=by
 intro e c a Z;rcases h e c with p|p|⟨ad,wr,rfl,_⟩
 .grind
 .grind
 grind
omit [Payload] in
def NV{x:Nat}{σ σ':List aV}{s2:St}{es:Array Event}(V:lW E (O x) (Y.base+x) s)(U:aJ σ s)(R:eZ s es)(st:Step σ s σ' s2) :
  (∀ e∈es,(aM e).low s2.w.heap.size)/\(∀ e∈es,∀ a,(aM e).touch?=aa a->a.loc.isMemory=ab->qm Y (nj E s.w.heap.size (Y.base+x)) (O x) x a) /\
  (∀ e∈es,e.loc≠.mark .disable/\e.loc≠.mark .enable)/\∀ e∈es,∀ a,e.loc≠.mark (.release a):=by
 have key:∀ e∈es,(aM e).low s2.w.heap.size/\(∀ a,(aM e).touch?=aa a->a.loc.isMemory=ab->qm Y (nj E s.w.heap.size (Y.base+x)) (O x) x a)/\(e.loc≠.mark .disable/\e.loc≠.mark .enable)/\∀ a,e.loc≠.mark (.release a):=by
  intro e c;have h:=R e c;obtain⟨loc,wr,sy⟩:=e;cases loc with
  |cell ad =>
   obtain⟨p,z,l⟩:=h;simp only at p z l;subst p;have u:ad.block<s.w.heap.size:=by
    rcases l with l|⟨⟨L,Q,l⟩,_⟩|⟨_,v,l⟩
    .exact l.elim
    .exact U.lt L Q _ l
    .exact gz.lt U.mem l
   refine⟨by rw[ofEvent_cell];exact cG u st.size,λb k _=>?_,⟨by simp,by simp⟩,by simp⟩
   rw[ofEvent_cell] at k;simp only[MemAct.touch?,di] at k;subst k;refine .inr ⟨rfl,?_⟩;rcases l with l|⟨⟨L,Q,l⟩,_⟩|⟨W,v,l⟩
   .exact l.elim
   .exact .inl ⟨ad.block,rfl,by rw[eT u];exact(V.blk _ (.inr ⟨L,Q,l⟩)).1⟩
   .rcases(V.M _ _ _ l).1 with X|X
    .exact .inl ⟨ad.block,rfl,by grind [eT]⟩
    .refine .inr (.inr ⟨W,ad.block,ad.off,v,?_,X⟩);obtain⟨b,o,sp⟩:=ad
     grind
  |obj r =>
   obtain⟨p,z⟩:=h;simp only at p z;subst p;obtain⟨L,Q,l⟩:=z.resolve_left id;have u:=U.lt L Q _ l;refine⟨?_,λb k _=>?_,⟨by simp,by simp⟩,by simp⟩
   .simp[aM,MemAct.low,Loc.low];exact cG u st.size
   .simp[aM,MemAct.touch?] at k;subst k;exact .inr ⟨rfl,.inl ⟨r,rfl,by rw[eT u];exact(V.blk _ (.inr ⟨L,Q,l⟩)).1⟩⟩
  |mark m =>
   simp only[oE] at h;rcases h with rfl|⟨f,rfl⟩
   .exact⟨by simp[aM,MemAct.low],λb k=>by simp[aM,MemAct.touch?] at k,⟨by simp,by simp⟩,by simp⟩
   .exact⟨by simp[aM,MemAct.low],λb k=>by simp[aM,MemAct.touch?] at k,⟨by simp,by simp⟩,by simp⟩
  |_=>exact h.elim
 grind
def stepWorker{μ:Mu}{gs:Array au}{sl:Option (Nat×Nat)}{t:Trace}{D:Nat->WD}{A:Nat->Nat}{K:Nat->Rk}{st sm:Int}(I:tc P ty Y N val n T G μ gs w t E O j D A K d tag rk a s st sm)(hn:n<2147483648)(hj:j<=n)
  (hpd:j+pend tag<=n) {x:Nat} (hx:x<j) {g:au} (hg:gs[Y.base+x]?=aa g) (vA:g.status=.running) :
  ∃ m₁ ops μ',runT P (crowd gs w sl) (Y.base+x)=(.next m₁,ops)/\FU (Y.base+n) μ' μ/\Inv P ty Y N val n T G μ' m₁ (t++ops):=by
 have JX:=I.gd.tl.base;obtain⟨g₁,Z1,hs⟩:=I.gd.wk x hx;obtain rfl:g=g₁:=by grind
 generalize I5:(D x).stage=sg at hs;generalize Z2:K (Y.base+x)=r at hs;generalize Ue:(D x).deaf=dd at hs;generalize hA:A x=ax at hs;have Z3:Deaf t (Y.base+x)=dd:=by rw[I.gd.deafW x hx,Ue]
 have hVj:=Vc_le j D;have same:∀ m' FV,Go.ConcN.Mode j (upd D x ⟨sg,m',FV⟩) tag st sm:=λm' FV=>by have:=I.mode.same (i:=x) m' FV;grind
 cases hs with
 |@am r g s0 w p z l =>
  rcases p.norm (λs0=>cj s0 { s0 with w:=w }/\lW E (O x) (Y.base+x) s0) (λs0 s' Uf hi=>⟨hi.1.ghost Uf,hi.2.ghost Uf⟩) (λ_ s0 s' Uf hi=>⟨hi.1.forget Uf,hi.2.forget Uf⟩) ⟨z,l⟩ with⟨s',⟨k1,k2⟩,lX⟩|⟨_,s',⟨k1,k2⟩,lY⟩
  ·
   obtain⟨g',w2,es,hgo,F,Xt,m,hk⟩:=lX.2 w k1 I.gd.pay I.gd.live;have Z4:=I.gd.kc;refine kO I hx hg hgo (hm':=E) (λ_ _=>rfl) (by rw[F.size];grind) (λy hy Z5=>⟨by rw[F.size];grind,λb _ k=>F.block b (λe=>by rw[e,I.gd.tl.hC] at k;omega),λb o v H S=>?_,λo Z6 Z7=>F.out o ?_,F.os,F.tape,F.output⟩)
    ⟨by rw[F.size];grind,λb _ _ z _=>F.block b z,F.os,F.tape,F.output⟩ (.rel hk) (λe c=>?_) (λe c b k _=>?_) (λe c=>?_) ?_ (λh=>absurd h (by decide)) (λ_ i _ hi=>F.new i hi) (λh=>absurd h (by decide)) F.pay
    (I.wg.of_block (F.block _ (mi I.gd.tl.ne))) (λ_ ht _=>(same _ _).retag ht) (.inl ⟨by omega,by simp[cnt,I5]⟩) (by omega)
   .rw[jO (F.block b (I.gd.tl.ms y hy b o v H).2.1)];exact S
   .rcases Nat.lt_or_gt_of_ne Z5 with h|h
    .have:=uS Y.kc (show y+1<=x from h)
     grind
    .have:=uS Y.kc (show x+1<=y from h)
     grind
   .obtain⟨o,rfl,_⟩:=Xt e c;rw[ofEvent_cell];show Y.C<_;rw[F.size];exact I.gd.Dv
   .obtain⟨o,rfl,Z6,Z7⟩:=Xt e c;rw[ofEvent_cell] at k;simp only[MemAct.touch?,di] at k;subst k;exact .inr ⟨rfl,.inr (.inl ⟨o,rfl,Z6,Z7⟩)⟩
   .grind
   .rw[Ue];exact deafBehind_idle (λe c=>by grind) 0
  ·
   obtain⟨g',s2,es,r',hgo,Xu,PK,u⟩:=lY _ k1;obtain⟨⟨σ,σ',U,lb,I6⟩,R⟩:=Xu.resolve_right id;have k3:lW E (O x) (Y.base+x) { s' with w:=w }:=k2.rely k1.size;obtain⟨e1,e2,e3,e4⟩:=NV k3 U R I6;have vZ:∀ b,b<w.heap.size->E b≠Y.base+x->s2.w.heap[b]?=w.heap[b]?:=λb k Bq=>I6.eN b k λL Q QG=>Bq (k3.blk b (.inr ⟨L,Q,QG⟩)).1
   refine kO I hx hg hgo (hm':=nj E w.heap.size (Y.base+x)) (λb k=>eT k) I6.size (λy hy Z5=>⟨I6.size,λb k hby=>vZ b k (by omega),λb o v H S=>?_,λo _ _=>jO (vZ _ I.gd.Dv (by rw[I.gd.tl.hC];omega)) o,I6.os,I6.tape,I6.output⟩)
    ⟨I6.size,λb k h0 _ _=>vZ b k (by omega),I6.os,I6.tape,I6.output⟩ (.am PK (cj.vY lb.mem) (k3.step lb I6)) e1 e2 e4 (by rw[Ue];exact deafBehind_idle e3 0) (λh=>absurd h (by decide)) (λh=>absurd h (by decide)) (λh=>absurd h (by decide)) ?_
    (I.wg.of_block (vZ _ I.gd.Bn (by rw[I.gd.tl.I2];omega))) (λ_ ht _=>(same _ _).retag ht) (.inr ⟨I5.symm,hA.symm,by grind⟩) (by omega)
   .rw[jO (vZ b (I.gd.NT y hy b o v H) (by rw[(I.gd.tl.ms y hy b o v H).1];omega))];exact S
   .obtain⟨cs,c1,c2⟩:=I.gd.pay;exact⟨cs,(vZ _ I.gd.Dv (by rw[I.gd.tl.hC];omega)).trans c1,c2⟩
 |@rel m g w h =>
  rcases Goes.cases h with lX|⟨m',rfl,lY⟩
  ·
   obtain⟨_,acx,g',hgo,m₂,hk⟩:=lX w (Go.ConcN.RW.refl w);refine kO I hx hg hgo (hm':=E) (λ_ _=>rfl) (bg _) (λy _ _=>.refl ..) (.refl w) (.tail (by decide) (.k1 hk)) (λe c=>?_) (λe c b k _=>?_) (λe c=>?_) (by rw[Ue];rfl) (λ_=>⟨t.size,RelBy.new Z3 _ _⟩) (λ_=>I.gd.xM x hx hA) (λ_=>by grind) I.gd.pay I.wg
    (λ_ ht _=>(I.mode.counted hx (by omega) (.inl rfl) _ _).retag ht) (.inl ⟨by omega,by simp[cnt,I5]⟩) (by omega)
   .simp at c;subst c;exact I.gd.Bn
   .simp at c;subst c;simp[mk,aM,MemAct.touch?] at k
   .simp at c;subst c;simp[mk]
  .obtain⟨g',w',es,hgo,⟨rfl,rfl⟩,FW⟩:=lY w (Go.ConcN.RW.refl w);exact kO I hx hg hgo (hm':=E) (λ_ _=>rfl) (bg _) (λy _ _=>.refl ..) (.refl w') (.rel FW) (by simp) (by simp) (by simp) (by rw[Ue];rfl) (λh=>absurd h (by decide)) (λ_=>I.gd.xM x hx hA) (λh=>absurd h (by decide)) I.gd.pay I.wg (λ_ ht _=>(same _ _).retag ht)
    (.inr ⟨I5.symm,hA.symm,by rw[Z2];exact Rk.D6 _ s⟩) (by omega)
 |@tail sg m dd g w h6 h =>
  have PX:∀ {g':au} {w':az} {es:Array Event} {s' m' FV:Nat} {qj G5:Int},aK P ae g w=.go g' w' es->Aside Y.Wg w w'->WgAt ty Y.Wg w' qj G5->(∀ e∈es,Bk Y.Wg e) ->
    (∀ jx e,es[jx]?=aa e->(aM e).touch?=af∨0<deafBehind dd (es.extract 0 jx))->s'<=6->WSit P ty Y.Wg Y.C N PV PV 0 (Y.kc*x+1) (val x 0) s' m' FV g' w'->deafBehind dd es=FV ->
    (∀ tag',(tag'=tag∨(tag=.blk/\tag'=.w3))->(mayWake P g=ab->g'.status=.running->tag'≠.blk)->Go.ConcN.Mode j (upd D x ⟨s',0,FV⟩) tag' qj G5)->((s'<sg/\cnt ⟨s',0,FV⟩<=cnt (D x))∨(s'=sg/\m'+1=m)) ->
    ∃ m₁ ops μ',runT P (crowd gs w sl) (Y.base+x)=(.next m₁,ops)/\FU (Y.base+n) μ' μ/\Inv P ty Y N val n T G μ' m₁ (t++ops):=by
   intro g' w' es s' m' FV qj G5 hgo NW JY G6 hd Xv Ug Z8 wa u;obtain⟨cs,Xw,Xx⟩:=I.gd.pay;refine kO I hx hg hgo (hm':=E) (λ_ _=>rfl) (by rw[NW.size];grind) (λy hy _=>.wg NW I.gd.tl.I2 JX (λb o v H=>(I.gd.tl.ms y hy b o v H).2.2.1) I.gd.tl.ne) (.wg NW) (.tail Xv Ug) (JW G6 (by rw[NW.size];exact I.gd.Bn)) (NU G6) (BR G6) (by grind)
    (λ_=>let ⟨r,hr⟩:=I.gd.rel x hx (by omega);⟨r,hr.book Z3 _ _ G6 hd⟩) (λ_ i hi1 M7=>(jO (NW.block _ I.gd.tl.ne) _).trans (I.gd.xM x hx hA i hi1 M7)) (λ_=>(jO (NW.block _ I.gd.tl.ne) _).trans (I.gd.BQ x hx (by omega))) ⟨cs,(NW.block _ I.gd.tl.ne).trans Xw,Xx⟩ JY wa
    (u.imp (λh=>⟨by omega,h.2⟩) λh=>⟨by omega,hA.symm,by rw[Z2,<-h.2];exact Rk.D6 _ s⟩) (by omega)
  have book:∀ {g':au} {w':az} {es:Array Event} {s' m' FV:Nat} {qj G5:Int},aK P ae g w=.go g' w' es->Aside Y.Wg w w'->WgAt ty Y.Wg w' qj G5->(∀ e∈es,Bk Y.Wg e) ->
    (∀ jx e,es[jx]?=aa e->(aM e).touch?=af∨0<deafBehind dd (es.extract 0 jx))->s'<=6->WSit P ty Y.Wg Y.C N PV PV 0 (Y.kc*x+1) (val x 0) s' m' FV g' w'->deafBehind dd es=FV ->
    Go.ConcN.Mode j (upd D x ⟨s',0,FV⟩) tag qj G5->((s'<sg/\cnt ⟨s',0,FV⟩<=cnt (D x))∨(s'=sg/\m'+1=m)) ->
    ∃ m₁ ops μ',runT P (crowd gs w sl) (Y.base+x)=(.next m₁,ops)/\FU (Y.base+n) μ' μ/\Inv P ty Y N val n T G μ' m₁ (t++ops) :=
   λhgo NW JY G6 hd Xv Ug Z8 wa u=>PX hgo NW JY G6 hd Xv Ug Z8 (λ_ ht _=>wa.retag ht) u
  have idle:∀ {g':au} {m':Nat},aK P ae g w=.go g' w #[]->WSit P ty Y.Wg Y.C N PV PV 0 (Y.kc*x+1) (val x 0) sg m' dd g' w->m'+1=m ->
    ∃ m₁ ops μ',runT P (crowd gs w sl) (Y.base+x)=(.next m₁,ops)/\FU (Y.base+n) μ' μ/\Inv P ty Y N val n T G μ' m₁ (t++ops):=by
   intro g' m' hgo Ug E;exact book hgo (.refl Y.Wg w) I.wg (by simp) (by simp) h6 Ug rfl (same _ _) (.inr ⟨rfl,E⟩)
  cases h with
  |r0 h=>omega
  |k1 h =>
   rcases Goes.cases h with lX|⟨m',rfl,lY⟩
   .obtain⟨_,g',hgo,m₂,hk⟩:=lX w (Go.ConcN.RW.refl w);exact book hgo (.refl Y.Wg w) I.wg (by intro e c;simp at c;subst c;exact .inl rfl) (by intro jx e c;exact .inl (by have:=uQ c;simp at this;subst this;rfl)) (by decide) (.d1 hk) rfl (I.mode.counted hx (by omega) (.inr rfl) _ _) (.inl ⟨by omega,by simp[cnt,I5]⟩)
   .obtain⟨g',w',es,hgo,⟨rfl,rfl⟩,FW⟩:=lY w (Go.ConcN.RW.refl w);exact idle hgo (.k1 FW) rfl
  |d1 h =>
   rcases Goes.cases h with lX|⟨m',rfl,lY⟩
   .obtain⟨_,QY⟩:=lX w (Go.ConcN.RW.refl w);have zT:=I.wg;have JZ:=I.mode;have V1:cnt (D x)=1:=by simp[cnt,I5]
    have hV1:1<=Vc j D:=by have:=le_sumTo (f:=λx=>cnt (D x)) hx;simp only[Vc];omega
    have bk2:∀ e∈#[rd (stA Y.Wg),wr (stA Y.Wg)],Bk Y.Wg e:=by intro e c;simp at c;rcases c with rfl|rfl <;> exact bk_cell _ _ rfl
    have V9:∀ jx e,(#[rd (stA Y.Wg),wr (stA Y.Wg)]:Array Event)[jx]?=aa e->(aM e).touch?=af∨0<deafBehind 1 ((#[rd (stA Y.Wg),wr (stA Y.Wg)]:Array Event).extract 0 jx):=by
     intro jx e c
     match jx,c with
     |0,_=>exact .inr (by simp[deafBehind])
     |1,_=>exact .inr (by simp[deafBehind,rd])
     |jx+2,c=>simp at c
    have hq0:∀ q,cnt (⟨1,q,1⟩:WD)=0:=λ_=>rfl
    have dD:∀ q,OpenSt j D->OpenSt j (upd D x ⟨1,q,1⟩):=λq h a J=>by
     by_cases e:a=x
     .subst e;rw[upd_same];simp
     .rw[upd_ne D _ e];exact h a J
    generalize acz:st=Xy at JZ zT;generalize acA:sm=sm0 at JZ zT;cases JZ with
    |opn p z l =>
     obtain⟨v,H⟩:∃ v,Vc j D+pend tag=v+1:=⟨Vc j D+pend tag-1,by omega⟩
     rw[H] at zT;have QR:WgAt ty Y.Wg w (((v:Nat)+1)*KK+((0:Nat):Int)) 0:=by grind
     obtain⟨g',hgo,_,hq⟩:=QY v 0 (by omega) (by omega) QR
     obtain⟨q,hq⟩:=hq (by omega)
     have VT:Vc j (upd D x ⟨1,0,1⟩)+pend tag=v:=by have:=Vc_upd D (⟨1,0,1⟩:WD) hx;grind
     refine book hgo (aside_setCell w (stA Y.Wg) _) (zT.setSt _) bk2 V9 (by decide) (.quit hq) rfl ?_ (.inl ⟨by omega,by grind⟩)
     have e:((v:Nat):Int)*KK+((0:Nat):Int)=((Vc j (upd D x ⟨1,0,1⟩)+pend tag:Nat):Int)*KK:=by grind
     rw[e];exact .opn p (dD 0 z) (λvs ev=>by grind)
    |reg p z l =>
     obtain⟨v,H⟩:∃ v,Vc j D=v+1:=⟨Vc j D-1,by omega⟩
     rw[H] at zT;have hp:pend tag=0:=by cases tag <;> first|rfl|exact p.elim
     have QR:WgAt ty Y.Wg w (((v:Nat)+1)*KK+((1:Nat):Int)) 0:=by grind
     obtain⟨g',hgo,Z,hq⟩:=QY v 1 (by omega) (by omega) QR
     by_cases PG:v=0
     .subst PG;obtain⟨m₂,hk⟩:=Z ⟨rfl,rfl⟩;refine book hgo (aside_setCell w (stA Y.Wg) _) (zT.setSt _) bk2 V9 (by decide) (.d2 hk) rfl ?_ (.inl ⟨by omega,by simp[cnt]⟩)
      have DQ:∀ a,a<j->a≠x->(D a).stage=1:=λa J e=>by
       have c0:=others_uncounted hx H V1 a J e;have:=z a J;simp only[cnt] at c0;split at c0 <;> omega
      have:=Go.ConcN.Mode.last (j:=j) (D:=upd D x ⟨4,0,1⟩) (tag:=tag) x p hx (by rw[upd_same];simp) (λa J e=>by rw[upd_ne D _ e];grind)
      rw[upd_same] at this
      grind
     .obtain⟨q,hq⟩:=hq (by omega)
      have VT:Vc j (upd D x ⟨1,0,1⟩)=v:=by have:=Vc_upd D (⟨1,0,1⟩:WD) hx;grind
      refine book hgo (aside_setCell w (stA Y.Wg) _) (zT.setSt _) bk2 V9 (by decide) (.quit hq) rfl ?_ (.inl ⟨by omega,by grind⟩)
      have e:((v:Nat):Int)*KK+((1:Nat):Int)=((Vc j (upd D x ⟨1,0,1⟩):Nat):Int)*KK+1:=by grind
      rw[e];exact .reg p (dD 0 z) (by omega)
    |last L _ z l W =>
     grind
    |sema z=>have:=z x hx;omega
    |fin _ z=>have:=z x hx;omega
   .obtain⟨g',w',es,hgo,⟨rfl,rfl⟩,FW⟩:=lY w (Go.ConcN.RW.refl w);exact idle hgo (.d1 FW) rfl
  |d2 h =>
   rcases Goes.cases h with lX|⟨m',rfl,lY⟩
   .obtain⟨_,Rh⟩:=lX w (Go.ConcN.RW.refl w);obtain⟨Uh,DQ,e1,e2⟩:=I.mode.isLast hx (by omega)
    have zT:=I.wg;rw[e1,e2,I5] at zT;obtain⟨g',hgo,m₂,hk⟩:=Rh (by grind)
    refine book hgo (.refl Y.Wg w) zT (by intro e c;simp at c;subst c;exact bk_cell _ _ rfl) (by intro jx e c;match jx,c with|0,_=>exact .inr (by simp[deafBehind])|jx+1,c=>grind) (by decide) (.d3 hk) rfl ?_ (.inl ⟨by omega,by simp[cnt]⟩)
    have:=Go.ConcN.Mode.last (j:=j) (D:=upd D x ⟨3,0,1⟩) (tag:=tag) x Uh hx (by rw[upd_same];simp) (λa J e=>by rw[upd_ne D _ e];grind)
    rw[upd_same] at this
    grind
   .obtain⟨g',w',es,hgo,⟨rfl,rfl⟩,FW⟩:=lY w (Go.ConcN.RW.refl w);exact idle hgo (.d2 FW) rfl
  |d3 h =>
   rcases Goes.cases h with lX|⟨m',rfl,lY⟩
   .obtain⟨_,Rh⟩:=lX w (Go.ConcN.RW.refl w);obtain⟨Uh,DQ,e1,e2⟩:=I.mode.isLast hx (by omega)
    have zT:=I.wg;rw[e1,e2,I5] at zT;obtain⟨g',hgo,m₂,hk⟩:=Rh (by grind)
    refine book hgo (aside_setCell w (stA Y.Wg) _) (zT.setSt 0) (by intro e c;simp at c;subst c;exact bk_cell _ _ rfl) (by intro jx e c;match jx,c with|0,_=>exact .inr (by simp[deafBehind])|jx+1,c=>grind) (by decide) (.d4 hk) rfl ?_ (.inl ⟨by omega,by simp[cnt]⟩)
    have:=Go.ConcN.Mode.last (j:=j) (D:=upd D x ⟨2,0,1⟩) (tag:=tag) x Uh hx (by rw[upd_same];simp) (λa J e=>by rw[upd_ne D _ e];grind)
    rw[upd_same] at this
    grind
   .obtain⟨g',w',es,hgo,⟨rfl,rfl⟩,FW⟩:=lY w (Go.ConcN.RW.refl w);exact idle hgo (.d3 FW) rfl
  |d4 h =>
   rcases Goes.cases h with lX|⟨m',rfl,lY⟩
   .obtain⟨_,hmw,Rh⟩:=lX w (Go.ConcN.RW.refl w);obtain⟨Uh,DQ,e1,e2⟩:=I.mode.isLast hx (by omega)
    have zT:=I.wg;rw[e1,e2,I5] at zT;obtain⟨g',hgo,q,hq⟩:=Rh (by grind)
    have wc:g'.status=.running:=by
     cases q with
     |zero=>exact absurd hq.2 (by decide)
     |succ q=>exact hq.elim (λx=>absurd x.2 (by decide)) (λx=>x.1)
    refine PX hgo (aside_setCell w (smA Y.Wg) _) (zT.setSm 1) (es:=semEvents (smA Y.Wg)) ?_ ?_ (by decide) (.quit hq) (by simp[deafBehind,semEvents]) ?_ (.inl ⟨by omega,by simp[cnt]⟩)
    .intro e c;simp[semEvents] at c;rcases c with rfl|rfl|rfl|rfl
     .exact .inl rfl
     .exact bk_cell _ _ rfl
     .exact bk_cell _ _ rfl
     .exact .inr (.inl rfl)
    .intro jx e c
     match jx,c with
     |0,c=>simp[semEvents] at c;subst c;exact .inl rfl
     |1,_=>exact .inr (by simp[deafBehind,semEvents])
     |2,_=>exact .inr (by simp[deafBehind,semEvents])
     |3,c=>simp[semEvents] at c;subst c;exact .inl rfl
     |jx+4,c=>simp[semEvents] at c
    .intro tag' ht V;have hnb:=V hmw wc;have e3:tag'=.w3:=by
      rcases ht with rfl|⟨_,rfl⟩
      .cases tag' <;> first|rfl|exact Uh.elim|grind
      .rfl
     subst e3;simp only[cu];exact .sema λa J=>by
      by_cases e:a=x
      .subst e;rw[upd_same]
      .rw[upd_ne D _ e];grind
   .obtain⟨g',w',es,hgo,⟨rfl,rfl⟩,FW⟩:=lY w (Go.ConcN.RW.refl w);exact idle hgo (.d4 FW) rfl
  |quit h =>
   cases m with
   |zero=>rw[h.1] at vA;cases vA
   |succ q =>
    rcases h with⟨hf,_⟩|⟨_,g',es,PY,lY,hq⟩
    .grind
    .have G6:∀ e∈es,Bk Y.Wg e:=λe c=>bk_of_mute (PY e c)
     have ZW:∀ jx e,es[jx]?=aa e->(aM e).touch?=af∨0<deafBehind dd (es.extract 0 jx):=λjx e c=>.inl (touch_mute (PY e (uQ c)))
     exact book (lY w) (.refl Y.Wg w) I.wg G6 ZW (by decide) (.quit hq) rfl (same _ _) (.inr ⟨rfl,rfl⟩)
end
end
section
open Go.Conc
open Go.ConcN (WD CTag Vc Ssum pend phi cnt WgLive PayAt Has RW DWs WSit RelBy sumTo upd upd_same upd_ne AtR0 isW3 isOpen OpenSt deafBehind_idle bk_cell okW_none Vc_upd Vc_le le_sumTo others_uncounted sumTo_upd_out bk_dis bk_en bk_rd bk_rw bk_sem allQuit_of exists_counted)
open Go.ConcR (KK WgAt stA smA rd wr mk Payload g_of_ofEvents Bk bk_of_mute ofEvent_loc_mark ofEvent_cell ofEvent_mk)
variable [Payload]
section
variable {P:aq}{ty:ar}{Y:Lay}{N:Nat}{val:Nat->Nat->ak}{n:Nat}{T k:au->St->Prop}{l hm':Nat->Nat}{z G:Nat->Mem}{j:Nat}{tag:CTag}{rk:Rk}{d:Nat}{a:au}{s:St}{w w':az}
 {S:Mu} {O:Array au} {sl:Option (Nat×Nat)} {t:Trace} {D:Nat->WD} {A:Nat->Nat} {K:Nat->Rk} {st sm:Int}
omit [Payload] in
def TL.congr{B:Nat}(h:TL Y l z t j B)(e:∀ y,y<j->G y=z y):TL Y l G t j B :=
 ⟨h.base,h.I2,h.hC,h.ne,h.PU,h.Re,h.I4,λx H=>by rw[e x H];exact h.ms x H,h.T0,h.nr,h.seen,h.old,h.Rf,h.G3,λi a hi X l=>(h.new i a hi X l).imp id λ⟨x,H,u,F⟩=>⟨x,H,u,by grind⟩,
  λx H=>by rw[e x H];exact h.mw x H,h.over⟩
def WS.congr{x a st d:Nat}{r:Rk}{g:au}(h:WS P ty Y N val l z x a st r d g w)(e:G x=z x):WS P ty Y N val l G x a st r d g w:=by
 cases h with
 |am u F J=>exact .am u F (by grind)
 |rel u=>exact .rel u
 |tail h0 u=>exact .tail h0 u
def Com.congr{q:Nat}(h:Com P ty Y N val l z j O w t D A K q)(e:∀ y,y<j->G y=z y):Com P ty Y N val l G j O w t D A K q :=
 ⟨h.size,h.lv,h.above,λx H=>let ⟨g,u,F⟩:=h.wk x H;⟨g,u,F.congr (e x H)⟩,h.tl.congr e,h.norel,h.deaf0,h.deafW,h.rel,h.xM,h.BQ,h.pay,h.live,h.Bn,h.Dv,h.M9,h.kc,λy I=>by rw[e y I];exact h.NT y I⟩
omit [Payload] in
def NX{σ σ':List aV}{s2:St}{es:Array Event}(Z:jN Y l z j s)(W:aJ σ s)(Q:eZ s es)(st:Step σ s σ' s2) :
  (∀ e∈es,(aM e).low s2.w.heap.size)/\(∀ e∈es,∀ a,(aM e).touch?=aa a->a.loc.isMemory=ab->r6 Y (nj l s.w.heap.size 0) a) /\
  (∀ e∈es,∀ a,(aM e).touch?=aa a->a.kind=.plain->a.write=ab->∀ x,x<j->∀ b o v,a.loc=.cell ⟨b,o,af⟩->z x b o≠aa v) /\
  (∀ e∈es,e.loc≠.mark .disable/\e.loc≠.mark .enable)/\∀ e∈es,∀ a,e.loc≠.mark (.release a):=by
 have key:∀ e∈es,(aM e).low s2.w.heap.size/\(∀ a,(aM e).touch?=aa a->a.loc.isMemory=ab->r6 Y (nj l s.w.heap.size 0) a) /\
   (∀ a,(aM e).touch?=aa a->a.kind=.plain->a.write=ab->∀ x,x<j->∀ b o v,a.loc=.cell ⟨b,o,af⟩->z x b o≠aa v)/\(e.loc≠.mark .disable/\e.loc≠.mark .enable)/\∀ a,e.loc≠.mark (.release a):=by
  intro e E;have h:=Q e E;obtain⟨loc,wr,sy⟩:=e;cases loc with
  |cell ad =>
   obtain⟨u,F,J⟩:=h;simp only at u F J;subst u;have p:ad.block<s.w.heap.size/\l ad.block=0/\ad.block≠Y.C/\ad.block≠Y.Wg/\¬Y.Sh ad.block:=by
    rcases J with J|⟨⟨L,U,J⟩,_⟩|⟨_,v,J⟩
    .exact J.elim
    .obtain⟨k1,k2,R,k4,k5⟩:=Z.blk _ (.inr ⟨L,U,J⟩)
     grind
    .obtain⟨k1,k2,R,k4,k5⟩:=Z.M _ _ _ J
     grind
   refine⟨by rw[ofEvent_cell];exact cG p.1 st.size,λb c _=>?_,λb c _ hbw x H b' o v hl V=>?_,⟨by simp,by simp⟩,by simp⟩
   .rw[ofEvent_cell] at c;simp only[MemAct.touch?,di] at c;subst c;exact .inr ⟨ad.block,rfl,by grind [eT],p.2.2.2.1,p.2.2.1,p.2.2.2.2,rfl⟩
   .rw[ofEvent_cell] at c;simp only[MemAct.touch?,di] at c;subst c;simp only at hbw hl;have hM:=Z.ms x H b' o v V
    grind
  |obj r =>
   obtain⟨u,F⟩:=h;simp only at u F;subst u;obtain⟨L,U,J⟩:=F.resolve_left id;obtain⟨k1,k2,R,k4,k5⟩:=Z.blk _ (.inr ⟨L,U,J⟩);refine⟨?_,λb c _=>?_,λb c _ _ x _ b' o v hl=>?_,⟨by simp,by simp⟩,by simp⟩
   .simp[aM,MemAct.low,Loc.low];exact cG k5 st.size
   .simp[aM,MemAct.touch?] at c;subst c;exact .inr ⟨r,rfl,by grind [eT],R,k2,k4,rfl⟩
   .simp[aM,MemAct.touch?] at c
    grind
  |mark m =>
   simp only[oE] at h;rcases h with rfl|⟨f,rfl⟩
   .exact⟨by simp[aM,MemAct.low],λb c=>by simp[aM,MemAct.touch?] at c,λb c=>by simp[aM,MemAct.touch?] at c,⟨by simp,by simp⟩,by simp⟩
   .exact⟨by simp[aM,MemAct.low],λb c=>by simp[aM,MemAct.touch?] at c,λb c=>by simp[aM,MemAct.touch?] at c,⟨by simp,by simp⟩,by simp⟩
  |_=>exact h.elim
 grind
def te(I:tc P ty Y N val n T k S O w t l z j D A K d tag rk a s st sm){a':au}{es:Array Event}{tag':CTag}{rk':Rk}{qj G5:Int}{s':St}(hgo:aK P ab a w=.go a' w' es)
  (W:∀ b,b<w.heap.size->hm' b=l b) (Ds:w.heap.size<=w'.heap.size) (Xz:∀ y,y<j->G4 Y l (z y) y w w')
  (Uc:∀ e∈es,(aM e).low w'.heap.size) (htm:∀ e∈es,∀ a,(aM e).touch?=aa a->a.loc.isMemory=ab->r6 Y hm' a)
  (Z0:∀ e∈es,∀ a,(aM e).touch?=aa a->a.kind=.plain->a.write=ab->∀ x,x<j->∀ b o v,a.loc=.cell ⟨b,o,af⟩->z x b o≠aa v)
  (Ud:∀ e∈es,∀ a,e.loc≠.mark (.release a)) (J0:PayAt Y.C N w') (zT:WgAt ty Y.Wg w' qj G5)
  (G7:CS P ty Y N val n T k tag' j rk' (deafBehind d es) a' s') (Ui:cj s' { s' with w:=w' }) (g:jN Y hm' z j s') (q:Go.ConcN.Mode j D tag' qj G5)
  (p:phi n (Vc j D) tag'<phi n (Vc j D) tag∨(phi n (Vc j D) tag'=phi n (Vc j D) tag/\Rk.lt rk' rk)) :
  ∃ m₁ ops μ',runT P (crowd O w sl) 0=(.next m₁,ops)/\FU (Y.base+n) μ' S/\Inv P ty Y N val n T k μ' m₁ (t++ops):=by
 have c:=I.gd.tl.base;have vA:=runT_crowd_go (P:=P) (sl:=sl) (i:=0) I.a0 (by simpa using hgo)
 refine⟨_,_,(phi n (Vc j D) tag'+Ssum j D+sumTo j A,(K,rk')),vA,?_,_,w',sl,hm',z,j,D,A,K,deafBehind d es,tag',rk',a',s',qj,G5,rfl,
  ⟨Go.ConcN.get_map_set_same _ _ _ (by rw[I.gd.size];omega),G7,Ui,g,I.gd.step0 W Ds Xz Uc htm Z0 Ud J0 ⟨_,_,zT⟩,zT,q,rfl⟩⟩
 rw[I.mu];rcases p with h|⟨u,F⟩
 .exact Prod.Lex.left _ _ (by omega)
 .rw[u];exact Prod.Lex.right _ (Prod.Lex.right _ F)
def iq(I:tc P ty Y N val n T k S O w t l z j D A K d tag rk a s st sm){a':au}{es:Array Event}{rk':Rk}{s1 s':St}(u:cj s1 { s1 with w:=w })(q:jN Y l z j s1)(hgo:aK P ab a w=.go a' s'.w es)
  (Xu:qx { s1 with w:=w } s' es∨Es Y.Wg { s1 with w:=w } s' es) (G7:CS P ty Y N val n T k tag j rk' d a' s') (p:Rk.lt rk' rk) :
  ∃ m₁ ops μ',runT P (crowd O w sl) 0=(.next m₁,ops)/\FU (Y.base+n) μ' S/\Inv P ty Y N val n T k μ' m₁ (t++ops):=by
 rcases Xu with⟨⟨σ,σ',W,lb,g⟩,Q⟩|⟨rfl,ad,had,Xt⟩
 .have R:jN Y l z j { s1 with w:=w }:=q.rely u.size;obtain⟨e1,e2,e3,e4,e5⟩:=NX R W Q g;have vZ:∀ b,b<w.heap.size->(l b≠0∨b=Y.C∨b=Y.Wg)->s'.w.heap[b]?=w.heap[b]?:=λb c Bq=>g.eN b c λL U QG=>by
   obtain⟨q1,q2,q3,_⟩:=R.blk b (.inr ⟨L,U,QG⟩)
   grind
  have JX:=I.gd.tl.base;refine te I hgo (hm':=nj l w.heap.size 0) (λb c=>eT c) g.size (λy hy=>⟨g.size,λb c hby=>vZ b c (.inl (by omega)),λb o v V _=>lb.mem b o v (g.mem _ _ _ (q.ms y hy b o v V)),λo _ _=>jO (vZ _ I.gd.Dv (.inr (.inl rfl))) o,g.os,g.tape,g.output⟩) e1 e2 e3 e5 ?_
   (I.wg.of_block (vZ _ I.gd.Bn (.inr (.inr rfl)))) (s':=s') (tag':=tag) (rk':=rk') (by rw[deafBehind_idle e4];exact G7) (cj.vY lb.mem) (R.step lb g I.gd.Bn I.gd.Dv I.gd.M9) I.mode (.inr ⟨rfl,p⟩)
  obtain⟨cs,c1,c2⟩:=I.gd.pay;exact⟨cs,(vZ _ I.gd.Dv (.inr (.inl rfl))).trans c1,c2⟩
 .have Tl:∀ e∈es,e=mk (.read ad)∨e=mk (.write ad):=by
   grind
  refine te I hgo (hm':=l) (λb c=>rfl) (bg _) (λy hy=>.refl ..) (λe E=>?_) (λe E b c _=>?_) (λe E b c hk=>?_) (λe E=>?_) I.gd.pay I.wg (s':={ s1 with w:=w }) (tag':=tag) (rk':=rk') ?_ (u.trans' ) (q.rely u.size) I.mode (.inr ⟨rfl,p⟩)
  .have hW:=I.gd.Bn;rcases Tl e E with rfl|rfl <;> (rw[ofEvent_mk];show ad.block<_;grind)
  .rcases Tl e E with rfl|rfl <;> (rw[ofEvent_mk] at c;simp[MemAct.touch?] at c;subst c;exact .inl ⟨ad,rfl,had,by simp⟩)
  .rcases Tl e E with rfl|rfl <;> (rw[ofEvent_mk] at c;simp[MemAct.touch?] at c;grind)
  .rcases Tl e E with rfl|rfl <;> simp[mk]
  .rw[deafBehind_idle (λe E=>by rcases Tl e E with rfl|rfl <;> simp[mk])];exact G7
def gp(I:tc P ty Y N val n T k S O w t l z j D A K d tag rk a s st sm){a':au}{es:Array Event}{tag':CTag}{rk':Rk}{qj G5:Int}{s1:St}(u:cj s1 { s1 with w:=w })(PZ:jN Y l z j s1)
  (hgo:aK P ab a w=.go a' w' es) (g:Aside Y.Wg w w') (JY:WgAt ty Y.Wg w' qj G5) (G6:∀ e∈es,Bk Y.Wg e) (G7:CS P ty Y N val n T k tag' j rk' (deafBehind d es) a' { s1 with w:=w' }) (wa:Go.ConcN.Mode j D tag' qj G5)
  (p:phi n (Vc j D) tag'<phi n (Vc j D) tag∨(phi n (Vc j D) tag'=phi n (Vc j D) tag/\Rk.lt rk' rk)) :
  ∃ m₁ ops μ',runT P (crowd O w sl) 0=(.next m₁,ops)/\FU (Y.base+n) μ' S/\Inv P ty Y N val n T k μ' m₁ (t++ops):=by
 obtain⟨cs,V1,Tb⟩:=I.gd.pay;have F:cj s1 { s1 with w:=w' }:=PZ.JU u (D7.wg g);refine te I hgo (hm':=l) (λb c=>rfl) (by rw[g.size];grind) (λy hy=>.wg g I.gd.tl.I2 I.gd.tl.base (λb o v V=>(I.gd.tl.ms y hy b o v V).2.2.1) I.gd.tl.ne) (JW G6 (by rw[g.size];exact I.gd.Bn)) (λe E b c l=>?_) (λe E b c hk=>?_) (BR G6)
  ⟨cs,(g.block _ I.gd.tl.ne).trans V1,Tb⟩ JY G7 F.trans' (PZ.rely F.size) wa p
 .rcases G6 e E with q|q|⟨ad,wr,rfl,X⟩
  .rw[ofEvent_loc_mark q] at c;cases c
  .rw[ofEvent_loc_mark q] at c;cases c
  .rw[ofEvent_cell] at c;simp only[MemAct.touch?,di] at c;subst c;exact .inl ⟨ad,rfl,X,by simp⟩
 .rcases G6 e E with q|q|⟨ad,wr,rfl,X⟩
  .rw[ofEvent_loc_mark q] at c;cases c
  .rw[ofEvent_loc_mark q] at c;cases c
  .rw[ofEvent_cell] at c;simp only[MemAct.touch?,di] at c
   grind
end
section
variable {P:aq}{ty:ar}{Y:Lay}{N:Nat}{val:Nat->Nat->ak}{n:Nat}{T k:au->St->Prop}{l hm':Nat->Nat}{u f:Nat->Mem}{j:Nat}{tag:CTag}{rk:Rk}{d:Nat}{a:au}{s:St}{w w':az}
 {E:Mu} {z:Array au} {sl:Option (Nat×Nat)} {t:Trace} {D:Nat->WD} {A:Nat->Nat} {K:Nat->Rk} {st F:Int}
def CS.bound(h:CS P ty Y N val n T k tag j rk d a s):j+pend tag<=n:=by
 cases h <;> simp only[pend] <;> (try simp) <;> omega
omit [Payload] in
def ir{S:au->St->Prop}(h:kq (Cx.lead P ty Y.Wg) (Es Y.Wg) S rk a s)(p:cj s { s with w:=w })(H:jN Y l u j s)(live:WgLive ty Y.Wg w) :
  (∃ s',cj s' { s' with w:=w }/\jN Y l u j s'/\S a s')∨∃ s',cj s' { s' with w:=w }/\jN Y l u j s'/\∃ g' s2 es r',aK P ab a w=.go g' s2.w es/\(qx { s' with w:=w } s2 es∨Es Y.Wg { s' with w:=w } s2 es)/\kq (Cx.lead P ty Y.Wg) (Es Y.Wg) S r' g' s2/\Rk.lt r' rk:=by
 rcases h.norm (λs0=>cj s0 { s0 with w:=w }/\jN Y l u j s0) (λs0 s' C hi=>⟨hi.1.ghost C,hi.2.ghost C⟩) (λG=>False.elim G) ⟨p,H⟩ with⟨s',⟨k1,c⟩,B⟩|⟨_,s',⟨k1,c⟩,B⟩
 .grind
 .exact .inr ⟨s',k1,c,B _ ⟨k1,λ_=>live⟩⟩
def WS.quits{x a st d:Nat}{r:Rk}{g:au}(h:WS P ty Y N val l u x a st r d g w)(b:st=1):∃ m,QuitsD P m d g:=by
 cases h with
 |am _ _ _=>cases b
 |rel _=>cases b
 |tail _ h=>exact⟨_,h.quits b⟩
def WS.small{x a st d:Nat}{r:Rk}{g:au}(h:WS P ty Y N val l u x a st r d g w)(b:st=1):a=0:=by
 cases h with
 |am _ _ _=>cases b
 |rel _=>rfl
 |tail _ h=>rfl
def J1(I:tc P ty Y N val n T k E z w t l u j D A K d tag rk a s st F)(hn:n<2147483648)(Wa:∀ g s,k g s->ek (Cx.lead P ty Y.Wg) (Es Y.Wg) (AtW1 P ty Y T k) g s)(vA:a.status=.running) :
  ∃ W ops,runT P (crowd z w sl) 0=(.next W,ops)/\((∃ hm' f,Fin P Y N val n T hm' f W (t++ops))∨∃ μ',FU (Y.base+n) μ' E/\Inv P ty Y N val n T k μ' W (t++ops)):=by
 have hVj:=Vc_le j D;have JX:=I.gd.tl.base;have live:=I.gd.live;have fin:∀ {X:Prop},(∃ W ops μ',runT P (crowd z w sl) 0=(.next W,ops)/\FU (Y.base+n) μ' E/\Inv P ty Y N val n T k μ' W (t++ops)) ->
   ∃ W ops,runT P (crowd z w sl) 0=(.next W,ops)/\((∃ hm' f,Fin P Y N val n T hm' f W (t++ops))∨∃ μ',FU (Y.base+n) μ' E/\Inv P ty Y N val n T k μ' W (t++ops)) :=
  λ{_} ⟨W,ops,μ',p,h2,h3⟩=>⟨W,ops,p,.inr ⟨μ',h2,h3⟩⟩
 have hbound:=I.cs.bound;have cs:=I.cs;have R:=I.wg;have O:=I.mode;cases cs with
 |@skd r rk g s hr h =>
  rcases ir h I.rely I.lead live with⟨s',k1,c,_,g',J,Q⟩|⟨s',k1,c,g',s2,es,r',J,V,Q,U⟩
  .obtain⟨r2,Q⟩:=Q { s' with w:=w } (fN k1 live);exact fin (X:=True) (gp I k1 c (J w) (.refl Y.Wg w) R bk_dis (.sa1 hr Q) (O.reopen av av rfl (by simp)) (.inl (by simp only[phi];omega)))
  .exact fin (X:=True) (iq I k1 c J V (.skd hr Q) U)
 |@sa1 r rk g s hr h =>
  rcases ir h I.rely I.lead live with⟨s',k1,c,_,Z⟩|⟨s',k1,c,g',s2,es,r',J,V,Q,U⟩
  .obtain⟨ho,e1,e2,_⟩:=O.open_inv av;rw[e1,e2] at R;obtain⟨a',J,r2,Q⟩:=Z { s' with w:=w } (fN k1 live) (Vc (n-(r+1)) D) (by omega) (by simpa[pend] using R)
   refine fin (X:=True) (gp I k1 c J (aside_setCell w (stA Y.Wg) _) (R.setSt _) bk_rw (.ske hr Q) ?_ (.inl (by simp only[phi];omega)))
   have e:(((Vc (n-(r+1)) D:Nat):Int)+1)*KK=((Vc (n-(r+1)) D+pend (.sp r 3):Nat):Int)*KK:=by simp[pend]
   rw[e];exact .opn av ho (by simp)
  .exact fin (X:=True) (iq I k1 c J V (.sa1 hr Q) U)
 |@ske r rk g s hr h =>
  rcases ir h I.rely I.lead live with⟨s',k1,c,_,g',J,Q⟩|⟨s',k1,c,g',s2,es,r',J,V,Q,U⟩
  .obtain⟨r2,Q⟩:=Q { s' with w:=w } (fN k1 live);exact fin (X:=True) (gp I k1 c (J w) (.refl Y.Wg w) R bk_en (.sgo hr Q) (O.reopen av av rfl (by simp)) (.inl (by simp only[phi];omega)))
  .exact fin (X:=True) (iq I k1 c J V (.ske hr Q) U)
 |@sgo r rk g s hr h =>
  rcases ir h I.rely I.lead live with⟨s',k1,c,_,Z⟩|⟨s',k1,c,g',s2,es,r',J,V,Q,U⟩
  .obtain⟨a',child,hsp,_,⟨rc,Xr⟩,P0⟩:=Z { s' with w:=w } (fN k1 live);obtain⟨ho,e1,e2,_⟩:=O.open_inv av;rw[e1,e2] at R;have wc:=runT_crowd_spawn (P:=P) (sl:=sl) (i:=0) I.a0 (by simpa using hsp)
   rw[I.gd.size] at wc;have B:jN Y l u (n-(r+1)) { s' with w:=w }:=c.rely k1.size
   let f:=upd u (n-(r+1)) s'.M
   have Z9:∀ y,y<n-(r+1)->f y=u y:=λy hy=>upd_ne u _ (by omega)
   have XA:f (n-(r+1))=s'.M:=upd_same u _ _;have Ri:cj (St.child { s' with w:=w }) { St.child { s' with w:=w } with w:=w }:=cj.vY k1.mem;have Uj:lW l (f (n-(r+1))) (Y.base+(n-(r+1))) (St.child { s' with w:=w }):=by
    refine⟨λb hb=>?_,λb o v hv=>⟨.inr (by rw[XA];exact hv),(B.M b o v hv).2.2.2.2⟩⟩
    rcases hb with hb|⟨L,hL,_⟩
    .exact hb.elim
    .simp[St.child] at hL
   have FX:=(I.gd.congr Z9).spawn (a':=a') (x:={ g:=0,fn:=a.frame.fn,pos:=a.frame.place,act:=.go (Y.base+(n-(r+1))) }) (y:={ g:=Y.base+(n-(r+1)),fn:=child.frame.fn,pos:=a.frame.place,act:=.start }) ⟨rfl,rfl⟩ ⟨rfl,rfl⟩
    (λb o v hv=>by rw[XA] at hv;exact B.M b o v hv) Xr Ri Uj
   have eV:Vc (n-(r+1)+1) (upd D (n-(r+1)) ⟨7,0,0⟩)=Vc (n-(r+1)) D+1:=by
    simp only[Vc,sumTo,upd_same];rw[sumTo_upd_out D _ cnt (bg _)];rfl
   have eS:Ssum (n-(r+1)+1) (upd D (n-(r+1)) ⟨7,0,0⟩)=Ssum (n-(r+1)) D+7:=by
    simp only[Ssum,sumTo,upd_same];rw[sumTo_upd_out D _ WD.stage (bg _)]
   have eA:sumTo (n-(r+1)+1) (upd A (n-(r+1)) 1)=sumTo (n-(r+1)) A+1:=by
    have:sumTo (n-(r+1)) (upd A (n-(r+1)) 1)=sumTo (n-(r+1)) A:=sumTo_upd_out A 1 id (i:=n-(r+1)) (j:=n-(r+1)) (bg _);show sumTo (n-(r+1)) (upd A (n-(r+1)) 1)+upd A (n-(r+1)) 1 (n-(r+1))=_;rw[upd_same]
    grind
   have Wb:OpenSt (n-(r+1)+1) (upd D (n-(r+1)) ⟨7,0,0⟩):=λi hi=>by
    by_cases e:i=n-(r+1)
    .subst e;rw[upd_same];simp
    .rw[upd_ne D _ e];exact ho i (by omega)
   have XC:((z.setIfInBounds 0 a').push child)[0]?=aa a':=by
    have h0:0<z.size:=by rw[I.gd.size];omega
    grind
   have zU:jN Y l f (n-(r+1)+1) { s' with w:=w }:=⟨B.blk,B.M,λy hy b o v hv=>by
    rcases cJ y (n-(r+1)) with p|p
    .rw[Z9 y p] at hv;exact B.ms y p b o v hv
    .obtain rfl:y=n-(r+1):=by omega
     rw[XA] at hv;exact hv⟩
   have ej:n-(r+1)+1=n-r:=by omega
   rw[ej] at FX eV eS eA Wb zU;have XD:∀ tag',pend tag'=0->((Vc (n-(r+1)) D+pend (.sp r 2):Nat):Int)*KK=((Vc (n-r) (upd D (n-(r+1)) ⟨7,0,0⟩)+pend tag':Nat):Int)*KK:=λtag' hp=>by rw[eV,hp];simp[pend]
   cases r with
   |zero =>
    obtain⟨r3,Q⟩:=P0;simp only[mh] at FX eV eS eA Wb XD zU;refine⟨_,_,wc,.inr ⟨(phi n (Vc n (upd D (n-(0+1)) ⟨7,0,0⟩)) .kd+Ssum n (upd D (n-(0+1)) ⟨7,0,0⟩)+sumTo n (upd A (n-(0+1)) 1),(upd K (Y.base+(n-(0+1))) rc,r3)),by rw[I.mu];exact Prod.Lex.left _ _ (by simp only[phi];omega),
     _,w,sl,l,f,n,_,_,_,0,.kd,r3,a',{ s' with w:=w },_,_,rfl,⟨XC,.kd Q,k1.trans',zU,FX,R,?_,rfl⟩⟩⟩
    rw[XD .kd rfl];exact .opn av Wb (by simp)
   |succ r' =>
    obtain⟨r3,Q⟩:=P0;refine⟨_,_,wc,.inr ⟨(phi n (Vc (n-(r'+1)) (upd D (n-(r'+1+1)) ⟨7,0,0⟩)) (.sp r' 5)+Ssum (n-(r'+1)) (upd D (n-(r'+1+1)) ⟨7,0,0⟩)+sumTo (n-(r'+1)) (upd A (n-(r'+1+1)) 1),(upd K (Y.base+(n-(r'+1+1))) rc,r3)),by rw[I.mu];exact Prod.Lex.left _ _ (by simp only[phi];omega),
     _,w,sl,l,f,n-(r'+1),_,_,_,0,.sp r' 5,r3,a',{ s' with w:=w },_,_,rfl,⟨XC,.skd (by omega) Q,k1.trans',zU,FX,R,?_,rfl⟩⟩⟩
    rw[XD (.sp r' 5) rfl];exact .opn av Wb (by simp)
  .exact fin (X:=True) (iq I k1 c J V (.sgo hr Q) U)
 |kd h =>
  rcases ir h I.rely I.lead live with⟨s',k1,c,_,g',J,Q⟩|⟨s',k1,c,g',s2,es,r',J,V,Q,U⟩
  .obtain⟨r2,Q⟩:=Wa _ _ (Q { s' with w:=w } (fN k1 live));exact fin (X:=True) (gp I k1 c (J w) (.refl Y.Wg w) R bk_dis (.w1 Q) (O.reopen av av rfl (by simp)) (.inl (by simp only[phi];omega)))
  .exact fin (X:=True) (iq I k1 c J V (.kd Q) U)
 |w1 h =>
  rcases ir h I.rely I.lead live with⟨s',k1,c,_,Z⟩|⟨s',k1,c,g',s2,es,r',J,V,Q,U⟩
  .obtain⟨ho,e1,e2,_⟩:=O.open_inv av;rw[e1,e2] at R;have hV:=Vc_le n D;obtain⟨a',J,h0,Bq⟩:=Z { s' with w:=w } (fN k1 live) (Vc n D) (by omega) (by grind)
   by_cases hv:Vc n D=0
   .obtain⟨r2,Q⟩:=h0 hv;refine fin (X:=True) (gp I k1 c J (.refl Y.Wg w) R bk_rd (.ke Q) ?_ (.inl (by simp only[phi];omega)))
    have e:((Vc n D+pend .w1:Nat):Int)*KK=0:=by grind
    rw[e];exact .fin av (allQuit_of ho hv)
   .obtain⟨r2,Q⟩:=Bq hv;refine fin (X:=True) (gp I k1 c J (.refl Y.Wg w) R bk_rd (.w2 Q) ?_ (.inl (by simp only[phi];omega)))
    have:=O.reopen (tag':=.w2 (Vc n D)) av av rfl (λvs e=>by grind)
    grind
  .exact fin (X:=True) (iq I k1 c J V (.w1 Q) U)
 |@w2 vs rk g s h =>
  rcases ir h I.rely I.lead live with⟨s',k1,c,_,Z⟩|⟨s',k1,c,g',s2,es,r',J,V,Q,U⟩
  .obtain⟨ho,e1,e2,XE⟩:=O.open_inv av;rw[e1,e2] at R;obtain⟨hle,p⟩:=XE vs rfl;obtain⟨XF,Uk⟩:=Z { s' with w:=w } (fN k1 live) (Vc n D) (by omega) (by grind)
   by_cases e:Vc n D=vs
   .obtain⟨a',J,r2,Q⟩:=XF e;exact fin (X:=True) (gp I k1 c J (aside_setCell w (stA Y.Wg) _) (R.setSt _) bk_rw (.w3 Q) (.reg av ho (by omega)) (.inl (by simp only[phi];omega)))
   .obtain⟨a',J,Q⟩:=Uk e;obtain⟨r2,Q⟩:=Wa _ _ Q;refine fin (X:=True) (gp I k1 c J (.refl Y.Wg w) R bk_rd (.w1 Q) ?_ (.inl (by simp only[phi];omega)))
    have:=O.reopen (tag':=.w1) av av rfl (by simp)
    grind
  .exact fin (X:=True) (iq I k1 c J V (.w2 Q) U)
 |@w3 rk g s h =>
  rcases ir h I.rely I.lead live with⟨s',k1,c,lX⟩|⟨s',k1,c,g',s2,es,r',J,V,Q,U⟩
  .obtain⟨_,T1,Z⟩:=lX;obtain⟨NY,P1⟩:=Z { s' with w:=w } (fN k1 live);obtain⟨x,hx⟩:=Rk.JV s rk;have Ul:AtW3 P ty Y T a { s' with w:=w }:=AtW3.rely ⟨vA,T1,Z⟩ (fN k1 live);generalize st=Xy at O R;generalize F=sm0 at O R;cases O with
   |opn p _ _=>exact p.elim
   |reg p h2 h3=>exact fin (X:=True) (gp I k1 c (NY ⟨_,R⟩) (.refl Y.Wg w) R (by simp) (.blk (rk:=x) Ul) (.reg av h2 h3) (.inr ⟨rfl,hx⟩))
   |last L p h2 h3 h4=>exact fin (X:=True) (gp I k1 c (NY ⟨_,R⟩) (.refl Y.Wg w) R (by simp) (.blk (rk:=x) Ul) (.last L av h2 h3 h4) (.inr ⟨rfl,hx⟩))
   |sema h2 =>
    obtain⟨a',J,r2,Q⟩:=P1 R;exact fin (X:=True) (gp I k1 c J (aside_setCell w (smA Y.Wg) _) (R.setSm 0) bk_sem (.w4 Q) (.fin av h2) (.inl (by simp only[phi];omega)))
   |fin p _=>exact p.elim
  .exact fin (X:=True) (iq I k1 c J V (.w3 Q) (Rk.FT U))
 |blk h=>grind
 |w4 h =>
  rcases ir h I.rely I.lead live with⟨s',k1,c,_,Z⟩|⟨s',k1,c,g',s2,es,r',J,V,Q,U⟩
  .obtain⟨hq,e1,e2⟩:=O.fin_inv av;rw[e1,e2] at R;obtain⟨a',J,r2,Q⟩:=Z { s' with w:=w } (fN k1 live) R;exact fin (X:=True) (gp I k1 c J (.refl Y.Wg w) R bk_rd (.ke Q) (.fin av hq) (.inl (by simp only[phi];omega)))
  .exact fin (X:=True) (iq I k1 c J V (.w4 Q) U)
 |ke h =>
  rcases ir h I.rely I.lead live with⟨s',k1,c,_,g',J,Q⟩|⟨s',k1,c,g',s2,es,r',J,V,Q,U⟩
  .obtain⟨r2,Q⟩:=Q { s' with w:=w } (fN k1 live);obtain⟨hq,e1,e2⟩:=O.fin_inv av;rw[e1,e2] at R;exact fin (X:=True) (gp I k1 c (J w) (.refl Y.Wg w) R bk_en (.acq Q) (.fin av hq) (.inl (by simp only[phi];omega)))
  .exact fin (X:=True) (iq I k1 c J V (.ke Q) U)
 |acq h =>
  rcases ir h I.rely I.lead live with⟨s',k1,c,_,a',J,Q⟩|⟨s',k1,c,g',s2,es,r',J,V,Q,U⟩
  .obtain⟨hq,e1,e2⟩:=O.fin_inv av;have wc:=runT_crowd_go (P:=P) (sl:=sl) (i:=0) I.a0 (by simpa using J w)
   have ev:MemOp.ofEvents 0 a.frame.fn a.frame.place #[mk (.acquire (stA Y.Wg))]=#[{ g:=0,fn:=a.frame.fn,pos:=a.frame.place,act:=.mark (.acquire (stA Y.Wg)) }]:=by rw[ofEvents_eq];simp[ofEvent_mk]
   have we:=I.gd.step0 (g:=a) (g':=a') (fn:=a.frame.fn) (pos:=a.frame.place) (es:=#[mk (.acquire (stA Y.Wg))]) (hm':=l) (w':=w) (λ_ _=>rfl) (bg _) (λy _=>.refl ..) (by simp;exact I.gd.Bn) (by intro e he b hb;simp at he;subst he;simp[mk,aM,MemAct.touch?] at hb) (by intro e he b hb;simp at he;subst he;simp[mk,aM,MemAct.touch?] at hb) (by intro e he;simp at he;subst he;simp[mk]) I.gd.pay live
   have hd0:deafBehind 0 #[mk (.acquire (stA Y.Wg))]=0:=rfl;have hy:(t++#[({ g:=0,fn:=a.frame.fn,pos:=a.frame.place,act:=.mark (.acquire (stA Y.Wg)) }:MemOp)])[t.size]?=aa { g:=0,fn:=a.frame.fn,pos:=a.frame.place,act:=.mark (.acquire (stA Y.Wg)) }:=by simp
   have Um:=we.tl.Xq (by rw[we.deaf0];rfl) (we.norel _) (q:=t.size) (by rw[ev,act?_of hy]) (by rw[ev];simp[Trace.g?]) (by rw[ev];exact⟨0,by simp[Trace.g?],by rw[deaf_old (bg _)];exact I.gd.deaf0⟩) (λx hx=>by
    obtain⟨r,hr⟩:=I.gd.rel x hx (by rw[hq x hx];omega)
    exact⟨r,hr.appOther g_of_ofEvents (by omega),lt_of_act? hr.act⟩)
   have GQ:∃ q,Leavers P (t++MemOp.ofEvents 0 a.frame.fn a.frame.place #[mk (.acquire (stA Y.Wg))]) ((z.map (woken P a a' w)).setIfInBounds 0 a') q:=by
    have each:∀ i,∃ m,∀ g,0<i->((z.map (woken P a a' w)).setIfInBounds 0 a')[i]?=aa g->QuitsD P m (Deaf (t++MemOp.ofEvents 0 a.frame.fn a.frame.place #[mk (.acquire (stA Y.Wg))]) i) g:=by
     intro i;cases QX:((z.map (woken P a a' w)).setIfInBounds 0 a')[i]? with
     |none=>exact⟨0,λg _ C=>by cases C⟩
     |some g =>
      rcases oQ i with e|J2
      .exact⟨0,λg' h=>by omega⟩
      .rcases cJ i Y.base with U|Te
       .obtain⟨m,_,XG⟩:=we.lv i g J2 U QX;exact⟨m,λg' _ FW=>by grind⟩
       .obtain⟨x,rfl⟩:∃ x,i=Y.base+x:=⟨i-Y.base,by omega⟩
        have hx:x<n:=by
         have:=(ia.1 QX).1;rw[we.size] at this;omega
        obtain⟨g0,FR,XH⟩:=we.wk x hx;rw[QX] at FR;cases FR;obtain⟨m,XG⟩:=XH.quits (hq x hx);refine⟨m,λg' _ FW=>?_⟩
        cases FW;rw[we.deafW x hx];exact XG
    exact⟨λi=>Classical.choose (each i),λi g hi C=>Classical.choose_spec (each i) g hi C,λi hi=>we.above i (by rw[we.size] at hi;exact hi)⟩
   obtain⟨q,GQ⟩:=GQ;refine⟨_,_,wc,.inl ⟨l,u,⟨_,w,sl,a',s',q,rfl,Go.ConcN.get_map_set_same _ _ _ (by rw[I.gd.size];omega),we.size,Q { s' with w:=w } (fN k1 live),k1,c,GQ,Um,we.norel,I.gd.pay,λx hx i hi=>?_,I.gd.Dv,I.gd.Bn,I.gd.M9⟩⟩⟩
   obtain⟨g0,_,XH⟩:=I.gd.wk x hx;rcases oQ i with e|J2
   .subst e;exact I.gd.BQ x hx (by rw[hq x hx];omega)
   .exact I.gd.xM x hx (XH.small (hq x hx)) i J2 hi
  .exact fin (X:=True) (iq I k1 c J V (.acq Q) U)
end
end
section
open Go.Conc
open Go.ConcN (WD CTag Vc Ssum pend phi cnt WgLive PayAt Has WSit RelBy sumTo upd upd_same upd_ne exists_counted)
open Go.ConcR (KK WgAt stA smA Payload)
variable [Payload]
section
variable {P:aq}{ty:ar}{Y:Lay}{N:Nat}{val:Nat->Nat->ak}{n:Nat}{T c:au->St->Prop}{p:Nat->Nat}{u:Nat->Mem}{j:Nat}{tag:CTag}{rk:Rk}{d:Nat}{a:au}{s:St}{w:az}
 {f:Mu} {l:Array au} {sl:Option (Nat×Nat)} {t:Trace} {D:Nat->WD} {A:Nat->Nat} {K:Nat->Rk} {st y:Int}
def WS.running_of{x a st d:Nat}{r:Rk}{g:au}(h:WS P ty Y N val p u x a st r d g w)(b:st≠1):g.status=.running:=by
 cases h with
 |am h1 _ _=>exact h1.run λ_ _ x=>x.1
 |rel h1=>exact Goes.running (λ_ _ x=>x.1) w (Go.ConcN.RW.refl w) h1
 |tail _ h1=>exact h1.running_of b
def someone_runs(I:tc P ty Y N val n T c f l w t p u j D A K d tag rk a s st y):∃ (i:Nat)(g:au),l[i]?=aa g/\g.status=.running:=by
 rcases I.cs.status with⟨e,_⟩|⟨_,rfl⟩
 .exact⟨0,a,I.a0,e⟩
 .have b:=I.mode;cases b with
  |opn h1 _ _=>exact h1.elim
  |reg _ _ k =>
   obtain⟨i,hi,o⟩:=exists_counted k;obtain⟨g,h,e⟩:=I.gd.wk i hi;exact⟨_,g,h,e.running_of (by omega)⟩
  |last L _ m k _ =>
   obtain⟨g,h,e⟩:=I.gd.wk L m;exact⟨_,g,h,e.running_of (by omega)⟩
  |fin h1 _=>exact h1.elim
def all_awake(I:tc P ty Y N val n T c f l w t p u j D A K d tag rk a s st y):∀ g∈l,awake g:=by
 intro g r B;obtain⟨i,hi⟩:=Array.mem_iff_getElem?.1 r;rcases oQ i with rfl|b
 .rw[I.a0] at hi;cases hi;rcases I.cs.status with⟨k,_⟩|⟨k,_⟩ <;> rw[k] <;> simp
 .rcases cJ i Y.base with o|v
  .obtain⟨m,_,q⟩:=I.gd.lv i g b o hi;rcases q.status with h|h <;> rw[h] <;> simp
  .obtain⟨x,rfl⟩:∃ x,i=Y.base+x:=⟨i-Y.base,by omega⟩
   have z:x<j:=by
    have:=(ia.1 hi).1;rw[I.gd.size] at this;omega
   obtain⟨g',e,k⟩:=I.gd.wk x z;rw[hi] at e;cases e;rcases k.status with h|h <;> rw[h] <;> simp
def tc.at(I:tc P ty Y N val n T c f l w t p u j D A K d tag rk a s st y)(b:Nat):tc P ty Y N val n T c f l (w.at b) t p u j D A K d tag rk a s st y :=
 ⟨I.a0,I.cs,I.rely.more (bg _) (λ_ _=>rfl) (λ_ _ _ _ h=>h) rfl rfl rfl,I.lead,I.gd.at b,I.wg,I.mode,I.mu⟩
def D8(I:tc P ty Y N val n T c f l w t p u j D A K d tag rk a s st y){i:Nat}(hi:0<i)(r:i<Y.base){g:au}(E:l[i]?=aa g)(h:g.status=.running) :
  ∃ o ops μ',runT P (crowd l w sl) i=(.next o,ops)/\FU (Y.base+n) μ' f/\Inv P ty Y N val n T c μ' o (t++ops):=by
 obtain⟨m,G,F⟩:=I.gd.lv i g hi r E;cases m with
 |zero=>rw[F.1] at h;cases h
 |succ m =>
  rcases F with⟨L,_⟩|⟨_,g',es,z,x,C⟩
  .grind
  .have B:(i==0)=ae:=by grind
   have q:=runT_crowd_go (P:=P) (sl:=sl) (i:=i) E (by rw[B];exact x w)
   obtain⟨tag',rk',v,e,H⟩:=I.cs.wokenBy g g' w;have b:Go.ConcN.Mode j D tag' st y:=I.mode.retag e;refine⟨_,_,(phi n (Vc j D) tag'+Ssum j D+sumTo j A,(upd K i (Rk.nat m),rk')),q,?_,_,w,sl,p,u,j,D,A,_,d,tag',rk',woken P g g' w a,s,st,y,rfl,
    ⟨by rw[Go.ConcN.get_map_set _ _ _ _ (by omega),I.a0];rfl,v,I.rely,I.lead,I.gd.leave hi r z C,I.wg,b,rfl⟩⟩
   rw[I.mu,Go.ConcN.phi_retag n _ e];exact Prod.Lex.right _ (Prod.Lex.left _ _ ⟨i,by omega,by rw[upd_same,G];exact Rk.D6 _ s,λk J=>upd_ne K _ J⟩)
def J3(E:n<2147483648)(z:∀ g s,c g s->ek (Cx.lead P ty Y.Wg) (Es Y.Wg) (AtW1 P ty Y T c) g s){m:Machine}(h:Inv P ty Y N val n T c f m t) :
  ∃ b ops,stepT P m=(.next b,ops)/\((∃ hm' NZ,Fin P Y N val n T hm' NZ b (t++ops))∨∃ k,FU (Y.base+n) k f/\Inv P ty Y N val n T c k b (t++ops)):=by
 obtain⟨l,w,sl,p,u,j,D,A,K,Q,tag,rk,a,s,st,y,rfl,I⟩:=h;obtain⟨i,g,F,o,v,e,q⟩:=crowd_pick (P:=P) (w:=w) (sl:=sl) (all_awake I) (someone_runs I);rw[q];have B:=I.at F;have J:j<=n:=by have:=I.cs.bound;omega
 rcases oQ i with rfl|r
 .rw[I.a0] at v;cases v;exact J1 (sl:=o) B E z e
 .rcases cJ i Y.base with C|G
  .obtain⟨b,ops,k,M,L,H⟩:=D8 (sl:=o) B r C v e
   grind
  .obtain⟨x,rfl⟩:∃ x,i=Y.base+x:=⟨i-Y.base,by omega⟩
   have O:x<j:=by
    have:=(ia.1 v).1;rw[I.gd.size] at this;omega
   obtain⟨b,ops,k,M,L,H⟩:=stepWorker (sl:=o) B E J I.cs.bound O v e
   grind
def G8(z:n<2147483648)(q:∀ g s,c g s->ek (Cx.lead P ty Y.Wg) (Es Y.Wg) (AtW1 P ty Y T c) g s):∀ (f:Mu)(m:Machine)(t:Trace),Inv P ty Y N val n T c f m t ->
  ∃ M i k hm' NZ,runNT P M m t=(.next i,k)/\Fin P Y N val n T hm' NZ i k:=by
 intro f
 induction (Rg (Y.base+n)).apply f with
 |intro f _ B =>
  intro m t h;obtain⟨b,ops,r,e⟩:=J3 z q h;rcases e with⟨hm',NZ,e⟩|⟨o,e,v⟩
  .exact⟨1,b,t++ops,hm',NZ,by simp[runNT,r],e⟩
  .obtain⟨M,i,k,hm',NZ,k1,x⟩:=B o e b (t++ops) v;exact⟨M+1,i,k,hm',NZ,by simp only[runNT,r];exact k1,x⟩
def TH.fork{g:au}{s s0:St}{T':au->St->Prop}(kc:Nat)(Z4:0<kc)(Wg C:Nat)(hn:n<2147483648)(Bq:C≠Wg)(hg:eR s s0)(vA:g.status=.running)
  (hC:∃ L∈s.β,C∈L.bs) (hW:∃ L∈s.β,Wg∈L.bs) (B:∀ b,(s.own b∨∃ L∈s.β,b∈L.bs)->b<s.w.heap.size)
  (h0:∀ b,(b=C∨b=Wg)->¬s0.own b/\(∀ L∈s0.β,b∉L.bs)/\∀ o,s0.M b o=af) (S:WgAt ty Wg s.w 0 0) (J0:PayAt C N s.w)
  (h:∀ Y:Lay,Y.Wg=Wg->Y.C=C->Y.kc=kc->∃ T c,(∀ g s,c g s->ek (Cx.lead P ty Y.Wg) (Es Y.Wg) (AtW1 P ty Y T c) g s)/\Spawns P ty Y N val n c n g s0 /\
   ∀ g' s',T g' s'->gz s'->PayAt C N s'.w->(∀ x,x<n->∀ i,i<kc->s'.w.cell? ⟨C,kc*x+i,af⟩=aa (val x i))->C<s'.w.heap.size->(∀ b,(b=C∨b=Wg)->¬s'.own b/\(∀ L∈s'.β,b∉L.bs)/\∀ o,s'.M b o=af) ->
    ∃ s2,T' g' s2/\s2.w=s'.w/\gz s2/\∀ Sh:Nat->Prop,Clear Sh s'->¬Sh C->Clear Sh s2):TH P g s T':=by
 intro Sh l sl t q p ha I hP hc Ud;have XI:¬Sh C:=λhs=>let ⟨L,I,hb⟩:=hC;hc.β C hs L I hb
 have XJ:¬Sh Wg:=λhs=>let ⟨L,I,hb⟩:=hW;hc.β Wg hs L I hb
 have X:=B C (.inr hC);have V:=B Wg (.inr hW);have J2:1<=l.size:=(ia.1 ha).1
 let Y:Lay:={ Sh:=Sh,T0:=t.size,Wg:=Wg,C:=C,base:=l.size,kc:=kc }
 obtain⟨T,c,Wa,m,W⟩:=h Y rfl rfl rfl;have U:=hc.ghost hg;have Z:gz s0:=.ghost hg;have E:jN Y (λ_=>0) (λ_ _ _=>af) 0 s0:=by
  refine⟨λb hb=>⟨rfl,λe=>?_,λe=>?_,λe=>?_,by rw[hg.w];exact B b (hg.blk b hb)⟩,λb o v hv=>⟨rfl,λe=>?_,λe=>?_,λe=>?_,gz.lt Z hv⟩,λx z=>absurd z (ji x)⟩
  .grind
  .grind
  .rcases hb with hb|⟨L,I,hb⟩
   .exact U.own b e hb
   .exact U.β b e L I hb
  .grind
  .grind
  .rw[U.M b e o] at hv;cases hv
 have Q:Com P ty Y N val (λ_=>0) (λ_ _ _=>af) 0 l s.w t (λ_=>⟨0,0,0⟩) (λ_=>0) (λi=>Rk.nat (q i)) 0 :=
  ⟨rfl,λi g hi _ QX=>⟨q i,rfl,I.old i g hi QX⟩,I.above,λx z=>absurd z (ji x),TL.start hP rfl J2 Bq XJ XI,Ud,hP.hears,λx z=>absurd z (ji x),λx z=>absurd z (ji x),λx z=>absurd z (ji x),λx z=>absurd z (ji x),
   J0,⟨_,_,S⟩,V,X,hc.lt,Z4,λx z=>absurd z (ji x)⟩
 have O:cj s0 { s0 with w:=s.w }:=by
  have:=cj.vY Z;rw[<-hg.w];exact this
 have G:∃ f,Inv P ty Y N val n T c f (crowd l s.w sl) t:=by
  cases n with
  |zero =>
   obtain⟨r,m⟩:=m;exact⟨_,l,s.w,sl,_,_,0,_,_,_,0,.kd,r,g,s0,_,_,rfl,⟨ha,.kd m,O,E,Q,S,by have:=Go.ConcN.Mode.opn (j:=0) (D:=λ_=>(⟨0,0,0⟩:WD)) (tag:=.kd) av (λi hi=>absurd hi (ji i)) (by simp);simpa[Vc,sumTo,pend] using this,rfl⟩⟩
  |succ n =>
   obtain⟨r,m⟩:=m;have Wc:CS P ty Y N val (n+1) T c (.sp n 5) (n+1-(n+1)) r 0 g s0:=.skd (Nat.lt_succ_self n) m;rw[rv] at Wc;exact⟨_,l,s.w,sl,_,_,0,_,_,_,0,.sp n 5,r,g,s0,_,_,rfl,⟨ha,Wc,O,E,Q,S,by have:=Go.ConcN.Mode.opn (j:=0) (D:=λ_=>(⟨0,0,0⟩:WD)) (tag:=.sp n 5) av (λi hi=>absurd hi (ji i)) (by simp);simpa[Vc,sumTo,pend] using this,rfl⟩⟩
 obtain⟨f,G⟩:=G;obtain⟨M,m',t',hm',NZ,aaa,⟨gs',w',sl',a',H,q',rfl,XC,_,hT,Tc,Un,gw,hP',acH,hp',J,hlC,hlW,hlS⟩⟩:=G8 hn Wa f _ _ G;have R:jN Y hm' NZ n { H with w:=w' }:=Un.rely Tc.size;have F:∀ b,(b=C∨b=Wg∨Sh b)->¬H.own b/\(∀ L∈H.β,b∉L.bs)/\∀ o,H.M b o=af:=by
  intro b hb;have key:∀ x,(hm' x=0/\x≠Y.C/\x≠Y.Wg/\¬Y.Sh x/\x<w'.heap.size)->x≠b:=by
   grind
  refine⟨λho=>key b (R.blk b (.inl ho)) rfl,λL I QG=>key b (R.blk b (.inr ⟨L,I,QG⟩)) rfl,λo=>?_⟩
  cases hM:H.M b o with
  |none=>rfl
  |some v=>exact absurd rfl (key b (R.M b o v hM))
 obtain⟨s2,hT2,XE,XG,Tb⟩:=W a' { H with w:=w' } hT (λb o v hv=>Tc.mem b o v hv) hp' J hlC (λb hb=>F b (hb.elim .inl λe=>.inr (.inl e)))
 have M6:Clear (λb=>Sh b∨b=Wg) { H with w:=w' }:=by
  have k:∀ b,(Sh b∨b=Wg)->¬H.own b/\(∀ L∈H.β,b∉L.bs)/\∀ o,H.M b o=af:=λb hb=>F b (hb.elim (λe=>.inr (.inr e)) λe=>.inr (.inl e))
  exact⟨λb hb=>(k b hb).1,λb hb=>(k b hb).2.1,λb hb=>(k b hb).2.2,λb hb=>hb.elim (hlS b) λe=>by grind⟩
 grind
end
end
section
open Go.Conc Go.RowKit Go.Conc.Lib Go.ConcR.Gen
open Go.ConcN (WgLive)
open Go.ConcR (KK WgAt stA smA rd wr mk DC0)
variable {L:WgLink}
section
variable (P:aq)(R:az->az->Prop)(L:WgLink)(Wg:Nat)(a:au)
def XZ(g:au)(_:az):Prop:=g.status=.running/\∃ g',(∀ w,aK P ab g w=.go g' w #[mk .enable])/\∀ w1,WgLive L.tWg Wg w1->∃ m,Goes P ab R DC0 (λg _=>g=a) m g' w1
def GRd(g:au)(_:az):Prop:=g.status=.running/\∃ g' ad,ad.block=Wg/\(∀ w,aK P ab g w=.go g' w #[mk (.read ad)])/\∀ w1,WgLive L.tWg Wg w1->∃ m,Goes P ab R DC0 (XZ P R L Wg a) m g' w1
def GA1(g:au)(w:az):Prop:=g.status=.running/\∀ v:Nat,v<2147483647->WgAt L.tWg Wg w (v*KK) 0 ->
 ∃ g',aK P ab g w=.go g' (w.setCell (stA Wg) (.int .u64 ((v+1)*KK))) #[rd (stA Wg),wr (stA Wg)]/\∃ m,Goes P ab R DC0 (λg w=>GRd P R L Wg a g w∨XZ P R L Wg a g w) m g' (w.setCell (stA Wg) (.int .u64 ((v+1)*KK)))
def GKd(g:au)(_:az):Prop:=g.status=.running/\∃ g',(∀ w,aK P ab g w=.go g' w #[mk .disable])/\∀ w1,WgLive L.tWg Wg w1->∃ m,Goes P ab R DC0 (GA1 P R L Wg a) m g' w1
end
set_option maxRecDepth 100000 in
def Ob{P:aq}(H:WgLib P L){R:az->az->Prop}{Wg:Nat}(c:∀ {w w1},WgLive L.tWg Wg w->R w w1->WgLive L.tWg Wg w1){b₀:aR}{a₀:Act}{ops₀:Array aw}{i₀:Nat}{rest₀:List Nat}{k₀:List Item}{cs:List aR}
  (w:az) (b:WgLive L.tWg Wg w) :
  Goes P ab R DC0 (GKd P R L Wg (G (b₀.at (a₀.put ((ops₀[i₀]?).bind (·.dst)) (.tuple #[])) (.inRegion ops₀ rest₀::k₀)) cs)) 12
   (G ((base L.add).at ⟨#[.pointer (aa ⟨Wg,0,af⟩),.int .i64 1,aj,aj,aj,aj,aj,aj,aj,aj,aj,aj,aj,aj,aj,aj,aj,aj,aj,aj,aj,aj,aj,aj,aj,aj,aj,aj,aj,aj,aj,aj,aj,aj,aj,aj,aj,aj,aj,aj,aj,aj,aj,aj,aj,aj,aj,aj,aj,aj,aj,aj,aj,aj,aj,aj,aj,aj,aj,aj,aj,aj,aj,aj,aj,aj,aj,aj,aj,aj,aj,aj,aj,aj,aj,aj,aj,aj,aj,aj,aj,aj,aj,aj,aj,aj,aj,aj,aj,aj,aj,aj,aj,aj,aj,aj,aj,aj,aj,aj,aj,aj,aj,aj,aj,aj,aj,aj,aj,aj,aj,aj,aj,aj,aj,aj,aj],[]⟩ [.code (body_add L)]) (b₀.at a₀ (.inRegion ops₀ (i₀::rest₀)::k₀)::cs)) w:=by
 lib_facts
 simp only[body_add,addFn,fJ]
 repeat (u_c aD c b)
 u_cond ab c b
 repeat (u_c aD c b)
 u_reg c b
 u_op c b
 u_op c b
 u_c aA c b
 repeat (u_c aD c b)
 u_cond ae c b
 u_c stepG_skip c b
 repeat (u_c aD c b)
 u_reg c b
 refine Goes.stop (λn h=>?_)
 refine⟨rfl,_,λw=>stepG_mark0 .disable (by simp) rfl rfl (by k_ne) rfl H.f_disable (x_disable_n L) (x_disable_b L) (x_disable_x L) (x_disable_f L),λw b=>?_⟩
 clear h;refine⟨40,?_⟩
 walk_nrm
 u_c aA c b
 repeat (u_c aD c b)
 u_reg c b
 u_defer c b
 u_c aA c b
 repeat (u_c aD c b)
 u_reg c b
 u_op c b
 u_c aA c b
 repeat (u_c aD c b)
 u_reg c b
 u_bub c b
 u_c aA c b
 repeat (u_c aD c b)
 u_cond ae c b
 u_c stepG_skip c b
 repeat (u_c aD c b)
 u_reg c b
 u_op c b
 u_op c b
 u_op c b
 u_op c b
 u_op c b
 u_op c b
 u_call H.f_uAdd (nm_uAdd L) uAddFn c b
 repeat (u_c aD c b)
 u_reg c b
 u_op c b
 u_c aA c b
 repeat (u_c aD c b)
 u_reg c b
 u_op c b
 u_op c b
 u_op c b
 u_op c b
 refine Goes.stop (λf e=>?_)
 replace b:=c b e
 clear e;refine⟨rfl,λv u j=>?_⟩
 have k:KK=4294967296:=rfl;have p:IntKind.u64.wrap ((v:Int)*KK+4294967296)=((v:Int)+1)*KK:=by rw[IntKind.wrap_u64];simp only[k];omega
 refine⟨_,(stepG_add_atomic rfl rfl (by k_ne) rfl H.f_addU64 (x_addU64_n L) (x_addU64_b L) (x_addU64_x L) .u64 (x_addU64_f L) rfl rfl j.cellSt (j.thaw 0)).trans (by rw[p];rfl),110,?_⟩
 replace b:WgLive L.tWg Wg (f.setCell (stA Wg) (.int .u64 (((v:Int)+1)*KK))):=⟨_,_,j.setSt _⟩
 clear j
 walk_nrm
 u_op c b
 u_c aA c b
 u_c stepG_ret' c b
 u_leave1 H.f_uAdd c b
 u_op c b
 u_c aA c b
 have r:bits .and .u64 (((v:Int)+1)*4294967296) 2147483648=0:=by
  have:=Go.ConcN.st_flag (v+1) 0 (by omega) (by omega)
  simpa using this
 have x:bits .and .u64 (((v:Int)+1)*4294967296) 2147483647=0:=by
  have:=Go.ConcN.st_waiters (v+1) 0 (by omega) (by omega)
  simpa using this
 have s:((v:Int)+1+2147483648) % 4294967296-2147483648=(v:Int)+1:=by omega
 have t:¬((v:Int)+1<0):=by omega
 have q:(0:Int)<(v:Int)+1:=by omega
 repeat (u_c aD c b)
 u_reg c b
 u_op c b
 u_op c b
 u_op c b
 u_op c b
 u_skip c b
 u_skip c b
 u_op c b
 u_c aA c b
 repeat (u_c aD c b)
 u_cond ae c b
 u_c stepG_skip c b
 repeat (u_c aD c b)
 u_reg c b
 u_op c b
 u_op c b
 u_op c b
 u_op c b
 u_c aA c b
 repeat (u_c aD c b)
 u_reg c b
 u_op c b
 u_op c b
 u_op c b
 u_op c b
 u_c aA c b
 by_cases l:(v:Int)+1=1
 .repeat (u_c aD c b)
  u_reg c b
  u_op c b
  u_op c b
  u_op c b
  u_op c b
  u_op c b
  u_op c b
  u_op c b
  u_op c b
  u_op c b
  u_op c b
  u_c aA c b
  repeat (u_c aD c b)
  u_cond ab c b
  repeat (u_c aD c b)
  u_reg c b
  u_op c b
  u_op c b
  u_op c b
  u_conv H.underlying_tPU32 H.room_tU32 (Go.ConcN.Gen.WgLive.cell1 b).choose_spec c b
  refine Goes.stop (λm g=>.inl ?_)
  clear g;refine⟨rfl,_,⟨Wg,1,af⟩,rfl,λw=>stepG_markAt .read (by simp) rfl rfl (by k_ne) rfl H.f_raceRead (x_raceRead_n L) (x_raceRead_b L) (x_raceRead_x L) (x_raceRead_f L) (ad:=⟨Wg,1,af⟩) (by simp[Act.eval]),λw b=>⟨50,?_⟩⟩
  walk_nrm
  u_c aA c b
  repeat (u_c aD c b)
  u_reg c b
  u_op c b
  u_op c b
  u_c aA c b
  repeat (u_c aD c b)
  u_cond ae c b
  u_c stepG_skip c b
  repeat (u_c aD c b)
  u_reg c b
  u_op c b
  u_op c b
  u_op c b
  u_skip c b
  u_skip c b
  u_op c b
  u_op c b
  u_skip c b
  u_skip c b
  u_skip c b
  u_skip c b
  u_op c b
  u_c aA c b
  repeat (u_c aD c b)
  u_cond ae c b
  u_c stepG_skip c b
  repeat (u_c aD c b)
  u_reg c b
  u_op c b
  u_op c b
  u_op c b
  u_skip c b
  u_skip c b
  u_op c b
  u_c aA c b
  repeat (u_c aD c b)
  u_cond ab c b
  u_c stepG_ret' c b
  refine Goes.stop (λi d=>?_)
  clear d;refine⟨rfl,_,λw=>stepG_unwind_entry (v:=.tuple #[]) (evs:=#[mk .enable]) rfl H.f_enable (x_enable_n L) (x_enable_b L) (x_enable_x L) (x_enable_f L) (by simp[Extern.Race.none_]) (by simp[mk]) (by simp[mk]),λw b=>⟨1,?_⟩⟩
  u_leave0 H.f_add c b
  exact Goes.stop λ_ _=>rfl
 .have o:((v:Int)+1==1)=ae:=by simpa using l
  repeat (u_c aD c b)
  u_reg c b
  u_op c b
  u_op c b
  u_op c b
  u_op c b
  u_op c b
  u_op c b
  u_op c b
  u_op c b
  u_op c b
  u_op c b
  u_c aA c b
  repeat (u_c aD c b)
  u_cond ae c b
  u_c stepG_skip c b
  repeat (u_c aD c b)
  u_reg c b
  u_op c b
  u_op c b
  u_c aA c b
  repeat (u_c aD c b)
  u_cond ae c b
  u_c stepG_skip c b
  repeat (u_c aD c b)
  u_reg c b
  u_op c b
  u_op c b
  u_op c b
  u_skip c b
  u_skip c b
  u_op c b
  u_op c b
  u_skip c b
  u_skip c b
  u_skip c b
  u_skip c b
  u_op c b
  u_c aA c b
  repeat (u_c aD c b)
  u_cond ae c b
  u_c stepG_skip c b
  repeat (u_c aD c b)
  u_reg c b
  u_op c b
  u_op c b
  u_op c b
  u_skip c b
  u_skip c b
  u_op c b
  u_c aA c b
  repeat (u_c aD c b)
  u_cond ab c b
  u_c stepG_ret' c b
  refine Goes.stop (λi d=>.inr ?_)
  clear d;refine⟨rfl,_,λw=>stepG_unwind_entry (v:=.tuple #[]) (evs:=#[mk .enable]) rfl H.f_enable (x_enable_n L) (x_enable_b L) (x_enable_x L) (x_enable_f L) (by simp[Extern.Race.none_]) (by simp[mk]) (by simp[mk]),λw b=>⟨1,?_⟩⟩
  u_leave0 H.f_add c b
  exact Goes.stop λ_ _=>rfl
end
section
open Go.Conc Go.RowKit Go.Conc.Lib Go.ConcR.Gen
open Go.ConcN (WgLive)
open Go.ConcR (KK WgAt stA smA rd wr mk DC0)
section
variable (P:aq)(R:az->az->Prop)(L:WgLink)(Wg:Nat)(a:au)(b:au->Prop)
def Uz(g:au)(_:az):Prop:=g.status=.running/\∃ g',(∀ w,aK P ab g w=.go g' w #[mk (.acquire (stA Wg))])/\∀ w1,WgLive L.tWg Wg w1->∃ m,Goes P ab R DC0 (λg _=>g=a) m g' w1
def X0(g:au)(_:az):Prop:=g.status=.running/\∃ g',(∀ w,aK P ab g w=.go g' w #[mk .enable])/\∀ w1,WgLive L.tWg Wg w1->∃ m,Goes P ab R DC0 (Uz P R L Wg a) m g' w1
def HW4(g:au)(w:az):Prop:=g.status=.running/\(WgAt L.tWg Wg w 0 0->∃ g',aK P ab g w=.go g' w #[rd (stA Wg)]/\∃ m,Goes P ab R DC0 (X0 P R L Wg a) m g' w)
def HW3(g:au)(w:az):Prop:=g.status=.running/\g.offers=af/\((∃ st,WgAt L.tWg Wg w st 0)->aK P ab g w=.go { g with status:=.blocked } w #[]) /\
 (WgAt L.tWg Wg w 0 1->∃ g',aK P ab g w=.go g' (w.setCell (smA Wg) (.int .u32 0)) (semEvents (smA Wg))/\∃ m,Goes P ab R DC0 (HW4 P R L Wg a) m g' (w.setCell (smA Wg) (.int .u32 0)))
def HWr(g:au)(_:az):Prop:=g.status=.running/\∃ g' ad,ad.block=Wg/\(∀ w,aK P ab g w=.go g' w #[mk (.write ad)])/\∀ w1,WgLive L.tWg Wg w1->∃ m,Goes P ab R DC0 (HW3 P R L Wg a) m g' w1
def HW2(vs:Nat)(g:au)(w:az):Prop:=g.status=.running/\∀ v:Nat,v<2147483648->WgAt L.tWg Wg w (v*KK) 0 ->
 (v=vs->∃ g',aK P ab g w=.go g' (w.setCell (stA Wg) (.int .u64 (v*KK+1))) #[rd (stA Wg),wr (stA Wg)]/\∃ m,Goes P ab R DC0 (HWr P R L Wg a) m g' (w.setCell (stA Wg) (.int .u64 (v*KK+1)))) /\
 (v≠vs->∃ g',aK P ab g w=.go g' w #[rd (stA Wg)]/\∃ m,Goes P ab R DC0 (λg _=>b g) m g' w)
def HW1(g:au)(w:az):Prop:=g.status=.running/\∀ v:Nat,v<2147483648->WgAt L.tWg Wg w (v*KK) 0 ->
 ∃ g',aK P ab g w=.go g' w #[rd (stA Wg)]/\(v=0->∃ m,Goes P ab R DC0 (X0 P R L Wg a) m g' w)/\(v≠0->∃ m,Goes P ab R DC0 (HW2 P R L Wg a b v) m g' w)
def HKd(g:au)(_:az):Prop:=g.status=.running/\∃ g',(∀ w,aK P ab g w=.go g' w #[mk .disable])/\∀ w1,WgLive L.tWg Wg w1->∃ m,Goes P ab R DC0 (λg _=>b g) m g' w1
end
def RD(L:WgLink)(Wg:Nat)(c:aR)(cs:List aR)(g:au):Prop :=
 ∃ T:Array ak,g=G ((base L.wait).at ⟨T,[]⟩ [.code (L7 L),.inLoop (L7 L),.inBlock 0]) (c::cs)/\T.size=84/\T[0]?=aa (.pointer (aa ⟨Wg,0,af⟩))
set_option maxRecDepth 100000 in
def Ej{L:WgLink}{P:aq}(H:WgLib P L){R:az->az->Prop}{Wg:Nat}(b:∀ {w w1},WgLive L.tWg Wg w->R w w1->WgLive L.tWg Wg w1){c:aR}{cs:List aR}(w:az)(a:WgLive L.tWg Wg w) :
  Goes P ab R DC0 (HKd P R L Wg (RD L Wg c cs)) 6 (G ((base L.wait).at ⟨#[.pointer (aa ⟨Wg,0,af⟩),aj,aj,aj,aj,aj,aj,aj,aj,aj,aj,aj,aj,aj,aj,aj,aj,aj,aj,aj,aj,aj,aj,aj,aj,aj,aj,aj,aj,aj,aj,aj,aj,aj,aj,aj,aj,aj,aj,aj,aj,aj,aj,aj,aj,aj,aj,aj,aj,aj,aj,aj,aj,aj,aj,aj,aj,aj,aj,aj,aj,aj,aj,aj,aj,aj,aj,aj,aj,aj,aj,aj,aj,aj,aj,aj,aj,aj,aj,aj,aj,aj,aj,aj],[]⟩ [.code (body_wait L)]) (c::cs)) w:=by
 lib_facts
 unfold RD;simp only[L7,body_wait,waitFn,fJ]
 repeat (u_c aD b a)
 u_cond ab b a
 repeat (u_c aD b a)
 u_reg b a
 refine Goes.stop (λe d=>?_)
 clear d;refine⟨rfl,_,λw=>stepG_mark0 .disable (by simp) rfl rfl (by k_ne) rfl H.f_disable (x_disable_n L) (x_disable_b L) (x_disable_x L) (x_disable_f L),λw a=>⟨6,?_⟩⟩
 walk_nrm
 u_c aA b a
 repeat (u_c aD b a)
 u_c stepG_block b a
 u_c stepG_loop b a
 exact Goes.stop λ_ _=>⟨_,rfl,rfl,rfl⟩
end
section
open Go.Conc Go.RowKit Go.Conc.Lib Go.ConcR.Gen
open Go.ConcN (WgLive)
open Go.ConcN.Gen
open Go.ConcR (KK WgAt stA smA rd wr mk DC0)
set_option maxRecDepth 100000 in
def Ei{L:WgLink}{P:aq}(H:WgLib P L){R:az->az->Prop}{Wg:Nat}(b:∀ {w w1},WgLive L.tWg Wg w->R w w1->WgLive L.tWg Wg w1){b₀:aR}{a₀:Act}{ops₀:Array aw}{i₀:Nat}{rest₀:List Nat}{k₀:List Item}{cs:List aR}
  (g:au) (hg:RD L Wg (b₀.at a₀ (.inRegion ops₀ (i₀::rest₀)::k₀)) cs g) (w:az) (a:WgLive L.tWg Wg w) :
  ∃ m,Goes P ab R DC0 (HW1 P R L Wg (G (b₀.at (a₀.put ((ops₀[i₀]?).bind (·.dst)) (.tuple #[])) (.inRegion ops₀ rest₀::k₀)) cs) (RD L Wg (b₀.at a₀ (.inRegion ops₀ (i₀::rest₀)::k₀)) cs)) m g w:=by
 lib_facts
 obtain⟨T,rfl,q,s⟩:=hg;obtain⟨v0,v1,v2,v3,v4,v5,v6,v7,v8,v9,v10,v11,O,v13,v14,v15,v16,u,A,v19,v20,v21,Y,B,v24,Z,v26,v27,v28,v29,v30,D,v32,C,K,v35,v36,z,v38,v39,W,v41,v42,v43,X,v45,v46,v47,v48,v49,N,v51,v52,v53,v54,v55,v56,v57,v58,v59,Q,v61,v62,v63,v64,v65,v66,v67,v68,y,J,v71,v72,V,v74,I,F,v77,x,v79,E,v81,v82,M,rfl⟩:=array84 T q;simp only[iJ,kX,di] at s;subst s;refine⟨30,?_⟩;unfold RD;simp only[L7,body_wait,waitFn,fJ]
 u_c stepG_block b a
 repeat (u_c aD b a)
 u_reg b a
 u_op b a
 u_op b a
 u_op b a
 u_call H.f_uLoad (nm_uLoad L) uLoadFn b a
 repeat (u_c aD b a)
 u_reg b a
 u_op b a
 u_c aA b a
 repeat (u_c aD b a)
 u_reg b a
 u_op b a
 u_op b a
 u_op b a
 refine Goes.stop (λp j=>?_)
 replace a:=b a j
 clear j;refine⟨rfl,λv hv f=>?_⟩
 rcases oQ v with rfl|U
 .replace f:WgAt L.tWg Wg p 0 0:=by grind
  refine⟨_,stepG_load_atomic (v:=0) rfl rfl (by k_ne) rfl H.f_loadU64 (x_loadU64_n L) (x_loadU64_b L) (x_loadU64_x L) .u64 (x_loadU64_f L) rfl f.cellSt,λ_=>⟨80,?_⟩,λh=>absurd rfl h⟩
  clear f
  walk_nrm
  u_op b a
  u_c aA b a
  u_c stepG_ret' b a
  u_leave1 H.f_uLoad b a
  u_op b a
  u_c aA b a
  repeat (u_c aD b a)
  u_reg b a
  u_op b a
  u_op b a
  u_op b a
  u_op b a
  u_c aA b a
  repeat (u_c aD b a)
  u_reg b a
  u_op b a
  u_op b a
  u_op b a
  u_op b a
  u_c aA b a
  repeat (u_c aD b a)
  u_reg b a
  u_op b a
  u_op b a
  u_c aA b a
  repeat (u_c aD b a)
  u_cond ab b a
  repeat (u_c aD b a)
  u_cond ab b a
  repeat (u_c aD b a)
  u_reg b a
  refine Goes.stop (λd c=>?_)
  clear c;refine⟨rfl,_,λw=>stepG_mark0 .enable (by simp) rfl rfl (by k_ne) rfl H.f_enable (x_enable_n L) (x_enable_b L) (x_enable_x L) (x_enable_f L),λw a=>⟨20,?_⟩⟩
  walk_nrm
  u_c aA b a
  repeat (u_c aD b a)
  u_reg b a
  u_op b a
  u_conv H.underlying_tWgP H.room_tWg (Go.ConcN.Gen.WgLive.cell0 a).choose_spec b a
  refine Goes.stop (λd c=>?_)
  clear c;refine⟨rfl,_,λw=>stepG_markAt .acquire (by simp) rfl rfl (by k_ne) rfl H.f_acquire (x_acquire_n L) (x_acquire_b L) (x_acquire_x L) (x_acquire_f L) (by simp[Act.eval,stA]),λw a=>⟨40,?_⟩⟩
  walk_nrm
  u_c aA b a
  repeat (u_c aD b a)
  u_reg b a
  u_op b a
  u_op b a
  u_op b a
  u_op b a
  u_op b a
  u_op b a
  u_op b a
  u_op b a
  u_skip b a
  u_skip b a
  u_op b a
  u_c aA b a
  repeat (u_c aD b a)
  u_cond ae b a
  u_c stepG_skip b a
  u_c stepG_ret' b a
  u_leave0 H.f_wait b a
  grind [Goes.stop]
 .obtain⟨S,l⟩:∃ S:Int,(v:Int)*KK=S:=⟨_,rfl⟩;have a1:S / 4294967296=(v:Int):=by rw[<-l];simp only[KK];omega
  have b1:bits .and .u64 S 2147483648=0:=by rw[<-l];have:=Go.ConcN.st_flag v 0 (by omega) (by omega);simpa[KK] using this
  have b2:bits .and .u64 S 2147483647=0:=by rw[<-l];have:=Go.ConcN.st_waiters v 0 (by omega) (by omega);simpa[KK] using this
  have c1:IntKind.i32.wrap (v:Int)=(v:Int):=by grind [IntKind.wrap_i32]
  have w1:IntKind.u64.wrap (S+1)=S+1:=by rw[IntKind.wrap_u64,<-l];simp only[KK];omega
  have q3:decide ((v:Int)<0)=ae:=eC (by omega)
  have q4:decide (0<(v:Int))=ab:=cn (by omega)
  have q5:((v:Int)==0)=ae:=by grind
  have q6:decide ((v:Int)=0)=ae:=eC (by omega)
  rw[l] at f;refine⟨_,stepG_load_atomic (v:=S) rfl rfl (by k_ne) rfl H.f_loadU64 (x_loadU64_n L) (x_loadU64_b L) (x_loadU64_x L) .u64 (x_loadU64_f L) rfl f.cellSt,λh0=>absurd h0 (by omega),λ_=>⟨80,?_⟩⟩
  clear f
  walk_nrm
  u_op b a
  u_c aA b a
  u_c stepG_ret' b a
  u_leave1 H.f_uLoad b a
  u_op b a
  u_c aA b a
  repeat (u_c aD b a)
  u_reg b a
  u_op b a
  u_op b a
  u_op b a
  u_op b a
  u_c aA b a
  repeat (u_c aD b a)
  u_reg b a
  u_op b a
  u_op b a
  u_op b a
  u_op b a
  u_c aA b a
  repeat (u_c aD b a)
  u_reg b a
  u_op b a
  u_op b a
  u_c aA b a
  repeat (u_c aD b a)
  u_cnd ae b a
  u_c stepG_skip b a
  repeat (u_c aD b a)
  u_reg b a
  u_op b a
  u_op b a
  u_op b a
  u_op b a
  u_op b a
  u_op b a
  u_call H.f_uCas (nm_uCas L) uCasFn b a
  repeat (u_c aD b a)
  u_reg b a
  u_op b a
  u_c aA b a
  repeat (u_c aD b a)
  u_reg b a
  u_op b a
  u_op b a
  u_op b a
  u_op b a
  u_op b a
  refine Goes.stop (λd c=>?_)
  replace a:=b a c
  clear c;refine⟨rfl,λv' VT f=>⟨λe=>?_,λe=>?_⟩⟩
  .subst e;rw[l] at f ⊢;refine⟨_,(stepG_cas_hit (v:=S) (n:=S+1) rfl rfl (by k_ne) rfl H.f_casU64 (x_casU64_n L) (x_casU64_b L) (x_casU64_x L) .u64 (x_casU64_f L) rfl rfl rfl f.cellSt (f.thaw 0)).trans (by rfl),90,?_⟩
   replace a:WgLive L.tWg Wg (d.setCell (stA Wg) (.int .u64 (S+1))):=⟨_,_,f.setSt _⟩
   clear f
   walk_nrm
   u_op b a
   u_c aA b a
   u_c stepG_ret' b a
   u_leave1 H.f_uCas b a
   u_c aA b a
   repeat (u_c aD b a)
   u_cond ab b a
   repeat (u_c aD b a)
   u_reg b a
   u_op b a
   u_op b a
   u_op b a
   u_op b a
   u_c aA b a
   repeat (u_c aD b a)
   u_cond ab b a
   repeat (u_c aD b a)
   u_reg b a
   u_op b a
   u_op b a
   u_op b a
   u_conv H.underlying_tPU32 H.room_tU32 (Go.ConcN.Gen.WgLive.cell1 a).choose_spec b a
   refine Goes.stop (λd c=>?_)
   clear c;refine⟨rfl,_,⟨Wg,1,af⟩,rfl,λw=>stepG_markAt .write (by simp) rfl rfl (by k_ne) rfl H.f_raceWrite (x_raceWrite_n L) (x_raceWrite_b L) (x_raceWrite_x L) (x_raceWrite_f L) (ad:=⟨Wg,1,af⟩) (by simp[Act.eval]),λw a=>⟨60,?_⟩⟩
   walk_nrm
   u_c aA b a
   repeat (u_c aD b a)
   u_reg b a
   u_op b a
   u_c aA b a
   repeat (u_c aD b a)
   u_reg b a
   u_op b a
   u_op b a
   u_op b a
   u_op b a
   u_skip b a
   u_op b a
   u_c aA b a
   repeat (u_c aD b a)
   u_cond ae b a
   u_c stepG_skip b a
   repeat (u_c aD b a)
   u_reg b a
   u_op b a
   u_op b a
   u_op b a
   u_op b a
   refine Goes.stop (λo i=>?_)
   replace a:=b a i
   clear i;refine⟨rfl,rfl,λ⟨st,f⟩=>stepG_semacquire_wait rfl rfl rfl H.f_semacquire (x_semacquire_n L) (x_semacquire_b L) (x_semacquire_x L) (x_semacquire_f L) (by simp[Act.eval,smA]) f.cellSm,λr=>?_⟩
   refine⟨_,(stepG_semacquire (n:=1) rfl rfl (by k_ne) rfl H.f_semacquire (x_semacquire_n L) (x_semacquire_b L) (x_semacquire_x L) (x_semacquire_f L) (by simp[Act.eval,smA]) r.cellSm (by k_ne) (r.thaw 1)).trans (by rfl),40,?_⟩
   replace a:WgLive L.tWg Wg (o.setCell (smA Wg) (.int .u32 0)):=⟨_,_,r.setSm 0⟩
   clear r
   walk_nrm
   u_c aA b a
   repeat (u_c aD b a)
   u_reg b a
   u_op b a
   u_op b a
   u_op b a
   u_call H.f_uLoad (nm_uLoad L) uLoadFn b a
   repeat (u_c aD b a)
   u_reg b a
   u_op b a
   u_c aA b a
   repeat (u_c aD b a)
   u_reg b a
   u_op b a
   u_op b a
   u_op b a
   refine Goes.stop (λt k=>?_)
   replace a:=b a k
   clear k;refine⟨rfl,λf=>⟨_,stepG_load_atomic (v:=0) rfl rfl (by k_ne) rfl H.f_loadU64 (x_loadU64_n L) (x_loadU64_b L) (x_loadU64_x L) .u64 (x_loadU64_f L) rfl f.cellSt,40,?_⟩⟩
   clear f
   walk_nrm
   u_op b a
   u_c aA b a
   u_c stepG_ret' b a
   u_leave1 H.f_uLoad b a
   u_op b a
   u_op b a
   u_c aA b a
   repeat (u_c aD b a)
   u_cond ab b a
   repeat (u_c aD b a)
   u_reg b a
   refine Goes.stop (λd c=>?_)
   clear c;refine⟨rfl,_,λw=>stepG_mark0 .enable (by simp) rfl rfl (by k_ne) rfl H.f_enable (x_enable_n L) (x_enable_b L) (x_enable_x L) (x_enable_f L),λw a=>⟨20,?_⟩⟩
   walk_nrm
   u_c aA b a
   repeat (u_c aD b a)
   u_reg b a
   u_op b a
   u_conv H.underlying_tWgP H.room_tWg (Go.ConcN.Gen.WgLive.cell0 a).choose_spec b a
   refine Goes.stop (λd c=>?_)
   clear c;refine⟨rfl,_,λw=>stepG_markAt .acquire (by simp) rfl rfl (by k_ne) rfl H.f_acquire (x_acquire_n L) (x_acquire_b L) (x_acquire_x L) (x_acquire_f L) (by simp[Act.eval,stA]),λw a=>⟨40,?_⟩⟩
   walk_nrm
   u_c aA b a
   repeat (u_c aD b a)
   u_reg b a
   u_op b a
   u_c aA b a
   repeat (u_c aD b a)
   u_cond ae b a
   u_c stepG_skip b a
   u_c stepG_ret' b a
   u_leave0 H.f_wait b a
   grind [Goes.stop]
  .refine⟨_,stepG_cas_miss (v:=(v':Int)*KK) (old:=S) (n:=S+1) rfl rfl (by k_ne) rfl H.f_casU64 (x_casU64_n L) (x_casU64_b L) (x_casU64_x L) .u64 (x_casU64_f L) rfl rfl rfl f.cellSt (f.thaw 0) (by rw[<-l];simp only[KK];omega),30,?_⟩
   clear f
   walk_nrm
   u_op b a
   u_c aA b a
   u_c stepG_ret' b a
   u_leave1 H.f_uCas b a
   u_c aA b a
   repeat (u_c aD b a)
   u_cond ae b a
   u_c stepG_skip b a
   u_c stepG_inBlock b a
   u_c stepG_inLoop b a
   exact Goes.stop λ_ _=>⟨_,rfl,by simp,by simp⟩
end
section
open Go.Conc Go.Conc.Lib
open Go.ConcN (WgLive)
open Go.ConcR (KK WgAt stA smA rd wr mk DC0 Payload)
def fj(ty:ar)(Wg:Nat)(w w1:az):Prop:=WgLive ty Wg w->WgLive ty Wg w1
def fj.refl{ty:ar}{Wg:Nat}(w:az):fj ty Wg w w:=id
def fj.trans{ty:ar}{Wg:Nat}{a b c:az}(h:fj ty Wg a b)(k:fj ty Wg b c):fj ty Wg a c:=λx=>k (h x)
def xP(R:az->az->Prop)(Stop:au->az->Prop)(g:au)(w:az):Prop:=∀ w1,R w w1->Stop g w1
def Goes.all{P:aq}{main:Bool}{R:az->az->Prop}{D:az->az->Array Event->Prop}{Stop:au->az->Prop}(k:∀ a b c,R a b->R b c->R a c) :
  ∀ {n:Nat} {g:au} {w:az},Goes P main R D Stop n g w->Goes P main R D (xP R Stop) n g w
 |0,g,w,h=>λw1 l w2 p=>h w2 (k _ _ _ l p)
 |n+1,g,w,h=>by
  rcases h with h|⟨d,h⟩
  .exact .inl λw1 l w2 p=>h w2 (k _ _ _ l p)
  .refine .inr ⟨d,λw1 l=>?_⟩
   have p:=h w1 l;cases j:aK P main g w1 with
   |go g' w' es =>
    rw[j,goes_go] at p;rw[goes_go];exact⟨p.1,Goes.all k p.2⟩
   |_=>rw[j] at p;exact p.elim
structure Apart (Wg:Nat)(F:St->Prop):Prop where
 rely:∀ s s',F s->cj s s'->F s'
 heap:∀ s,F s->∃ σ,aJ σ s
 free:∀ s,F s->¬s.own Wg/\(∀ L∈s.β,Wg∉L.bs)/\∀ o,s.M Wg o=af
section
variable {P:aq}{L:WgLink}{Wg:Nat}{F:St->Prop}
def yA(ty:ar)(Wg:Nat)(F:St->Prop)(s:St):Prop:=F s/\WgLive ty Wg s.w
def Apart.P9(A:Apart Wg F){s:St}(h:F s):gz s:=(A.heap s h).choose_spec.mem
def Apart.set(A:Apart Wg F){s:St}(h:F s)(a:Addr)(x:a.block=Wg)(v:ak):cj s { s with w:=s.w.setCell a v }:=by
 obtain⟨l,p,y⟩:=A.free s h;have j:∀ b,b≠Wg->(s.w.setCell a v).heap[b]?=s.w.heap[b]?:=λb hb=>by
  have:=(aside_setCell s.w a v).block b (by grind)
  exact this
 refine⟨rfl,rfl,rfl,Nat.le_of_eq (aside_setCell s.w a v).size.symm,λb hb=>j b ?_,λb o u k=>?_,(aside_setCell s.w a v).os,(aside_setCell s.w a v).tape,(aside_setCell s.w a v).output⟩
 .grind
 .have C:b≠Wg:=by grind
  show (s.w.setCell a v).cell? _=_;rw[jO (j b C) o];exact A.P9 h b o u k
def Apart.next(A:Apart Wg F){ty:ar}{s i:St}(h:yA ty Wg F s)(r:(Cx.lead P ty Wg).rely s i):yA ty Wg F i:=⟨A.rely s i h.1 r.1,r.2 h.2⟩
def Apart.here(A:Apart Wg F){ty:ar}{s:St}(h:yA ty Wg F s):(Cx.lead P ty Wg).rely s s:=⟨cj.vY (A.P9 h.1),id⟩
def Apart.goes(A:Apart Wg F){ty:ar}{S:au->St->Prop}{Stop:au->az->Prop}(k:∀ g s,yA ty Wg F s->xP (fj ty Wg) Stop g s.w->ek (Cx.lead P ty Wg) (Es Wg) S g s){n:Nat}{g:au}{s:St}
  (d:yA ty Wg F s) (h:Goes P ab (fj ty Wg) DC0 Stop n g s.w):ek (Cx.lead P ty Wg) (Es Wg) S g s:=by
 refine ek.goes (X:=Cx.lead P ty Wg) (R:=fj ty Wg) (D:=DC0) (Stop:=xP (fj ty Wg) Stop) (yA ty Wg F) (λs i hi f=>A.next hi f) (λs i _ f=>f.2) ?_ (λs hi=>A.here hi) k n g s d (Goes.all (λ_ _ _ l p=>l.trans p) h)
 rintro s es hi w' ⟨rfl,rfl⟩;exact⟨rfl,.inl (.quiet (A.heap s hi.1).choose_spec)⟩
end
set_option maxRecDepth 100000 in
def Eh{P:aq}{L:WgLink}(H:WgLib P L){Wg:Nat}:Frame.enter P L.add #[.pointer (aa ⟨Wg,0,af⟩),.int .i64 1] .normal=(base L.add).at ⟨#[.pointer (aa ⟨Wg,0,af⟩),.int .i64 1,aj,aj,aj,aj,aj,aj,aj,aj,aj,aj,aj,aj,aj,aj,aj,aj,aj,aj,aj,aj,aj,aj,aj,aj,aj,aj,aj,aj,aj,aj,aj,aj,aj,aj,aj,aj,aj,aj,aj,aj,aj,aj,aj,aj,aj,aj,aj,aj,aj,aj,aj,aj,aj,aj,aj,aj,aj,aj,aj,aj,aj,aj,aj,aj,aj,aj,aj,aj,aj,aj,aj,aj,aj,aj,aj,aj,aj,aj,aj,aj,aj,aj,aj,aj,aj,aj,aj,aj,aj,aj,aj,aj,aj,aj,aj,aj,aj,aj,aj,aj,aj,aj,aj,aj,aj,aj,aj,aj,aj,aj,aj,aj,aj,aj,aj],[]⟩ [.code (Go.ConcR.Gen.body_add L)] :=
 (enter_at (c:=Go.ConcR.Gen.body_add L) _ H.f_add (by kernel_rfl)).trans (by kernel_rfl)
set_option maxRecDepth 100000 in
def Cb{P:aq}{L:WgLink}(H:WgLib P L){Wg:Nat}:Frame.enter P L.wait #[.pointer (aa ⟨Wg,0,af⟩)] .normal=(base L.wait).at ⟨#[.pointer (aa ⟨Wg,0,af⟩),aj,aj,aj,aj,aj,aj,aj,aj,aj,aj,aj,aj,aj,aj,aj,aj,aj,aj,aj,aj,aj,aj,aj,aj,aj,aj,aj,aj,aj,aj,aj,aj,aj,aj,aj,aj,aj,aj,aj,aj,aj,aj,aj,aj,aj,aj,aj,aj,aj,aj,aj,aj,aj,aj,aj,aj,aj,aj,aj,aj,aj,aj,aj,aj,aj,aj,aj,aj,aj,aj,aj,aj,aj,aj,aj,aj,aj,aj,aj,aj,aj,aj,aj],[]⟩ [.code (Go.ConcR.Gen.body_wait L)] :=
 (enter_at (c:=Go.ConcR.Gen.body_wait L) _ H.f_wait (by kernel_rfl)).trans (by kernel_rfl)
section
variable [Payload] {P:aq}{L:WgLink}{Y:Lay}{F:St->Prop}{N n:Nat}{val:Nat->Nat->ak}
def XY(H:WgLib P L)(A:Apart Y.Wg F){j:Nat}{Next:au->St->Prop}{b₀:aR}{a₀:Act}{ops₀:Array aw}{i₀:Nat}{rest₀:List Nat}{k₀:List Item}{cs:List aR}
  (o:∀ s,yA L.tWg Y.Wg F s->ek (Cx.lead P L.tWg Y.Wg) (Es Y.Wg) (AtGo P L.tWg Y N val j Next) (G (b₀.at (a₀.put ((ops₀[i₀]?).bind (·.dst)) (.tuple #[])) (.inRegion ops₀ rest₀::k₀)) cs) s)
  {s:St} (d:yA L.tWg Y.Wg F s) :
  ek (Cx.lead P L.tWg Y.Wg) (Es Y.Wg) (AtKdS P L.tWg Y N val j Next) (G (Frame.enter P L.add #[.pointer (aa ⟨Y.Wg,0,af⟩),.int .i64 1] .normal) (b₀.at a₀ (.inRegion ops₀ (i₀::rest₀)::k₀)::cs)) s:=by
 have z:∀ g s,yA L.tWg Y.Wg F s->XZ P (fj L.tWg Y.Wg) L Y.Wg (G (b₀.at (a₀.put ((ops₀[i₀]?).bind (·.dst)) (.tuple #[])) (.inRegion ops₀ rest₀::k₀)) cs) g s.w->ek (Cx.lead P L.tWg Y.Wg) (Es Y.Wg) (AtKeS P L.tWg Y N val j Next) g s:=by
  rintro g s d ⟨l,g',p,y⟩;refine⟨.leaf,l,g',p,λi f=>?_⟩
  have a:=A.next d f;obtain⟨m,q⟩:=y i.w a.2;exact A.goes (λg s d h=>by obtain rfl:=h s.w (.refl _);grind) a q
 have b:∀ g s,yA L.tWg Y.Wg F s->xP (fj L.tWg Y.Wg) (GA1 P (fj L.tWg Y.Wg) L Y.Wg (G (b₀.at (a₀.put ((ops₀[i₀]?).bind (·.dst)) (.tuple #[])) (.inRegion ops₀ rest₀::k₀)) cs)) g s.w->ek (Cx.lead P L.tWg Y.Wg) (Es Y.Wg) (AtA1 P L.tWg Y N val j Next) g s:=by
  rintro g s d h;refine⟨.leaf,(h s.w (.refl _)).1,λi f v I t=>?_⟩
  have a:=A.next d f;obtain⟨g',l,m,q⟩:=(h i.w f.2).2 v I t;have k:yA L.tWg Y.Wg F { i with w:=i.w.setCell (stA Y.Wg) (.int .u64 ((v+1)*KK)) }:=⟨A.rely _ _ a.1 (A.set a.1 _ rfl _),⟨_,_,t.setSt _⟩⟩;refine⟨g',l,A.goes (λg s d h=>?_) k q⟩
  rcases h s.w (.refl _) with h|h
  .obtain⟨l,g',ad,p,y,Q⟩:=h;refine .step l λi f=>⟨g',i,_,y i.w,.inr ⟨rfl,ad,p,.inl rfl⟩,?_⟩
   have a:=A.next d f;obtain⟨m,q⟩:=Q i.w a.2;exact A.goes (λg s d h=>z g s d (h s.w (.refl _))) a q
  grind
 have t:=Ob (P:=P) (L:=L) H (R:=fj L.tWg Y.Wg) (Wg:=Y.Wg) (λh r=>r h) (b₀:=b₀) (a₀:=a₀) (ops₀:=ops₀) (i₀:=i₀) (rest₀:=rest₀) (k₀:=k₀) (cs:=cs) s.w d.2
 rw[Eh H];refine A.goes (λg s d h=>?_) d t
 obtain⟨l,g',p,y⟩:=h s.w (.refl _);refine⟨.leaf,l,g',p,λi f=>?_⟩
 have a:=A.next d f;obtain⟨m,q⟩:=y i.w a.2;exact A.goes b a q
section
variable (P L Y F)
def TW(B g:au)(s:St):Prop:=yA L.tWg Y.Wg F s/\∃ m,Goes P ab (fj L.tWg Y.Wg) DC0 (λg _=>g=B) m g s.w
def F9(c:aR)(cs:List aR)(g:au)(s:St):Prop:=yA L.tWg Y.Wg F s/\∃ m,Goes P ab (fj L.tWg Y.Wg) DC0 (λg _=>RD L Y.Wg c cs g) m g s.w
end
variable {b₀:aR}{a₀:Act}{ops₀:Array aw}{i₀:Nat}{rest₀:List Nat}{k₀:List Item}{cs:List aR}
omit [Payload] in
def Uy(H:WgLib P L)(A:Apart Y.Wg F){T J:au->St->Prop}(O:∀ g s,TW P L Y F (G (b₀.at (a₀.put ((ops₀[i₀]?).bind (·.dst)) (.tuple #[])) (.inRegion ops₀ rest₀::k₀)) cs) g s->T g s)
  (E:∀ g s,F9 P L Y F (b₀.at a₀ (.inRegion ops₀ (i₀::rest₀)::k₀)) cs g s->J g s) {g:au} {s:St} (h:F9 P L Y F (b₀.at a₀ (.inRegion ops₀ (i₀::rest₀)::k₀)) cs g s) :
  ek (Cx.lead P L.tWg Y.Wg) (Es Y.Wg) (AtW1 P L.tWg Y T J) g s:=by
 generalize hc:b₀.at a₀ (.inRegion ops₀ (i₀::rest₀)::k₀)=c at *;generalize U:G (b₀.at (a₀.put ((ops₀[i₀]?).bind (·.dst)) (.tuple #[])) (.inRegion ops₀ rest₀::k₀)) cs=B at O;have K:∀ g s,yA L.tWg Y.Wg F s->xP (fj L.tWg Y.Wg) (Uz P (fj L.tWg Y.Wg) L Y.Wg B) g s.w->ek (Cx.lead P L.tWg Y.Wg) (Es Y.Wg) (AtAcq P L.tWg Y T) g s:=by
  intro g s d h;obtain⟨l,g',p,y⟩:=h s.w (.refl _);exact⟨.leaf,l,g',p,λi f=>O _ _ ⟨A.next d f,y i.w (A.next d f).2⟩⟩
 have z:∀ g s,yA L.tWg Y.Wg F s->xP (fj L.tWg Y.Wg) (X0 P (fj L.tWg Y.Wg) L Y.Wg B) g s.w->ek (Cx.lead P L.tWg Y.Wg) (Es Y.Wg) (AtKe P L.tWg Y T) g s:=by
  intro g s d h;obtain⟨l,g',p,y⟩:=h s.w (.refl _);refine⟨.leaf,l,g',p,λi f=>?_⟩
  obtain⟨m,q⟩:=y i.w (A.next d f).2;exact A.goes K (A.next d f) q
 have gW4:∀ g s,yA L.tWg Y.Wg F s->xP (fj L.tWg Y.Wg) (HW4 P (fj L.tWg Y.Wg) L Y.Wg B) g s.w->ek (Cx.lead P L.tWg Y.Wg) (Es Y.Wg) (AtW4 P L.tWg Y T) g s:=by
  intro g s d h;refine⟨.leaf,(h s.w (.refl _)).1,λi f t=>?_⟩
  obtain⟨g',l,m,q⟩:=(h i.w f.2).2 t;exact⟨g',l,A.goes z (A.next d f) q⟩
 have V:∀ g s,yA L.tWg Y.Wg F s->xP (fj L.tWg Y.Wg) (HW3 P (fj L.tWg Y.Wg) L Y.Wg B) g s.w->ek (Cx.lead P L.tWg Y.Wg) (Es Y.Wg) (AtW3 P L.tWg Y T) g s:=by
  intro g s d h;refine⟨.leaf,(h s.w (.refl _)).1,(h s.w (.refl _)).2.1,λi f=>⟨(h i.w f.2).2.2.1,λt=>?_⟩⟩
  obtain⟨g',l,m,q⟩:=(h i.w f.2).2.2.2 t;exact⟨g',l,A.goes gW4 (s:={ i with w:=i.w.setCell (smA Y.Wg) (.int .u32 0) }) ⟨A.rely _ _ (A.next d f).1 (A.set (A.next d f).1 _ rfl _),⟨_,_,t.setSm 0⟩⟩ q⟩
 have Z:∀ g s,yA L.tWg Y.Wg F s->xP (fj L.tWg Y.Wg) (HWr P (fj L.tWg Y.Wg) L Y.Wg B) g s.w->ek (Cx.lead P L.tWg Y.Wg) (Es Y.Wg) (AtW3 P L.tWg Y T) g s:=by
  intro g s d h;obtain⟨l,g',ad,p,y,Q⟩:=h s.w (.refl _);refine .step l λi f=>⟨g',i,_,y i.w,.inr ⟨rfl,ad,p,.inr rfl⟩,?_⟩
  obtain⟨m,q⟩:=Q i.w (A.next d f).2;exact A.goes V (A.next d f) q
 have W:∀ (v:Nat) g s,yA L.tWg Y.Wg F s->xP (fj L.tWg Y.Wg) (HW2 P (fj L.tWg Y.Wg) L Y.Wg B (RD L Y.Wg c cs) v) g s.w->ek (Cx.lead P L.tWg Y.Wg) (Es Y.Wg) (AtW2 P L.tWg Y T J v) g s:=by
  intro vs g s d h;refine⟨.leaf,(h s.w (.refl _)).1,λi f v I t=>⟨λe=>?_,λe=>?_⟩⟩
  .obtain⟨g',l,m,q⟩:=((h i.w f.2).2 v I t).1 e;exact⟨g',l,A.goes Z (s:={ i with w:=i.w.setCell (stA Y.Wg) (.int .u64 (v*KK+1)) }) ⟨A.rely _ _ (A.next d f).1 (A.set (A.next d f).1 _ rfl _),⟨_,_,t.setSt _⟩⟩ q⟩
  .obtain⟨g',l,m,q⟩:=((h i.w f.2).2 v I t).2 e;exact⟨g',l,E _ _ ⟨A.next d f,m,q⟩⟩
 obtain⟨d,m,q⟩:=h;refine A.goes (λg s d h=>?_) d q
 obtain⟨m,t⟩:=Ei (P:=P) (L:=L) H (R:=fj L.tWg Y.Wg) (Wg:=Y.Wg) (λh r=>r h) (b₀:=b₀) (a₀:=a₀) (ops₀:=ops₀) (i₀:=i₀) (rest₀:=rest₀) (k₀:=k₀) (cs:=cs) g (by rw[hc];exact h s.w (.refl _)) s.w d.2
 rw[hc,U] at t;refine A.goes (λg s d h=>?_) d t
 refine⟨.leaf,(h s.w (.refl _)).1,λi f v I t=>?_⟩
 obtain⟨g',l,p,y⟩:=(h i.w f.2).2 v I t;refine⟨g',l,λh0=>?_,λC=>?_⟩
 .obtain⟨m,q⟩:=p h0;exact A.goes z (A.next d f) q
 .obtain⟨m,q⟩:=y C;exact A.goes (W v) (A.next d f) q
omit [Payload] in
def UA(H:WgLib P L)(A:Apart Y.Wg F){c:aR}{J:au->St->Prop}(E:∀ g s,F9 P L Y F c cs g s->J g s){s:St}(d:yA L.tWg Y.Wg F s) :
  ek (Cx.lead P L.tWg Y.Wg) (Es Y.Wg) (AtKd P L.tWg Y J) (G (Frame.enter P L.wait #[.pointer (aa ⟨Y.Wg,0,af⟩)] .normal) (c::cs)) s:=by
 have t:=Ej (P:=P) (L:=L) H (R:=fj L.tWg Y.Wg) (Wg:=Y.Wg) (λh r=>r h) (c:=c) (cs:=cs) s.w d.2
 rw[Cb H];refine A.goes (λg s d h=>?_) d t
 obtain⟨l,g',p,y⟩:=h s.w (.refl _);exact⟨.leaf,l,g',p,λi f=>E _ _ ⟨A.next d f,y i.w (A.next d f).2⟩⟩
end
end
end Go.AM
namespace Go.AM.R1
section
open Go.Proofs Go.Conc.Lib
def Qg:WgLink:={ add:=74,done:=76,wait:=78,relMerge:=124,disable:=125,enable:=126,inBubble:=127,associate:=128,fatal:=129,uOr:=130,uAdd:=131,raceRead:=132,uLoad:=133,uStore:=134,disassociate:=135,semrelease:=136,acquire:=138,isAssociated:=139,uCas:=140,raceWrite:=141,semacquire:=142,orU64:=167,addU64:=168,loadU64:=169,storeU64:=170,casU64:=174,tWgP:=174,tUP:=176,tAssoc:=178,tWg:=139,tAU:=136,tU64:=134,tUint:=182,tU32:=137,tPU32:=183,tPAU:=215,tPU64:=217,tNoCopy:=131,tANoCopy:=132,tAlign64:=133 }
def Cn:WgLib ah Qg where
 f_add:=Tryz.func74.trans (du aa (by kernel_rfl))
 f_done:=Tryz.func76.trans (du aa (by kernel_rfl))
 f_wait:=Tryz.func78.trans (du aa (by kernel_rfl))
 f_relMerge:=Tryz.func124.trans (du aa (by kernel_rfl))
 f_disable:=Tryz.func125.trans (du aa (by kernel_rfl))
 f_enable:=Tryz.func126.trans (du aa (by kernel_rfl))
 f_inBubble:=Tryz.func127.trans (du aa (by kernel_rfl))
 f_associate:=Tryz.func128.trans (du aa (by kernel_rfl))
 f_fatal:=Tryz.func129.trans (du aa (by kernel_rfl))
 f_uOr:=Tryz.func130.trans (du aa (by kernel_rfl))
 f_uAdd:=Tryz.func131.trans (du aa (by kernel_rfl))
 f_raceRead:=Tryz.func132.trans (du aa (by kernel_rfl))
 f_uLoad:=Tryz.func133.trans (du aa (by kernel_rfl))
 f_uStore:=Tryz.func134.trans (du aa (by kernel_rfl))
 f_disassociate:=Tryz.func135.trans (du aa (by kernel_rfl))
 f_semrelease:=Tryz.func136.trans (du aa (by kernel_rfl))
 f_acquire:=Tryz.func138.trans (du aa (by kernel_rfl))
 f_isAssociated:=Tryz.func139.trans (du aa (by kernel_rfl))
 f_uCas:=Tryz.func140.trans (du aa (by kernel_rfl))
 f_raceWrite:=Tryz.func141.trans (du aa (by kernel_rfl))
 f_semacquire:=Tryz.func142.trans (du aa (by kernel_rfl))
 f_orU64:=Tryz.func167.trans (du aa (by kernel_rfl))
 f_addU64:=Tryz.func168.trans (du aa (by kernel_rfl))
 f_loadU64:=Tryz.func169.trans (du aa (by kernel_rfl))
 f_storeU64:=Tryz.func170.trans (du aa (by kernel_rfl))
 f_casU64:=Tryz.func174.trans (du aa (by kernel_rfl))
 underlying_tWgP:=Tryz.underlying174
 runUnderlying_tWgP:=Tryz.runUnderlying174
 sizeOf_tWgP:=Tryz.sizeOf174
 isAgg_tWgP:=Tryz.isAgg174
 zeroValue_tWgP:=Tryz.zeroValue174
 underlying_tUP:=Tryz.underlying176
 runUnderlying_tUP:=Tryz.runUnderlying176
 sizeOf_tUP:=Tryz.sizeOf176
 isAgg_tUP:=Tryz.isAgg176
 zeroValue_tUP:=Tryz.zeroValue176
 underlying_tI32:=Tryz.underlying178
 runUnderlying_tI32:=Tryz.runUnderlying178
 sizeOf_tI32:=Tryz.sizeOf178
 isAgg_tI32:=Tryz.isAgg178
 zeroValue_tI32:=Tryz.zeroValue178
 underlying_tWg:=Tryz.underlying139
 runUnderlying_tWg:=Tryz.runUnderlying139
 sizeOf_tWg:=Tryz.sizeOf139
 isAgg_tWg:=Tryz.isAgg139
 zeroValue_tWg:=Tryz.zeroValue139
 underlying_tAU:=Tryz.underlying136
 runUnderlying_tAU:=Tryz.runUnderlying136
 sizeOf_tAU:=Tryz.sizeOf136
 isAgg_tAU:=Tryz.isAgg136
 zeroValue_tAU:=Tryz.zeroValue136
 underlying_tU64:=Tryz.underlying134
 runUnderlying_tU64:=Tryz.runUnderlying134
 sizeOf_tU64:=Tryz.sizeOf134
 isAgg_tU64:=Tryz.isAgg134
 zeroValue_tU64:=Tryz.zeroValue134
 underlying_tSh:=Tryz.underlying182
 runUnderlying_tSh:=Tryz.runUnderlying182
 sizeOf_tSh:=Tryz.sizeOf182
 isAgg_tSh:=Tryz.isAgg182
 zeroValue_tSh:=Tryz.zeroValue182
 underlying_tU32:=Tryz.underlying137
 runUnderlying_tU32:=Tryz.runUnderlying137
 sizeOf_tU32:=Tryz.sizeOf137
 isAgg_tU32:=Tryz.isAgg137
 zeroValue_tU32:=Tryz.zeroValue137
 underlying_tPU32:=Tryz.underlying183
 runUnderlying_tPU32:=Tryz.runUnderlying183
 sizeOf_tPU32:=Tryz.sizeOf183
 isAgg_tPU32:=Tryz.isAgg183
 zeroValue_tPU32:=Tryz.zeroValue183
 underlying_tPAU:=Tryz.underlying215
 runUnderlying_tPAU:=Tryz.runUnderlying215
 sizeOf_tPAU:=Tryz.sizeOf215
 isAgg_tPAU:=Tryz.isAgg215
 zeroValue_tPAU:=Tryz.zeroValue215
 underlying_tPU64:=Tryz.underlying217
 runUnderlying_tPU64:=Tryz.runUnderlying217
 sizeOf_tPU64:=Tryz.sizeOf217
 isAgg_tPU64:=Tryz.isAgg217
 zeroValue_tPU64:=Tryz.zeroValue217
 underlying_t0:=Tryz.underlying0
 runUnderlying_t0:=Tryz.runUnderlying0
 sizeOf_t0:=Tryz.sizeOf0
 isAgg_t0:=Tryz.isAgg0
 zeroValue_t0:=Tryz.zeroValue0
 underlying_t3:=Tryz.underlying3
 runUnderlying_t3:=Tryz.runUnderlying3
 sizeOf_t3:=Tryz.sizeOf3
 isAgg_t3:=Tryz.isAgg3
 zeroValue_t3:=Tryz.zeroValue3
 underlying_t4:=Tryz.underlying4
 runUnderlying_t4:=Tryz.runUnderlying4
 sizeOf_t4:=Tryz.sizeOf4
 isAgg_t4:=Tryz.isAgg4
 zeroValue_t4:=Tryz.zeroValue4
 underlying_t9:=Tryz.underlying9
 runUnderlying_t9:=Tryz.runUnderlying9
 sizeOf_t9:=Tryz.sizeOf9
 isAgg_t9:=Tryz.isAgg9
 zeroValue_t9:=Tryz.zeroValue9
 underlying_t20:=Tryz.underlying20
 runUnderlying_t20:=Tryz.runUnderlying20
 sizeOf_t20:=Tryz.sizeOf20
 isAgg_t20:=Tryz.isAgg20
 zeroValue_t20:=Tryz.zeroValue20
 underlying_t21:=Tryz.underlying21
 runUnderlying_t21:=Tryz.runUnderlying21
 sizeOf_t21:=Tryz.sizeOf21
 isAgg_t21:=Tryz.isAgg21
 zeroValue_t21:=Tryz.zeroValue21
 room_tWg:=by kernel_rfl
 room_tU32:=by kernel_rfl
end
end Go.AM.R1
namespace Go.AM
section
open Go.Conc (G)
structure Ku {P:aq}(X:Cx P)(N:Nat)(ops:Array aw)(φ:Fr)(σ:List aV)(x:Nat->D)(c:Nat->Fr)(idx:Nat->Option Nat)(last:Nat):Prop where
 back:∀ i o,ops[i]?=aa o->∀ e∈o.after,c7 e=ab->e.on<i
 Jz:∀ i o d,ops[i]?=aa o->o.dst=aa d->idx d=aa i/\d<N
 xI:∀ d i,idx d=aa i->∃ o,ops[i]?=aa o/\o.dst=aa d
 one:∀ i o,ops[i]?=aa o->i≠last->OA X N ops.toList o (c i) σ (x i) σ
 Th:∀ i o,ops[i]?=aa o->i≠last->∀ t σ s v,dc σ s v (match idx t with|some j=>(if ∃ e∈o.after,c7 e=ab/\e.on=j then x j else .any)|none=>look φ t)->dc σ s v (look (c i) t)
 Wi:∀ o,ops[last]?=aa o->∀ j,j<ops.size->j≠last->∃ e∈o.after,c7 e=ab/\e.on=j
 has:last<ops.size
section
variable {P:aq}{X:Cx P}{N:Nat}{ops:Array aw}{φ:Fr}{σ:List aV}{x:Nat->D}{c:Nat->Fr}{idx:Nat->Option Nat}{last:Nat}
theorem B7{a t:Nat}{L:Array Bool}(h:∀ i,i<ops.size->L.getD i ab=ab):Region.linearise.go .any ops a t L []=[]:=by
 cases a with
 |zero=>exact vM t L
 |succ n =>
  have b:bc .any ops L=[]:=by
   cases b:bc .any ops L with
   |nil=>rfl
   |cons y e =>
    have d:y∈bc .any ops L:=by grind
    grind [mem_ready]
  grind [oZ]
def Ku.arr(h:Ku X N ops φ σ x c idx last){T:au->St->Prop}{b:aR}{kk:List Item}{cs:List aR}(hb:b.kind≠.early){s0:St}
  (hQ:∀ s a,a.tmps.size=N->(∀ t,dc σ s (a.tmps.getD t aj) (match idx t with|some j=>if j=last then .any else x j|none=>look φ t))->a.defers=[]->aJ σ s->cD σ s0 σ s->ft X T (G (b.aT a (.inRegion ops [last]::kk)) cs) s) :
  ∀ (f:Nat) (L:Array Bool),L.size=ops.size->(L.toList.filter (λb=>!b)).length<=f->¬L.getD last ae=ab ->
   (∀ i o,ops[i]?=aa o->L.getD i ae=ab->∀ e∈o.after,c7 e=ab->L.getD e.on ae=ab) ->
   ∀ (s:St) (a:Act),I0 N σ s (gb φ x idx L) a->a.defers=[]->aJ σ s->cD σ s0 σ s ->
   ∀ t,ft X T (G (b.aT a (.inRegion ops (Region.linearise.go .any ops f t L [])::kk)) cs) s:=by
 intro f
 induction f with
 |zero =>
  intro L hs hf l Q s a g F hh st t;exfalso;have hm:L[last]'(by have:=h.has;omega)∈L.toList:=by simp
  have Y:=h.has;cases hb:L[last]'(by omega) with
  |true=>exact l (by simp[dG,fR (by omega:last<L.size),hb])
  |false =>
   have:L[last]'(by omega)∈L.toList.filter (λb=>!b):=mO.2 ⟨hm,by grind⟩
   grind
 |succ f ih =>
  intro L hs hf l Q s a g F hh st t;rw[oZ];cases H:(bc .any ops L)[t % (bc .any ops L).length]? with
  |none =>
   exfalso;have hr:bc .any ops L=[]:=by
    cases hr:bc .any ops L with
    |nil=>rfl
    |cons y ys =>
     grind [Nat.mod_lt]
   have J:∀ i,i<ops.size->L.getD i ae=ab:=by
    intro i
    induction i using Nat.strongRecOn with
    |_ i ihi =>
     intro hi;cases hb:L.getD i ae with
     |true=>rfl
     |false =>
      have hm:i∈bc .any ops L:=mem_ready.2 ⟨ops[i],fR hi,by
       grind,λe U B=>by
       have:=h.back i _ (fR hi) e U B
       grind⟩
      grind
   exact l (J last h.has)
  |some i =>
   have hi:=bU H;obtain⟨o,C,ZP,QW⟩:=mem_ready.1 hi;have Y:i<ops.size:=(ia.1 C).1;have I:¬L.getD i ae=ab:=by
    grind
   by_cases A:i=last
   .subst A;have w:Region.linearise.go .any ops f (t / (bc .any ops L).length) (L.setIfInBounds i ab) []=[]:=by
     refine B7 λj hj=>?_
     have hj2:(L.setIfInBounds i ab).getD j ae=ab:=by
      rw[ez (by omega)]
      by_cases e:j=i
      .grind
      .obtain⟨ed,U,B,rfl⟩:=h.Wi o C j hj e
       grind
     grind
    simp only[w];refine hQ s a g.size (λt=>?_) F hh st
    have:=g.slot t;unfold gb at this;cases k:idx t with
    |none=>grind
    |some j =>
     simp only[k] at this ⊢;obtain⟨oj,u,_⟩:=h.xI _ _ k
     by_cases e:j=i
     .rw[bd e];trivial
     .rw[aY e];obtain⟨ed,U,B,rfl⟩:=h.Wi o C j (ia.1 u).1 e
      grind
   have r:(L.setIfInBounds i ab).size=ops.size:=by grind
   have p:((L.setIfInBounds i ab).toList.filter (λb=>!b)).length<=f:=by
    have h1:L.toList[i]?=aa ae:=by
     rw[zq,fR (by omega:i<L.size)]
     simpa[dG,fR (by omega:i<L.size)] using I
    grind [count_set]
   have K:∀ j Z,ops[j]?=aa Z->(L.setIfInBounds i ab).getD j ae=ab->∀ e∈Z.after,c7 e=ab->(L.setIfInBounds i ab).getD e.on ae=ab:=by
    grind [ez]
   have q:¬(L.setIfInBounds i ab).getD last ae=ab:=by
    grind [ez]
   have W:cx N σ s (c i) a:=g.Jy λt σ s v E=>h.Th i o C A t σ s v (by
    unfold gb at E;cases k:idx t with
    |none=>grind
    |some j =>
     simp only[k] at E ⊢;split
     .grind
     .trivial)
   have z:∀ (s':St) (v:ak),cD σ s σ s'->dc σ s' v (x i)->I0 N σ s' (gb φ x idx (L.setIfInBounds i ab)) (a.put o.dst v):=by
    intro s' v m E;cases F:o.dst with
    |none =>
     refine⟨g.size,g.defers.imp λ_ h1=>h1.mono m.ext,λt=>?_⟩
     have n:=(g.slot t).mono m.ext hh.len;simp only[Act.put];unfold gb at n ⊢;cases k:idx t with
     |none=>grind
     |some j =>
      simp only[k] at n ⊢;obtain⟨oj,u,M⟩:=h.xI _ _ k
      grind [ez]
    |some d =>
     obtain⟨R,O⟩:=h.Jz i o d C F;refine⟨by simp[Act.put,g.size],g.defers.imp λ_ h1=>h1.mono m.ext,λt=>?_⟩
     simp only[Act.put]
     by_cases e:d=t
     .subst e;have V:d<a.tmps.size:=by rw[g.size];exact O
      simp only[dG,vn V,fJ];unfold gb;simp only[R];rw[bd ((ez (by omega)).2 (.inl rfl))]
      exact E
     .have n:=(g.slot t).mono m.ext hh.len;simp only[dG] at n ⊢;rw[sR e];unfold gb at n ⊢;cases k:idx t with
      |none=>grind
      |some j =>
       simp only[k] at n ⊢;obtain⟨oj,u,M⟩:=h.xI _ _ k
       grind [ez]
   have:=h.one i o C A s a W hh b kk cs T i (Region.linearise.go .any ops f (t / (bc .any ops L).length) (L.setIfInBounds i ab) []) hb (by grind)
   simp only[oP] at this;exact this λv s' E S m=>ih _ r p q K s' _ (z _ _ m E) (by cases o.dst <;> exact F) S (st.trans m) _
theorem Ku.region(h:Ku X N ops φ σ x c idx last)(v:P.follows Departure.mixedOrders=ab){r:au->St->Prop}{b:aR}{kk:List Item}{cs:List aR}(hb:b.kind≠.early){s0:St}{a0:Act}{id:Nat}
  (y:cx N σ s0 φ a0) (p:a0.defers=[]) (n:aJ σ s0)
  (u:∀ s a,a.tmps.size=N->(∀ t,dc σ s (a.tmps.getD t aj) (match idx t with|some j=>if j=last then .any else x j|none=>look φ t))->a.defers=[]->aJ σ s->cD σ s0 σ s->ft X r (G (b.aT a (.inRegion ops [last]::kk)) cs) s) :
  ft X r (G (b.aT a0 (.code (.region id ops ab)::kk)) cs) s0:=by
 refine .next rfl λg f=>?_
 have f:=X.ik f;have e:=n.rely f;have m:=y.rely f n;have k:Step σ g σ { g with w:={ g.w with drawn:=g.w.drawn+1 } }:=Step.same rfl rfl rfl rfl;have l:aJ σ { g with w:={ g.w with drawn:=g.w.drawn+1 } }:=e.same rfl;have q:=f.stepW.trans (k.oG e);refine⟨_,{ g with w:={ g.w with drawn:=g.w.drawn+1 } },#[],lR,⟨⟨σ,σ,e,l,k⟩,.nil⟩,?_⟩;simp only[Region.schedule,v,Bool.true_or,cu];refine h.arr hb (s0:=s0) u ops.size _ (by simp) (by simp) ?_ ?_ _ a0 ?_ p l q _
 .simp[dG,mM];split <;> simp
 .intro i o A hi;simp[dG,mM] at hi;split at hi <;> simp at hi
 .have d:=m.mono (k.oG e) e.len;refine⟨d.size,d.defers,λt=>?_⟩
  unfold gb;cases z:idx t with
  |none=>exact d.slot t
  |some j =>
   simp only;rw[aY]
   .exact d.slot t
   .simp[dG,mM];split <;> simp
end
end
section
open Go.Conc Go.RowKit Go.Conc.Lib Go.ConcR.Gen
open Go.ConcN (WgLive Has RW DWs AtR0 EvW)
open Go.ConcN.Gen
open Go.ConcR (KK WgAt stA smA rd wr mk DC0 Payload)
section
variable {P:aq}{R:az->az->Prop}{D:az->az->Array Event->Prop}{Stop A:au->az->Prop}
def Goes.never(b:∀ w,R w w)(f:∀ g w,Stop g w->∃ g' e,aK P ae g w=.go g' w #[e])(d:∀ n g w,A g w->¬Goes P ae R D Stop n g w) :
  ∀ (m n:Nat) (g:au) (w:az),Goes P ae R DC0 A m g w->¬Goes P ae R D Stop n g w
 |0,n,g,w,h,k=>d n g w (h w (b w)) k
 |m+1,n,g,w,h,k=>by
  rcases h with h|⟨_,h⟩
  .exact d n g w (h w (b w)) k
  .have h1:=h w (b w);cases a:aK P ae g w with
   |go g' w' es =>
    rw[a,goes_go] at h1;obtain⟨⟨rfl,rfl⟩,h2⟩:=h1;have no:¬Stop g w':=λj=>by
     obtain⟨g2,e,i⟩:=f g w' j;rw[i] at a;simp at a
    cases n with
    |zero=>exact no (k w' (b w'))
    |succ n =>
     rcases k with k|⟨_,k⟩
     .exact no (k w' (b w'))
     .have k1:=k w' (b w');rw[a,goes_go] at k1;exact Goes.never b f d m n g' w' h2 k1.2
   |_=>rw[a] at h1;exact h1.elim
def Goes.meet(d:∀ w,R w w)(i:∀ g w,Stop g w->∃ g' e,aK P ae g w=.go g' w #[e])(b:∀ n g w,A g w->Goes P ae R D Stop n g w->∀ w1,R w w1->Stop g w1) :
  ∀ (m n:Nat) (g:au) (w:az),Goes P ae R DC0 A m g w->Goes P ae R D Stop n g w->Goes P ae R DC0 Stop m g w
 |0,n,g,w,h,k=>b n g w (h w (d w)) k
 |m+1,n,g,w,h,k=>by
  rcases h with h|⟨f,h⟩
  .exact .inl (b n g w (h w (d w)) k)
  .refine .inr ⟨f,λw1 hr=>?_⟩
   have h1:=h w1 hr;cases a:aK P ae g w1 with
   |go g' w' es =>
    rw[a,goes_go] at h1;rw[goes_go];obtain⟨⟨rfl,rfl⟩,h2⟩:=h1;have no:¬Stop g w':=λf=>by
     obtain⟨g2,e,j⟩:=i g w' f;rw[j] at a;simp at a
    refine⟨⟨rfl,rfl⟩,?_⟩;cases n with
    |zero=>exact absurd (k w' hr) no
    |succ n =>
     rcases k with k|⟨_,k⟩
     .exact absurd (k w' hr) no
     .have k1:=k w' hr;rw[a,goes_go] at k1;exact Goes.meet d i b m n g' w' h2 k1.2
   |_=>rw[a] at h1;exact h1.elim
end
variable [Payload] {L:WgLink}{P:aq}{Wg C n Low x:Nat}{val:ak}{c:aR}{cs:List aR}
def StK(P:aq)(g:au)(_:az):Prop:=∃ g3,∀ w,aK P ae g w=.go g3 w #[mk .disable]
def StR(P:aq)(L:WgLink)(Wg C n Low x:Nat)(val:ak)(g:au)(w:az):Prop :=
 (WgLive L.tWg Wg w/\Has C (x-1) val w)/\∃ g2,(∀ w,aK P ae g w=.go g2 w #[mk (.releaseMerge (stA Wg))])/\∀ w,WgLive L.tWg Wg w/\Has C (x-1) val w->∃ m,Goes P ae (RW L.tWg Wg C n Low (x-1)) DC0 (StK P) m g2 w
set_option maxRecDepth 100000 in
def MY(H:WgLib P L)(w:az)(a:WgLive L.tWg Wg w/\Has C (x-1) val w) :
  Goes P ae (RW L.tWg Wg C n Low (x-1)) DC0 (StR P L Wg C n Low x val) 23 (G ((baseD L.done).at ⟨#[.pointer (aa ⟨Wg,0,af⟩),aj,aj,aj],[]⟩ [.code (body_done L)]) (c::cs)) w:=by
 lib_facts
 simp only[body_done,body_add,doneFn,addFn,fJ]
 u_reg kn_rely a
 u_op kn_rely a
 u_in kn_rely a
 refine goes_call rfl rfl (by k_ne) rfl H.f_add (nm_add L) rfl ⟨by u_nil,?_⟩
 walk_nrmf addFn
 repeat (u_c aD kn_rely a)
 u_cond ab kn_rely a
 repeat (u_c aD kn_rely a)
 u_reg kn_rely a
 u_op kn_rely a
 u_op kn_rely a
 u_c aA kn_rely a
 repeat (u_c aD kn_rely a)
 u_cond ab kn_rely a
 u_reg kn_rely a
 u_op kn_rely a
 u_conv H.underlying_tWgP H.room_tWg (Go.ConcN.Gen.WgLive.cell0 a.1).choose_spec kn_rely a
 refine Goes.stop (λd b=>?_)
 replace a:=kn_rely a b
 clear b;refine⟨a,_,λw=>stepG_markAt .releaseMerge (by simp) rfl rfl (by k_ne) rfl H.f_relMerge (x_relMerge_n L) (x_relMerge_b L) (x_relMerge_x L) (x_relMerge_f L) (by simp[Act.eval,stA]),λw a=>⟨10,?_⟩⟩
 walk_nrm
 u_c aA kn_rely a
 repeat (u_c aD kn_rely a)
 u_reg kn_rely a
 exact Goes.stop λd b=>⟨_,λw=>stepG_mark0 .disable (by simp) rfl rfl (by k_ne) rfl H.f_disable (x_disable_n L) (x_disable_b L) (x_disable_x L) (x_disable_f L)⟩
def UN(H:WgLib P L){u:Nat}(f:c.mode=.returning)(v:QuitsD P u 0 (G c cs))(w:az)(d:WgLive L.tWg Wg w/\Has C (x-1) val w) :
  Goes P ae (RW L.tWg Wg C n Low (x-1)) DC0 (AtR0 P L.tWg Wg C n Low x val) 23 (G ((baseD L.done).at ⟨#[.pointer (aa ⟨Wg,0,af⟩),aj,aj,aj],[]⟩ [.code (body_done L)]) (c::cs)) w:=by
 have t:=doneN (Own:=λ_ _=>False) (Rd:=λ_ _=>False) (Low:=Low) (n:=n) H f v w d
 have l:∀ g w,AtR0 P L.tWg Wg C n Low x val g w->∃ g' e,aK P ae g w=.go g' w #[e]:=λg w h=>by
  obtain⟨_,_,g',i,_⟩:=h;exact⟨g',_,i⟩
 have s:(mk (.releaseMerge (stA Wg)):Event)≠mk .disable:=by simp[mk]
 refine Goes.meet (λw=>.refl w) l ?_ _ _ _ _ (MY H w d) t
 intro j g w h k w1 hr;obtain⟨d,g2,i,z⟩:=h;have a:AtR0 P L.tWg Wg C n Low x val g w1∨∃ r,Goes P ae (RW L.tWg Wg C n Low (x-1)) (DWs Wg (λ_ _=>False) (λ_ _=>False) C n x) (AtR0 P L.tWg Wg C n Low x val) r g2 w1:=by
  cases j with
  |zero=>exact .inl (k w1 hr)
  |succ j =>
   rcases k with k|⟨_,k⟩
   .exact .inl (k w1 hr)
   .have k1:=k w1 hr;rw[i w1,goes_go] at k1;exact .inr ⟨j,k1.2⟩
 rcases a with h|⟨r,h⟩
 .exact h
 .exfalso;obtain⟨m,y⟩:=z w1 (kn_rely d hr);refine Goes.never (λw=>.refl w) l ?_ _ _ _ _ y h
  rintro q g4 w4 ⟨g5,o⟩ k;have b:∀ w,¬AtR0 P L.tWg Wg C n Low x val g4 w:=λw B=>by
   obtain⟨_,_,g6,p,_⟩:=B;rw[o w] at p;simp[mk] at p
  cases q with
  |zero=>exact b w4 (k w4 (.refl w4))
  |succ q =>
   rcases k with k|⟨_,k⟩
   .exact b w4 (k w4 (.refl w4))
   .have k1:=k w4 (.refl w4);rw[o w4,goes_go] at k1;have:=(k1.1.2 _ (Array.mem_singleton.2 rfl)).2.1;exact this rfl
end
end Go.AM
namespace Go.AM.R1
section
open Go.Proofs Go.Conc Go.Conc.Lib
open Go.ConcN (WgLive PayAt Has RW AtR0)
open Go.ConcR (KK WgAt stA smA rd wr mk Payload DC0)
instance pay:Payload:=⟨142⟩
def l6(f:Int):dk:=λargs σ=>match args,σ with
 |[.e (.one (.c (.int .i64 k))),g,.e (.one (.c (.int .i64 n)))],[]=>match kR 2 g with
  |none=>af
  |some (d,b)=>aa (Wk (cU k (cP.list d b) n),[],[cP.fits d b,k=f])
 |_,_=>af
noncomputable def Qh:Code:=(Tryz.f75.body).getD .skip
noncomputable def KU:Array aw:=match Qh with|.seq (.region _ o _) _=>o|_=>#[]
noncomputable def KV:Array aw:=match Qh with|.seq _ (.region _ o _)=>o|_=>#[]
def KW:Tryz.f75.body=aa (.seq (.region 0 KU ae) (.region 1 KV ab)):=by kernel_rfl
def oW(d:Option Nat)(op:Op)(ty:ar)(b:Array Edge):aw:={ dst:=d,op:=op,type:=ty,pos:= "l12_snap.go:82",after:=b,guard:=af }
def uF:List aw:=[oW (aa 6) (.load 129 (.tmp 4)) 129 #[],oW (aa 7) (.load 3 (.tmp 5)) 3 #[],oW (aa 8) (.load 3 (.tmp 1)) 3 #[],oW (aa 9) (.load 23 (.tmp 2)) 23 #[],oW (aa 10) (.load 3 (.tmp 3)) 3 #[],
 oW (aa 11) (.call { callee:=.value (.func 77),args:=#[.tmp 8,.tmp 9,.tmp 10],argTypes:=#[3,23,3] }) 142 #[⟨2,.data⟩,⟨3,.data⟩,⟨4,.data⟩],
 oW (aa 12) (.indexAddr 129 (.tmp 6) (.tmp 7)) 0 #[⟨0,.data⟩,⟨1,.data⟩,⟨0,.phase⟩,⟨1,.phase⟩,⟨2,.phase⟩,⟨3,.phase⟩,⟨4,.phase⟩,⟨5,.phase⟩],
 oW af (.store 142 (.tmp 12) (.tmp 11)) 0 #[⟨6,.data⟩,⟨5,.data⟩,⟨5,.chain⟩,⟨0,.phase⟩,⟨1,.phase⟩,⟨2,.phase⟩,⟨3,.phase⟩,⟨4,.phase⟩,⟨5,.phase⟩]]
def Ow:KV=uF.toArray:=by kernel_rfl
def oc{i:Nat}{o:aw}(h:uF[i]?=aa o):i<8:=(cr.1 h).1
section
variable (k:Int)(ps:List bw) (a:Int)(n x C:Nat)
def UL(b:ak):Fr:=[(0,.e (.one (.v b))),(1,.e (.one (.c (.rp [.int .i64 k])))),(2,.e (.one (.c (.rp [.sl ae 2 ps.length (cP.fn ps)])))),(3,.e (.one (.c (.rp [.int .i64 a])))),(4,.e (.one (.c (.rp [.val (.slice (aa ⟨C,0,af⟩) n n)])))),(5,.e (.one (.c (.rp [.int .i64 x]))))]
def xW:Nat->D
 |0=>.e (.one (.v (.slice (aa ⟨C,0,af⟩) n n)))
 |1=>dI x
 |2=>dI k
 |3=>cP.sl ps
 |4=>dI a
 |5=>Wk (cU k ps a)
 |6=>.e (.one (.v (.pointer (aa ⟨C,x*2,af⟩))))
 |_=>.any
def EB:Nat->Option Nat
 |6=>aa 0|7=>aa 1|8=>aa 2|9=>aa 3|10=>aa 4|11=>aa 5|12=>aa 6|_=>af
def frW(b:ak):Nat->Fr
 |5=>[(8,dI k),(9,cP.sl ps),(10,dI a)]
 |6=>[(6,.e (.one (.v (.slice (aa ⟨C,0,af⟩) n n)))),(7,dI x)]
 |_=>UL k ps a n x C b
end
def Ox{X:Cx ah}{n x C:Nat}(g:x<n):OA X 13 uF (oW (aa 12) (.indexAddr 129 (.tmp 6) (.tmp 7)) 0 #[⟨0,.data⟩,⟨1,.data⟩,⟨0,.phase⟩,⟨1,.phase⟩,⟨2,.phase⟩,⟨3,.phase⟩,⟨4,.phase⟩,⟨5,.phase⟩]) [(6,.e (.one (.v (.slice (aa ⟨C,0,af⟩) n n)))),(7,dI x)] [] (.e (.one (.v (.pointer (aa ⟨C,x*2,af⟩))))) []:=by
 refine .md (λ_ _ _ _=>dv rfl) (bH.quiet λs ρ l f=>?_)
 have c:=f (.tmp 6);have d:=f (.tmp 7);have i:b5 [(6,D.e (.one (.v (.slice (aa ⟨C,0,af⟩) n n)))),(7,dI x)] (.tmp 6)=.e (.one (.v (.slice (aa ⟨C,0,af⟩) n n))):=rfl;have j:b5 [(6,D.e (.one (.v (.slice (aa ⟨C,0,af⟩) n n)))),(7,dI x)] (.tmp 7)=dI x:=rfl;rw[i] at c;rw[j] at d;have c:=Rd.fZ c;have d:=fy d;generalize b:ρ (.tmp 7)=vy at d;cases d;have h:=(tok 129 i129 rfl).run_underlying (w:=s.w);refine⟨.pointer (aa ⟨C,x*2,af⟩),?_,Rd.val rfl,?_⟩
 .simp[ay,oW,c,b,Instr.indexAt,asIntOf,h,i129,(tok 142 i142 rfl).run_sizeOf,i142,dj,g]
 .simp[ay,oW,c,b,Instr.indexAt,asIntOf,h,i129,dj,g]
def UM{X:Cx ah}{k:Int}(m:dM X 77 (l6 k))(ps:List bw) (a:Int)(n x C:Nat)(w:x<n)(l:ak) :
  Ku X 13 uF.toArray (UL k ps a n x C l) [] (xW k ps a n x C) (frW k ps a n x C l) EB 7:=by
 have r:bD X [(77,l6 k)]:=bD.cons m bD.nil;have f:∀ (i:Nat) (o:aw) (φ:Fr) (d:D) (obs:List Prop),uF[i]?=aa o->FK tt [(77,l6 k)] [] uF φ [] o=aa (d,af,obs)->ag obs->OA X 13 uF o φ [] d [] :=
  λi o φ d obs _ h b=>en tok r h b
 refine⟨?_,?_,?_,?_,?_,?_,by decide⟩
 .intro i o b e p _;simp only[iJ] at b;have hi:=oc b
  match i,hi with
  |0,_|1,_|2,_|3,_|4,_|5,_|6,_|7,_ =>
   cases b;simp[oW] at p
   try (rcases p with rfl|rfl|rfl|rfl|rfl|rfl|rfl|rfl|rfl <;> decide)
   try (rcases p with rfl|rfl|rfl <;> decide)
 .intro i o d b q;simp only[iJ] at b;have hi:=oc b
  match i,hi with
  |0,_|1,_|2,_|3,_|4,_|5,_|6,_|7,_ =>
   cases b;cases q
   try exact⟨rfl,by decide⟩
 .intro d i h;unfold EB at h;split at h <;> cases h <;> exact⟨_,rfl,rfl⟩
 .intro i o b g;simp only[iJ] at b;have hi:=oc b
  match i,hi with
  |0,_=>cases b;exact f 0 _ _ _ _ rfl rfl av
  |1,_=>cases b;exact f 1 _ _ _ _ rfl rfl av
  |2,_=>cases b;exact f 2 _ _ _ _ rfl rfl av
  |3,_=>cases b;exact f 3 _ _ _ _ rfl rfl av
  |4,_=>cases b;exact f 4 _ _ _ _ rfl rfl av
  |5,_ =>
   cases b;have:=f 5 _ (frW k ps a n x C l 5) _ _ rfl rfl (by simp[ag,cP.aH])
   rw[cP.list_fn] at this;exact this
  |6,_=>cases b;exact Ox w
  |7,_=>grind
 .intro i o b g t σ s v c;simp only[iJ] at b;have hi:=oc b
  match i,hi with
  |0,_|1,_|2,_|3,_|4,_ =>
   match t with
   |0|1|2|3|4|5=>exact c
   |t+6=>trivial
  |5,_ =>
   cases b
   match t with
   |8=>exact(show dc σ s v (xW k ps a n x C 2) from by simpa[EB,oW,c7,Region.binds] using c)
   |9=>exact(show dc σ s v (xW k ps a n x C 3) from by simpa[EB,oW,c7,Region.binds] using c)
   |10=>exact(show dc σ s v (xW k ps a n x C 4) from by simpa[EB,oW,c7,Region.binds] using c)
   |0|1|2|3|4|5|6|7=>trivial
   |t+11=>trivial
  |6,_ =>
   cases b
   match t with
   |6=>exact(show dc σ s v (xW k ps a n x C 0) from by simpa[EB,oW,c7,Region.binds] using c)
   |7=>exact(show dc σ s v (xW k ps a n x C 1) from by simpa[EB,oW,c7,Region.binds] using c)
   |0|1|2|3|4|5=>trivial
   |t+8=>trivial
  |7,_=>grind
 .intro o b j u g;simp only[iJ] at b;cases b
  match j,u with
  |0,_=>exact⟨⟨0,.phase⟩,by simp[oW],rfl,rfl⟩
  |1,_=>exact⟨⟨1,.phase⟩,by simp[oW],rfl,rfl⟩
  |2,_=>exact⟨⟨2,.phase⟩,by simp[oW],rfl,rfl⟩
  |3,_=>exact⟨⟨3,.phase⟩,by simp[oW],rfl,rfl⟩
  |4,_=>exact⟨⟨4,.phase⟩,by simp[oW],rfl,rfl⟩
  |5,_=>exact⟨⟨5,.phase⟩,by simp[oW],rfl,rfl⟩
  |6,_=>exact⟨⟨6,.data⟩,by simp[oW],rfl,rfl⟩
  |7,_=>grind
noncomputable def uG:aR:={ (default:aR) with fn:=Tryz.prog.funcs.size,defers:=[],mode:=.panicking [goexitEntry] }
def wI(vs:Array ak):Deferred:={ target:=.fn (.func 75) vs,args:=#[] }
def Hx(v0 v1 v2 v3 v4 v5:ak)(w:az):aK ah ae (born ah (wI #[v0,v1,v2,v3,v4,v5])) w =
  .go (G ((baseD 75).at ⟨#[v0,v1,v2,v3,v4,v5,aj,aj,aj,aj,aj,aj,aj],[]⟩ [.code (.seq (.region 0 KU ae) (.region 1 KV ab))]) [uG]) w #[]:=by
 have d:=KW;have c:Tryz.f75.ntmps=13:=by kernel_rfl
 have b:¬Tryz.f75.name= "runtime.NumGoroutine":=by
  have:(Tryz.f75.name== "runtime.NumGoroutine")=ae:=by kernel_rfl
  grind
 simp[born,wI,aK,unwind,callDeferred,invoke,callFunc,Tryz.func75,d,c,b,seen,GStep.after,G,Frame.enter,Frame.at,baseD,uG]
end
section
open Go.Proofs
variable {X:Cx ah}
abbrev pk(ps:List bw)(i:Nat):bw:=ps.getD i (0,[])
def KO{k n:Int}{ps:List bw}{i:Nat}{r:Bs}(hi:i<ps.length)(h:dA k (pk ps i) n=aa r)(a:∀ j,j<i->dA k (pk ps j) n=af):cU k ps n=aa r:=by
 unfold cU
 induction ps generalizing i with
 |nil=>simp at hi
 |cons p ps ih =>
  cases i with
  |zero=>grind
  |succ i =>
   have b:=a 0 (by omega)
   grind
def Eu{k n:Int}{ps:List bw}(a:∀ j,j<ps.length->dA k (pk ps j) n=af):cU k ps n=af:=by
 unfold cU;rw[List.findSome?_eq_none_iff];intro p b;obtain⟨j,c,rfl⟩:=dH b
 grind
theorem BD.V0{P:aq}{φ:Fr}{σ:List aV}{T:List (Nat×TI)}(g:dg P T){fn:Func}{c:Nat}{res:D}{σ':List aV}(ks:List Nat){ps:List Prop}(h:NA T fn.results.toList ks φ res=aa ps)(i:ag ps)(k:kL ks σ=aa σ')(a:lg σ'=ab)(hn:eg ks=ab)(f:∀ j,j<c->ks[j]?=aa j) :
  BD P fn c res σ' .ret φ σ:=by
 refine⟨.inl rfl,ks,?_⟩;unfold NA at h;split at h
 .rename_i ds XL
  split at h
  .rename_i d e
   split at h
   .rename_i b
    exact⟨d,ps,BC.V0 g XL e,h,i,b,k,a,hn,f⟩
   .cases h
  .cases h
 .cases h
def fO{a:List Nat}:∀ j,j<0->a[j]?=aa j:=λ_ h=>absurd h (ji _)
def KP(b:dM X 219 ph) (k:Int)(ps:List bw) (n:Int)(f:ck k=ab):Ev X 77 [dI k,cP.sl ps,dI n] [] (Wk (cU k ps n)) []:=by
 refine Ev.ga Tryz.func77 rfl rfl rfl λm=>?_
 have l:=m.sl 1 rfl;have d:bD X [(137,Dw aI (Ho dK) aI (λk p n=>An (dA k p n)) λk _ _=>[ck k=ab])]:=.cons (RO b) .nil
 refine aC d [] 100 rfl av ?_;refine AK.bP 1 (λi=>i<=ps.length/\∀ j,j<i->dA k (pk ps j) n=af) (λi:Nat=>[(0,dI k),(2,dI n),(6,.e (.one (.ptr 0 0))),(11,cP.sl ps),(12,dI ps.length),(13,dI i)]) (λ_=>[.cells 142 [.c (.str []),.c (.bool ae)]]) (λi=>ps.length-i) 0 rfl ?_ rfl ?_ rfl ⟨by omega,by omega⟩ ?_
 .simp[ag.cat,ag,aP.same]
 .simp[ag.cat,ag]
 rintro i ⟨hi,a⟩
 by_cases h:i<ps.length
 .cases g:dA k (pk ps i) n with
  |some r =>
   refine aC d [(14,ab),(24,ab)] 100 rfl ?_ (AK.freeze 6 0 rfl rfl rfl (AK.eh ?_))
   .simp only[ag,bA,dK.list_fn];refine⟨?_,dK.aH _,f,by omega,by omega,cn (by omega)⟩
    grind
   .refine BD.V0 tok [] rfl ?_ rfl rfl rfl fO;rw[KO h g a];simp only[bA,dK.list_fn];have e:dA k ((ps.getD i cP.bE).1,(ps.getD i cP.bE).2) n=aa r:=g;rw[e];simp[ag.cat,ag]
  |none =>
   refine aC d [(14,ab),(24,ae)] 100 rfl ?_ (AK.aQ (i+1) rfl ?_ ?_ ?_ ?_)
   .simp only[ag,bA,dK.list_fn];refine⟨by simp only[bx];omega,?_,dK.aH _,f,by omega,by omega,cn (by omega)⟩
    grind
   .simp[ag.cat,ag,aP.same]
   .simp[ag.cat,ag]
   .grind
   grind
 .refine aC d [(14,ae)] 100 rfl (by simp[ag];omega) (AK.leaveD rfl rfl ?_)
  refine aC d [] 100 rfl av ?_;refine AK.freeze 6 0 rfl rfl rfl ?_;refine AK.iR tok [] rfl ?_ rfl rfl rfl fO;rw[Eu λj o=>a j (by omega)]
  simp[ag.cat,ag]
def RP(a:dM X 219 ph){k:Int}(c:ck k=ab):dM X 77 (l6 k):=by
 intro args σ res σ' obs h d;unfold l6 at h;split at h
 .rename_i k1 da n
  split at h
  .cases h
  .rename_i g f b
   cases h;obtain⟨e,rfl⟩:=d;exact(KP a _ _ n c).args λs vs=>cz.imp (λ_ r=>r) (cz.imp (λ_ r=>cP.jS b e r) (cz.imp (λ_ r=>r) (λ_ r=>r))) vs
 .cases h
def Hl:dk:=λargs σ=>match args,σ with
 |[.e (.one (.c (.str [46]))),.e (.one (.c (.int .i64 c)))],[]=>aa (dS (List.replicate c.toNat 46),[],[0<=c/\c<=3])
 |_,_=>af
def t239:dM X 239 (jZ aI (λn=>dI (cE n.toNat)) λn=>[0<=n/\n<=4000000]):=.ox λn h=>by
 have a:0<=n/\n<=4000000:=h;obtain⟨m,rfl⟩:∃ m:Nat,n=m:=⟨n.toNat,by omega⟩
 exact Cg (X:=X) m (by omega)
def KQ{n:Nat}(a:1<=n)(b:n<=8):n<=cE n/\cE n<=n+3:=by
 unfold cE;split
 .omega
 .split
  .omega
  .split <;> omega
def KR(a:dM X 238 Hl)(p:Bs):Ev X 219 [dS p] [] (dS (iG p)) []:=by
 refine Ev.bQ Tryz.func219 rfl λf=>?_
 have d:bD X [(218,jZ aS (λs=>dB (bG s)) λ_=>[]),(239,jZ aI (λn=>dI (cE n.toNat)) λn=>[0<=n/\n<=4000000]),(238,Hl)]:=.cons t218 (.cons t239 (.cons a .nil))
 by_cases b:bG p=ab
 .have c:=b;simp only[bG,bL,ba] at c;have e:=KQ c.1.1 c.1.2;refine aC d [(5,ae)] 100 rfl ?_ (AK.bn rfl ?_)
  .simp[ag,b,bx];omega
  .simp[ag,ag.cat,iG,b]
 .refine aC d [(5,ab)] 100 rfl ?_ (AK.bn rfl ?_)
  .simp[ag,b]
  .simp[ag,ag.cat,iG,b]
def UE(a:dM X 238 Hl):dM X 219 ph:=.ox λp _=>KR a p
def Om:Ev X 238 [dS [46],dI 0] [] (dS []) []:=by
 refine Ev.bQ Tryz.func238 rfl λa=>?_
 refine aX [(12,ab)] 100 rfl ?_ (AK.bn rfl ?_)
 .simp[ag]
 .simp[ag,ag.cat]
def On:Ev X 238 [dS [46],dI 1] [] (dS [46]) []:=by
 refine Ev.bQ Tryz.func238 rfl λa=>?_
 refine aX [(12,ae),(14,ab)] 100 rfl ?_ (AK.bn rfl ?_)
 .simp[ag]
 .simp[ag,ag.cat]
def UC(d:Ev X 238 [dS [46],dI 2] [] (dS [46,46]) [])(a:Ev X 238 [dS [46],dI 3] [] (dS [46,46,46]) []):dM X 238 Hl:=by
 intro args σ res σ' obs h b;unfold Hl at h;split at h
 .rename_i c
  cases h;have:c=0∨c=1∨c=2∨c=3:=by have:0<=c/\c<=3:=b;omega
  rcases this with rfl|rfl|rfl|rfl
  .exact Om
  .exact On
  .exact d
  .exact a
 .cases h
end
section
open Go.Proofs
def Ap{P:aq}{o:aw}{m:an->D}{σ:List aV}{op:BinOp}{t ty:ar}{x y:an}(h:o.op=.binOp op t x y ty){e:ar}(C:P.underlying t=aa (.pointer e)){b c:Bool}
  (A:∀ s u v,aJ σ s->dc σ s u (m x)->dc σ s v (m y)->∃ p q,u=.pointer p/\v=.pointer q/\(p==q)=b/\(eqGuard op t x y u v).run P s.w=.ok () s.w/\(∀ es,(eqGuard op t x y u v).events P s.w es=es) /\
   (Op.equal t u v).run P s.w=.ok b s.w/\∀ es,(Op.equal t u v).events P s.w es=es)
  (n:lr op b=aa c):bH P o m σ (.e (.one (.c (.bool c)))) σ:=by
 refine .quiet λs ρ z r=>?_
 obtain⟨p,q,g,f,B,j,k,i,l⟩:=A s _ _ z (r x) (r y);rw[g,f] at j i;have a:=k #[];have d:=l #[];rw[g,f] at a d;cases op <;> simp only[lr,reduceCtorEq,di] at n
 .subst n;exact⟨.bool b,by simp[ay,h,g,f,j,binOp,i],Rd.bool,by simp[ay,h,g,f,j,a,binOp,i,d]⟩
 .subst n;exact⟨.bool (!b),by simp[ay,h,g,f,j,binOp,i],Rd.bool,by simp[ay,h,g,f,j,a,binOp,i,d]⟩
def Kx{P:aq}{o:aw}{g:an->D}{σ:List aV}{op:BinOp}{t ty:ar}{x:an}(h:o.op=.binOp op t x (.const (.pointer af)) ty){e:ar}(i:P.underlying t=aa (.pointer e)){c:Bool}
  (l:g x=.e (.one (.c .km))) (j:g (.const (.pointer af))=.e (.one (.c .km))) (m:lr op ab=aa c):bH P o g σ (.e (.one (.c (.bool c)))) σ:=by
 refine Ap h i (b:=ab) ?_ m;intro s u v _ a d;rw[l] at a;rw[j] at d
 replace a:=fy a
 replace d:=fy d
 cases a;cases d;have k:(Op.equal t (.pointer af) (.pointer af)).run P s.w=.ok ab s.w:=by
  show (Op.equalIn (9999+1) t _ _).run P s.w=_;unfold Op.equalIn;simp[underlying,i]
 have f:∀ es,(Op.equal t (.pointer af) (.pointer af)).events P s.w es=es:=λes=>by
  show (Op.equalIn (9999+1) t _ _).events P s.w es=es;unfold Op.equalIn;simp[underlying,i]
 exact⟨af,af,rfl,rfl,rfl,by cases op <;> simp[eqGuard],λes=>by cases op <;> simp[eqGuard],k,f⟩
def RF{P:aq}{o:aw}{f:an->D}{σ:List aV}{op:BinOp}{t ty:ar}{x:an}(h:o.op=.binOp op t x (.const (.pointer af)) ty){e:ar}(g:P.underlying t=aa (.pointer e)){c:Bool}{l off:Nat}
  (m:f x=.e (.one (.ptr l off))) (j:f (.const (.pointer af))=.e (.one (.c .km))) (n:lr op ae=aa c):bH P o f σ (.e (.one (.c (.bool c)))) σ:=by
 refine Ap h g (b:=ae) ?_ n;intro s u v _ i a;rw[m] at i;rw[j] at a
 replace a:=fy a
 cases a;obtain⟨_,L,b,_,_,rfl⟩:=(i:gx σ s u (.ptr l off));have k:(Op.equal t (.pointer (aa ⟨b,off,af⟩)) (.pointer af)).run P s.w=.ok ae s.w:=by
  show (Op.equalIn (9999+1) t _ _).run P s.w=_;unfold Op.equalIn;simp[underlying,g]
 have d:∀ es,(Op.equal t (.pointer (aa ⟨b,off,af⟩)) (.pointer af)).events P s.w es=es:=λes=>by
  show (Op.equalIn (9999+1) t _ _).events P s.w es=es;unfold Op.equalIn;simp[underlying,g]
 exact⟨_,af,rfl,rfl,rfl,by cases op <;> simp[eqGuard],λes=>by cases op <;> simp[eqGuard],k,d⟩
def Oc{P:aq}{o:aw}{j:an->D}{σ:List aV}{op:BinOp}{t ty:ar}{x y:an}(h:o.op=.binOp op t x y ty){e:ar}(k:P.underlying t=aa (.pointer e)){n:Nat}(r:n≠0)
  (q:∀ w,(sizeOf e).run P w=.ok n w) (i:∀ w es,(sizeOf e).events P w es=es) {c:Bool} {l off:Nat}
  (B:j x=.e (.one (.ptr l off))) (z:j y=.e (.one (.ptr l off))) (C:lr op ab=aa c):bH P o j σ (.e (.one (.c (.bool c)))) σ:=by
 refine Ap h k (b:=ab) ?_ C;intro s u v _ m p;rw[B] at m;rw[z] at p;obtain⟨_,L,b,E,f,rfl⟩:=(m:gx σ s u (.ptr l off));obtain⟨_,F,G,d,a,rfl⟩:=(p:gx σ s v (.ptr l off));rw[E] at d;cases d;rw[f] at a;cases a;have A:(Op.equal t (.pointer (aa ⟨b,off,af⟩)) (.pointer (aa ⟨b,off,af⟩))).run P s.w=.ok ab s.w:=by
  show (Op.equalIn (9999+1) t _ _).run P s.w=_;unfold Op.equalIn;simp[underlying,k,q,r,sameAddr]
 have g:∀ es,(Op.equal t (.pointer (aa ⟨b,off,af⟩)) (.pointer (aa ⟨b,off,af⟩))).events P s.w es=es:=λes=>by
  show (Op.equalIn (9999+1) t _ _).events P s.w es=es;unfold Op.equalIn;simp[underlying,k,q,i,r,sameAddr]
 exact⟨_,_,rfl,rfl,by simp,by cases op <;> simp[eqGuard],λes=>by cases op <;> simp[eqGuard],A,g⟩
end
end Go.AM.R1
namespace Go.AM
section
open Go.Conc (G)
def rZ{P:aq}(X:Cx P)(N:Nat)(all:List aw)(o:aw)(φ:Fr)(σ:List aV){ι:Type}(x:ι->D)(σ':ι->List aV):Prop :=
 ∀ s a,cx N σ s φ a->aJ σ s->∀ (b:aR) (k:List Item) (cs:List aR) (S:au->St->Prop) (i:Nat) (rest:List Nat),b.kind≠.early->all.toArray[i]?=aa o ->
  (∀ j v s',dc (σ' j) s' v (x j)->aJ (σ' j) s'->cD σ s (σ' j) s'->ft X S (G (b.aT (a.put o.dst v) (.inRegion all.toArray rest::k)) cs) s')->ft X S (G (b.aT a (.inRegion all.toArray (i::rest)::k)) cs) s
def Ac:List aw->Nat->(Nat->D)->List (Option Nat×D)
 |[],_,_=>[]
 |o::r,i,x=>(o.dst,x i)::Ac r (i+1) x
def wo{x:Nat->D}:∀ {l:List aw}{k j:Nat},(Ac l k x)[j]?=(l[j]?).map λo=>(o.dst,x (k+j))
 |[],k,j=>by simp[Ac]
 |o::r,k,0=>by simp[Ac]
 |o::r,k,j+1=>by
  simp only[Ac,mN];rw[wo,show k+1+j=k+(j+1) by omega]
def mZ(all:List aw)(φ:Fr)(x:Nat->D)(i:Nat):Fr:=jl (λj=>fK j (bS (all.getD i fV).after.toList)) 0 (Ac all 0 x) (uC all φ)
def M8(all:List aw)(φ:Fr)(x:Nat->D):Fr:=jl (λ_=>ab) 0 (Ac all 0 x) (uC all φ)
def n5(N:Nat):List aw->Bool
 |[]=>ab
 |o::r=>match gy N o.dst with|true=>n5 N r|false=>ae
def yt{N:Nat}:∀ {l:List aw},n5 N l=ab->∀ (i:Nat)(o:aw),l[i]?=aa o->gy N o.dst=ab
 |[],_,i,o,h=>by grind
 |p::r,h,i,o,hi=>by
  simp only[n5] at h;split at h
  .rename_i a
   cases i with
   |zero=>grind
   |succ i=>exact yt h i o (by grind)
  grind
def r5:List aw->Nat->Bool
 |[],_=>ab
 |o::r,i=>match Tj i (bS o.after.toList) with|true=>r5 r (i+1)|false=>ae
def B5:∀ {l:List aw}{k:Nat},r5 l k=ab->∀ (i:Nat)(o:aw),l[i]?=aa o->∀ e∈bS o.after.toList,e<k+i
 |[],_,_,i,o,h=>by grind
 |p::r,k,h,i,o,hi=>by
  simp only[r5] at h;split at h
  .rename_i b
   cases i with
   |zero=>simp at hi;subst hi;exact DY b
   |succ i=>intro e a;have:=B5 h i o (by grind) e a;omega
  grind
def Ad(pre:Nat->Bool):List Nat->Bool
 |[]=>ae
 |e::r=>match pre e with|true=>Ad pre r|false=>ab
theorem yu{pre:Nat->Bool}:∀ {l:List Nat},Ad pre l=ab->∃ e∈l,pre e=ae
 |[],h=>by cases h
 |e::r,h=>by
  simp only[Ad] at h;split at h
  .obtain⟨a,b,c⟩:=yu h;grind
  grind
def xO(pre:Nat->Bool)(m:Nat):List aw->Nat->Bool
 |[],_=>ab
 |o::r,i=>match pre i with
  |true=>xO pre m r (i+1)
  |false=>match aG i m with
   |true=>xO pre m r (i+1)
   |false=>match Ad pre (bS o.after.toList) with|true=>xO pre m r (i+1)|false=>ae
theorem F3{pre:Nat->Bool}{m:Nat}:∀ {l:List aw}{k:Nat},xO pre m l k=ab->∀ (i:Nat)(o:aw),l[i]?=aa o->pre (k+i)=ae->k+i≠m->∃ e∈bS o.after.toList,pre e=ae
 |[],_,_,i,o,h=>by grind
 |p::r,k,h,i,o,hi=>by
  intro b c;simp only[xO] at h;cases i with
  |zero =>
   simp at hi;subst hi;simp only[iO] at b c
   grind [Nat.eq_of_beq_eq_true,yu]
  |succ i =>
   have a:xO pre m r (k+1)=ab:=by
    grind
   exact F3 a i o (by grind) (by grind) (by omega)
section
variable {P:aq}{X:Cx P}{N:Nat}{ops:Array aw}{φ:Fr}{σ:List aV}{idx:Nat->Option Nat}
def N3{x:Nat->D}{s:St}{a:Act}{L:Array Bool}{i:Nat}{o:aw}(c:∀ t σ s v,dc σ s v (match idx t with|some j=>(if ∃ e∈o.after,c7 e=ab/\e.on=j then x j else .any)|none=>look φ t)->dc σ s v (look (mZ ops.toList φ x i) t))
  (b:I0 N σ s (gb φ x idx L) a) (f:∀ e∈o.after,c7 e=ab->L.getD e.on ae=ab):cx N σ s (mZ ops.toList φ x i) a:=b.Jy λt σ s v g=>c t σ s v (by
 unfold gb at g;cases d:idx t with
 |none=>grind
 |some j =>
  simp only[d] at g ⊢;split
  .grind
  .trivial)
def Hf{x y:Nat->D}{σ2:List aV}{s s':St}{a:Act}{v:ak}{L:Array Bool}{i:Nat}{o:aw}(c:∀ d,o.dst=aa d->idx d=aa i/\d<N)(p:∀ d j,idx d=aa j->∃ o,ops[j]?=aa o/\o.dst=aa d)
  (z:ops[i]?=aa o) (r:i<L.size) (w:∀ j,L.getD j ae=ab->y j=x j) (f:s.β.length=σ.length) (st:cD σ s σ2 s') (b:I0 N σ s (gb φ x idx L) a) (u:dc σ2 s' v (y i)):I0 N σ2 s' (gb φ y idx (L.setIfInBounds i ab)) (a.put o.dst v):=by
 have old:∀ t,idx t≠aa i->dc σ2 s' (a.tmps.getD t aj) (gb φ y idx (L.setIfInBounds i ab) t):=by
  intro t A;have k:=(b.slot t).mono st.ext f;unfold gb at k ⊢
  grind [ez]
 cases q:o.dst with
 |none =>
  refine⟨b.size,b.defers.imp λ_ l=>l.mono st.ext,λt=>?_⟩
  refine old t λh=>?_
  grind
 |some d =>
  obtain⟨m,g⟩:=c d q;refine⟨by simp[Act.put,b.size],b.defers.imp λ_ l=>l.mono st.ext,λt=>?_⟩
  simp only[Act.put]
  by_cases e:d=t
  .subst e;have n:d<a.tmps.size:=by rw[b.size];exact g
   simp only[dG,vn n,fJ];unfold gb;simp only[m];rw[bd ((ez r).2 (.inl rfl))];exact u
  .have:=old t (λh=>by
    grind)
   simp only[dG] at this ⊢
   grind
def Kg{back:∀ i o,ops[i]?=aa o->∀ e∈o.after,c7 e=ab->e.on<i}{L:Array Bool}(f:L.size=ops.size)(c:bc .any ops L=[]):∀ i,i<ops.size->L.getD i ae=ab:=by
 intro i
 induction i using Nat.strongRecOn with
 |_ i a =>
  intro hi;cases h:L.getD i ae with
  |true=>rfl
  |false =>
   have g:i∈bc .any ops L:=mem_ready.2 ⟨ops[i],fR hi,by
    grind,λe d b=>by
    grind⟩
   grind
def Ed{L:Array Bool}{t:Nat}(a:(bc .any ops L)[t % (bc .any ops L).length]?=af):bc .any ops L=[]:=by
 cases b:bc .any ops L with
 |nil=>rfl
 |cons y c =>
  grind [Nat.mod_lt]
theorem Ae{L:Array Bool}(d:L.size=ops.size)(e:(L.toList.filter (λb=>!b)).length<=0):∀ i,i<ops.size->L.getD i ae=ab:=by
 intro i hi;have c:L[i]'(by omega)∈L.toList:=by simp
 cases a:L[i]'(by omega) with
 |true=>simp[dG,fR (by omega:i<L.size),a]
 |false =>
  have:L[i]'(by omega)∈L.toList.filter (λb=>!b):=mO.2 ⟨c,by grind⟩
  grind
end
end
end Go.AM
