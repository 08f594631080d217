/- Part 3. No condition. -/
import Derived.Test.YtnfgfnpbmbalmaaGreatDoorA2
import Derived.Sort.LotD5
import Derived.Sort.Walk13a
import Derived.Conc.Beside
import Derived.Conc.CrowdRun
import Derived.Conc.WgGenN2
import Derived.Conc.WgGenN3
set_option linter.all false
set_option maxHeartbeats 8000000
open Go renaming Value → ak
open Option renaming some → aa
open Go renaming Program → aq
open Go renaming TypeId → ar
open Bool renaming true → ab
open Go renaming Goroutine → au
open Go renaming Frame → aR
open Go renaming Oper → aw
open Go renaming FuncId → aW
open Go.Region renaming wanted → bj
open Go renaming execOp → ay
open Go renaming Operand → an
open Option renaming none → af
open Bool renaming false → ae
open Go renaming undef → aj
open Go.World renaming cell? → a9
open List renaming getD_eq_getElem?_getD → ai
open Go.Sem renaming events_bind → aO
open Go.Result renaming evThen_ok → aU
open Go renaming World → az
open Go renaming stepG → aK
open List renaming range → bh
open Go.MemAct renaming ofEvent → aM
open Nat renaming beq → aG
open Nat renaming ble → bo
open Go.Region renaming ready → bd
open Go.Proofs.Tryz renaming prog → ah
open Go.Conc renaming stepG_seq → aE
open Go.Conc renaming stepG_region_end → aA
namespace Go.AM.R1
section
open Go.Proofs
variable {X:Cx ah}
def tS{p:Bs}{i:Nat}(h:i<p.length):codeOf (p.take (i+1))=27*codeOf (p.take i)+(cz p i-97) % 256+1:=by
 unfold codeOf;rw[j4,br h];simp only[nD,Option.toList_some,jl,List.foldl_nil,cz,ai,br h,fI]
def jS{p:Bs}(h:bH p=ab){i:Nat}(hi:i<=p.length):0<=codeOf (p.take i)/\codeOf (p.take i)<282429536481:=by
 simp only[bH,bL,ba] at h;obtain⟨c,a⟩:=wB (p.take i) 0 1 0 (λb d=>kP h.2 b (iJ d)) (by omega) (by omega) (by omega)
 have:=PW (n:=(p.take i).length) (by rw[List.length_take];omega)
 rw[Int.one_mul] at a;exact⟨c,Int.lt_of_lt_of_le a this⟩
def wC{p:Bs}{i:Nat}(h:i<p.length):p.getD i 0∈p:=by
 grind
abbrev tb2:List (Nat×dh):=[(41,jX aI (λk=>dB (ck k)) λ_=>[]),(218,jX aS (λs=>dB (bH s)) λ_=>[])]
def nY:bC X tb2:=.cons t41 (.cons t218 .nil)
abbrev dNm(n:Int):D:=.eJ [.one (.c (.int .i64 n)),.one (.c .nN)]
def Kz(k:Int)(p:Bs)(f:ck k=ab)(b:bH p=ab):Ev X 220 [dI k,dS p] [] (dNm (iZ k p)) []:=by
 refine Ev.bQ Tryz.func220 rfl λq=>?_
 have a:=b;simp only[bH,bL,ba] at a;have c:=f;simp only[ck,bL,ba] at c;refine aD nY [(8,ae),(13,ae)] 100 rfl (by simp[ag,f,b]) ?_
 refine AK.wc (λi=>i<=p.length) (λi:Nat=>[(0,dI k),(1,dS p),(6,dI (codeOf (p.take i))),(19,dI p.length),(20,dI i)]) (λ_=>[]) (λi=>p.length-i) 0 rfl (by simp[ag.cat,ag,codeOf]) (by omega) rfl ?_
 intro i hi
 by_cases h:i<p.length
 .have g:=jS b hi;have r:=jS b (i:=i+1) (by omega)
  have e:=tS h;refine aX [(21,ab)] 100 rfl ?_ (AK.again (i+1) rfl ?_ ?_ ?_ rfl)
  .simp only[ag,cy,bu];simp[-ai,h,cy];have j:=kP a.2 (p.getD i 0) (wC h);have d:97<=cz p i/\cz p i<=122:=by unfold cz;omega
   omega
  .have j:=kP a.2 (p.getD i 0) (wC h);have d:97<=cz p i/\cz p i<=122:=by unfold cz;omega
   have n:(cz p i-97) % 256=cz p i-97:=Int.emod_eq_of_lt (by omega) (by omega)
   rw[n] at e;simp[-ai,ag.cat,ag,cy,e]
  .show i+1<=p.length;omega
  grind
 .have e:i=p.length:=by omega
  subst e;have g:=yw b;refine aX [(21,ae)] 100 rfl (by simp[ag]) (AK.leave rfl rfl ?_)
  refine bk rfl ?_ (AK.bm rfl ?_)
  .rw[b6];have l:0<=codeOf p*(2*k+1):=Int.mul_nonneg g.1 (by omega)
   have o:codeOf p*(2*k+1)<=282429536481*199:=Int.mul_le_mul (by omega) (by omega) (by omega) (by omega)
   generalize codeOf p*(2*k+1)=m at l o;simp only[ag,bu];simp;omega
  .rw[b6];refine ag.cat.2 ⟨?_,ag.cat.2 ⟨rfl,av⟩⟩;show (_:Int)=_;rw[Int.mul_comm 7919 k];rfl
def t220:dG X 220 (p0 aI aS (λk p=>dNm (iZ k p)) λk p=>[ck k=ab,bH p=ab]):=.tb λk p h=>Kz k p h.1 h.2
def Rt{P:aq}{o:aw}{j:an->D}{σ:List aV}{op:BinOp}{t ty:ar}{x:an}(h:o.op=.binOp op t x (.const .nilIface) ty){c:Bool}{ms:Array (String×ar)}(m:P.underlying t=aa (.interface ms))
  (n:j x=.e (.one (.c .nN))) (p:j (.const .nilIface)=.e (.one (.c .nN)))
  (k:lq op ab=aa c):bF P o j σ (.e (.one (.c (.bool c)))) σ:=by
 refine .quiet λs ρ q l=>?_
 have g:=l x;have d:=l (.const .nilIface);rw[n] at g;rw[p] at d
 replace g:=fx g
 replace d:=fx d
 generalize a:ρ x=vx at g;generalize b:ρ (.const .nilIface)=vy at d;cases g;cases d;have i:(Op.equal t .nilIface .nilIface).run P s.w=.ok ab s.w:=by
  show (Op.equalIn (9999+1) t _ _).run P s.w=_;unfold Op.equalIn;simp[underlying,m]
 have f:∀ es,(Op.equal t .nilIface .nilIface).events P s.w es=es:=λes=>by
  show (Op.equalIn (9999+1) t _ _).events P s.w es=es;unfold Op.equalIn;simp[underlying,m]
 cases op <;> simp only[lq,reduceCtorEq,de] at k
 .subst k;exact⟨.bool ab,by simp[ay,h,a,b,eqGuard,binOp,i],Rd.bool,by simp[ay,h,a,b,eqGuard,binOp,i,f]⟩
 .subst k;exact⟨.bool ae,by simp[ay,h,a,b,eqGuard,binOp,i],Rd.bool,by simp[ay,h,a,b,eqGuard,binOp,i,f]⟩
def Hd(k:Int)(p:Bs) (n:Int)(b:ck k=ab)(a:bH p=ab):Ev X 192 [dI k,dS p,dI n] [] (dB (iZ k p==n)) []:=by
 refine Ev.bQ Tryz.func192 rfl λc=>?_
 refine aD (bC.cons t220 .nil) [(17,ab)] 100 rfl ?_ ?_
 .simp[ag,b,a]
 refine AK.law (Rt rfl Tryz.underlying196 rfl rfl rfl) rfl rfl ?_;refine aD (bC.cons t220 .nil) [(17,ab)] 100 rfl ?_ (AK.bm rfl ?_)
 .rfl
 .rfl
def t192:dG X 192 (Dk aI aS aI (λk p n=>dB (iZ k p==n)) λk p _=>[ck k=ab,bH p=ab]):=.IW λk p n h=>Hd k p n h.1 h.2
abbrev dQ(n:Int):D:=.e (.one (.c (.int .u64 n)))
def _root_.Go.AM.AW.F1{P:aq}{X:Cx P}{N:Nat}{Q:Post}{φ:Fr}{σ:List aV}{x y:Code}(h:AW X N y Q φ σ):AW X N (.cond (.const (.bool ae)) x y) Q φ σ:=by
 intro s a f hh b k cs S hb hQ;refine .ctl hh rfl (λ_=>uX (t:=ae) rfl) λd h1=>?_
 exact h d a (f.rely h1 hh) (hh.rely h1) b k cs S hb λe c σ' s' a' q i g st=>hQ e c σ' s' a' q i g (h1.stepW.trans st)
def _root_.Go.AM.AK.F1{P:aq}{X:Cx P}{N:Nat}{Qf:Post}{K:List It}{φ:Fr}{σ:List aV}{x y:Code}(h:AK X N Qf (.code y::K) .normal φ σ):AK X N Qf (.code (.cond (.const (.bool ae)) x y)::K) .normal φ σ:=AW.F1 h
def Ko{P:aq}{o:aw}{l:an->D}{σ:List aV}{op:BinOp}{t ty:ar}{x y:an}{k p:IntKind}{a b:Int} (c:Int)(h:o.op=.binOp op t x y ty)
  (u:l x=.e (.one (.c (.int k a)))) (r:l y=.e (.one (.c (.int p b)))) (n:bu k c)
  (d:∀ w,(binOp op t (.int k a) (.int p b)).run P w=.ok (.int k c) w) (m:∀ w,(binOp op t (.int k a) (.int p b)).events P w #[]=#[]) :
  bF P o l σ (.e (.one (.c (.int k c)))) σ:=by
 refine .quiet λs ρ v q=>?_
 have j:=q x;have f:=q y;rw[u] at j;rw[r] at f
 replace j:=fx j
 replace f:=fx f
 generalize g:ρ x=vx at j;generalize i:ρ y=vy at f;cases j;cases f;exact⟨.int k c,by simp only[ay,h,bX,g,i,gy,b8,d,cW],.int n,by simp[ay,h,g,i,gy,jJ,d,m]⟩
def Eh:Ev X 252 [dQ 1,dQ 2] [] (.eJ [.one (.c (.int .u64 0)),.one (.c (.int .u64 2))]) []:=by
 refine Ev.bQ Tryz.func252 rfl λa=>?_
 refine dO rfl (by simp[ag,bu]) (AK.bm rfl ?_)
 simp[ag,ag.cat]
def Ei:Ev X 252 [dQ 1,dQ 3] [] (.eJ [.one (.c (.int .u64 0)),.one (.c (.int .u64 3))]) []:=by
 refine Ev.bQ Tryz.func252 rfl λa=>?_
 refine dO rfl (by simp[ag,bu]) (AK.bm rfl ?_)
 simp[ag,ag.cat]
def Uv:dh:=λargs σ=>match args,σ with
 |[.e (.one (.c (.int .u64 1))),.e (.one (.c (.int .u64 c)))],[]=>aa (.eJ [.one (.c (.int .u64 0)),.one (.c (.int .u64 c))],[],[c=2∨c=3])
 |_,_=>af
def t252:dG X 252 Uv:=by
 intro args σ res σ' obs h a;unfold Uv at h;split at h
 .cases h;rcases a with rfl|rfl
  .exact Eh
  .exact Ei
 .cases h
def Rz(c:Int)(a:c=2∨c=3):Ev X 246 [dQ 1,dQ c] [] (.eJ [.one (.c (.int .u64 0)),.one (.c (.int .u64 c))]) []:=by
 refine Ev.bQ Tryz.func246 rfl λb=>?_
 refine aD (bC.cons t252 .nil) [] 100 rfl av ?_;refine AK.F1 ?_;refine aD (bC.cons t252 .nil) [] 100 rfl ?_ (AK.bm rfl ?_)
 .simp[ag,a]
 .simp[ag,ag.cat]
def Rq:dh:=λargs σ=>match args,σ with
 |[.e (.one (.c (.int .u64 1))),.e (.one (.c (.int .u64 c)))],[]=>aa (.eJ [.one (.c (.int .u64 0)),.one (.c (.int .u64 c))],[],[c=2∨c=3])
 |_,_=>af
def t246:dG X 246 Rq:=by
 intro args σ res σ' obs h a;unfold Rq at h;split at h
 .cases h;exact Rz _ a
 .cases h
end
section
open Go.Proofs
open Go.Sort (bitsLen)
variable {X:Cx ah}
def x4:List UInt8:=(bh 256).map λi=>UInt8.ofNat (bitsLen i)
def kt{x k:Nat}(h:x<2 ^ k):bitsLen x<=k:=by
 unfold bitsLen;split
 .omega
 .rename_i a
  have:=(Nat.log2_lt a).2 h;omega
def Pc{x:Nat}(h:x<256):(iR x4 x).toNat=bitsLen x:=by
 unfold iR x4;rw[bz,ai,nz,List.getElem?_range h];have:=kt (x:=x) (k:=8) h;simp only[j6,fI];rw[UInt8.toNat_ofNat'];omega
def uo{n k:Nat}(h:2 ^ k<=n):bitsLen n=k+bitsLen (n / 2 ^ k):=by
 have a:0<2 ^ k:=Nat.two_pow_pos k;have e:0<n / 2 ^ k:=Nat.div_pos h a;unfold bitsLen;rw[aY (by omega),aY (by omega)]
 have d:Nat.log2 n=k+Nat.log2 (n / 2 ^ k):=by
  rw[Nat.log2_eq_iff (by omega)]
  have b:=Nat.log2_self_le (n:=n / 2 ^ k) (by omega)
  have c:=Nat.lt_log2_self (n:=n / 2 ^ k)
  constructor
  .rw[Nat.pow_add,nE];exact eK (et _ b) (Nat.div_mul_le_self n _)
  .rw[show k+Nat.log2 (n / 2 ^ k)+1=k+(Nat.log2 (n / 2 ^ k)+1) by omega,Nat.pow_add]
   have:=(Nat.div_lt_iff_lt_mul a).1 c
   rwa [nE] at this
 omega
set_option maxRecDepth 100000 in
def MB(n:Nat)(l:n<=4000000):Ev X 216 [dQ n] [] (dI (bitsLen n)) []:=by
 refine Ev.bQ Tryz.func216 rfl λj=>?_
 have fin:∀ {T:List UInt8} {x:Nat},T=x4->x<256->(iR T (x:Int)).toNat=bitsLen x:=λb i=>by rw[b];exact Pc i
 have d:∀ {T:List UInt8},T=x4->T.length=256:=λb=>by rw[b];rfl
 by_cases h:65536<=n
 .have c:((n:Int).toNat / 2 ^ Int.toNat 16)=n / 65536:=by simp
  have e:bitsLen n=16+bitsLen (n / 65536):=uo (n:=n) (k:=16) h;have f:=kt (x:=n / 65536) (k:=8) (by simp;omega)
  refine aX [(4,ae),(8,ab),(14,ae)] 200 rfl ?_ (AK.bm rfl ?_)
  .generalize b:(ByteArray.data _).toList=T;have a:T=x4:=by rw[<-b];decide +kernel
   simp only[ag,c,fin a (show n / 65536<256 by omega),d a,bu,ba,bJ];and_intros <;> omega
  .generalize b:(ByteArray.data _).toList=T;have a:T=x4:=by rw[<-b];decide +kernel
   simp only[ag,ag.cat,c,fin a (show n / 65536<256 by omega),aF,aC]
   omega
 by_cases g:256<=n
 .have c:((n:Int).toNat / 2 ^ Int.toNat 8)=n / 256:=by simp
  have e:bitsLen n=8+bitsLen (n / 256):=uo (n:=n) (k:=8) g;have f:=kt (x:=n / 256) (k:=8) (by simp;omega)
  refine aX [(4,ae),(8,ae),(14,ab)] 200 rfl ?_ (AK.bm rfl ?_)
  .generalize b:(ByteArray.data _).toList=T;have a:T=x4:=by rw[<-b];decide +kernel
   simp only[ag,c,fin a (show n / 256<256 by omega),d a,bu,ba,bJ];and_intros <;> omega
  .generalize b:(ByteArray.data _).toList=T;have a:T=x4:=by rw[<-b];decide +kernel
   simp only[ag,ag.cat,c,fin a (show n / 256<256 by omega),aF,aC]
   omega
 .have f:=kt (x:=n) (k:=8) (by simp;omega)
  refine aX [(4,ae),(8,ae),(14,ae)] 200 rfl ?_ (AK.bm rfl ?_)
  .generalize b:(ByteArray.data _).toList=T;have a:T=x4:=by rw[<-b];decide +kernel
   simp only[ag,fin a (show n<256 by omega),d a,bu,ba,bJ];and_intros <;> omega
  .generalize b:(ByteArray.data _).toList=T;have a:T=x4:=by rw[<-b];decide +kernel
   simp only[ag,ag.cat,fin a (show n<256 by omega),aF,aC]
   omega
def Mv(n:Nat)(a:n<=4000000):Ev X 190 [dQ n] [] (dI (bitsLen n)) []:=by
 refine Ev.bQ Tryz.func190 rfl λb=>?_
 refine dO rfl av ?_;refine AK.F1 ?_;refine dO rfl av ?_;refine AK.cQ (MB n a) [] rfl ?_;refine dO rfl av (AK.bm rfl ?_);simp[ag,ag.cat]
end
section
open Go.Proofs
open Go.Sort (swp bitsLen xorNextN xorNextN_lt xorNext xorNext_toNat breakStep breakPatterns)
variable {X:Cx ah}
abbrev bQ(r:Nat):aV:=.cells 269 [.c (.int .u64 r)]
def Pd(r:Nat):Ev X 230 [.e (.one (.ptr 0 0))] [bQ r] (dQ (xorNextN r)) [bQ (xorNextN r)]:=by
 refine Ev.bQ Tryz.func230 rfl λd=>?_
 have a:(2:Nat) ^ Int.toNat 13=8192:=by decide
 have c:(2:Nat) ^ Int.toNat 7=128:=by decide
 have b:(2:Nat) ^ Int.toNat 17=131072:=by decide
 refine dO rfl ?_ ?_
 .simp only[ag];omega
 refine AK.norm [bQ (xorNextN r)] rfl ?_ (AK.dD [0] rfl ?_ rfl rfl rfl gZ)
 .simp only[ag,ag.cat,xorNextN,bz,a,c,b,aC]
 .simp only[ag,ag.cat,xorNextN,bz,a,c,b]
theorem Pe(n:Nat)(a:n<=4000000):Ev X 229 [dI n] [] (dQ ((1 <<< bitsLen n:Nat):Int)) []:=by
 refine Ev.bQ Tryz.func229 rfl λc=>?_
 have l:=kt (x:=n) (k:=22) (by grind)
 refine dO rfl (by simp only[ag,bu];and_intros <;> omega) ?_
 refine AK.cQ (Mv n a) [] rfl ?_;refine dO rfl ?_ (AK.bm rfl ?_)
 .simp only[ag];omega
 .have b:2 ^ bitsLen n<=2 ^ 22:=zl (by omega) l
  simp only[ag,ag.cat,Nat.shiftLeft_eq,bz]
  grind
def C5{L:Nat}(h:0<L):1 <<< bitsLen L<=2*L:=by
 rw[Nat.shiftLeft_eq,Nat.one_mul];unfold bitsLen;rw[aY (by omega),Nat.pow_succ]
 grind [Nat.log2_self_le]
def MC(L:Nat):1<=1 <<< bitsLen L:=by
 rw[Nat.shiftLeft_eq,Nat.one_mul]
 grind
def Tc(a L M:Nat):Nat->Nat->UInt64×Array Int->UInt64×Array Int
 |0,_,st=>st
 |k+1,idx,st=>Tc a L M k (idx+1) (breakStep a L M st idx)
def tD{d:Array Int}{a L:Nat}(h:8<=L):breakPatterns d a (a+L)=(Tc a L (1 <<< bitsLen L) 3 (a+L / 4*2-1) (UInt64.ofNat L,d)).2:=by
 unfold breakPatterns;simp only[uK];rw[bc h];rfl
def A4{a L M idx:Nat}{r:UInt64}{d:Array Int}:breakStep a L M (r,d) idx=(xorNext r,swp d idx (a+if (xorNextN r.toNat &&& (M-1))≥L then (xorNextN r.toNat &&& (M-1))-L else (xorNextN r.toNat &&& (M-1)))):=by
 unfold breakStep;simp only[xorNext_toNat]
abbrev Y4(n a L M:Nat)(k:Nat):Fr:=[(0,kC n),(1,dI a),(6,dI L),(7,.e (.one (.ptr 1 0))),(8,dQ M),(9,dI ((a+L / 4*2-1+(3-k):Nat):Int))]
def Ms(n:Nat)(d:Array Int)(a b:Nat)(t:d.size=n)(w:a<=b)(z:b<=n)(B:n<=4000000) :
  Ev X 208 [kC n,dI a,dI b] [bI n d] (.eJ []) [bI n (breakPatterns d a b)]:=by
 refine Ev.bQ Tryz.func208 rfl λy=>?_
 obtain⟨L,rfl⟩:∃ L,b=a+L:=⟨b-a,by omega⟩
 by_cases q:8<=L
 .rw[tD q];have A:=C5 (L:=L) (by omega)
  have p:=MC L;have m:(UInt64.ofNat L).toNat=L:=by grind [UInt64.toNat_ofNat']
  refine aX [(15,ab)] 200 rfl ?_ ?_
  .simp only[ag,bu,ba,aF,aC];and_intros <;> omega
  have key:∀ x:Int,x=(L:Int)->Ev X 229 [dI x] [] (dQ ((1 <<< bitsLen L:Nat):Int)) []:=by
   grind [Pe]
  refine AK.cQ (key _ (by omega)) [] rfl ?_
  refine dO rfl ?_ ?_
  .simp only[ag,bu,ba,aF,aC];and_intros <;> omega
  generalize v:1 <<< bitsLen L=M at *;refine AK.bO 2 (λs:Nat×UInt64×Array Int=>s.2.2.size=n/\s.1<=3/\(Tc a L M s.1 (a+L / 4*2-1+(3-s.1)) s.2).2=(Tc a L M 3 (a+L / 4*2-1) (UInt64.ofNat L,d)).2) (λs=>Y4 n a L M s.1) (λs=>[bI n s.2.2,bQ s.2.1.toNat]) (λs=>s.1) (3,UInt64.ofNat L,d) rfl ?_ rfl ?_ rfl ⟨t,bg _,rfl⟩ ?_
  .simp only[ag.cat,ag,aF,aC];and_intros <;> omega
  .simp only[ag.cat,ag,aP,m,aF,aC]
   grind
  rintro⟨k,r,d1⟩ ⟨l,u,c⟩;simp only at l u c;cases k with
  |zero =>
   rw[<-c];refine aX [(33,ae)] 200 rfl ?_ (AK.leaveD rfl rfl ?_)
   .simp only[ag,bu,bJ,aF,aC];and_intros <;> omega
   exact b5.s9 [0] rfl av rfl rfl rfl gZ
  |succ k =>
   have C:xorNextN r.toNat<18446744073709551616:=xorNextN_lt _ (UInt64.toNat_lt r);have o:xorNextN r.toNat &&& (M-1)<=M-1:=Nat.and_le_right;have j:((M:Int)-1).toNat=M-1:=by omega
   refine aX [(33,ab)] 200 rfl ?_ ?_
   .simp only[ag,bu,ba,aF,aC];and_intros <;> omega
   refine AK.cQ (Pd r.toNat) [1] rfl ?_;have f:=A4 (a:=a) (L:=L) (M:=M) (idx:=a+L / 4*2-1+(3-(k+1))) (r:=r) (d:=d1);generalize i:xorNextN r.toNat &&& (M-1)=O at *
   by_cases g:L<=O
   .rw[bc g] at f;have h:((a:Int)+((O:Int)-(L:Int))).toNat=a+(O-L):=by omega
    refine aX [(43,ab)] 200 rfl ?_ (AK.aQ (k,xorNext r,swp d1 (a+L / 4*2-1+(3-(k+1))) (a+(O-L))) rfl ?_ ?_ ?_ ?_)
    .simp only[ag,bt,bz,j,i,h,bu,ba,aF,aC];and_intros <;> omega
    .simp only[ag.cat,ag,aF,aC];omega
    .simp only[ag.cat,ag,bt,bz,j,i,h,xorNext_toNat,aC,aF];exact g7 l (by omega) (by omega) (λ_ _=>rfl)
    .refine⟨by grind [size_swp],by grind,?_⟩
     rw[<-c,Tc,f,show a+L / 4*2-1+(3-(k+1))+1=a+L / 4*2-1+(3-k) by omega]
    .simp
   .rw[aY g] at f;have h:((a:Int)+(O:Int)).toNat=a+O:=by omega
    refine aX [(43,ae)] 200 rfl ?_ (AK.aQ (k,xorNext r,swp d1 (a+L / 4*2-1+(3-(k+1))) (a+O)) rfl ?_ ?_ ?_ ?_)
    .simp only[ag,bt,bz,j,i,h,bu,bJ,aF,aC];and_intros <;> omega
    .simp only[ag.cat,ag,aF,aC];omega
    .simp only[ag.cat,ag,bt,bz,j,i,h,xorNext_toNat,aC,aF];exact g7 l (by omega) (by omega) (λ_ _=>rfl)
    .refine⟨by grind [size_swp],by grind,?_⟩
     rw[<-c,Tc,f,show a+L / 4*2-1+(3-(k+1))+1=a+L / 4*2-1+(3-k) by omega]
    .simp
 .have e:breakPatterns d a (a+L)=d:=by unfold breakPatterns;grind
  rw[e];refine aX [(15,ae)] 200 rfl ?_ ?_
  .simp only[ag,bu,bJ,aF,aC];and_intros <;> omega
  exact b5.s9 [0] rfl av rfl rfl rfl gZ
end
section
open Go.Proofs
open Go.Sort (swp scanUp scanDown partLoop partEqLoop partition partitionEqual ltInt)
variable {X:Cx ah}
theorem mH{p:Int->Bool}{d:Array Int}{j i:Nat}(h:i<=j)(a:p d[i]! = ab):scanUp p d j i=scanUp p d j (i+1):=by
 rw[scanUp.eq_1 p d j i,bc (by grind)]
theorem gz{p:Int->Bool}{d:Array Int}{j i:Nat}(h:i<=j->p d[i]! = ae):scanUp p d j i=i:=by
 rw[scanUp,aY]
 grind
theorem kF{p:Int->Bool}{d:Array Int}{j i:Nat}(c:1<=j)(h:i<=j)(b:p d[j]! = ab):scanDown p d i j=scanDown p d i (j-1):=by
 obtain⟨j,rfl⟩:∃ a,j=a+1:=⟨j-1,by omega⟩
 rw[scanDown,bc (by grind),pC]
theorem fj{p:Int->Bool}{d:Array Int}{j i:Nat}(h:i<=j->p d[j]! = ae):scanDown p d i j=j:=by
 cases j with
 |zero=>rfl
 |succ j =>
  rw[scanDown,aY]
  grind
def nw{p:Int->Bool}{d:Array Int}{j:Nat}:∀ (m i:Nat),j+1-i<=m->i<=scanUp p d j i/\(scanUp p d j i<=j+1∨scanUp p d j i=i):=by
 intro m
 induction m with
 |zero=>intro i h;rw[gz (λa=>by omega)];omega
 |succ m c =>
  intro i h
  by_cases b:i<=j
  .cases a:p d[i]! with
   |true=>grind [mH]
   |false=>grind [gz]
  grind
def kU{p:Int->Bool}{d:Array Int}{i:Nat}:∀ j:Nat,scanDown p d i j<=j/\(i<=scanDown p d i j+1∨scanDown p d i j=j):=by
 intro j
 induction j with
 |zero=>rw[show scanDown p d i 0=0 from rfl];omega
 |succ j c =>
  by_cases a:i<=j+1
  .cases b:p d[j+1]! with
   |true=>grind [kF]
   |false=>grind [fj]
  grind [fj]
def partLoop_eq{a i j:Nat}{d:Array Int}{i2 j2:Nat}(f:1<=i)(hi:i2=scanUp (λx=>ltInt x d[a]!) d j i)(b:j2=scanDown (λx=>!ltInt x d[a]!) d i2 j) :
  partLoop ltInt a i j d=if i2>j2 then (j2,d) else partLoop ltInt a (i2+1) (j2-1) (swp d i2 j2):=by
 have c:=nw (p:=λx=>ltInt x d[a]!) (d:=d) (j:=j) (j+1-i) i (bg _)
 have e:=kU (p:=λx=>!ltInt x d[a]!) (d:=d) (i:=i2) j
 rw[<-hi] at c;rw[<-b] at e;rw[partLoop.eq_1,<-hi,<-b]
 grind
def C6{d c:Array Int}{a b v i j:Nat}(f:c=swp d a v)(hi:i=scanUp (λx=>ltInt x c[a]!) c (b-1) (a+1))(e:j=scanDown (λx=>!ltInt x c[a]!) c i (b-1))(h:i>j):partition ltInt d a b v=(j,ab,swp c j a):=by
 unfold partition
 grind
def C7{d c:Array Int}{a b v i j:Nat}(g:c=swp d a v)(hi:i=scanUp (λx=>ltInt x c[a]!) c (b-1) (a+1))(f:j=scanDown (λx=>!ltInt x c[a]!) c i (b-1))(h:¬i>j){r:Nat×Array Int}(e:partLoop ltInt a (i+1) (j-1) (swp c i j)=r):partition ltInt d a b v=(r.1,ae,swp r.2 r.1 a):=by
 subst e;unfold partition
 grind
def O9(n:Nat)(d:Array Int)(a b v:Nat)(Q:d.size=n)(T:a<b)(W:b<=n)(Y:v<n)(Z:n<=4000000) :
  Ev X 214 [kC n,dI a,dI b,dI v] [bI n d] (.eJ [.one (.c (.int .i64 (partition ltInt d a b v).1)),.one (.c (.bool (partition ltInt d a b v).2.1))]) [bI n (partition ltInt d a b v).2.2]:=by
 have h:bC X [(212,um)]:=.cons xk .nil;refine Ev.bQ Tryz.func214 rfl λV=>?_
 refine aD h [(1000002,ab)] 200 rfl ?_ ?_
 .simp only[ag,bt,bz,bu,aF,aC];and_intros <;> omega
 refine AK.norm [bI n (swp d a v)] rfl ?_ ?_
 .simp only[ag.cat,ag,bt,bz,aC,aF];exact g7 Q (by omega) (by omega) (λ_ _=>rfl)
 have w:(swp d a v).size=n:=by grind [size_swp]
 obtain⟨f,N⟩:∃ f,f=swp d a v:=⟨_,rfl⟩;rw[<-N] at w ⊢;refine aD h [] 200 rfl ?_ ?_
 .simp only[ag,bu];and_intros <;> omega
 refine AK.kN (S2:=Unit) 0 rfl rfl (λ_=>True) (λ_=>[(0,kC n),(1,dI a),(10,dI ((scanUp (λx=>ltInt x f[a]!) f (b-1) (a+1)):Nat)),(11,dI (b-1:Nat))]) (λ_=>[bI n f]) 1 (λk:Nat=>a+1<=k/\k<=n+1/\scanUp (λx=>ltInt x f[a]!) f (b-1) k=scanUp (λx=>ltInt x f[a]!) f (b-1) (a+1)) (λk=>[(0,kC n),(1,dI a),(10,dI (k:Nat)),(11,dI (b-1:Nat))]) (λ_=>[bI n f]) (λk=>b-1+1-k) (a+1) rfl ?_ rfl ?_ rfl ⟨bg _,by omega,rfl⟩ ?_ ?_
 .simp[ag.cat,ag,aP] <;> omega
 .simp[ag.cat,ag,aP]
 .rintro out k ⟨o,u,t⟩
  by_cases y:k<=b-1
  .by_cases J:(λx=>ltInt x f[a]!) f[k]! = ab
   .have g:ltInt f[k]! f[a]! = ab:=by grind
    refine aD h [(32,ab),(42,ab)] 200 rfl ?_ (AK.aQ (k+1) rfl ?_ ?_ ?_ ?_)
    .simp only[ag,bt,bz,g,bu,ba,aF,aC];and_intros <;> omega
    .simp only[ag.cat,ag,aF,aC];omega
    .simp[ag.cat,ag,aP]
    .grind [mH]
    .omega
   .have g:ltInt f[k]! f[a]! = ae:=by grind
    refine aD h [(32,ab),(42,ae)] 200 rfl ?_ (AK.leaveD rfl rfl ?_)
    .simp only[ag,bt,bz,g,bu,ba,aF,aC];and_intros <;> omega
    have e:scanUp (λx=>ltInt x f[a]!) f (b-1) (a+1)=k:=by grind [gz]
    exact out () av rfl (by simp only[ag.cat,ag,e,aF,aC]) rfl (by simp[ag.cat,ag,aP])
  .refine aD h [(32,ae)] 200 rfl ?_ (AK.leaveD rfl rfl ?_)
   .simp only[ag,bu,bJ,aF,aC];omega
   have e:scanUp (λx=>ltInt x f[a]!) f (b-1) (a+1)=k:=by grind [gz]
   exact out () av rfl (by simp only[ag.cat,ag,e,aF,aC]) rfl (by simp[ag.cat,ag,aP])
 rintro⟨⟩ -;have U:=nw (p:=λx=>ltInt x f[a]!) (d:=f) (j:=b-1) (b-1+1-(a+1)) (a+1) (bg _)
 obtain⟨i,hi⟩:∃ i,i=scanUp (λx=>ltInt x f[a]!) f (b-1) (a+1):=⟨_,rfl⟩
 rw[<-hi] at U ⊢;refine aD h [] 200 rfl av ?_;refine AK.kN (S2:=Unit) 2 rfl rfl (λ_=>True) (λ_=>[(0,kC n),(1,dI a),(10,dI (i:Nat)),(11,dI ((scanDown (λx=>!ltInt x f[a]!) f (i) (b-1)):Nat))]) (λ_=>[bI n f]) 1 (λk:Nat=>k<=b-1/\k<=n/\scanDown (λx=>!ltInt x f[a]!) f (i) k=scanDown (λx=>!ltInt x f[a]!) f (i) (b-1)) (λk=>[(0,kC n),(1,dI a),(10,dI (i:Nat)),(11,dI (k:Nat))]) (λ_=>[bI n f]) (λk=>k) (b-1) rfl ?_ rfl ?_ rfl ⟨bg _,by omega,rfl⟩ ?_ ?_
 .simp[ag.cat,ag,aP] <;> omega
 .simp[ag.cat,ag,aP]
 .rintro out k ⟨o,u,t⟩
  by_cases y:i<=k
  .by_cases J:(λx=>!ltInt x f[a]!) f[k]! = ab
   .have g:ltInt f[k]! f[a]! = ae:=by grind
    refine aD h [(48,ab),(58,ae)] 200 rfl ?_ (AK.aQ (k-1) rfl ?_ ?_ ?_ ?_)
    .simp only[ag,bt,bz,g,bu,ba,aF,aC];and_intros <;> omega
    .simp only[ag.cat,ag,aF,aC];omega
    .simp[ag.cat,ag,aP]
    .exact⟨by omega,by omega,by grind [kF]⟩
    .omega
   .have g:ltInt f[k]! f[a]! = ab:=by grind
    refine aD h [(48,ab),(58,ab)] 200 rfl ?_ (AK.leaveD rfl rfl ?_)
    .simp only[ag,bt,bz,g,bu,ba,aF,aC];and_intros <;> omega
    have e:scanDown (λx=>!ltInt x f[a]!) f (i) (b-1)=k:=by grind [fj]
    exact out () av rfl (by simp only[ag.cat,ag,e,aF,aC]) rfl (by simp[ag.cat,ag,aP])
  .refine aD h [(48,ae)] 200 rfl ?_ (AK.leaveD rfl rfl ?_)
   .simp only[ag,bu,bJ,aF,aC];omega
   have e:scanDown (λx=>!ltInt x f[a]!) f (i) (b-1)=k:=by grind [fj]
   exact out () av rfl (by simp only[ag.cat,ag,e,aF,aC]) rfl (by simp[ag.cat,ag,aP])
 rintro⟨⟩ -;have R:=kU (p:=λx=>!ltInt x f[a]!) (d:=f) (i:=i) (b-1)
 obtain⟨j,O⟩:∃ j,j=scanDown (λx=>!ltInt x f[a]!) f i (b-1):=⟨_,rfl⟩
 rw[<-O] at R ⊢
 by_cases P:j<i
 .rw[C6 N hi O P];refine aD h [(65,ab),(1000009,ab)] 200 rfl ?_ ?_
  .simp only[ag,bt,bz,bu,ba,aF,aC];and_intros <;> omega
  refine AK.norm [bI n (swp f j a)] rfl ?_ ?_
  .simp only[ag.cat,ag,bt,bz,aC,aF];exact g7 w (by omega) (by omega) (λ_ _=>rfl)
  refine aD h [] 200 rfl av (AK.dD [0] rfl ?_ rfl rfl rfl gZ);simp[ag.cat,ag]
 refine aD h [(65,ae),(1000011,ab)] 200 rfl ?_ ?_
 .simp only[ag,bt,bz,bu,bJ,aF,aC];and_intros <;> omega
 refine AK.norm [bI n (swp f i j)] rfl ?_ ?_
 .simp only[ag.cat,ag,bt,bz,aC,aF];exact g7 w (by omega) (by omega) (λ_ _=>rfl)
 refine aD h [] 200 rfl ?_ ?_
 .simp only[ag,bu];and_intros <;> omega
 have B:(swp f i j).size=n:=by grind [size_swp]
 obtain⟨r,M⟩:∃ r,partLoop ltInt a (i+1) (j-1) (swp f i j)=r:=⟨_,rfl⟩;rw[C7 N hi O (by omega) M]
 obtain⟨d1,H⟩:∃ d1,d1=swp f i j:=⟨_,rfl⟩;rw[<-H] at B M ⊢;refine AK.kN (S2:=Unit) 4 rfl rfl (λ_=>r.1<n/\r.2.size=n) (λ_=>[(0,kC n),(1,dI a),(11,dI r.1)]) (λ_=>[bI n r.2]) 1 (λs:Nat×Nat×Array Int=>s.2.2.size=n/\a+1<=s.1/\s.1<=n+1/\s.2.1<n/\partLoop ltInt a s.1 s.2.1 s.2.2=r) (λs=>[(0,kC n),(1,dI a),(10,dI s.1),(11,dI s.2.1)]) (λs=>[bI n s.2.2]) (λs=>s.2.1+1-s.1) (i+1,j-1,d1) rfl ?_ rfl ?_ rfl ⟨B,by grind,by grind,by grind,M⟩ ?_ ?_
 .simp only[ag.cat,ag,aF,aC];and_intros <;> omega
 .simp[ag.cat,ag,aP]
 .rintro D ⟨i3,l,d2⟩ ⟨F,L,C,K,m⟩;simp only at F L C K m;refine aD h [] 200 rfl av ?_;refine AK.kN (S2:=Unit) 6 rfl rfl (λ_=>True) (λ_=>[(0,kC n),(1,dI a),(10,dI ((scanUp (λx=>ltInt x d2[a]!) d2 (l) (i3)):Nat)),(11,dI (l:Nat))]) (λ_=>[bI n d2]) 1 (λk:Nat=>i3<=k/\k<=n+1/\scanUp (λx=>ltInt x d2[a]!) d2 (l) k=scanUp (λx=>ltInt x d2[a]!) d2 (l) (i3)) (λk=>[(0,kC n),(1,dI a),(10,dI (k:Nat)),(11,dI (l:Nat))]) (λ_=>[bI n d2]) (λk=>l+1-k) (i3) rfl ?_ rfl ?_ rfl ⟨bg _,by omega,rfl⟩ ?_ ?_
  .simp[ag.cat,ag,aP] <;> omega
  .simp[ag.cat,ag,aP]
  .rintro out k ⟨o,u,t⟩
   by_cases y:k<=l
   .by_cases J:(λx=>ltInt x d2[a]!) d2[k]! = ab
    .have g:ltInt d2[k]! d2[a]! = ab:=by grind
     refine aD h [(101,ab),(111,ab)] 200 rfl ?_ (AK.aQ (k+1) rfl ?_ ?_ ?_ ?_)
     .simp only[ag,bt,bz,g,bu,ba,aF,aC];and_intros <;> omega
     .simp only[ag.cat,ag,aF,aC];omega
     .simp[ag.cat,ag,aP]
     .grind [mH]
     .omega
    .have g:ltInt d2[k]! d2[a]! = ae:=by grind
     refine aD h [(101,ab),(111,ae)] 200 rfl ?_ (AK.leaveD rfl rfl ?_)
     .simp only[ag,bt,bz,g,bu,ba,aF,aC];and_intros <;> omega
     have e:scanUp (λx=>ltInt x d2[a]!) d2 (l) (i3)=k:=by grind [gz]
     exact out () av rfl (by simp only[ag.cat,ag,e,aF,aC]) rfl (by simp[ag.cat,ag,aP])
   .refine aD h [(101,ae)] 200 rfl ?_ (AK.leaveD rfl rfl ?_)
    .simp only[ag,bu,bJ,aF,aC];omega
    have e:scanUp (λx=>ltInt x d2[a]!) d2 (l) (i3)=k:=by grind [gz]
    exact out () av rfl (by simp only[ag.cat,ag,e,aF,aC]) rfl (by simp[ag.cat,ag,aP])
  rintro⟨⟩ -;have c1:=nw (p:=λx=>ltInt x d2[a]!) (d:=d2) (j:=l) (l+1-i3) i3 (bg _)
  obtain⟨i4,E⟩:∃ i4,i4=scanUp (λx=>ltInt x d2[a]!) d2 l i3:=⟨_,rfl⟩
  rw[<-E] at c1 ⊢;refine aD h [] 200 rfl av ?_;refine AK.kN (S2:=Unit) 8 rfl rfl (λ_=>True) (λ_=>[(0,kC n),(1,dI a),(10,dI (i4:Nat)),(11,dI ((scanDown (λx=>!ltInt x d2[a]!) d2 (i4) (l)):Nat))]) (λ_=>[bI n d2]) 1 (λk:Nat=>k<=l/\k<=n/\scanDown (λx=>!ltInt x d2[a]!) d2 (i4) k=scanDown (λx=>!ltInt x d2[a]!) d2 (i4) (l)) (λk=>[(0,kC n),(1,dI a),(10,dI (i4:Nat)),(11,dI (k:Nat))]) (λ_=>[bI n d2]) (λk=>k) (l) rfl ?_ rfl ?_ rfl ⟨bg _,by omega,rfl⟩ ?_ ?_
  .simp[ag.cat,ag,aP] <;> omega
  .simp[ag.cat,ag,aP]
  .rintro out k ⟨o,u,t⟩
   by_cases y:i4<=k
   .by_cases J:(λx=>!ltInt x d2[a]!) d2[k]! = ab
    .have g:ltInt d2[k]! d2[a]! = ae:=by grind
     refine aD h [(117,ab),(127,ae)] 200 rfl ?_ (AK.aQ (k-1) rfl ?_ ?_ ?_ ?_)
     .simp only[ag,bt,bz,g,bu,ba,aF,aC];and_intros <;> omega
     .simp only[ag.cat,ag,aF,aC];omega
     .simp[ag.cat,ag,aP]
     .exact⟨by omega,by omega,by grind [kF]⟩
     .omega
    .have g:ltInt d2[k]! d2[a]! = ab:=by grind
     refine aD h [(117,ab),(127,ab)] 200 rfl ?_ (AK.leaveD rfl rfl ?_)
     .simp only[ag,bt,bz,g,bu,ba,aF,aC];and_intros <;> omega
     have e:scanDown (λx=>!ltInt x d2[a]!) d2 (i4) (l)=k:=by grind [fj]
     exact out () av rfl (by simp only[ag.cat,ag,e,aF,aC]) rfl (by simp[ag.cat,ag,aP])
   .refine aD h [(117,ae)] 200 rfl ?_ (AK.leaveD rfl rfl ?_)
    .simp only[ag,bu,bJ,aF,aC];omega
    have e:scanDown (λx=>!ltInt x d2[a]!) d2 (i4) (l)=k:=by grind [fj]
    exact out () av rfl (by simp only[ag.cat,ag,e,aF,aC]) rfl (by simp[ag.cat,ag,aP])
  rintro⟨⟩ -;have c2:=kU (p:=λx=>!ltInt x d2[a]!) (d:=d2) (i:=i4) l
  obtain⟨z,A⟩:∃ z,z=scanDown (λx=>!ltInt x d2[a]!) d2 i4 l:=⟨_,rfl⟩
  rw[<-A] at c2 ⊢;have q:=partLoop_eq (by omega) E A
  by_cases G:z<i4
  .have e:=q;rw[m,bc G] at e;refine aD h [(134,ab)] 200 rfl ?_ (AK.leaveD rfl rfl ?_)
   .simp only[ag,bu,ba];omega
   exact D () (by grind) rfl (by simp only[ag.cat,ag,e,aF,aC]) rfl (by simp[ag.cat,ag,aP,e])
  .have e:=q;rw[m,aY (by omega)] at e
   refine aD h [(134,ae),(1000019,ab)] 200 rfl ?_ ?_
   .simp only[ag,bt,bz,bu,bJ,aF,aC];and_intros <;> omega
   refine AK.norm [bI n (swp d2 i4 z)] rfl ?_ ?_
   .simp only[ag.cat,ag,bt,bz,aC,aF];exact g7 F (by omega) (by omega) (λ_ _=>rfl)
   refine aD h [] 200 rfl ?_ (AK.aQ (i4+1,z-1,swp d2 i4 z) rfl ?_ ?_ ?_ ?_)
   .simp only[ag,bu];and_intros <;> omega
   .simp only[ag.cat,ag,aF,aC];and_intros <;> omega
   .simp[ag.cat,ag,aP]
   .grind [size_swp]
   grind
 rintro⟨⟩ ⟨S,I⟩;refine aD h [(1000022,ab)] 200 rfl ?_ ?_
 .simp only[ag,bt,bz,bu,aF,aC];and_intros <;> omega
 refine AK.norm [bI n (swp r.2 r.1 a)] rfl ?_ ?_
 .simp only[ag.cat,ag,bt,bz,aC,aF];exact g7 I (by omega) (by omega) (λ_ _=>rfl)
 refine aD h [] 200 rfl av (AK.dD [0] rfl ?_ rfl rfl rfl gZ);simp[ag.cat,ag]
def partEqLoop_eq{a i j:Nat}{d:Array Int}{i2 j2:Nat}(f:1<=i)(hi:i2=scanUp (λx=>!ltInt d[a]! x) d j i)(b:j2=scanDown (λx=>ltInt d[a]! x) d i2 j) :
  partEqLoop ltInt a i j d=if i2>j2 then (i2,d) else partEqLoop ltInt a (i2+1) (j2-1) (swp d i2 j2):=by
 have c:=nw (p:=λx=>!ltInt d[a]! x) (d:=d) (j:=j) (j+1-i) i (bg _)
 have e:=kU (p:=λx=>ltInt d[a]! x) (d:=d) (i:=i2) j
 rw[<-hi] at c;rw[<-b] at e;rw[partEqLoop.eq_1,<-hi,<-b]
 grind
def Ir(n:Nat)(d:Array Int)(a b v:Nat)(J:d.size=n)(L:a<b)(N:b<=n)(O:v<n)(P:n<=4000000) :
  Ev X 213 [kC n,dI a,dI b,dI v] [bI n d] (dI (partitionEqual ltInt d a b v).1) [bI n (partitionEqual ltInt d a b v).2]:=by
 have g:bC X [(212,um)]:=.cons xk .nil;refine Ev.bQ Tryz.func213 rfl λM=>?_
 refine aD g [(1000002,ab)] 200 rfl ?_ ?_
 .simp only[ag,bt,bz,bu,aF,aC];and_intros <;> omega
 refine AK.norm [bI n (swp d a v)] rfl ?_ ?_
 .simp only[ag.cat,ag,bt,bz,aC,aF];exact g7 J (by omega) (by omega) (λ_ _=>rfl)
 have B:(swp d a v).size=n:=by grind [size_swp]
 unfold partitionEqual;generalize swp d a v=d1 at *;obtain⟨r,G⟩:∃ r,partEqLoop ltInt a (a+1) (b-1) d1=r:=⟨_,rfl⟩;rw[G];refine aD g [] 200 rfl ?_ ?_
 .simp only[ag,bu];and_intros <;> omega
 refine AK.kN (S2:=Unit) 0 rfl rfl (λ_=>r.1<=n+1/\r.2.size=n) (λ_=>[(0,kC n),(1,dI a),(9,dI r.1)]) (λ_=>[bI n r.2]) 1 (λs:Nat×Nat×Array Int=>s.2.2.size=n/\a+1<=s.1/\s.1<=n+1/\s.2.1<n/\partEqLoop ltInt a s.1 s.2.1 s.2.2=r) (λs=>[(0,kC n),(1,dI a),(9,dI s.1),(10,dI s.2.1)]) (λs=>[bI n s.2.2]) (λs=>s.2.1+1-s.1) (a+1,b-1,d1) rfl ?_ rfl ?_ rfl ⟨B,by grind,by grind,by grind,G⟩ ?_ ?_
 .simp only[ag.cat,ag,aF,aC];and_intros <;> omega
 .simp[ag.cat,ag,aP]
 .rintro t ⟨i3,c,d2⟩ ⟨w,E,o,A,h⟩;simp only at w E o A h;refine aD g [] 200 rfl av ?_;refine AK.kN (S2:=Unit) 2 rfl rfl (λ_=>True) (λ_=>[(0,kC n),(1,dI a),(9,dI ((scanUp (λx=>!ltInt d2[a]! x) d2 (c) (i3)):Nat)),(10,dI (c:Nat))]) (λ_=>[bI n d2]) 1 (λk:Nat=>i3<=k/\k<=n+1/\scanUp (λx=>!ltInt d2[a]! x) d2 (c) k=scanUp (λx=>!ltInt d2[a]! x) d2 (c) (i3)) (λk=>[(0,kC n),(1,dI a),(9,dI (k:Nat)),(10,dI (c:Nat))]) (λ_=>[bI n d2]) (λk=>c+1-k) (i3) rfl ?_ rfl ?_ rfl ⟨bg _,by omega,rfl⟩ ?_ ?_
  .simp[ag.cat,ag,aP] <;> omega
  .simp[ag.cat,ag,aP]
  .rintro out k ⟨z,D,C⟩
   by_cases F:k<=c
   .by_cases I:(λx=>!ltInt d2[a]! x) d2[k]! = ab
    .have f:ltInt d2[a]! d2[k]! = ae:=by grind
     refine aD g [(31,ab),(41,ae)] 200 rfl ?_ (AK.aQ (k+1) rfl ?_ ?_ ?_ ?_)
     .simp only[ag,bt,bz,f,bu,ba,aF,aC];and_intros <;> omega
     .simp only[ag.cat,ag,aF,aC];omega
     .simp[ag.cat,ag,aP]
     .grind [mH]
     .omega
    .have f:ltInt d2[a]! d2[k]! = ab:=by grind
     refine aD g [(31,ab),(41,ab)] 200 rfl ?_ (AK.leaveD rfl rfl ?_)
     .simp only[ag,bt,bz,f,bu,ba,aF,aC];and_intros <;> omega
     have e:scanUp (λx=>!ltInt d2[a]! x) d2 (c) (i3)=k:=by grind [gz]
     exact out () av rfl (by simp only[ag.cat,ag,e,aF,aC]) rfl (by simp[ag.cat,ag,aP])
   .refine aD g [(31,ae)] 200 rfl ?_ (AK.leaveD rfl rfl ?_)
    .simp only[ag,bu,bJ,aF,aC];omega
    have e:scanUp (λx=>!ltInt d2[a]! x) d2 (c) (i3)=k:=by grind [gz]
    exact out () av rfl (by simp only[ag.cat,ag,e,aF,aC]) rfl (by simp[ag.cat,ag,aP])
  rintro⟨⟩ -;have c1:=nw (p:=λx=>!ltInt d2[a]! x) (d:=d2) (j:=c) (c+1-i3) i3 (bg _)
  obtain⟨i4,u⟩:∃ i4,i4=scanUp (λx=>!ltInt d2[a]! x) d2 c i3:=⟨_,rfl⟩
  rw[<-u] at c1 ⊢;refine aD g [] 200 rfl av ?_;refine AK.kN (S2:=Unit) 4 rfl rfl (λ_=>True) (λ_=>[(0,kC n),(1,dI a),(9,dI (i4:Nat)),(10,dI ((scanDown (λx=>ltInt d2[a]! x) d2 (i4) (c)):Nat))]) (λ_=>[bI n d2]) 1 (λk:Nat=>k<=c/\k<=n/\scanDown (λx=>ltInt d2[a]! x) d2 (i4) k=scanDown (λx=>ltInt d2[a]! x) d2 (i4) (c)) (λk=>[(0,kC n),(1,dI a),(9,dI (i4:Nat)),(10,dI (k:Nat))]) (λ_=>[bI n d2]) (λk=>k) (c) rfl ?_ rfl ?_ rfl ⟨bg _,by omega,rfl⟩ ?_ ?_
  .simp[ag.cat,ag,aP] <;> omega
  .simp[ag.cat,ag,aP]
  .rintro out k ⟨z,D,C⟩
   by_cases F:i4<=k
   .by_cases I:(λx=>ltInt d2[a]! x) d2[k]! = ab
    .have f:ltInt d2[a]! d2[k]! = ab:=by grind
     refine aD g [(48,ab),(58,ab)] 200 rfl ?_ (AK.aQ (k-1) rfl ?_ ?_ ?_ ?_)
     .simp only[ag,bt,bz,f,bu,ba,aF,aC];and_intros <;> omega
     .simp only[ag.cat,ag,aF,aC];omega
     .simp[ag.cat,ag,aP]
     .exact⟨by omega,by omega,by grind [kF]⟩
     .omega
    .have f:ltInt d2[a]! d2[k]! = ae:=by grind
     refine aD g [(48,ab),(58,ae)] 200 rfl ?_ (AK.leaveD rfl rfl ?_)
     .simp only[ag,bt,bz,f,bu,ba,aF,aC];and_intros <;> omega
     have e:scanDown (λx=>ltInt d2[a]! x) d2 (i4) (c)=k:=by grind [fj]
     exact out () av rfl (by simp only[ag.cat,ag,e,aF,aC]) rfl (by simp[ag.cat,ag,aP])
   .refine aD g [(48,ae)] 200 rfl ?_ (AK.leaveD rfl rfl ?_)
    .simp only[ag,bu,bJ,aF,aC];omega
    have e:scanDown (λx=>ltInt d2[a]! x) d2 (i4) (c)=k:=by grind [fj]
    exact out () av rfl (by simp only[ag.cat,ag,e,aF,aC]) rfl (by simp[ag.cat,ag,aP])
  rintro⟨⟩ -;have c2:=kU (p:=λx=>ltInt d2[a]! x) (d:=d2) (i:=i4) c
  obtain⟨l,m⟩:∃ l,l=scanDown (λx=>ltInt d2[a]! x) d2 i4 c:=⟨_,rfl⟩
  rw[<-m] at c2 ⊢;have q:=partEqLoop_eq (by omega) u m
  by_cases y:l<i4
  .have e:=q;rw[h,bc y] at e;refine aD g [(64,ab)] 200 rfl ?_ (AK.leaveD rfl rfl ?_)
   .simp only[ag,bu,ba];omega
   exact t () (by grind) rfl (by simp only[ag.cat,ag,e,aF,aC]) rfl (by simp[ag.cat,ag,aP,e])
  .have e:=q;rw[h,aY (by omega)] at e
   refine aD g [(64,ae),(1000009,ab)] 200 rfl ?_ ?_
   .simp only[ag,bt,bz,bu,bJ,aF,aC];and_intros <;> omega
   refine AK.norm [bI n (swp d2 i4 l)] rfl ?_ ?_
   .simp only[ag.cat,ag,bt,bz,aC,aF];exact g7 w (by omega) (by omega) (λ_ _=>rfl)
   refine aD g [] 200 rfl ?_ (AK.aQ (i4+1,l-1,swp d2 i4 l) rfl ?_ ?_ ?_ ?_)
   .simp only[ag,bu];and_intros <;> omega
   .simp only[ag.cat,ag,aF,aC];and_intros <;> omega
   .simp[ag.cat,ag,aP]
   .grind [size_swp]
   grind
 rintro⟨⟩ ⟨K,H⟩;refine aD g [] 200 rfl av (AK.dD [0] rfl ?_ rfl rfl rfl gZ);simp[ag.cat,ag]
end
section
open Go.Proofs
open Go.Sort (swp scanSorted shiftDown shiftUp partialIns partialInsertionSort ltInt)
variable {X:Cx ah}
theorem xl{d:Array Int}{b i:Nat}(h:i<b)(a:ltInt d[i]! d[i-1]! = ae):scanSorted ltInt d b i=scanSorted ltInt d b (i+1):=by
 rw[scanSorted.eq_1 ltInt d b i,bc (by grind)]
theorem n9{d:Array Int}{b i:Nat}(h:i<b->ltInt d[i]! d[i-1]! = ab):scanSorted ltInt d b i=i:=by
 rw[scanSorted,aY]
 grind
def Mo{d:Array Int}{b:Nat}:∀ (m i:Nat),b-i<=m->i<=b->i<=scanSorted ltInt d b i/\scanSorted ltInt d b i<=b:=by
 intro m
 induction m with
 |zero=>grind [n9]
 |succ m f =>
  intro i h c
  by_cases a:i<b
  .cases e:ltInt d[i]! d[i-1]! with
   |false=>grind [xl]
   |true=>grind [n9]
  grind
theorem Mp{d:Array Int}{j:Nat}(b:1<=j)(h:ltInt d[j]! d[j-1]! = ab):shiftDown ltInt j d=shiftDown ltInt (j-1) (swp d j (j-1)):=by
 obtain⟨j,rfl⟩:∃ a,j=a+1:=⟨j-1,by omega⟩
 simp only[pC] at h ⊢;rw[shiftDown,aY (by simp[h])]
theorem C2{d:Array Int}{j:Nat}(h:1<=j->ltInt d[j]! d[j-1]! = ae):shiftDown ltInt j d=d:=by
 cases j with
 |zero=>rfl
 |succ j =>
  have:=h (by omega)
  simp only[pC] at this;rw[shiftDown,bc (by grind)]
theorem Mq{d:Array Int}{b j:Nat}(a:j<b)(h:ltInt d[j]! d[j-1]! = ab):shiftUp ltInt b j d=shiftUp ltInt b (j+1) (swp d j (j-1)):=by
 rw[shiftUp.eq_1 ltInt b j d,bc a,aY (by simp[h])]
theorem C3{d:Array Int}{b j:Nat}(h:j<b->ltInt d[j]! d[j-1]! = ae):shiftUp ltInt b j d=d:=by
 rw[shiftUp]
 grind
abbrev Qi(n a b i s:Nat):Fr:=[(0,kC n),(1,dI a),(2,dI b),(7,dI i),(8,dI (5-(s:Int)))]
def O6{a b s i:Nat}{d:Array Int}:partialIns ltInt a b (s+1) i d=(if scanSorted ltInt d b i=b then (d,ab) else if b-a<50 then (d,ae) else
  partialIns ltInt a b s (scanSorted ltInt d b i) (if b-scanSorted ltInt d b i≥2 then shiftUp ltInt b (scanSorted ltInt d b i+1) (if scanSorted ltInt d b i-a≥2 then shiftDown ltInt (scanSorted ltInt d b i-1) (swp d (scanSorted ltInt d b i) (scanSorted ltInt d b i-1)) else swp d (scanSorted ltInt d b i) (scanSorted ltInt d b i-1)) else (if scanSorted ltInt d b i-a≥2 then shiftDown ltInt (scanSorted ltInt d b i-1) (swp d (scanSorted ltInt d b i) (scanSorted ltInt d b i-1)) else swp d (scanSorted ltInt d b i) (scanSorted ltInt d b i-1)))):=rfl
def xm(n:Nat)(d:Array Int)(a b:Nat)(Q:d.size=n)(S:a<b)(U:b<=n)(Y:n<=4000000) :
  Ev X 211 [kC n,dI a,dI b] [bI n d] (dB (partialInsertionSort ltInt d a b).2) [bI n (partialInsertionSort ltInt d a b).1]:=by
 have g:bC X [(212,um)]:=.cons xk .nil;refine Ev.bQ Tryz.func211 rfl λT=>?_
 obtain⟨r,K⟩:∃ r,partialIns ltInt a b 5 (a+1) d=r:=⟨_,rfl⟩;have F:partialInsertionSort ltInt d a b=r:=K;rw[F];refine aD g [] 200 rfl (by simp only[ag,bu];omega) ?_
 refine AK.kN (S2:=Unit) 0 rfl rfl (λ_=>r.2=ae) (λ_=>[(0,kC n)]) (λ_=>[bI n r.1]) 1 (λs:Nat×Nat×Array Int=>s.2.2.size=n/\s.1<=5/\a+1<=s.2.1/\s.2.1<=b/\partialIns ltInt a b s.1 s.2.1 s.2.2=r) (λs=>Qi n a b s.2.1 s.1) (λs=>[bI n s.2.2]) (λs=>s.1) (5,a+1,d) rfl ?_ rfl ?_ rfl ⟨Q,by grind,by grind,by grind,K⟩ ?_ ?_
 .simp[ag.cat,ag]
 .simp[ag.cat,ag,aP]
 .rintro w ⟨s,i,d1⟩ ⟨L,A,hi,u,f⟩;simp only at L A hi u f;cases s with
  |zero =>
   rw[partialIns] at f;refine aD g [(14,ae)] 200 rfl ?_ (AK.leaveD rfl rfl ?_)
   .simp[ag]
   exact w () (by grind) rfl (by simp[ag.cat,ag]) rfl (by simp[ag.cat,ag,aP,<-f])
  |succ s =>
   rw[O6] at f;refine aD g [(14,ab)] 200 rfl (by simp only[ag,ba];omega) ?_
   refine AK.kN (S2:=Unit) 2 rfl rfl (λ_=>True) (λ_=>Qi n a b (scanSorted ltInt d1 b i) (s+1)) (λ_=>[bI n d1]) 1 (λk:Nat=>i<=k/\k<=b/\scanSorted ltInt d1 b k=scanSorted ltInt d1 b i) (λk=>Qi n a b k (s+1)) (λ_=>[bI n d1]) (λk=>b-k) i rfl ?_ rfl ?_ rfl ⟨bg _,u,rfl⟩ ?_ ?_
   .simp[ag.cat,ag]
   .simp[ag.cat,ag,aP]
   .rintro out k ⟨M,P,N⟩
    by_cases R:k<b
    .have y:((k:Int)-1).toNat=k-1:=by omega
     cases p:ltInt d1[k]! d1[k-1]! with
     |false =>
      refine aD g [(19,ab),(30,ae)] 200 rfl ?_ (AK.aQ (k+1) rfl ?_ ?_ ?_ ?_)
      .simp only[ag,bt,bz,y,p,bu,ba,aF,aC];and_intros <;> omega
      .simp only[ag.cat,ag,aF,aC];omega
      .simp[ag.cat,ag,aP]
      .grind [xl]
      .omega
     |true =>
      refine aD g [(19,ab),(30,ab)] 200 rfl ?_ (AK.leaveD rfl rfl ?_)
      .simp only[ag,bt,bz,y,p,bu,ba,aF,aC];and_intros <;> omega
      have e:scanSorted ltInt d1 b i=k:=by grind [n9]
      exact out () av rfl (by simp only[ag.cat,ag,e,aF,aC]) rfl (by simp[ag.cat,ag,aP])
    .refine aD g [(19,ae)] 200 rfl ?_ (AK.leaveD rfl rfl ?_)
     .simp only[ag,bu,bJ,aF,aC];omega
     have e:scanSorted ltInt d1 b i=k:=by grind [n9]
     exact out () av rfl (by simp only[ag.cat,ag,e,aF,aC]) rfl (by simp[ag.cat,ag,aP])
   rintro⟨⟩ -;have c:=Mo (d:=d1) (b:=b) (b-i) i (bg _) u;obtain⟨i2,E⟩:∃ i2,i2=scanSorted ltInt d1 b i:=⟨_,rfl⟩;rw[<-E] at c f ⊢
   by_cases q:i2=b
   .rw[bc q] at f;rw[<-f];refine aD g [(37,ab)] 200 rfl ?_ (AK.ei (b5.mk [0] rfl ?_ rfl rfl rfl gZ))
    .simp[ag,q]
    .simp[ag,ag.cat]
   rw[aY q] at f
   by_cases x:b-a<50
   .rw[bc x] at f;rw[<-f];refine aD g [(37,ae),(41,ab)] 200 rfl ?_ (AK.ei (b5.mk [0] rfl ?_ rfl rfl rfl gZ))
    .simp[ag,bu];omega
    .simp[ag,ag.cat]
   rw[aY x] at f;have y:((i2:Int)-1).toNat=i2-1:=by omega
   refine aD g [(37,ae),(41,ae),(1000012,ab)] 200 rfl ?_ ?_
   .simp only[ag,bt,bz,y,bu,bJ,dm,cT,aF,aC];and_intros <;> omega
   refine AK.norm [bI n (swp d1 i2 (i2-1))] rfl ?_ ?_
   .simp only[ag.cat,ag,bt,bz,y,aC,aF];exact g7 L (by omega) (by omega) (λ_ _=>rfl)
   have v:(swp d1 i2 (i2-1)).size=n:=by grind [size_swp]
   obtain⟨d2,H⟩:∃ d2,d2=swp d1 i2 (i2-1):=⟨_,rfl⟩;rw[<-H] at v f ⊢;obtain⟨d3,m⟩:∃ d3,d3=if i2-a≥2 then shiftDown ltInt (i2-1) d2 else d2:=⟨_,rfl⟩
   rw[<-m] at f;have V:∀ (j:Nat) (d:Array Int),(shiftDown ltInt j d).size=d.size:=by
    intro j
    induction j with
    |zero=>intro d;rfl
    |succ j W =>
     intro d;rw[shiftDown];grind [size_swp]
   have D:d3.size=n:=by
    grind
   apply AK.join (Qi n a b i2 (s+1)) [bI n d3]
   .intro out
    by_cases J:i2-a≥2
    .rw[bc J] at m;refine aD g [(61,ab)] 200 rfl ?_ ?_
     .simp only[ag,bu,ba,aF,aC];and_intros <;> omega
     refine AK.kN (S2:=Unit) 4 rfl rfl (λ_=>True) (λ_=>Qi n a b i2 (s+1)) (λ_=>[bI n d3]) 1 (λs:Nat×Array Int=>s.2.size=n/\s.1<b/\shiftDown ltInt s.1 s.2=d3) (λs2=>Qi n a b i2 (s+1)++[(9,dI s2.1)]) (λs=>[bI n s.2]) (λs=>s.1) (i2-1,d2) rfl ?_ rfl ?_ rfl ⟨v,by grind,m.symm⟩ ?_ ?_
     .simp only[ag.cat,ag,aF,aC];omega
     .simp[ag.cat,ag,aP]
     .rintro h ⟨j,d4⟩ ⟨o,G,l⟩;simp only at o G l
      by_cases z:1<=j
      .have t:((j:Int)-1).toNat=j-1:=by omega
       cases p:ltInt d4[j]! d4[j-1]! with
       |true =>
        refine aD g [(65,ab),(77,ab)] 200 rfl ?_ (AK.aQ (j-1,swp d4 j (j-1)) rfl ?_ ?_ ?_ ?_)
        .simp only[ag,bt,bz,t,p,bu,ba,aF,aC];and_intros <;> omega
        .simp only[ag.cat,ag,aF,aC];omega
        .simp only[ag.cat,ag,bt,bz,t,aC,aF];exact g7 o (by omega) (by omega) (λ_ _=>rfl)
        .grind [Mp]
        grind
       |false =>
        refine aD g [(65,ab),(77,ae)] 200 rfl ?_ (AK.leaveD rfl rfl ?_)
        .simp only[ag,bt,bz,t,p,bu,ba,aF,aC];and_intros <;> omega
        have e:d3=d4:=by grind [C2]
        exact h () av rfl (by simp[ag.cat,ag]) rfl (by simp[ag.cat,ag,aP,e])
      .refine aD g [(65,ae)] 200 rfl ?_ (AK.leaveD rfl rfl ?_)
       .simp only[ag,bJ];omega
       have e:d3=d4:=by grind [C2]
       exact h () av rfl (by simp[ag.cat,ag]) rfl (by simp[ag.cat,ag,aP,e])
     rintro⟨⟩ -;refine aD g [(1000018,ab)] 200 rfl av ?_;exact out _ _ rfl (by simp[ag.cat,ag])
    .rw[aY J] at m;rw[<-m];refine aD g [(61,ae),(1000018,ab)] 200 rfl ?_ ?_
     .simp only[ag,bu,bJ,aF,aC];and_intros <;> omega
     exact out _ _ rfl (by simp[ag.cat,ag])
   by_cases I:b-i2≥2
   .rw[bc I] at f;obtain⟨d5,B⟩:∃ d5,shiftUp ltInt b (i2+1) d3=d5:=⟨_,rfl⟩;rw[B] at f;refine aD g [(98,ab)] 200 rfl ?_ ?_
    .simp only[ag,bu,ba,aF,aC];and_intros <;> omega
    refine AK.kN (S2:=Unit) 6 rfl rfl (λ_=>d5.size=n) (λ_=>Qi n a b i2 (s+1)) (λ_=>[bI n d5]) 1 (λs:Nat×Array Int=>s.2.size=n/\1<=s.1/\s.1<=b/\shiftUp ltInt b s.1 s.2=d5) (λs2=>Qi n a b i2 (s+1)++[(10,dI s2.1)]) (λs=>[bI n s.2]) (λs=>b-s.1) (i2+1,d3) rfl ?_ rfl ?_ rfl ⟨D,by grind,by grind,B⟩ ?_ ?_
    .simp only[ag.cat,ag,aF,aC];omega
    .simp[ag.cat,ag,aP]
    .rintro h ⟨j,d4⟩ ⟨o,z,G,l⟩;simp only at o z G l
     by_cases O:j<b
     .have t:((j:Int)-1).toNat=j-1:=by omega
      cases p:ltInt d4[j]! d4[j-1]! with
      |true =>
       refine aD g [(103,ab),(115,ab)] 200 rfl ?_ (AK.aQ (j+1,swp d4 j (j-1)) rfl ?_ ?_ ?_ ?_)
       .simp only[ag,bt,bz,t,p,bu,ba,aF,aC];and_intros <;> omega
       .simp only[ag.cat,ag,aF,aC];omega
       .simp only[ag.cat,ag,bt,bz,t,aC,aF];exact g7 o (by omega) (by omega) (λ_ _=>rfl)
       .grind [size_swp,Mq]
       grind
      |false =>
       refine aD g [(103,ab),(115,ae)] 200 rfl ?_ (AK.leaveD rfl rfl ?_)
       .simp only[ag,bt,bz,t,p,bu,ba,aF,aC];and_intros <;> omega
       have e:d5=d4:=by grind [C3]
       exact h () (by grind) rfl (by simp[ag.cat,ag]) rfl (by simp[ag.cat,ag,aP,e])
     .refine aD g [(103,ae)] 200 rfl ?_ (AK.leaveD rfl rfl ?_)
      .simp only[ag,bJ];omega
      have e:d5=d4:=by grind [C3]
      exact h () (by grind) rfl (by simp[ag.cat,ag]) rfl (by simp[ag.cat,ag,aP,e])
    rintro⟨⟩ A;refine aD g [] 200 rfl ?_ (AK.aQ (s,i2,d5) rfl ?_ ?_ ?_ ?_)
    .simp only[ag,bu];omega
    .simp only[ag.cat,ag,aF,aC];omega
    .simp[ag.cat,ag,aP]
    .grind
    grind
   .rw[aY I] at f;refine aD g [(98,ae)] 200 rfl ?_ (AK.aQ (s,i2,d3) rfl ?_ ?_ ?_ ?_)
    .simp only[ag,bu,bJ,aF,aC];and_intros <;> omega
    .simp only[ag.cat,ag,aF,aC];omega
    .simp[ag.cat,ag,aP]
    .grind
    grind
 rintro⟨⟩ C;refine aD g [] 200 rfl av (AK.dD [0] rfl ?_ rfl rfl rfl gZ);simp[ag,ag.cat,C]
end
section
open Go.Proofs
open Go.Sort (swp pdq rd Rd Below SWO insertionSort heapSort breakPatterns choosePivot reverseRange partialInsertionSort partition partitionEqual Hint ltInt PermIn SortedIn)
variable {X:Cx ah}
abbrev Vs(n a b c:Nat)(wb wp:Bool):Fr:=[(0,kC n),(1,dI a),(2,dI b),(3,dI c),(8,dB wb),(9,dB wp)]
def y7{h:Hint}:nu h=2↔h=.decreasing:=by cases h <;> simp[nu]
def tB{h:Hint}:nu h=1↔h=.increasing:=by cases h <;> simp[nu]
structure PqS where
 a:Nat
 b:Nat
 lim:Nat
 wb:Bool
 wp:Bool
 d:Array Int
def O7(n:Nat)(d:Array Int){a b:Nat}(g:d.size=n)(e:b<=n)(c:a<=n)(h:n<=4000000){r:Array Int}(f:r=insertionSort ltInt d a b):Ev X 206 [kC n,dI a,dI b] [bI n d] (.eJ []) [bI n r]:=by
 grind [SE]
def Mr(n:Nat)(d:Array Int){a b:Nat}(g:d.size=n)(c:a<=b)(h:1<=b-a)(e:b<=n)(i:n<=4000000){r:Array Int}(f:r=heapSort ltInt d a b):Ev X 207 [kC n,dI a,dI b] [bI n d] (.eJ []) [bI n r]:=by
 grind [O8]
def SF(n:Nat)(G:n<=4000000):∀ (m:Nat)(d:Array Int)(a b lim:Nat),b-a<=m->d.size=n->a<=b->b<=n->lim<=100->Below ltInt a b d ->
  ∀ {x y z:Int},x=a->y=b->z=lim->∀ {R:Array Int},R=pdq ltInt d a b lim ab ab->Ev X 189 [kC n,dI x,dI y,dI z] [bI n d] (.eJ []) [bI n R]:=by
 have i:bC X [(212,um)]:=.cons xk .nil;have E:SWO ltInt:=Go.Sort.swo_ltInt;have hpi:=Go.Sort.partialInsertionSort_holds (lt:=ltInt);have hpt:=Go.Sort.partition_holds ltInt;have hpe:=Go.Sort.partitionEqual_holds ltInt;have O:=Go.Sort.reverseRange_holds (α:=Int);have M:=Go.Sort.pdq_sorts ltInt;intro m
 induction m using Nat.strongRecOn with
 |_ m ih =>
 intro d a b lim hm hd hab hb hl hB x y z hx hy hz R hR;subst hx hy hz;refine Ev.bQ Tryz.func189 rfl λhf=>?_
 refine aD i [] 200 rfl av ?_;refine AK.bO 1 (λs:PqS=>s.d.size=n/\s.a<=s.b/\s.b<=n/\s.lim<=100/\s.b-s.a<=b-a/\Below ltInt s.a s.b s.d/\pdq ltInt s.d s.a s.b s.lim s.wb s.wp=R) (λs=>Vs n s.a s.b s.lim s.wb s.wp) (λs=>[bI n s.d]) (λs=>s.b-s.a) ⟨a,b,lim,ab,ab,d⟩ rfl ?_ rfl ?_ rfl ⟨hd,hab,hb,hl,bg _,hB,hR.symm⟩ ?_
 .simp[ag.cat,ag]
 .simp[ag.cat,ag,aP]
 clear hf hB hd hR;rintro⟨f,h,p,wb,wp,d1⟩ ⟨S,A,j,Ua,XI,hB,k⟩;simp only at S A j Ua XI hB k
 by_cases B:h-f<=12
 .rw[Go.Sort.pdq_small B] at k;refine aD i [(23,ab)] 200 rfl ?_ ?_
  .simp only[ag,bu,ba];and_intros <;> omega
  refine AK.cQ (O7 n d1 (a:=f) (b:=h) S j (by omega) G k.symm) [0] rfl ?_
  refine aD i [] 200 rfl av (AK.ei (b5.mk [0] rfl av rfl rfl rfl gZ))
 by_cases T:p=0
 .rw[Go.Sort.pdq_heap B T] at k;refine aD i [(23,ae),(29,ab)] 200 rfl ?_ ?_
  .simp only[ag,bu,bJ,gi];and_intros <;> omega
  refine AK.cQ (Mr n d1 (a:=f) (b:=h) S A (by omega) j G k.symm) [0] rfl ?_
  refine aD i [] 200 rfl av (AK.ei (b5.mk [0] rfl av rfl rfl rfl gZ))
 have l:f<h:=by omega
 obtain⟨f1,f2,f3,Z,f5,Y,W,f8⟩:=Go.Sort.rd_facts (limit:=p) (wb:=wb) (wp:=wp) E hpi O l (by grind) hB
 have fl:=Go.Sort.rd_lim_le (lt:=ltInt) (d:=d1) (a:=f) (b:=h) (limit:=p) (wb:=wb) (wp:=wp);have Q:=Go.Sort.rd_dec (lt:=ltInt) (d:=d1) (a:=f) (b:=h) (limit:=p) (wb:=wb) (wp:=wp);have U:=Go.Sort.rd_not (lt:=ltInt) (d:=d1) (a:=f) (b:=h) (limit:=p) (wb:=wb) (wp:=wp);have H:=Go.Sort.rd_pi_yes (lt:=ltInt) (d:=d1) (a:=f) (b:=h) (limit:=p) (wb:=wb) (wp:=wp);have fno:=Go.Sort.rd_pi_no (lt:=ltInt) (d:=d1) (a:=f) (b:=h) (limit:=p) (wb:=wb) (wp:=wp);have fc:=Go.Sort.rd_c (lt:=ltInt) (d:=d1) (a:=f) (b:=h) (limit:=p) (wb:=wb) (wp:=wp);have fd1:wb=ae->(rd ltInt d1 f h p wb wp).d1=breakPatterns d1 f h/\(rd ltInt d1 f h p wb wp).lim=p-1:=by grind [Go.Sort.rd_false]
 have fd2:wb=ab->(rd ltInt d1 f h p wb wp).d1=d1/\(rd ltInt d1 f h p wb wp).lim=p:=by grind [Go.Sort.rd_true]
 have D:=Go.Sort.pdq_done (lt:=ltInt) (d:=d1) (wb:=wb) (wp:=wp) B T;have geq:=Go.Sort.pdq_eq (lt:=ltInt) (d:=d1) (wb:=wb) (wp:=wp) B T;have C:=Go.Sort.pdq_left (lt:=ltInt) (d:=d1) (wb:=wb) (wp:=wp) B T;have u:=Go.Sort.pdq_right (lt:=ltInt) (d:=d1) (wb:=wb) (wp:=wp) B T;rw[S] at f1 Z W;rw[k] at D geq C u;generalize rd ltInt d1 f h p wb wp=r at *
 apply AK.join (Vs n f h r.lim wb wp++[(10,dI ((h-f:Nat):Int))]) [bI n r.d1]
 .intro out;cases wb with
  |false =>
   obtain⟨J,I⟩:=fd1 rfl;refine aD i [(23,ae),(29,ae)] 200 rfl ?_ ?_
   .simp only[ag,bu,bJ,dm,cT];and_intros <;> omega
   refine AK.cQ (Ms n d1 f h S A j G) [0] rfl ?_;rw[<-J];refine aD i [(1000010,ab)] 200 rfl ?_ ?_
   .simp only[ag,bu];and_intros <;> omega
   exact out _ _ rfl (by simp only[ag.cat,ag,I,aF,aC];and_intros <;> omega)
  |true =>
   obtain⟨J,I⟩:=fd2 rfl;subst J;refine aD i [(23,ae),(29,ae),(1000010,ab)] 200 rfl ?_ ?_
   .simp only[ag,bu,bJ,dm,cT];and_intros <;> omega
   exact out _ _ rfl (by simp only[ag.cat,ag,I,aF,aC];and_intros <;> omega)
 refine aD i [] 200 rfl av ?_;refine AK.cQ (Iq n r.d1 f h A j (by omega) G) [0] rfl ?_
 rw[<-fc]
 apply AK.join (Vs n f h r.lim wb wp++[(10,dI ((h-f:Nat):Int)),(11,dI r.pivot),(12,dI (nu r.hint))]) [bI n r.d2]
 .intro out
  by_cases v:r.c.2=.decreasing
  .obtain⟨J,I,e3⟩:=Q v;refine aD i [(50,ab)] 200 rfl ?_ ?_
   .simp only[ag,gi,y7];exact v
   refine AK.cQ (SG n r.d1 f h f1 (by omega) (by omega) j G) [0] rfl ?_
   rw[<-J];refine aD i [(1000015,ab)] 200 rfl ?_ ?_
   .simp only[ag,bu];and_intros <;> omega
   exact out _ _ rfl (by simp only[ag.cat,ag,I,e3,nu,aF,aC];and_intros <;> omega)
  .obtain⟨J,I,e3⟩:=U v;rw[<-J];refine aD i [(50,ae),(1000015,ab)] 200 rfl ?_ ?_
   .simp only[ag,dm,cT,y7];exact v
   exact out _ _ rfl (by simp only[ag.cat,ag,I,e3,aF,aC])
 by_cases t:r.pi.2=ab
 ·
  have q:(wb&&wp&&decide (r.hint=.increasing))=ab:=by
   grind
  have e:=H q;simp only[bL,ba] at q;obtain⟨⟨rfl,rfl⟩,F⟩:=q;refine aD i [(67,ab)] 200 rfl ?_ ?_
  .simp only[ag,gi,tB];exact F
  refine AK.cQ (xm n r.d2 f h Z l j G) [0] rfl ?_;rw[<-e,t,<-D t];refine aD i [] 200 rfl av (AK.ei (b5.mk [0] rfl av rfl rfl rfl gZ))
 rw[oL] at t
 apply AK.join (Vs n f h r.lim wb wp++[(10,dI ((h-f:Nat):Int)),(11,dI r.pivot)]) [bI n r.pi.1]
 .intro out;cases o:(wb&&wp&&decide (r.hint=.increasing)) with
  |true =>
   have e:=H o;simp only[bL,ba] at o;obtain⟨⟨rfl,rfl⟩,F⟩:=o;refine aD i [(67,ab)] 200 rfl ?_ ?_
   .simp only[ag,gi,tB];exact F
   refine AK.cQ (xm n r.d2 f h Z l j G) [0] rfl ?_;rw[<-e,t];refine aD i [(1000017,ab)] 200 rfl av ?_;exact out _ _ rfl (by simp[ag.cat,ag])
  |false =>
   have e:r.d2=r.pi.1:=by grind
   rw[e];cases wb with
   |false =>
    refine aD i [(1000017,ab)] 200 rfl av ?_;exact out _ _ rfl (by simp[ag.cat,ag])
   |true =>
    cases wp with
    |false =>
     refine aD i [(1000017,ab)] 200 rfl av ?_;exact out _ _ rfl (by simp[ag.cat,ag])
    |true =>
     refine aD i [(67,ae),(1000017,ab)] 200 rfl ?_ ?_
     .simp only[ag,dm,cT,tB]
      grind
     exact out _ _ rfl (by simp[ag.cat,ag])
 have ep:((f:Int)-1).toNat=f-1:=by omega
 cases o:(decide (f>0)&&!ltInt r.pi.1[f-1]! r.pi.1[r.pivot]!) with
 |true =>
  have w:=o;simp only[bL,ba,ji] at w;obtain⟨L,V,K,q4,_⟩:=Go.Sort.round_eq (mid:=(partitionEqual ltInt r.pi.1 f h r.pivot).1) (d4:=(partitionEqual ltInt r.pi.1 f h r.pivot).2) E hpe w.1 Y.1 Y.2 (by grind) f8 w.2 rfl
  have g:=geq t o ⟨L,V⟩;refine aD i [(74,ab),(85,ae)] 200 rfl ?_ ?_
  .simp only[ag,bt,bz,ep,w.2,bu,ba,aF,aC];and_intros <;> omega
  refine AK.cQ (Ir n r.pi.1 f h r.pivot W l j (by omega) G) [0] rfl ?_
  refine aD i [] 200 rfl av (AK.aQ ⟨(partitionEqual ltInt r.pi.1 f h r.pivot).1,h,r.lim,wb,wp,(partitionEqual ltInt r.pi.1 f h r.pivot).2⟩ rfl ?_ ?_ ?_ ?_)
  .simp[ag.cat,ag]
  .simp[ag.cat,ag,aP]
  .grind
  grind
 |false =>
  obtain⟨L,V,K,q4,q5,q6,q7⟩:=Go.Sort.round_part (mid:=(partition ltInt r.pi.1 f h r.pivot).1) (ap:=(partition ltInt r.pi.1 f h r.pivot).2.1) (d4:=(partition ltInt r.pi.1 f h r.pivot).2.2) E hpt Y.1 Y.2 (by grind) f8 rfl
  apply AK.join (Vs n f h r.lim wb wp++[(10,dI ((h-f:Nat):Int)),(11,dI r.pivot)]) [bI n r.pi.1]
  .intro out
   by_cases ha0:0<f
   .have u4:ltInt r.pi.1[f-1]! r.pi.1[r.pivot]! = ab:=by
     grind
    refine aD i [(74,ab),(85,ab),(1000020,ab)] 200 rfl ?_ ?_
    .simp only[ag,bt,bz,ep,u4,bu,ba,aF,aC];and_intros <;> omega
    exact out _ _ rfl (by simp[ag.cat,ag])
   .refine aD i [(74,ae),(1000020,ab)] 200 rfl ?_ ?_
    .simp only[ag,bJ];omega
    exact out _ _ rfl (by simp[ag.cat,ag])
  refine aD i [] 200 rfl av ?_;refine AK.cQ (O9 n r.pi.1 f h r.pivot W l j (by omega) G) [0] rfl ?_
  have gl:=C t o ⟨L,V⟩;have gr:=u t o ⟨L,V⟩;generalize partition ltInt r.pi.1 f h r.pivot=P at *;rw[W] at K
  by_cases N:P.1-f<h-P.1
  .have g:=gl N;obtain⟨w1,w2⟩:=M E P.2.2 f P.1 r.lim ab ab L (by grind) q4
   obtain⟨w3,_⟩:=q6 _ w1 w2;refine aD i [(113,ab)] 200 rfl ?_ ?_
   .simp only[ag,bu,ba,aF,aC];and_intros <;> omega
   refine AK.cQ (ih (P.1-f) (by omega) P.2.2 f P.1 r.lim (bg _) K L (by omega) (by omega) q4 rfl rfl rfl rfl) [0] rfl ?_
   refine aD i [] 200 rfl ?_ (AK.aQ ⟨P.1+1,h,r.lim,decide (P.1-f≥(h-f) / 8),P.2.1,pdq ltInt P.2.2 f P.1 r.lim ab ab⟩ rfl ?_ ?_ ?_ ?_)
   .simp only[ag,bu,aF,aC];and_intros <;> omega
   .simp only[ag.cat,ag,aF,aC]
    grind
   .simp[ag.cat,ag,aP]
   .exact⟨by simp only;rw[w1.1,K],by grind,j,by grind,by grind,w3,g.symm⟩
   grind
  .have g:=gr N;obtain⟨w1,w2⟩:=M E P.2.2 (P.1+1) h r.lim ab ab (by omega) (by grind) q5
   obtain⟨w3,_⟩:=q7 _ w1 w2;refine aD i [(113,ae)] 200 rfl ?_ ?_
   .simp only[ag,bu,bJ,aF,aC];and_intros <;> omega
   refine AK.cQ (ih (h-(P.1+1)) (by omega) P.2.2 (P.1+1) h r.lim (bg _) K (by omega) j (by omega) q5 (x:=(P.1:Int)+1) (by omega) rfl rfl rfl) [0] rfl ?_
   refine aD i [] 200 rfl ?_ (AK.aQ ⟨f,P.1,r.lim,decide (h-P.1≥(h-f) / 8),P.2.1,pdq ltInt P.2.2 (P.1+1) h r.lim ab ab⟩ rfl ?_ ?_ ?_ ?_)
   .trivial
   .simp only[ag.cat,ag,aF,aC]
    grind
   .simp[ag.cat,ag,aP]
   .exact⟨by simp only;rw[w1.1,K],by grind,by grind,by grind,by grind,w3,g.symm⟩
   grind
end
section
open Go.Proofs
variable {X:Cx ah}
abbrev pb:dh:=jX aS (λp=>dS (iF p)) λ_=>[]
abbrev Ag(r:Option Bs):D:=.eJ [.one (.c (.str (r.getD []))),.one (.c (.bool r.isSome))]
def Ed(c:dG X 219 pb)(b:Bs):Ev X 191 [dS b] [] (Ag (fe b)) []:=by
 refine Ev.bQ Tryz.func191 rfl λf=>?_
 have e:bC X [(217,Rr),(218,jX aS (λs=>dB (bH s)) λ_=>[]),(219,pb)]:=.cons t217 (.cons t218 (.cons c .nil))
 by_cases a:bH (strip b)=ab
 .by_cases d:iF (strip b)=b
  .refine aD e [(10,ae),(15,ae)] 100 rfl ?_ (AK.bm rfl ?_)
   .simp[ag,a,d]
   .simp[ag,ag.cat,fe,a,d]
  .refine aD e [(10,ae),(15,ab)] 100 rfl ?_ (AK.bm rfl ?_)
   .simp[ag,a,d]
   .simp[ag,ag.cat,fe,a,d]
 .refine aD e [(10,ab),(15,ab)] 100 rfl ?_ (AK.bm rfl ?_)
  .simp[ag,a]
  .simp[ag,ag.cat,fe,a]
def Uu(a:dG X 219 pb):dG X 191 (jX aS (λb=>Ag (fe b)) λ_=>[]):=.oi λb _=>Ed a b
def wD{b p:Bs}(h:fe b=aa p):bH p=ab:=by
 unfold fe at h;split at h
 .rename_i a;cases h;exact(bL _ _▸a).1
 .cases h
abbrev XR(x:cA):D:=S5.enc x
def KA(c:dG X 219 pb)(x:cA) (k:Int)(e:ck k=ab):Ev X 173 [XR x,dI k] [] (Ag (chunk k x)) []:=by
 refine Ev.bQ Tryz.func173 rfl λh=>?_
 have f:bC X [(191,jX aS (λb=>Ag (fe b)) λ_=>[]),(192,Dk aI aS aI (λk p n=>dB (iZ k p==n)) λk p _=>[ck k=ab,bH p=ab])]:=.cons (Uu c) (.cons t192 .nil)
 cases a:fe x.2 with
 |none =>
  refine aD f [(16,ab),(23,ab)] 100 rfl ?_ (AK.bm rfl ?_)
  .simp[ag,a]
  .simp[ag,ag.cat,chunk,a]
 |some p =>
  have g:=wD a
  by_cases d:iZ k p=x.1
  .refine aD f [(16,ae),(23,ae)] 100 rfl ?_ (AK.bm rfl ?_)
   .simp[ag,a,d,e,g]
   .simp[ag,ag.cat,chunk,a,d,e]
  .refine aD f [(16,ae),(23,ab)] 100 rfl ?_ (AK.bm rfl ?_)
   .simp[ag,a,d,e,g]
   .simp[ag,ag.cat,chunk,a,d,e]
def KB(a:dG X 219 pb):dG X 173 (p0 S5 aI (λx k=>Ag (chunk k x)) λ_ k=>[ck k=ab]):=.tb λx k h=>KA a x k h
end
end Go.AM.R1
namespace Go.AM
section
open Go.Conc (G)
section
variable {P:aq}{X:Cx P}
def Yields{ι:Type}(X:Cx P)(d:Nat)(ds:List D)(σ:List aV)(res:Bool)(σ':ι->List aV):Prop :=
 ∀ s (vs:List ak) (l:Nat),cw σ s vs ds->aJ σ s->(∃ L,s.β[d]?=aa L/\L.v=.func (.yield l) #[] #[]) ->
  ∃ fn tmps assign body,(Instr.yield l vs.toArray).run P s.w=.ok (.round l fn tmps assign body) s.w/\(Instr.yield l vs.toArray).events P s.w #[]=#[⟨.obj l,ae,ae⟩] /\
  ∀ (S:au->St->Prop) (c:aR) (cs:List aR),(∀ i s',aJ (σ' i) s'->cB σ s (σ' i) s'->fp X S (G (c.finish (.bool res)) cs) s') ->
   fp X S (G (Frame.round l fn tmps assign body .normal) (c::cs)) s
def mv{w:az}{l:Nat}{r:Loop}(h:w.heap[l]?=aa (.loop r)):(Instr.getLoop l).run P w=.ok r w/\∀ es,(Instr.getLoop l).events P w es=es.push ⟨.obj l,ae,ae⟩:=by
 have c:(getObj l).run P w=.ok (.loop r) w:=by simp only[getObj,Sem.run,h]
 have d:∀ es,(getObj l).events P w es=es.push ⟨.obj l,ae,ae⟩:=λes=>by simp only[getObj,Sem.events,Sem.runT,h];rfl
 constructor
 .simp[Instr.getLoop,c]
 .intro es;simp[Instr.getLoop,c,d]
def oY{w:az}{l:Nat}{r r':Loop}(h:w.heap[l]?=aa (.loop r)):(setObj l (.loop r')).run P w=.ok () { w with heap:=w.heap.setIfInBounds l (.loop r') }/\∀ es,(setObj l (.loop r')).events P w es=es.push ⟨.obj l,ab,ae⟩:=by
 constructor
 .simp only[setObj,Sem.run,h]
 .intro es;simp only[setObj,Sem.events,Sem.runT,h];rfl
def G0{w:az}{l:Nat}{r:Loop}{args:Array ak}(h:w.heap[l]?=aa (.loop r))(d:args.size=r.params.size) :
  (Instr.yield l args).run P w=.ok (.round l r.fn ((r.params.zip args).foldl (λtmps (t,a)=>tmps.setIfInBounds t a) r.tmps) r.assign r.body) w/\(Instr.yield l args).events P w #[]=#[⟨.obj l,ae,ae⟩]:=by
 obtain⟨c,e⟩:=mv (P:=P) h
 constructor
 .simp[Instr.yield,c,d]
 .simp[Instr.yield,c,e,d]
def G1{w:az}{l:Nat}{r:Loop}(h:w.heap[l]?=aa (.loop r))(c:r.state=.ready) :
  (Instr.beginRound l).run P w=.ok () { w with heap:=w.heap.setIfInBounds l (.loop { r with state:=.busy }) }/\(Instr.beginRound l).events P w #[]=#[⟨.obj l,ae,ae⟩,⟨.obj l,ab,ae⟩]:=by
 obtain⟨e,f⟩:=mv (P:=P) h;obtain⟨d,g⟩:=oY (P:=P) (r':={ r with state:=.busy }) h
 constructor
 .simp[Instr.beginRound,e,d,c]
 .simp[Instr.beginRound,e,f,d,g,c]
def zQ{w:az}{l:Nat}{r:Loop}(h:w.heap[l]?=aa (.loop r))(j:Option Code) :
  (Instr.endRound l j).run P w=.ok (.bool j.isNone) { w with heap:=w.heap.setIfInBounds l (.loop { r with state:=if j.isNone then .ready else .done,pending:=j }) }/\(Instr.endRound l j).events P w #[]=#[⟨.obj l,ae,ae⟩,⟨.obj l,ab,ae⟩]:=by
 obtain⟨c,e⟩:=mv (P:=P) h;obtain⟨d,f⟩:=oY (P:=P) (r':={ r with state:=if j.isNone then .ready else .done,pending:=j }) h
 constructor
 .simp only[Instr.endRound,bX,c,d,b8,cW]
 .simp only[Instr.endRound,aO,c,e,d,f,aU,Sem.events_pure];rfl
def BK{w:az}{l:Nat}{r:Loop}(h:w.heap[l]?=aa (.loop r))(c:r.state≠.busy) :
  (Instr.endLoop l).run P w=.ok r.pending { w with heap:=w.heap.setIfInBounds l (.loop { r with state:=.exhausted }) }/\(Instr.endLoop l).events P w #[]=#[⟨.obj l,ae,ae⟩,⟨.obj l,ab,ae⟩]:=by
 obtain⟨d,e⟩:=mv (P:=P) h;obtain⟨f,g⟩:=oY (P:=P) (r':={ r with state:=.exhausted }) h;have i:(r.state==.busy)=ae:=by cases j:r.state <;> simp_all
 constructor
 .simp[Instr.endLoop,d,f,c]
 .simp[Instr.endLoop,d,e,g,c]
section steps
variable {b:aR}{a:Act}{k:List Item}{cs:List aR}{w:az}{main:Bool}
def BL{o:aw}{d:an}{xs:Array an}{c:Array ar}{l:Nat}(e:o.op=.call { callee:=.value d,args:=xs,argTypes:=c })(f:a.eval d=.func (.yield l) #[] #[]) :
  (ay a.eval o).run P w=(Instr.yield l (xs.toList.map a.eval).toArray).run P w/\(ay a.eval o).events P w #[]=(Instr.yield l (xs.toList.map a.eval).toArray).events P w #[]:=by
 have g:xs.map a.eval=(xs.toList.map a.eval).toArray:=by grind
 constructor
 .simp[ay,e,resolve,f,Deferred.ofValue,invoke,g]
 .simp[ay,e,resolve,f,Deferred.ofValue,invoke,g]
def JV{ops:Array aw}{i:Nat}{rest:List Nat}{o:aw}{l:Nat}{fn:aW}{tmps:Array ak}{assign body:Code}{w':az}(f:ops[i]?=aa o)(g:bj o (yielded ops a.tmps)=ab)
  (j:b.kind≠.early) (e:(ay a.eval o).run P w=.ok (.round l fn tmps assign body) w') :
  aK P main (G (b.aT a (.inRegion ops (i::rest)::k)) cs) w=.go (G (Frame.round l fn tmps assign body .normal) (b.aT a (.inRegion ops (i::rest)::k)::cs)) w' (Go.Conc.listed P b.fn a o w):=by
 have d:(b.kind==CallKind.early)=ae:=by grind
 rw[uY f g (λc h=>by grind [rv])]
 simp[stepG.apply,e,G,Frame.aT,d,GStep.after,Go.Conc.listed]
def JW{l:Nat}{r:Loop}(d:b.roundOf=aa l)(i:b.kind≠.early)(h:w.heap[l]?=aa (.loop r))(e:r.state=.ready) :
  aK P main (G (b.aT a (.beginRound::k)) cs) w=.go (G (b.aT a k) cs) { w with heap:=w.heap.setIfInBounds l (.loop { r with state:=.busy }) } (seen P b.fn #[⟨.obj l,ae,ae⟩,⟨.obj l,ab,ae⟩]):=by
 obtain⟨g,f⟩:=G1 (P:=P) h e;have c:(b.kind==CallKind.early)=ae:=by grind
 simp[G,aK,stepG.exec,stepG.apply,Frame.aT,d,c,g,f,GStep.after,Frame.finish]
def BM{l:Nat}{r:Loop}{j:Option Code}{e:List Item}{c:aR}(f:b.roundOf=aa l)(i:b.kind=.normal)(h:w.heap[l]?=aa (.loop r))
  (n:(j=af/\e=[])∨(j=aa .ret/\∃ k1,e=.code .ret::k1)∨(∃ id k1,j=aa (.exit id)/\e=.code (.exit id)::k1/\exitTo id k1=af)) :
  aK P main (G (b.aT a e) (c::cs)) w=.go (G (c.finish (.bool j.isNone)) cs) { w with heap:=w.heap.setIfInBounds l (.loop { r with state:=if j.isNone then .ready else .done,pending:=j }) } (seen P b.fn #[⟨.obj l,ae,ae⟩,⟨.obj l,ab,ae⟩]):=by
 obtain⟨d,g⟩:=zQ (P:=P) h j;rcases n with⟨rfl,rfl⟩|⟨rfl,k1,rfl⟩|⟨id,k1,rfl,rfl,m⟩
 .simp only[Option.isNone_none,cq] at d;simp[G,aK,stepG.exec,Frame.aT,f,d,g,GStep.after,doReturn,i]
 .simp only[Option.isNone_some,b9,jE] at d;simp[G,aK,stepG.exec,Frame.aT,f,d,g,GStep.after,doReturn,i]
 .simp only[Option.isNone_some,b9,jE] at d;simp[G,aK,stepG.exec,Frame.aT,f,d,g,GStep.after,doReturn,i,m]
def DW{l:Nat}{r:Loop}(h:w.heap[l]?=aa (.loop r))(e:r.state≠.busy) :
  aK P main (G (b.aT a (.endRangeFunc l::k)) cs) w=.go (G (b.aT a ((r.pending.map Item.code).toList++k)) cs) { w with heap:=w.heap.setIfInBounds l (.loop { r with state:=.exhausted }) } (seen P b.fn #[⟨.obj l,ae,ae⟩,⟨.obj l,ab,ae⟩]):=by
 obtain⟨c,d⟩:=BK (P:=P) h e;simp[G,aK,stepG.exec,Frame.aT,c,d,GStep.after]
def xJ{fn:aW}{tmps:Array ak}{params:Array Tmp}{assign body:Code} :
  (Instr.enterLoop fn tmps params assign body af).run P w=.ok (w.heap.size+1,[{ target:=.collected w.heap.size,args:=#[] }]) { w with heap:=(w.heap.push (.deferred (aa []))).push (.loop { state:=.ready,pending:=af,fn,tmps,params,assign,body,defers:=w.heap.size }) } /\
  (Instr.enterLoop fn tmps params assign body af).events P w #[]=#[]:=by
 have c:∀ (o:Obj) (w:az),(newObj o).run P w=.ok w.heap.size { w with heap:=w.heap.push o }:=λo w=>by simp only[newObj,Sem.run]
 have d:∀ (o:Obj) (w:az) es,(newObj o).events P w es=es:=λo w es=>by simp only[newObj,Sem.events,Sem.runT]
 constructor
 .simp[Instr.enterLoop,c];rfl
 .simp[Instr.enterLoop,c,d]
def zR{f:an}{ps:Array Tmp}{assign body:Code}{F:aW}{fn:Func}{c:List ak}(o:b.roundOf=af)(s:b.kind≠.early)(i:P.funcs[F]?=aa fn)(l:(fn.name== "runtime.NumGoroutine")=ae)(j:fn.body.isNone=ae)
  (q:a.eval f=.func (.func F) #[] c.toArray) :
  aK P main (G (b.aT a (.code (.rangeFunc f ps assign body)::k)) cs) w =
   .go (G (Frame.enter P F (Value.func (.yield (w.heap.size+1)) #[] #[]::c).toArray .normal) (b.aT { a with defers:={ target:=.collected w.heap.size,args:=#[] }::a.defers } (.inRangeFunc (w.heap.size+1)::k)::cs))
    { w with heap:=(w.heap.push (.deferred (aa []))).push (.loop { state:=.ready,pending:=af,fn:=b.fn,tmps:=a.tmps,params:=ps,assign,body,defers:=w.heap.size }) } #[]:=by
 obtain⟨r,p⟩:=xJ (P:=P) (w:=w) (fn:=b.fn) (tmps:=a.tmps) (params:=ps) (assign:=assign) (body:=body);have h:(b.kind==CallKind.early)=ae:=by grind
 have g:fn.name≠ "runtime.NumGoroutine":=by grind
 have e:fn.body≠af:=by grind
 have n:∀ (d:List Deferred) (t:List Item) (m:FrameMode),({ fn:=b.fn,tmps:=a.tmps,todo:=t,defers:=d,mode:=m,kind:=b.kind,roundOf:=b.roundOf }:aR).eval f=.func (.func F) #[] c.toArray:=by
  intro d t m;rw[<-q];cases f <;> rfl
 simp only[G,aK,stepG.exec,Frame.aT,o] at n ⊢;simp[r,p,GStep.after,stepG.apply,resolve,n,Deferred.ofValue,invoke,callFunc,i,g,e,h,seen];rfl
end steps
end
section
variable {P:aq}{X:Cx P}
def aJ.zS{σ:List aV}{s:St}(hh:aJ σ s){b N:Nat}{a:Fr}{r:Loop}(c:σ[b]?=aa (.loop N a r)){l:Nat}(hl:∃ L,s.β[b]?=aa L/\L.v=.func (.yield l) #[] #[]) :
  ∃ tmps fn df,s.β[b]?=aa ⟨.func (.yield l) #[] #[],[l]⟩/\s.w.heap[l]?=aa (.loop { r with tmps:=tmps,fn:=fn,defers:=df })/\tmps.size=N/\(∀ t,c8 σ s (tmps.getD t aj) (look a t))/\(∀ o,s.M l o=af):=by
 obtain⟨L,h1,h2⟩:=hl;obtain⟨l',tmps,fn,df,f,g,h,d,e⟩:=hh.box b _ L c h1
 grind
def aJ.zT{σ:List aV}{s:St}(hh:aJ σ s){c N:Nat}{a:Fr}{r r':Loop}{B':aV}(k:σ[c]?=aa (.loop N a r)){l:Nat}{tmps:Array ak}{fn df:Nat}(n:s.β[c]?=aa ⟨.func (.yield l) #[] #[],[l]⟩)
  (D:s.w.heap[l]?=aa (.loop { r with tmps:=tmps,fn:=fn,defers:=df })) (C:tmps.size=N) (g:∀ t,c8 σ s (tmps.getD t aj) (look a t)) (z:∀ o,s.M l o=af) (d:B'=.dead∨B'=.loop N a r') :
  aJ (σ.set c B') { s with w:={ s.w with heap:=s.w.heap.setIfInBounds l (.loop { r' with tmps:=tmps,fn:=fn,defers:=df }) } }/\Step σ s (σ.set c B') { s with w:={ s.w with heap:=s.w.heap.setIfInBounds l (.loop { r' with tmps:=tmps,fn:=fn,defers:=df }) } }:=by
 have p:l<s.w.heap.size:=hh.lt _ (bT n) l (by simp)
 have A:∀ b,b≠l->(s.w.heap.setIfInBounds l (.loop { r' with tmps:=tmps,fn:=fn,defers:=df }))[b]?=s.w.heap[b]?:=λb hb=>by grind
 have q:s.β.set c ⟨.func (.yield l) #[] #[],[l]⟩=s.β:=by
  apply iL
  grind
 have m:c<σ.length:=(cp.1 k).1;have j:ig (.loop N a r) ⟨.func (.yield l) #[] #[],[l]⟩ B' ⟨.func (.yield l) #[] #[],[l]⟩:=by rcases d with rfl|rfl <;> rfl
 have ex:Ext σ s (σ.set c B') { s with w:={ s.w with heap:=s.w.heap.setIfInBounds l (.loop { r' with tmps:=tmps,fn:=fn,defers:=df }) } }:=by
  refine⟨λ_ _ _ h=>h,λi B L u f=>?_⟩
  by_cases e:c=i
  .grind
  .exact⟨B,L,by grind,f,.refl _ _⟩
 have:=hh.iO (M':=s.M) (w':={ s.w with heap:=s.w.heap.setIfInBounds l (.loop { r' with tmps:=tmps,fn:=fn,defers:=df }) }) (B':=B') (L':=⟨.func (.yield l) #[] #[],[l]⟩) k n j (by simp) (λb _ hb=>A b (by grind)) (λ_ _ _ _=>rfl) (λ_ _ _ h=>h)
  (λb o v y=>by
   have x:b≠l:=by grind
   rw[<-hh.mem b o v y];simp only[a9]
   grind) (λb hb=>by grind) rfl rfl rfl (by
   rcases d with rfl|rfl
   .trivial
   .refine⟨l,tmps,fn,df,rfl,?_,C,λt=>?_,z⟩
    .grind
    .have:=(g t).mono ex hh.len
     grind)
 grind
def AK.yield{ι:Type}{N:Nat}{Qf:Post}{K:List It}{φ:Fr}{σ:List aV}{σ':ι->List aV}{all rest:List aw}{o:aw}{p:an}{xs:Array an}{n:Array ar}{h:Nat}{ds:List D}{res:Bool}(hy:Yields X h ds σ res σ')
  (T:o.guard=af) (hN:gw N o.dst=ab) (J:o.op=.call { callee:=.value p,args:=xs,argTypes:=n }) {Y:Nat} {y:Fr} {r:Loop} (m:σ[h]?=aa (.loop Y y r)) (M:bZ φ p=.e (.one (.ref h))) (v:xs.toList.map (bZ φ)=ds)
  (k:∀ j,AK X N Qf (.ops all rest::K) .normal (lA o.dst (.e (.one (.c (.bool res)))) φ) (σ' j)):AK X N Qf (.ops all (o::rest)::K) .normal φ σ:=by
 intro s a f hh b kk cs S idx hb jG hQ;cases idx with
 |nil=>exact jG.elim
 |cons j idx =>
 refine .next rfl λi B=>?_
 have z:=X.ij B;have d:=hh.rely z;have A:=f.rely z hh;have H:=dN A p;rw[M] at H;obtain⟨_,L,E,C,_⟩:=(show gv _ i _ (.ref h) from H)
 obtain⟨l,tmps,fn,df,U,h4,h5,h6,h7⟩:=d.box h _ L m E;subst U;have x:cw σ i (xs.toList.map a.eval) ds:=by grind [nH,dN]
 obtain⟨Z,u,assign,body,O,R,I⟩:=hy i (xs.toList.map a.eval) l x d ⟨_,E,rfl⟩;obtain⟨Q,r2⟩:=BL (P:=P) (w:=i.w) (a:=a) J C;refine⟨_,i,_,JV jG.1 (dq T) hb (Q.trans O),⟨⟨σ,σ,d,d,.refl _ _⟩,eX.seen ?_⟩,I S _ _ λG s' k9 st=>?_⟩
 .rw[r2,R];exact .one (lS (L:=⟨.func (.yield l) #[] #[],[l]⟩) (bT E) (by simp))
 have g:=j7 (b:=b) (a:=a) (k:=kk) all.toArray j idx (.bool res);rw[jG.1] at g;simp only[nA] at g;rw[g];refine k G s' _ ?_ k9 b kk cs S idx hb jG.2 λF σ2 s2 a2 q V h2 ot=>hQ F σ2 s2 a2 q V h2 ((z.stepW.trans st).trans ot)
 cases W:o.dst with
 |none=>exact A.mono st d.len
 |some t=>exact(A.mono st d.len).put (ik hN t W) (show c8 (σ' G) s' (.bool res) (.e (.one (.c (.bool res)))) from Rd.bool)
def qC:List Tmp->List D->Fr->Fr
 |t::ts,d::ds,φ=>qC ts ds ((t,d)::φ)
 |_,_,φ=>φ
def NN(N:Nat):List Tmp->Bool
 |[]=>ab
 |t::ts=>match bo (t+1) N with|true=>NN N ts|false=>ae
def FL{N:Nat}{σ:List aV}{s:St}:∀ {ps:List Tmp}{ds:List D}{vs:List ak}{φ:Fr}{a:Act},cv N σ s φ a->cw σ s vs ds->NN N ps=ab->cv N σ s (qC ps ds φ) { a with tmps:=(ps.zip vs).foldl (λtmps (t,v)=>tmps.setIfInBounds t v) a.tmps }
 |[],ds,vs,φ,a,h,_,_=>by simpa[qC] using h
 |_::_,[],[],φ,a,h,_,_=>by simpa[qC] using h
 |_::_,[],_::_,φ,a,h,b,_=>b.elim
 |_::_,_::_,[],φ,a,h,b,_=>b.elim
 |t::ts,d::ds,v::vs,φ,a,h,b,c=>by
  simp only[NN] at c;split at c
  .rename_i e
   have:=FL (h.put (d:=t) (c7 e) b.1) b.2 c;simpa[qC,Act.put] using this
  grind
def Q3:Exit->Option (Option Code)
 |.normal=>aa af
 |.ret=>aa (aa .ret)
 |.exit id=>aa (aa (.exit id))
 |_=>af
def Yields.intro{ι:Type}{m N:Nat}{f:Fr}{r:Loop}{ds:List D}{σ:List aV}{σ':ι->List aV}{j:Option Code}(o:σ[m]?=aa (.loop N f r))(Y:r.state=.ready)(hlen:ds.length=r.params.size)(O:NN N r.params.toList=ab)
  (h:AW X N r.assign (λe y σ1=>e=.normal/\σ1[m]?=aa (.loop N f r)/\AW X N r.body (λe φ2 σ2=>Q3 e=aa j/\σ2[m]?=aa (.loop N f { r with state:=.busy }) /\
   ∃ i,G2 (σ2.set m (.loop N f { r with state:=if j.isNone then .ready else .done,pending:=j })) (σ' i)) y (σ1.set m (.loop N f { r with state:=.busy }))) (qC r.params.toList ds f) σ):Yields X m ds σ j.isNone σ':=by
 intro s vs l W hh hl;obtain⟨tmps,fn,df,h1,h2,h3,h4,h5⟩:=hh.zS o hl;have Po:vs.length=r.params.size:=by grind [cw.get]
 obtain⟨y1,y2⟩:=G0 (P:=P) (args:=vs.toArray) h2 (by grind)
 refine⟨_,_,_,_,y1,y2,λS c cs hS=>?_⟩
 let b:aR:={ fn:=fn,tmps:=#[],todo:=[],defers:=[],mode:=.run,kind:=.normal,roundOf:=aa l }
 have hb:b.kind≠.early:=by simp[b]
 have hf:cv N σ s (qC r.params.toList ds f) { tmps:=(r.params.zip vs.toArray).foldl (λtmps (t,a)=>tmps.setIfInBounds t a) tmps,defers:=[] }:=by
  have:=FL (a:={ tmps:=tmps,defers:=[] }) (φ:=f) ⟨h3,⟨[],av⟩,h4⟩ W O;have e:(r.params.zip vs.toArray).foldl (λtmps (x:Tmp×ak)=>tmps.setIfInBounds x.1 x.2) tmps=(r.params.toList.zip vs).foldl (λtmps (x:Tmp×ak)=>tmps.setIfInBounds x.1 x.2) tmps:=by
   rw[<-Array.foldl_toList];simp
  grind
 show fp X S (G (b.aT { tmps:=(r.params.zip vs.toArray).foldl (λtmps (t,a)=>tmps.setIfInBounds t a) tmps,defers:=[] } [.code r.assign,.beginRound,.code r.body]) (c::cs)) s
 refine h s _ hf hh b [.beginRound,.code r.body] (c::cs) S hb ?_;rintro e y σ1 s1 a1 ⟨rfl,u,q⟩ f1 F H;refine .next rfl λs2 sG=>?_
 have K:=X.ij sG;have g:=F.rely K;have f2:=f1.rely K F;have hlL:∃ L,s2.β[m]?=aa L/\L.v=.func (.yield l) #[] #[]:=by
  obtain⟨B',L',k1,k2,R⟩:=(H.trans K.stepW).box m _ _ o h1;rw[u] at k1;cases k1;exact⟨L',k2,R⟩
 obtain⟨U,fn2,VZ,g1,g2,g3,g4,g5⟩:=g.zS u hlL;have g6:=g.zT (r':={ r with state:=.busy }) u g1 g2 g3 g4 g5 (.inr rfl);have A:∀ {s:St} {σ:List aV} {L:Loc},s.β[m]?=aa L->L.bs=[l]->eX s #[⟨.obj l,ae,ae⟩,⟨.obj l,ab,ae⟩]:=λ{s σ L} hL hb =>
  .two (lS (bT hL) (by grind)) (lS (bT hL) (by grind))
 refine⟨_,_,_,JW (l:=l) rfl hb g2 Y,⟨⟨_,_,g,g6.1,g6.2⟩,eX.seen (A (σ:=σ1) g1 rfl)⟩,?_⟩;have J:=g6.2.ox g;have M:=g6.1;refine q _ a1 (f2.mono J g.len) M b [] (c::cs) S hb ?_;rintro e φ3 V s3 a3 ⟨hj,p,ii,C⟩ f3 E Z;have stA:=((H.trans K.stepW).trans J).trans Z;have fin:∀ I k,cg s3 k->((j=af/\I=[])∨(j=aa .ret/\∃ k1,I=.code .ret::k1)∨(∃ id k1,j=aa (.exit id)/\I=.code (.exit id)::k1/\exitTo id k1=af)) ->
   ∃ g' s' es,aK P X.main (G (b.aT a3 I) (c::cs)) k.w=.go g' s'.w es/\qv k s' es/\fp X S g' s':=by
  intro I k d T;have n:=E.rely d;have B:∃ L,k.β[m]?=aa L/\L.v=.func (.yield l) #[] #[]:=by
   obtain⟨B',L',k1,k2,R⟩:=(stA.trans d.stepW).box m _ _ o h1;rw[p] at k1;cases k1;exact⟨L',k2,R⟩
  obtain⟨Q,fn5,df5,p1,p2,p3,p4,p5⟩:=n.zS p B;have z:=n.zT (r':={ r with state:=if j.isNone then .ready else .done,pending:=j }) p p1 p2 p3 p4 p5 (.inr rfl)
  obtain⟨p7,p8,_⟩:=C _ z.1;exact⟨_,_,_,BM (l:=l) rfl rfl p2 T,⟨⟨_,_,n,z.1,z.2⟩,eX.seen (A (σ:=V) p1 rfl)⟩,hS ii _ p7 (((stA.trans d.stepW).trans (z.2.ox n)).trans (p8.ox z.1))⟩
 cases e with
 |normal =>
  cases hj;exact .next rfl λk d=>fin [] k (X.ij d) (.inl ⟨rfl,rfl⟩)
 |ret =>
  cases hj;intro pre;exact .next rfl λk d=>fin _ k (X.ij d) (.inr (.inl ⟨rfl,pre,rfl⟩))
 |exit id =>
  cases hj;intro pre hp;refine .next rfl λk d=>fin _ k (X.ij d) (.inr (.inr ⟨id,_,rfl,rfl,?_⟩))
  have:=hp [];simpa[exitTo] using this
 |_=>cases hj
end
def ny{P:aq}(X:Cx P)(N:Nat)(c:Code)(Q:Post)(φ:Fr)(σ:List aV):Prop :=
 ∀ s a,cv N σ s φ a->aJ σ s->∀ (b:aR) (k:List Item) (cs:List aR) (S:au->St->Prop),b.kind≠.early->b.roundOf=af ->
  (∀ e d σ' s' a',Q e d σ'->cv N σ' s' d a'->aJ σ' s'->cB σ s σ' s'->ends X S b k cs e a' s')->fp X S (G (b.aT a (.code c::k)) cs) s
section
variable {P:aq}{X:Cx P}{N:Nat}{Q:Post}{φ:Fr}{σ:List aV}
def AW.top{c:Code}(h:AW X N c Q φ σ):ny X N c Q φ σ:=λs a f hh b k cs S hb _ d=>h s a f hh b k cs S hb d
def ny.seq{x y:Code}(h:ny X N x (FM (ny X N y Q) Q) φ σ):ny X N (.seq x y) Q φ σ:=by
 intro s a j hh b k cs S hb MV hQ;refine .ctl hh rfl (λ_=>nI) λi h1=>?_
 refine h i a (j.rely h1 hh) (hh.rely h1) b (.code y::k) cs S hb MV ?_;intro e l σ' s' a' q g f st;have c:=h1.stepW.trans st;cases e with
 |normal=>exact q s' a' g f b k cs S hb MV λe d σ2 s2 a2 q2 f2 h2 ot=>hQ e d σ2 s2 a2 q2 f2 h2 (c.trans ot)
 |_=>exact ends.cons (λ_ _=>rfl) (by simp) (hQ _ _ _ _ _ q g f c)
def ny.block{id:Nat}{c:Code}(h:ny X N c (zU id Q) φ σ):ny X N (.block id c) Q φ σ:=by
 intro s a m hh b k cs S hb MV hQ;refine .ctl hh rfl (λ_=>ru) λj h1=>?_
 refine h j a (m.rely h1 hh) (hh.rely h1) b (.inBlock id::k) cs S hb MV ?_;intro e g σ' s' a' q i f st;have d:=h1.stepW.trans st;cases e with
 |normal =>
  exact .ctl f rfl (λ_=>qw) λs2 h2=>hQ .normal g σ' s2 a' q (i.rely h2 f) (f.rely h2) (d.trans h2.stepW)
 |exit IV =>
  simp only[zU] at q;split at q
  .rename_i e
   subst e;intro pre hp;refine .ctl f rfl (λ_=>zp (k':=k) (by rw[hp];simp[exitTo])) λs2 h2=>?_
   exact hQ .normal g σ' s2 a' q (i.rely h2 f) (f.rely h2) (d.trans h2.stepW)
  .rename_i n
   intro pre hp;have:=hQ (.exit IV) g σ' s' a' q i f d (pre++[.inBlock id]) (λk'=>by
    rw[j5,hp];have:(id==IV)=ae:=by grind
    simp[exitTo,this])
   grind
 |ret=>exact hQ _ _ _ _ _ q i f d
 |panic ch=>exact hQ _ _ _ _ _ q i f d
 |goto l=>exact hQ _ _ _ _ _ q i f d
 |outgrown=>exact hQ _ _ _ _ _ q i f d
def aJ.Q4{s:St}(h:aJ σ s){o:Nat->Prop}(c:∀ b,o b->b<s.w.heap.size/\∀ L∈s.β,b∉L.bs):aJ σ { s with own:=o } :=
 ⟨h.mem,h.len,λl B L a e=>eO.carry (σ:=σ) (s:=s) (σ':=σ) (s':={ s with own:=o }) ⟨λ_ _ _ h=>h,λ_ B L h d=>⟨B,L,h,d,.refl _ _⟩⟩ h.len (λ_ _=>⟨rfl,λ_=>rfl⟩) (h.box l B L a e),h.gd,h.lt,c⟩
def aJ.ir{s:St}(h:aJ σ s){r:Nat}{o:Nat->Prop}(f:s.own r)(j:∀ b,o b->s.own b)(k:¬o r)(m:∀ i,s.M r i=af)(g:s.w.heap[r]?=aa (.deferred (aa []))) :
  aJ (σ++[.qS]) { s with β:=s.β++[⟨.int .i64 r,[r]⟩],own:=o }/\eQ s { s with β:=s.β++[⟨.int .i64 r,[r]⟩],own:=o }:=by
 obtain⟨p,t⟩:=h.own r f;have ex:Ext σ s (σ++[.qS]) { s with β:=s.β++[⟨.int .i64 r,[r]⟩],own:=o }:=by
  refine⟨λ_ _ _ h=>h,λl B L c a=>⟨B,L,?_,?_,.refl _ _⟩⟩
  .grind
  grind
 refine⟨⟨h.mem,by simp[h.len],?_,?_,?_,?_⟩,⟨rfl,λ_ _ _ h=>h,λ_ _ _=>rfl,h.mem,?_⟩⟩
 .intro l B L c a;rcases fR a with d|⟨hl,rfl⟩
  .have hl:l<σ.length:=by rw[<-h.len];grind
   rw[jD hl] at c;exact(h.box l B L c d).carry ex h.len λ_ _=>⟨rfl,λ_=>rfl⟩
  .rw[hl,h.len,gh (bg _)] at c;simp at c;subst c;exact⟨r,rfl,g,m⟩
 .intro l l' L L' a e b hb oG;rcases fR a with k1|⟨e1,rfl⟩ <;> rcases fR e with n|⟨e2,rfl⟩
  .exact h.gd l l' L L' k1 n b hb oG
  .grind
  .grind
  grind
 .intro L a b hb;simp only[gA,kX] at a;rcases a with a|rfl
  .exact h.lt L a b hb
  grind
 .intro b hb;obtain⟨q,p2⟩:=h.own b (j b hb)
  grind
 grind
def JX:Option Code->Option Exit
 |none=>aa .normal
 |some .ret=>aa .ret
 |some (.exit id)=>aa (.exit id)
 |_=>af
def ny.rangeFunc{ι:Type}{f:an}{ps:Array Tmp}{assign body:Code}{F:aW}{capD:List D}{res:ι->D}{σ':ι->List aV}{r':ι->Loop}
  (GI:∀ s a,cv N σ s φ a->aJ σ s->∃ n:List ak,a.eval f=.func (.func F) #[] n.toArray/\cw σ s n capD)
  (M9:cK X F (.e (.one (.ref σ.length))::capD) (σ++[.loop N φ { state:=.ready,pending:=af,fn:=0,tmps:=#[],params:=ps,assign:=assign,body:=body,defers:=0 }]) res σ')
  (hl:∀ i,(σ' i)[σ.length]?=aa (.loop N φ (r' i))/\(r' i).state≠.busy)
  (k:∀ i,∃ e,JX (r' i).pending=aa e/\Q e φ ((σ' i).set σ.length .dead++[.qS])):ny X N (.rangeFunc f ps assign body) Q φ σ:=by
 intro s a fr hh b kk cs S hb MV hQ;obtain⟨⟨fn,Tz,Je,C⟩,J⟩:=M9;refine .next rfl λd SQ=>?_
 have hr:=X.ij SQ;have g:=hh.rely hr;have f1:=fr.rely hr hh;obtain⟨n,hv,K⟩:=GI d a f1 g;generalize VJ:d.w.heap.size=r;have q:=λmain=>zR (P:=P) (main:=main) (k:=kk) (cs:=cs) (ps:=ps) (assign:=assign) (body:=body) (b:=b) (w:=d.w) MV hb Tz Je C hv
 rw[VJ] at q
 let w1:az:={ d.w with heap:=d.w.heap.push (.deferred (aa [])) }
 let lo:Loop:={ state:=.ready,pending:=af,fn:=b.fn,tmps:=a.tmps,params:=ps,assign:=assign,body:=body,defers:=r }
 let w2:az:={ d.w with heap:=(d.w.heap.push (.deferred (aa []))).push (.loop lo) }
 have Dv:w2.heap.size=r+2:=by grind
 have acx:w1.heap.size=r+1:=by grind
 have hk1:∀ b,b<d.w.heap.size->w1.heap[b]?=d.w.heap[b]?:=λb hb=>by
  grind
 have R:∀ b,b<w1.heap.size->w2.heap[b]?=w1.heap[b]?:=λb hb=>by
  grind
 have V:∀ b,b<d.w.heap.size->w2.heap[b]?=d.w.heap[b]?:=λb hb=>by grind
 have Xt:w2.heap[r]?=aa (.deferred (aa [])):=by
  grind
 have Xu:w2.heap[r+1]?=aa (.loop lo):=by
  grind
 have nM:∀ b,d.w.heap.size<=b->∀ o,d.M b o=af:=λb hb o=>by
  cases y:d.M b o with
  |none=>rfl
  |some v=>have:=g.block y;omega
 let L1:Loc:=⟨.func (.yield (r+1)) #[] #[],[r+1]⟩
 let L2:Loc:=⟨.int .i64 r,[r]⟩
 let Y:Loop:={ state:=.ready,pending:=af,fn:=0,tmps:=#[],params:=ps,assign:=assign,body:=body,defers:=0 }
 obtain⟨g1,g2⟩:=g.grow (M':=d.M) (w':=w2) (by omega) V (λ_ _ _=>rfl) (λb hb o v y=>by grind) rfl rfl rfl
 have A:Ext σ d (σ++[.loop N φ Y]) ⟨d.β++[L1],d.M,w2,d.own⟩:=by
  refine⟨λ_ _ _ h=>h,λl B L hB m=>⟨B,L,?_,?_,.refl _ _⟩⟩
  .grind
  grind
 obtain⟨a1,a2⟩:=g1.gR (B:=.loop N φ Y) (L:=L1) g2 rfl g ⟨r+1,a.tmps,b.fn,r,rfl,Xu,f1.size,λt=>(f1.slot t).mono A g.len,λo=>nM _ (by omega) o⟩ (λb hb=>by
  grind)
 have hD:=a1.Q4 (o:=λb=>d.own b∨b=r) (by
  rintro b (hb|rfl)
  .exact a1.own b hb
  .refine⟨by grind,λL m=>?_⟩
   simp only[gA,kX] at m;rcases m with m|rfl
   .intro T;have:=g.lt L m b T;omega
   grind)
 have d1:=g.lC;obtain⟨e1,e2⟩:=d1.grow (M':=d.M) (w':=w1) (by omega) hk1 (λ_ _ _=>rfl) (λb hb o v y=>by grind) rfl rfl rfl
 obtain⟨e3,e4⟩:=e1.gR (B:=.dead) (L:=L2) e2 rfl d1 av (λb hb=>by grind)
 obtain⟨e5,e6⟩:=e3.grow (M':=d.M) (w':=w2) (by grind) R (λ_ _ _=>rfl) (λb hb o v y=>by
  grind) rfl rfl rfl
 obtain⟨e7,e8⟩:=e5.gR (B:=.dead) (L:=L1) e6 rfl e3 av (λb hb=>by grind)
 have V3:eQ ⟨d.β++[L2]++[L1],d.M,w2,d.own⟩ ⟨d.β++[L1],d.M,w2,λb=>d.own b∨b=r⟩:=by
  refine⟨rfl,λ_ _ _ h=>h,λ_ _ _=>rfl,a1.mem,?_⟩
  rintro b ((hb|rfl)|⟨L,m,hb⟩)
  .grind
  .exact .inr ⟨L2,by simp,by grind⟩
  grind
 refine⟨_,⟨d.β++[L2]++[L1],d.M,w2,d.own⟩,_,q X.main,⟨⟨_,_,d1,e7,e4.trans e8⟩,.nil⟩,.ghost V3 (J _ (Value.func (.yield (r+1)) #[] #[]::n) ?_ hD S _ λi SX v s4 E mL U st4=>?_)⟩
 .refine⟨⟨λB p=>?_,L1,?_,rfl,rfl⟩,?_⟩
  .rw[gh (bg _)] at p;simp at p;subst p;rfl
  .show (d.β++[L1])[σ.length]?=_;rw[<-g.len,gh (bg _)];simp
  .exact K.mono (σ:=σ) (s:=d) (σ':=σ++[.loop N φ Y]) (s':=⟨d.β++[L1],d.M,w2,λb=>d.own b∨b=r⟩) ⟨A.mem,A.box⟩ g.len
 have Z:(b.aT { a with defers:={ target:=.collected r,args:=#[] }::a.defers } (.inRangeFunc (r+1)::kk)).finish v=b.aT { a with defers:={ target:=.collected r,args:=#[] }::a.defers } (.endRangeFunc (r+1)::kk):=by simp[Frame.finish,Frame.aT]
 refine pL (cs:=cs) (c:=b.aT { a with defers:={ target:=.collected r,args:=#[] }::a.defers } (.inRangeFunc (r+1)::kk)) U E λs5 ZU=>?_
 rw[Z];refine .next rfl λs6 O=>?_
 have ZV:=X.ij O;have x:=(U.rely ZU).rely ZV;have ZW:=(st4.trans ZU.stepW).trans ZV.stepW;obtain⟨z,V4⟩:=hl i;have hLl:∃ L,s6.β[σ.length]?=aa L/\L.v=.func (.yield (r+1)) #[] #[]:=by
  obtain⟨B',L',k1,k2,k3⟩:=ZW.box σ.length (.loop N φ Y) L1 (show (σ++[aV.loop N φ Y])[σ.length]?=_ from List.getElem?_concat_length) (by
   show (d.β++[L1])[σ.length]?=_;rw[<-g.len,gh (bg _)];simp)
  rw[z] at k1;cases k1;exact⟨L',k2,k3⟩
 obtain⟨I,fn6,df6,p1,p2,p3,p4,p5⟩:=x.zS z hLl;obtain⟨q1,q2⟩:=x.zT (r':={ r' i with state:=.exhausted }) (B':=.dead) z p1 p2 p3 p4 p5 (.inl rfl);refine⟨_,_,_,DW p2 V4,⟨⟨_,_,x,q1,q2⟩,eX.seen (.two (lS (bT p1) (by simp)) (lS (bT p1) (by simp)))⟩,?_⟩
 have j:=ZW.trans (q2.ox x);generalize hs7:({ s6 with w:={ s6.w with heap:=s6.w.heap.setIfInBounds (r+1) (.loop { { r' i with state:=.exhausted } with tmps:=I,fn:=fn6,defers:=df6 }) } }:St)=s7 at q1 q2 j;have h7r:s7.own r:=by rw[j.own];grind
 have h7d:s7.w.heap[r]?=aa (.deferred (aa [])):=by rw[j.eL r (.inr rfl)];exact Xt
 have h7M:∀ o,s7.M r o=af:=λo=>by
  rw[j.jA r (by grind) (λL m=>(hD.own r (.inr rfl)).2 L m)]
  grind
 obtain⟨t1,t2⟩:=q1.ir (r:=r) (o:=d.own) h7r (λb hb=>by rw[j.own];grind) (λT=>by have:=(g.own r T).1;omega) h7M h7d
 refine .ghost t2 ?_;have H:cB σ d ((σ' i).set σ.length .dead++[.qS]) { s7 with β:=s7.β++[⟨.int .i64 r,[r]⟩],own:=d.own }:=by
  refine⟨?_,λb hb=>?_,λb o v y=>j.mem b o v y,λb hb hn o=>?_,λL m b hb=>?_,λl B L hB m=>?_,j.os,j.tape,j.output,rfl⟩
  .grind
  .show s7.w.heap[b]?=_;rw[j.eL b (.inl hb)];exact V b (g.own b hb).1
  .show s7.M b o=_;rw[j.jA b (by grind) (λL m=>?_)]
   grind
  .simp only[gA,kX] at m;rcases m with m|rfl
   .rcases j.xx L m b hb with h1|⟨L0,h1,h2⟩
    .grind
    grind
   grind
  .have Qq:=(cp.1 hB).1;have Qs:=(cp.1 m).1;obtain⟨B',L',k1,k2,k3⟩:=j.box l B L (by grind) (by grind)
   grind
 have fF:cv N ((σ' i).set σ.length .dead++[.qS]) { s7 with β:=s7.β++[⟨.int .i64 r,[r]⟩],own:=d.own } φ { a with defers:={ target:=.collected r,args:=#[] }::a.defers }:=by
  have y:=f1.mono H g.len;obtain⟨ls,W⟩:=f1.defers;refine⟨y.size,⟨((σ' i).set σ.length .dead).length::ls,⟨⟨?_,⟨.int .i64 r,[r]⟩,r,?_,rfl,rfl⟩,λT=>?_,W.mono H.ext⟩⟩,y.slot⟩
  .grind
  .show (s7.β++_)[_]?=_;rw[<-q1.len,gh (bg _)];simp
  .have h1:=W.BN _ T
   grind
 obtain⟨e,p,hq⟩:=k i;have u:=hQ e φ _ _ _ hq fF t1 (hr.stepW.trans H);revert p;show JX (r' i).pending=aa e->fp X S (G (b.aT _ (((r' i).pending.map Item.code).toList++kk)) cs) _;intro p;cases hp:(r' i).pending with
 |none=>rw[hp] at p;cases p;exact u
 |some c =>
  rw[hp] at p;cases c <;> simp only[JX,reduceCtorEq,de] at p
  .subst p;exact u [] (λ_=>rfl)
  .subst p;exact u kk
def cv.callee{t:Nat}{F:aW}{cap:List C}(hl:look φ t=.e (.one (.c (.fn (.func F) [] cap)))):∀ s a,cv N σ s φ a->aJ σ s->∃ b:List ak,a.eval (.tmp t)=.func (.func F) #[] b.toArray/\cw σ s b (fW cap):=by
 intro s a d _;have h:=d.slot t;rw[hl] at h;have h:=fx h;show ∃ b:List ak,a.tmps.getD t aj=.func (.func F) #[] b.toArray/\_;generalize a.tmps.getD t aj=v at h;cases h with
 |fn fs cs hl Bb f1 f2 h1 h2 r1 r2 =>
  grind [lN]
def cK.zV{ι:Type}{f:aW}{fn:Func}{c:Code}{args:List D}{σ':ι->List aV}{res:ι->D}(m:P.funcs[f]?=aa fn)(d:(fn.name== "runtime.NumGoroutine")=ae)(hb:fn.body=aa c)(g:bo args.length fn.ntmps=ab)
  (h:Fits args σ->ny X fn.ntmps c (λe φ σ1=>∃ j,b5 fn σ.length (res j) (σ' j) e φ σ1) (ju 0 args) σ):cK X f args σ res σ':=by
 refine⟨⟨fn,m,d,by grind⟩,λs0 vs hr hh=>?_⟩
 exact(cK.PN m d hb (c7 g) λs a f l b k cs S o i n=>h ⟨s0,vs,hr,hh⟩ s a f l b k cs S o i n).2 s0 vs hr hh
def Xv(fn:Func)(res:D)(σ':List aV):Post:=λe φ σ1 =>
 (e=.ret∨e=.normal)/\σ1=σ'/\mn σ'=ab/\∃ ds d ps,xC φ fn.results.toList=aa ds/\rG ds=aa d/\Dh d res=aa ps/\ag ps
def cK.mQ{ι:Type}{f:aW}{fn:Func}{c:Code}{args:List D}{σ':ι->List aV}{res:ι->D}(p:P.funcs[f]?=aa fn)(k:(fn.name== "runtime.NumGoroutine")=ae)(hb:fn.body=aa c)(g:bo args.length fn.ntmps=ab)
  (h:AW X fn.ntmps c (λe φ σ1=>∃ j,Xv fn (res j) (σ' j) e φ σ1) (ju 0 args) σ):cK X f args σ res σ':=by
 refine⟨⟨fn,p,k,by grind⟩,λs vs hr hh S cs hS=>?_⟩
 obtain⟨hl,A⟩:=cw.get hr
 let b:aR:={ fn:=f,tmps:=#[],todo:=[],defers:=[],mode:=.run,kind:=.normal,roundOf:=af }
 have a:Frame.enter P f vs.toArray .normal=b.aT { tmps:=vs.toArray++Array.replicate (fn.ntmps-vs.toArray.size) aj,defers:=[] } [.code c]:=by
  simp[Frame.enter,Frame.aT,p,hb,b]
 rw[a];have g:=c7 g;refine h s { tmps:=vs.toArray++Array.replicate (fn.ntmps-vs.toArray.size) aj,defers:=[] } ⟨by grind,⟨[],av⟩,λt=>?_⟩ hh b [] cs S (by simp[b]) ?_
 .rw[nP];simp only[gB,cq,me];have:=A t;rcases cG t vs.length with r|E
  .have e:(vs.toArray++Array.replicate (fn.ntmps-vs.toArray.size) aj).getD t aj=(vs[t]?).getD aj:=by
    simp only[dC]
    grind
   grind
  .rw[qX (by omega)]
   trivial
 .rintro e x σ1 s1 a1 ⟨z,n,rfl,o,ds,d,ps,h1,h2,B,J⟩ I m st;have fin:∀ (fr:aR) s2,cg s1 s2->fr.fn=f->fr.tmps=a1.tmps->fr.defers=a1.defers->fr.mode=.returning->fr.kind=.normal->fp X S (G fr cs) s2:=by
   intro fr s2 sG e1 e2 e3 e4 e5;have q:=I.rely sG m;obtain⟨v,y,H,F⟩:=tI (P:=P) q h1 h2;obtain⟨ls,i⟩:=q.defers;have u:a1.defers=[]:=by
    cases ls with
    |nil=>cases C:a1.defers with
     |nil=>rfl
     |cons d ds=>rw[C] at i;exact i.elim
    |cons l ls=>exact absurd rfl (mZ o _ (bT (i.BN l (by simp))))
   refine hS z fr v _ ⟨e1,e4,by grind,e5,fn,by grind,λw _=>?_⟩ (qy B J H) (m.rely sG) (st.trans sG.stepW)
   rw[e2];exact⟨y w,λe n=>by rw[F w #[]] at n;grind⟩
  rcases n with rfl|rfl
  .intro pre;exact .ctl m rfl (λ_=>Ds rfl) λs2 sG=>fin _ s2 sG rfl rfl (k6 _) rfl rfl
  .exact .ctl m rfl (λ_=>Dt rfl) λs2 sG=>fin _ s2 sG rfl rfl (k6 _) rfl rfl
end
end
end Go.AM
namespace Go.AM.R1
section
open Go.Proofs
variable {X:Cx ah}
def Ru(x:cA) (n:Int):Ev X 172 [XR x,.e (.one (.c (.rp [.int .i64 n])))] [] (dB (x.1==n)) []:=by
 refine Ev.bQ Tryz.func172 rfl λa=>?_
 refine bk rfl av (AK.bm rfl ?_);simp[ag]
def Rv:dh:=λargs σ=>match args,σ with
 |[.e (.agg [.c (.int .i64 a0),.c (.str a1)]),.e (.one (.c (.rp [.int .i64 n])))],[]=>aa (dB (a0==n),[],[a1=a1])
 |_,_=>af
def t172:dG X 172 Rv:=by
 intro args σ res σ' obs h c;unfold Rv at h;split at h
 .rename_i a b n
  cases h;exact Ru (a,b) n
 .cases h
abbrev KC(n:Int):D:=.e (.one (.c (.fn (.func 172) [] [.rp [.int .i64 n]])))
def Ah(l:List cA) (n:Int):Int:=match l.findIdx? (λx=>x.1==n) with|some i=>i|none=>-1
def N7{t:List cA}{n:Int}{i:Nat}(hi:i<t.length)(h:(t.getD i (0,[])).1=n)(a:∀ j,j<i->(t.getD j (0,[])).1≠n):Ah t n=i:=by
 have:t.findIdx? (λf=>f.1==n)=aa i:=by
  rw[qq];refine⟨hi,?_,λj b=>?_⟩
  .grind
  grind
 rw[Ah,this]
def He{t:List cA}{n:Int}(a:∀ j,j<t.length->(t.getD j (0,[])).1≠n):Ah t n=-1:=by
 have:t.findIdx? (λf=>f.1==n)=af:=by
  rw[qU];intro f b;obtain⟨j,c,rfl⟩:=dT b
  grind
 rw[Ah,this]
def N8(t:List cA) (n:Int):Ev X 171 [dE.sl t,KC n] [] (dI (Ah t n)) []:=by
 refine Ev.bQ Tryz.func171 rfl λe=>?_
 have c:=e.sl 0 rfl;have b:bC X [(172,Rv)]:=.cons t172 .nil;refine aD b [] 100 rfl av ?_;refine AK.jO (λi=>i<=t.length/\∀ j,j<i->(t.getD j (0,[])).1≠n) (λi:Nat=>[(0,dE.sl t),(1,KC n),(7,dI t.length),(8,dI i)]) (λ_=>[]) (λi=>t.length-i) 0 rfl ?_ rfl av ⟨by omega,by omega⟩ ?_
 .simp[ag.cat,ag,aP.same]
 rintro i ⟨hi,a⟩
 by_cases h:i<t.length
 .by_cases d:(t.getD i (0,[])).1=n
  .refine aD b [(9,ab),(16,ab)] 100 rfl ?_ (AK.gJ (b5.zero rfl ?_))
   .simp only[ag,bz]
    grind
   .simp[ag,N7 h d a]
  .refine aD b [(9,ab),(16,ae)] 100 rfl ?_ (AK.fU (i+1) rfl ?_ rfl av ?_ ?_)
   .simp only[ag,bz];exact⟨by simp only[bu];omega,av,dm.2 d,by omega,by omega,cj (by omega)⟩
   .simp[ag.cat,ag,aP.same]
   .grind
   .omega
 .refine aD b [(9,ae)] 100 rfl (by simp[ag];omega) (AK.leave rfl rfl ?_)
  refine aD b [] 100 rfl av (AK.bm rfl ?_);simp[ag,He (λj f=>a j (by omega))]
def Rw:dh:=λargs σ=>match args,σ with
 |[d,.e (.one (.c (.fn (.func 172) [] [.rp [.int .i64 n]])))],[]=>match kO 2 d with
  |none=>af
  |some (m,es)=>aa (dI (Ah (dE.list m es) n),[],[dE.fits m es])
 |_,_=>af
def t171:dG X 171 Rw:=by
 intro args σ res σ' obs h a;unfold Rw at h;split at h
 .rename_i d n
  split at h
  .cases h
  rename_i m es hd
  cases h;exact(N8 _ n).args (λ_ vs=>cw.imp (λ_=>dE.jR hd a) (cw.imp (λ_ r=>r) (λ_ r=>r)) vs)
 .cases h
def Ee(t:List cA) (n:Int):(Ah t n=-1/\t.find? (λx=>x.1==n)=af)∨∃ i:Nat,i<t.length/\Ah t n=i/\t.find? (λx=>x.1==n)=aa (t.getD i (0,[])):=by
 unfold Ah;cases h:t.findIdx? (λx=>x.1==n) with
 |none =>
  grind
 |some i =>
  rw[qq] at h;obtain⟨hi,a,b⟩:=h;refine .inr ⟨i,hi,rfl,?_⟩;rw[uI]
  grind
def Ef(a:dG X 219 pb) (k:Int)(p:bw) (n:Int)(g:ck k=ab):Ev X 137 [dI k,xM p,dI n] [] (Ag (ee k p n)) []:=by
 refine Ev.bQ Tryz.func137 rfl λh=>?_
 have f:bC X [(171,Rw),(173,p0 S5 aI (λx k=>Ag (chunk k x)) λ_ k=>[ck k=ab])]:=.cons t171 (.cons (KB a) .nil)
 have d:dE.list p.2.length (dE.fn p.2)=p.2:=dE.list_fn _;refine aX [] 7 rfl av ?_;refine AK.freeze 5 1 rfl rfl rfl ?_;rcases Ee p.2 n with⟨b,c⟩|⟨i,hi,b,c⟩
 .refine aD f [(14,ab)] 100 rfl ?_ (AK.bm rfl ?_)
  .simp only[ag,d,b];exact⟨rfl,dE.aH _⟩
  .simp[ag.cat,ag,ee,c]
 .refine aD f [(14,ae)] 100 rfl ?_ (AK.bm rfl ?_)
  .simp only[ag,d,b];exact⟨g,by omega,by omega,eu (by omega),dE.aH _⟩
  .have e:ee k p n=chunk k (p.2.getD i (0,[])):=by simp only[ee,c]
   rw[e,d,b];simp only[bz];exact ag.cat.2 ⟨rfl,ag.cat.2 ⟨rfl,av⟩⟩
def Rx(a:dG X 219 pb):dG X 137 (Dk aI (Hf dE) aI (λk p n=>Ag (ee k p n)) λk _ _=>[ck k=ab]):=.IW λk p n h=>Ef a k p n h
end
end Go.AM.R1
namespace Go.AM
section
open Go.Conc
def gx (s:St):Prop:=∀ b o v,s.M b o=aa v->s.w.cell? ⟨b,o,af⟩=aa v
def lQ (c:Nat->Prop):Go.Loc->Prop
  | .cell a=>c a.block
  | .obj r=>c r
  | _=>False
structure Clear (c:Nat->Prop) (s:St):Prop where
  own:∀ b,c b->¬s.own b
  β:∀ b,c b->∀ L∈s.β,b∉L.bs
  M:∀ b,c b->∀ o,s.M b o=af
  lt:∀ b,c b->b<s.w.heap.size
section
variable {c:Nat->Prop} {s s':St}
def Clear.step {σ σ':List aV} (h:Clear c s) (st:Step σ s σ' s'):Clear c s':=by
  refine⟨λb hb=>by rw[st.own];exact h.own b hb,λb hb L d a=>?_,λb hb o=>by rw[st.jA b (h.lt b hb) (h.β b hb)];exact h.M b hb o,λb hb=>cE (h.lt b hb) st.size⟩
  rcases st.xx L d b a with h1|⟨f,e,h1⟩
  · exact absurd (h.lt b hb) (ky.2 h1)
  · exact h.β b hb f e h1
theorem Clear.ghost (h:Clear c s) (k:eQ s s'):Clear c s':=by
  have hn:∀ b,c b->¬(s'.own b∨∃ L∈s'.β,b∈L.bs):=λb hb e=>by
    rcases k.blk b e with e|⟨L,a,e⟩
    · exact h.own b hb e
    · exact h.β b hb L a e
  exact⟨λb hb e=>hn b hb (.inl e),λb hb L a e=>hn b hb (.inr ⟨L,a,e⟩),λb hb o=>by rw[k.jA b (h.β b hb)];exact h.M b hb o,λb hb=>by rw[k.w];exact h.lt b hb⟩
def Clear.forget (h:Clear c s) (k:mM s s'):Clear c s':=by
  refine⟨λb hb=>by rw[k.own];exact h.own b hb,λb hb=>by rw[k.β];exact h.β b hb,λb hb o=>?_,λb hb=>by rw[k.w];exact h.lt b hb⟩
  cases e:s'.M b o with
  | none=>rfl
  | some v=>rw[<-k.less b o v e,h.M b hb o]
def Clear.at (h:Clear c s) (d:Nat):Clear c { s with w:=s.w.at d }:=⟨h.own,h.β,h.M,h.lt⟩
def gx.at (h:gx s) (d:Nat):gx { s with w:=s.w.at d }:=h
theorem gx.ghost (k:eQ s s'):gx s':=λb o v a=>by rw[k.w];exact k.cell b o v a
def gx.forget (h:gx s) (k:mM s s'):gx s':=λb o v a=>by rw[k.w];exact h b o v (k.less b o v a)
def gx.lt (h:gx s) {b o:Nat} {v:ak} (a:s.M b o=aa v):b<s.w.heap.size:=by
  have:=h b o v a;rcases cG b s.w.heap.size with h1|h1
  · exact h1
  · simp[a9,zh h1] at this
def cg.at (h:gx s) (d:Nat):cg s { s with w:=s.w.at d }:=⟨rfl,rfl,rfl,bg _,λ_ _=>rfl,h,rfl,rfl,rfl⟩
def Qt {σ:List aV} {e:Event} (l:aJ σ s) (k:Clear c s) (g:ov s e) {B:Nat} (o:s.w.heap.size<=B):EvL (lQ c) B e:=by
  obtain⟨n,wr,q⟩:=e;cases n with
  | cell a =>
    obtain⟨i,j,b⟩:=g;simp only at i j b;subst i;have key:¬c a.block/\a.block<s.w.heap.size:=by
      rcases b with b|⟨⟨L,h,b⟩,_⟩|⟨_,v,b⟩
      · exact b.elim
      · exact⟨λx=>k.β _ x L h b,l.lt L h _ b⟩
      · refine⟨λx=>?_,gx.lt l.mem b⟩
        rw[k.M _ x] at b;cases b
    exact evL_cell a wr key.1 (cE key.2 o)
  | obj r =>
    obtain⟨i,j⟩:=g;simp only at i j;subst i;obtain⟨L,h,b⟩:=j.resolve_left id;refine⟨λx d p=>?_,by simp,by simp,?_⟩
    · simp[aM,MemAct.touch?] at d
      subst d;exact absurd b (k.β _ p L h)
    · simp[aM,MemAct.low,Loc.low]
      exact cE (l.lt L h _ b) o
  | mark m =>
    simp only[ov] at g;rcases g with rfl|⟨f,rfl⟩
    · exact⟨λx d=>by simp[aM,MemAct.touch?] at d,by simp,by simp,by simp[aM,MemAct.low]⟩
    · exact⟨λx d=>by simp[aM,MemAct.touch?] at d,by simp,by simp,by simp[aM,MemAct.low]⟩
  | _=>exact g.elim
end
def ry (t:Trace):Prop:=∀ a,NoRelease a t
def ry.app {t:Trace} (h:ry t) {g:Nat} {fn:aW} {pos:String} {es:Array Event} (b:∀ e∈es,∀ a,e.loc≠.mark (.release a)):ry (t++MemOp.ofEvents g fn pos es) :=
  λa=>(h a).app λop mi hx=>by
    grind [Go.Conc.mem_ofEvents,Go.ConcR.loc_of_ofEvent]
def Du {s:St} {e:Event} (d:ov s e) (a:Addr):e.loc≠.mark (.release a):=by
  intro b;obtain⟨loc,wr,g⟩:=e;simp only at b;subst b;rcases d with h|⟨f,h⟩ <;> cases h
def vn {e:Event} (d:e.mute=ab) (a:Addr):e.loc≠.mark (.release a):=by
  intro b;obtain⟨loc,wr,f⟩:=e;simp only at b;subst b;simp[Event.mute] at d
def To (P:aq) (g:au) (s:St) (T:au->St->Prop):Prop :=
  ∀ (c:Nat->Prop) (f:Array au) (sl:Option (Nat×Nat)) (t:Trace) (q:Nat->Nat),gx s->f[0]?=aa g->Leavers P t f q->Past (lQ c) s.w.heap.size t->Clear c s->ry t ->
    ∃ (N:Nat) (b:Nat->Prop) (a:Array au) (g':au) (s':St) (e:Option (Nat×Nat)) (d:Trace) (h:Nat->Nat),
      runNT P N (crowd f s.w sl) t=(.next (crowd a s'.w e),d)/\gx s'/\a[0]?=aa g'/\Leavers P d a h/\Past (lQ b) s'.w.heap.size d/\Clear b s'/\ry d/\T g' s'
def Cx.beside (P:aq):Cx P:={ main:=ab,rely:=λs s'=>cg s s'/\∃ d,s'={ s with w:=s.w.at d },xA:=To P,ij:=λh=>h.1,Bg:=True }
instance (P:aq):(Cx.beside P).js:=⟨av⟩
theorem runNT_add {P:aq}:∀ (N M:Nat) {m b:Machine} {t a:Trace},runNT P N m t=(.next b,a)->runNT P (N+M) m t=runNT P M b a
  | 0,M,m,b,t,a,h=>by simp[runNT] at h;grind
  | N+1,M,m,b,t,a,h=>by
    rw[show N+1+M=(N+M)+1 by omega]
    simp only[runNT] at h ⊢;cases d:stepT P m with
    | mk r ops =>
      rw[d] at h;cases r with
      | next m1=>exact runNT_add N M h
      | ended o w=>grind
def fp.beside {P:aq} {S:au->St->Prop} {g:au} {s:St} (h:fp (Cx.beside P) S g s):To P g s S:=by
  induction h with
  | stop h=>intro c b sl t q C u o v r hn;exact⟨0,c,b,_,_,sl,t,q,rfl,C,u,o,v,r,hn,h⟩
  | ghost hg _ L =>
    intro c b sl t q C u o v r hn;have:=L c b sl t q (.ghost hg) u o (by rw[hg.w];exact v) (r.ghost hg) hn
    rwa [hg.w] at this
  | forget _ hg _ L =>
    intro c b sl t q C u o v r hn;have:=L c b sl t q (C.forget hg) u o (by rw[hg.w];exact v) (r.forget hg) hn
    rwa [hg.w] at this
  | xA hj _ L =>
    intro c b sl t q C u o v r hn;obtain⟨N,m,f,g',s',l,E,G,h1,h2,h3,h4,h5,h6,h6n,h7⟩:=hj c b sl t q C u o v r hn;obtain⟨M,Sh2,gs2,g2,s2,sl2,t2,q2,k1,X⟩:=L g' s' h7 m f l E G h2 h3 h4 h5 h6 h6n;exact⟨N+M,Sh2,gs2,g2,s2,sl2,t2,q2,by grind [runNT_add],X⟩
  | @step g s Y ns ne hr h1 h2 _ L =>
    intro c b sl t q;have key:∀ (n:Nat) (b:Array au) (d:Nat) (sl:Option (Nat×Nat)) (t:Trace) (q:Nat->Nat),Go.ConcN.sumTo b.size q<=n->gx s->b[0]?=aa g->Leavers P t b q->Past (lQ c) s.w.heap.size t->Clear c s->ry t ->
        ∃ (N:Nat) (m:Nat->Prop) (f:Array au) (g':au) (s':St) (l:Option (Nat×Nat)) (E:Trace) (G:Nat->Nat),
          runNT P N (crowd b (s.w.at d) sl) t=(.next (crowd f s'.w l),E)/\gx s'/\f[0]?=aa g'/\Leavers P E f G/\Past (lQ m) s'.w.heap.size E/\Clear m s'/\ry E/\S g' s':=by
      intro n
      induction n with
      | zero=>?_
      | succ n ihn=>?_
      all_goals
        intro b d sl t q hn C u o v r F;have haw:∀ g∈b,awake g:=by
          intro x hx;obtain⟨i,hi,rfl⟩:=Array.mem_iff_getElem.1 hx;rcases oI i with rfl|D
          · grind [awake_of]
          · exact awake_of ((o.old i _ D (fQ hi)).status.elim .inl λx=>.inr (.inr x))
        obtain⟨i,x,d2,l,hi,hg,K⟩:=crowd_pick (P:=P) (w:=s.w.at d) (sl:=sl) haw ⟨0,g,u,hr⟩;rw[show (s.w.at d).at d2=s.w.at d2 from rfl] at K
        rcases oI i with rfl|D
        · obtain rfl:x=g:=by grind
          have B:(Cx.beside P).rely s { s with w:=s.w.at d2 }:=⟨cg.at C d2,d2,rfl⟩;have hgo:=h1 _ B;obtain⟨⟨σ,σ',hh,k9,st⟩,U⟩:=h2 _ B;have p:=runT_crowd_go (P:=P) (sl:=l) (i:=0) hi (show aK P (0==0) x (s.w.at d2)=_ from hgo)
          have Dv:((b.map (woken P x (Y { s with w:=s.w.at d2 }) (ns { s with w:=s.w.at d2 }).w)).setIfInBounds 0 (Y { s with w:=s.w.at d2 })).size=b.size:=by simp
          have Q:0<b.size:=(hY.1 u).1;have T:Clear c { s with w:=s.w.at d2 }:=r.at d2;obtain⟨N,m,f,g',s',A,E,G,k1,X⟩:=L _ B c ((b.map (woken P x (Y { s with w:=s.w.at d2 }) (ns { s with w:=s.w.at d2 }).w)).setIfInBounds 0 (Y { s with w:=s.w.at d2 })) l
            (t++MemOp.ofEvents 0 x.frame.fn x.frame.place (ne { s with w:=s.w.at d2 })) q k9.mem (by grind)
            ⟨λj y hj hy=>by
              have Bh:0≠j:=by omega
              rw[sI Bh,Array.getElem?_map] at hy;obtain⟨z,Z,rfl⟩:=sK.1 hy;have H:=o.old j z hj Z;rw[woken_quitsD H,Deaf_other t (by omega) _ (λop mi=>by grind [Go.Conc.mem_ofEvents])]
              exact H,λj hj=>by
              rw[Deaf_other t (g':=0) (by grind) _ (λop mi=>by grind [Go.Conc.mem_ofEvents])]
              exact o.above j (by grind)⟩
            ((v.mono st.size).own λe W=>Qt hh T (U e W) st.size) (T.step st) (F.app λe W a=>Du (U e W) a)
          exact⟨N+1,m,f,g',s',A,E,G,by simp only[runNT,K,p];exact k1,X⟩
        · have H:=o.old i x D hi
          have Wu:(i==0)=ae:=by grind
          have Q:i<b.size:=(hY.1 hi).1;cases J:q i with
          | zero=>rw[J] at H;rw[H.1] at hg;cases hg
          | succ k =>
            rw[J] at H;rcases H with⟨hf,_⟩|⟨_,g',es,R,V,hq'⟩
            · grind
            have aa8:Go.ConcN.sumTo b.size (Go.ConcN.upd q i k)+(k+1)=Go.ConcN.sumTo b.size q+k:=by
              have:=Go.ConcN.sumTo_upd q k id Q;simpa[J] using this
            first
            | (exfalso;omega)
            | (have p:=runT_crowd_go (P:=P) (sl:=l) (i:=i) hi (by rw[Wu];exact V (s.w.at d2))
               have Dv:((b.map (woken P x g' (s.w.at d2))).setIfInBounds i g').size=b.size:=by simp
               obtain⟨N,m,f,g2,s',A,E,G,k1,X⟩:=ihn ((b.map (woken P x g' (s.w.at d2))).setIfInBounds i g') d2 l (t++MemOp.ofEvents i x.frame.fn x.frame.place es) (Go.ConcN.upd q i k) (by grind) C
                (by
                  grind [woken_run])
                ⟨λj y hj hy=>by
                  by_cases I:i=j
                  · grind [Go.ConcN.upd_same,Deaf_own]
                  · rw[sI I,Array.getElem?_map] at hy
                    obtain⟨z,Z,rfl⟩:=sK.1 hy;have O:=o.old j z hj Z;rw[woken_quitsD O,Go.ConcN.upd_ne q k (mf I),Deaf_other t I _ (λop mi=>by grind [Go.Conc.mem_ofEvents])]
                    exact O,λj hj=>by
                  rw[Deaf_other t (g':=i) (by grind) _ (λop mi=>by grind [Go.Conc.mem_ofEvents])]
                  exact o.above j (by grind)⟩
                (v.mute (by omega) R) r (F.app λe W a=>vn (R e W) a)
               exact⟨N+1,m,f,g2,s',A,E,G,by simp only[runNT,K,p];exact k1,X⟩)
    intro C u o v r F;have:=key _ b s.w.drawn sl t q (bg _) C u o v r F
    rwa [show s.w.at s.w.drawn=s.w from rfl] at this
inductive Rk where
 |leaf
 |node (f:St->Rk)
def Rk.lt:Rk->Rk->Prop
 |_,.leaf=>False
 |x,.node f=>∃ s,x=f s∨Rk.lt x (f s)
def Rk.acc:∀ r:Rk,Acc Rk.lt r
 |.leaf=>⟨_,λ_ h=>h.elim⟩
 |.node f=>⟨_,λ_ ⟨s,e⟩=>e.elim (λe=>e▸Rk.acc (f s)) λh=>(Rk.acc (f s)).inv h⟩
def Rk.nat:Nat->Rk
 |0=>.leaf
 |n+1=>.node λ_=>Rk.nat n
def Rk.DT(n:Nat)(s:St):Rk.lt (Rk.nat n) (Rk.nat (n+1)):=⟨s,.inl rfl⟩
def Vec(j:Nat)(a D:Nat->Rk):Prop:=∃ i,i<j/\Rk.lt (a i) (D i)/\∀ k,k≠i->a k=D k
def JI:∀ j,WellFounded (Vec j)
 |0=>⟨λ_=>⟨_,λ_ ⟨i,h,_⟩=>absurd h (jk i)⟩⟩
 |j+1=>by
  have l:=JI j;have key:∀ a:Rk,∀ D:Nat->Rk,D j=a->Acc (Vec (j+1)) D:=by
   intro a
   induction Rk.acc a with
   |intro a _ f =>
    intro D
    induction l.apply D with
    |intro D _ d =>
     intro m;refine⟨_,λk h=>?_⟩
     obtain⟨i,hi,b,g⟩:=h;rcases cG i j with e|e
     .exact d k ⟨i,e,b,g⟩ (by grind)
     grind
  exact⟨λD=>key _ D rfl⟩
section
variable {P:aq}
def km(X:Cx P)(E:St->St->Array Event->Prop)(S:au->St->Prop):Rk->au->St->Prop
 |.leaf,g,s=>S g s
 |.node f,g,s=>S g s∨(∃ s',(eQ s s'∨(X.Bg/\mM s s'))/\km X E S (f s) g s') ∨
   (g.status=.running/\∀ a,X.rely s a->∃ g' s' es,aK P X.main g a.w=.go g' s'.w es/\(qv a s' es∨E a s' es)/\km X E S (f a) g' s')
variable {X:Cx P}{E:St->St->Array Event->Prop}{S c:au->St->Prop}
def ek(X:Cx P)(E:St->St->Array Event->Prop)(S:au->St->Prop)(g:au)(s:St):Prop:=∃ r,km X E S r g s
theorem ek.ghost{g:au}{s s':St}(h:eQ s s')(k:ek X E S g s'):ek X E S g s:=by
 obtain⟨r,k⟩:=k;exact⟨.node λ_=>r,.inr (.inl ⟨s',.inl h,k⟩)⟩
def ek.forget{g:au}{s s':St}(hl:X.Bg)(h:mM s s')(k:ek X E S g s'):ek X E S g s:=by
 obtain⟨r,k⟩:=k;exact⟨.node λ_=>r,.inr (.inl ⟨s',.inr ⟨hl,h⟩,k⟩)⟩
def ek.step{g:au}{s:St}(d:g.status=.running)(h:∀ a,X.rely s a->∃ g' s' es,aK P X.main g a.w=.go g' s'.w es/\(qv a s' es∨E a s' es)/\ek X E S g' s'):ek X E S g s:=by
 classical
 have hh:∀ a,∃ r:Rk,X.rely s a->∃ g' s' es,aK P X.main g a.w=.go g' s'.w es/\(qv a s' es∨E a s' es)/\km X E S r g' s':=by
  intro a
  by_cases b:X.rely s a
  .obtain⟨g',s',es,h1,h2,r,e⟩:=h a b;exact⟨r,λ_=>⟨g',s',es,h1,h2,e⟩⟩
  .exact⟨.leaf,λh=>absurd h b⟩
 exact⟨.node λa=>Classical.choose (hh a),.inr (.inr ⟨d,λa b=>Classical.choose_spec (hh a) b⟩)⟩
def ek.bind{g:au}{s:St}(h:ek X E S g s)(k:∀ g s,S g s->ek X E c g s):ek X E c g s:=by
 obtain⟨r,h⟩:=h
 induction r generalizing g s with
 |leaf=>exact k g s h
 |node f a =>
  rcases h with h|⟨s',h1,h2⟩|⟨b,h⟩
  .grind
  .rcases h1 with h1|⟨hl,h1⟩
   .exact .ghost h1 (a _ h2)
   .exact .forget hl h1 (a _ h2)
  .exact .step b λe d=>by
    grind
def fp.toE{g:au}{s:St}(hj:∀ g s T,¬X.xA g s T)(h:fp X S g s):ek X E S g s:=by
 induction h with
 |stop h=>exact⟨.leaf,h⟩
 |step ng ns ne hr h1 h2 _ a=>exact .step hr λd b=>⟨_,_,_,h1 d b,.inl (h2 d b),a d b⟩
 |ghost hg _ a=>exact .ghost hg a
 |forget hl hg _ a=>exact .forget hl hg a
 |xA hjj _ _=>grind
def km.norm(I:St->Prop)(l:∀ s s',eQ s s'->I s->I s')(k:X.Bg->∀ s s',mM s s'->I s->I s'):∀ {r:Rk}{g:au}{s:St},km X E S r g s->I s ->
  (∃ s',I s'/\S g s')∨(g.status=.running/\∃ s',I s'/\∀ a,X.rely s' a->∃ g' s2 es r',aK P X.main g a.w=.go g' s2.w es/\(qv a s2 es∨E a s2 es)/\km X E S r' g' s2/\Rk.lt r' r)
 |.leaf,_,s,h,hi=>.inl ⟨s,hi,h⟩
 |.node f,g,s,h,hi=>by
  rcases h with h|⟨s',h1,h2⟩|⟨n,h⟩
  .grind
  .have e:I s':=h1.elim (λx=>l s s' x hi) λx=>k x.1 s s' x.2 hi
   rcases km.norm I l k h2 e with m|⟨m,s2,p,q⟩
   .grind
   .refine .inr ⟨m,s2,p,λa d=>?_⟩
    obtain⟨g',j,es,r',k1,i,b,o⟩:=q a d;exact⟨g',j,es,r',k1,i,b,s,.inr o⟩
  .refine .inr ⟨n,s,hi,λa d=>?_⟩
   obtain⟨g',j,es,k1,i,b⟩:=h a d;exact⟨g',j,es,f a,k1,i,b,a,.inl rfl⟩
def ek.goes{R:az->az->Prop}{D:az->az->Array Event->Prop}{Stop:au->az->Prop}(I:St->Prop)(i:∀ s a,I s->X.rely s a->I a)(e:∀ s a,I s->X.rely s a->R s.w a.w)
  (m:∀ s es,I s->∀ w',D s.w w' es->w'=s.w/\(qv s s es∨E s s es)) (j:∀ s,I s->X.rely s s) (k:∀ g s,I s->Stop g s.w->ek X E S g s) :
  ∀ (n:Nat) (g:au) (s:St),I s->Goes P X.main R D Stop n g s.w->ek X E S g s
 |0,g,s,hi,h=>k g s hi (h s.w (e s s hi (j s hi)))
 |n+1,g,s,hi,h=>by
  rcases h with h|⟨p,h⟩
  .grind
  .refine .step p λa l=>?_
   have h1:=h a.w (e s a hi l);have d:=i s a hi l;cases b:aK P X.main g a.w with
   |go g' w' es =>
    rw[b,goes_go] at h1;obtain⟨o,q⟩:=h1;obtain⟨rfl,f⟩:=m a es d w' o;exact⟨g',a,es,rfl,f,ek.goes I i e m j k n g' a d q⟩
   |_=>rw[b] at h1;exact h1.elim
end
theorem cg.ghost{s s':St}{w:az}(h:cg s { s with w:=w })(k:eQ s s'):cg s' { s' with w:=w }:=by
 refine⟨rfl,rfl,rfl,by rw[k.w];exact h.size,λb hb=>by rw[k.w];exact h.eL b (k.blk b hb),λb o v d=>?_,by rw[k.w];exact h.os,by rw[k.w];exact h.tape,by rw[k.w];exact h.output⟩
 have e:=k.cell b o v d
 by_cases hb:∃ L∈s.β,b∈L.bs
 .have:=h.eL b (.inr hb);simp only[a9] at e ⊢
  grind
 .have:s.M b o=aa v:=by
   rw[<-k.jA b (λL f a=>hb ⟨L,f,a⟩)];exact d
  exact h.mem b o v this
def cg.forget{s s':St}{w:az}(h:cg s { s with w:=w })(k:mM s s'):cg s' { s' with w:=w } :=
 ⟨rfl,rfl,rfl,by rw[k.w];exact h.size,λb hb=>by rw[k.w];exact h.eL b (by rw[<-k.own,<-k.β];exact hb),λb o v a=>h.mem b o v (k.less b o v a),by rw[k.w];exact h.os,by rw[k.w];exact h.tape,by rw[k.w];exact h.output⟩
def cg.vV{s:St}(h:gx s):cg s s:=⟨rfl,rfl,rfl,bg _,λ_ _=>rfl,h,rfl,rfl,rfl⟩
def cg.trans'{s:St}{w:az}(h:cg s { s with w:=w }):cg { s with w:=w } { s with w:=w }:=cg.vV h.mem
def cg.trans{s a s2:St}(h:cg s a)(k:cg a s2):cg s s2 :=
 ⟨k.β.trans h.β,k.M.trans h.M,k.own.trans h.own,eK h.size k.size,λb hb=>by rw[k.eL b (by rw[h.own,h.β];exact hb),h.eL b hb],λb o v d=>k.mem b o v (by rw[h.M];exact d),k.os.trans h.os,k.tape.trans h.tape,k.output.trans h.output⟩
end
section
open Go.Conc
open Go.ConcN (fork_knows RelBy)
open Go.ConcR (stA smA)
def lT:Go.Loc->Option Nat
 |.cell a=>aa a.block
 |.obj r=>aa r
 |_=>af
def BF{l:Go.Loc}(h:l.isMemory=ab):∃ b,lT l=aa b:=by
 cases l <;> simp[Go.Loc.isMemory] at h <;> exact⟨_,rfl⟩
def GS{x:MemAct}{a:Touch}{B b:Nat}(h:x.touch?=aa a)(g:x.low B)(c:lT a.loc=aa b):b<B:=by
 cases x with
 |access e =>
  simp[MemAct.touch?] at h;subst h;simp only at c;obtain⟨loc,wr,i⟩:=e;cases loc <;> simp[lT] at c <;> subst c <;> exact g
 |mark m =>
  cases m <;> simp[MemAct.touch?] at h <;> subst h <;> simp[lT] at c <;> subst c <;> exact g
 |_=>simp[MemAct.touch?] at h
structure Lay where
 Sh:Nat->Prop
 T0:Nat
 Wg:Nat
 C:Nat
 base:Nat
 kc:Nat
def rW(Y:Lay)(d:Nat->Nat)(a:Touch):Prop :=
 (∃ ad,a.loc=.cell ad/\ad.block=Y.Wg/\a.kind≠.plain)∨(∃ b,lT a.loc=aa b/\d b=0/\b≠Y.Wg/\b≠Y.C/\¬Y.Sh b/\a.kind=.plain)
def qk(Y:Lay)(d:Nat->Nat)(f:Mem)(x:Nat)(a:Touch):Prop :=
 (∃ ad,a.loc=.cell ad/\ad.block=Y.Wg/\a.kind=.atomic) ∨
 (a.kind=.plain/\((∃ b,lT a.loc=aa b/\d b=Y.base+x)∨(∃ o,a.loc=.cell ⟨Y.C,o,af⟩/\Y.kc*x<=o/\o<Y.kc*x+Y.kc)∨(a.write=ae/\∃ b o v,a.loc=.cell ⟨b,o,af⟩/\f b o=aa v)))
structure TL (Y:Lay)(d:Nat->Nat)(f:Nat->Mem)(t:Trace)(j B:Nat):Prop where
 base:1<=Y.base
 IQ:d Y.Wg=0
 hC:d Y.C=0
 ne:Y.C≠Y.Wg
 PD:¬Y.Sh Y.Wg
 QW:¬Y.Sh Y.C
 IS:∀ b,Y.Sh b->d b=0
 ms:∀ x,x<j->∀ b o v,f x b o=aa v->d b=0/\b≠Y.C/\b≠Y.Wg/\¬Y.Sh b
 T0:Y.T0<=t.size
 nr:∀ said,¬Race said t
 seen:∀ op∈t,op.act.low B
 old:∀ i a,i<Y.T0->touchAt t i=aa a->a.loc.isMemory=ab->Knows t 0 i∨(lQ Y.Sh a.loc/\a.kind=.atomic)
 QX:∀ x,x<j->∀ i a,i<Y.T0->touchAt t i=aa a->a.loc.isMemory=ab->Knows t (Y.base+x) i∨(lQ Y.Sh a.loc/\a.kind=.atomic)
 GU:∀ i a b,i<Y.T0->touchAt t i=aa a->lT a.loc=aa b->d b=0
 new:∀ i a,Y.T0<=i->touchAt t i=aa a->a.loc.isMemory=ab->(t.g? i=aa 0/\rW Y d a)∨(∃ x,x<j/\t.g? i=aa (Y.base+x)/\qk Y d (f x) x a)
 mw:∀ x,x<j->∀ i a,Y.T0<=i->touchAt t i=aa a->t.g? i=aa 0->a.write=ab->∀ b o v,a.loc=.cell ⟨b,o,af⟩->f x b o=aa v->Knows t (Y.base+x) i
 over:∀ i g,i<Y.T0->t.g? i=aa g->g≠0->t.counts i->∃ k,t.g? k=aa 0/\HappensBefore t i k
section
variable {Y:Lay}{d hm':Nat->Nat}{f:Nat->Mem}{t u:Trace}{j B B':Nat}
theorem vc{i:Nat}{a:Touch}{g:Nat}(h:touchAt t i=aa a)(b:t.g? i=aa g):Knows t g i:=by
 obtain⟨x,c,_⟩:=touch_of h;have:x.g=g:=by simpa[Trace.g?,c] using b
 grind [knows_own]
def TL.low(h:TL Y d f t j B){i:Nat}{a:Touch}{b:Nat}(e:touchAt t i=aa a)(hb:lT a.loc=aa b):b<B:=by
 obtain⟨x,g,c⟩:=touch_of e;exact GS c (h.seen x (uM g)) hb
def TL.sU(h:TL Y d f t j B)(hh:∀ b,b<B->hm' b=d b)(p:B<=B')(q:Y.Wg<B)(hC:Y.C<B)(r:∀ b,Y.Sh b->b<B)(s:∀ x,x<j->∀ b o v,f x b o=aa v->b<B):TL Y hm' f t j B':=by
 have g:∀ i a,touchAt t i=aa a->rW Y d a->rW Y hm' a:=λi a c h1=>by
  rcases h1 with h1|⟨b,h1,h2,k⟩
  .exact .inl h1
  .exact .inr ⟨b,h1,by rw[hh b (h.low c h1)];exact h2,k⟩
 have e:∀ x i a,touchAt t i=aa a->qk Y d (f x) x a->qk Y hm' (f x) x a:=λx i a c h1=>by
  rcases h1 with h1|⟨l,⟨b,h1,h2⟩|h1⟩
  .exact .inl h1
  .exact .inr ⟨l,.inl ⟨b,h1,by rw[hh b (h.low c h1)];exact h2⟩⟩
  .exact .inr ⟨l,.inr h1⟩
 refine⟨h.base,by rw[hh _ q];exact h.IQ,by rw[hh _ hC];exact h.hC,h.ne,h.PD,h.QW,λb hb=>by rw[hh b (r b hb)];exact h.IS b hb,λx n b o v m=>by rw[hh b (s x n b o v m)];exact h.ms x n b o v m,
  h.T0,h.nr,λop mi=>MemAct.low_mono p (h.seen op mi),h.old,h.QX,λi a b hi c hb=>by rw[hh b (h.low c hb)];exact h.GU i a b hi c hb,λi a hi c d=>?_,h.mw,h.over⟩
 rcases h.new i a hi c d with⟨h1,h2⟩|⟨x,h1,h2,k⟩
 .grind
 grind
def TL.ND(h:TL Y d f t j B):Y.T0<=(t++u).size:=eK h.T0 (by simp)
theorem kA{i:Nat}(h:i<t.size):(t++u).g? i=t.g? i:=by simp[Trace.g?,getElem?_append_old h]
def TL.rX(h:TL Y d f t j B)(u:Trace):∀ i g,i<Y.T0->(t++u).g? i=aa g->g≠0->(t++u).counts i->∃ k,(t++u).g? k=aa 0/\HappensBefore (t++u) i k:=by
 intro i g hi hg Bh hc;have a:=cE hi h.T0;rw[kA a] at hg;obtain⟨k,c,hb⟩:=h.over i g hi hg Bh ((counts_old a).1 hc);have b:k<t.size:=by
  unfold Trace.g? at c
  grind
 exact⟨k,by grind [kA],hb_app u hb⟩
def BG{c:Nat->Prop}{l:Go.Loc}{b:Nat}(h:lQ c l)(a:lT l=aa b):c b:=by
 cases l <;> simp[lT] at a <;> subst a <;> exact h
def TL.apart(h:TL Y d f t j B){x:Nat}(r:x<j){a b:Touch}{said:Bool}(l:rW Y d b)(n:qk Y d (f x) x a)(hl:a.loc=b.loc)(F:a.kind=.plain∨b.kind=.plain∨(said=ab/\a.kind=.said/\b.kind=.said))
  (z:b.kind=.plain->b.write=ab->∀ m o v,b.loc=.cell ⟨m,o,af⟩->f x m o≠aa v) (w:a.write=ab∨b.write=ab):False:=by
 have s:=h.base;rcases n with⟨ad,e1,e2,e3⟩|⟨C,⟨c,e1,e2⟩|⟨o,e1,_⟩|⟨e1,m,o,v,e2,e3⟩⟩
 .rcases l with⟨i,e,g,k⟩|⟨c,e,g,k,_⟩
  .grind
  .rw[<-hl,e1] at e;simp only[lT,de] at e
   grind
 .rcases l with⟨i,e,g,k⟩|⟨p,e,g,k,_⟩
  .rw[hl,e] at e1;simp only[lT,de] at e1;rw[<-e1,g,h.IQ] at e2;omega
  grind
 .rcases l with⟨i,e,g,k⟩|⟨p,e,g,k,q,_⟩
  .rw[<-hl,e1] at e;cases e;exact h.ne g
  .rw[<-hl,e1] at e;simp only[lT,de] at e
   grind
 .obtain⟨E,G,D,y⟩:=h.ms x r m o v e3;rcases l with⟨i,e,g,k⟩|⟨p,e,g,k,q,_,A⟩
  .grind
  grind
def TL.app0(h:TL Y d f t j B)(G:∀ op∈u,op.g=0)(hl:∀ op∈u,op.act.low B)(E:∀ op∈u,∀ a,op.act.touch?=aa a->a.loc.isMemory=ab->rW Y d a)
  (J:∀ op∈u,∀ a,op.act.touch?=aa a->a.kind=.plain->a.write=ab->∀ x,x<j->∀ b o v,a.loc=.cell ⟨b,o,af⟩->f x b o≠aa v):TL Y d f (t++u) j B:=by
 have e:∀ {i:Nat} {a:Touch},touchAt (t++u) i=aa a->(i<t.size/\touchAt t i=aa a)∨(t.size<=i/\(t++u).g? i=aa 0/\∃ op∈u,op.act.touch?=aa a):=by
  intro i a k;obtain⟨x,p,y⟩:=touch_of k;rcases getElem?_append_cases p with⟨hi,H⟩|⟨hi,s⟩
  .grind [touchAt_of]
  .exact .inr ⟨hi,by simp[Trace.g?,p,G x s],x,s,y⟩
 refine⟨h.base,h.IQ,h.hC,h.ne,h.PD,h.QW,h.IS,h.ms,h.ND,λsaid=>?_,seen_app h.seen hl,λi a hi k d=>?_,λx p i a hi k d=>?_,λi a b hi k hb=>?_,λi a hi k d=>?_,λx p i a hi k w C b o v l F=>?_,h.rX u⟩
 .refine noRace_append (h.nr said) G λi a k op mi b hb hc=>?_
  have z:b.loc.isMemory=ab:=by rw[<-hc.1];exact hc.2.1
  have D:=E op mi b hb z;rcases cG i Y.T0 with hi|hi
  .rcases h.old i a hi k hc.2.1 with N|⟨M,I⟩
   .exact N
   .exfalso;obtain⟨c,n⟩:=BF hc.2.1;have r:=BG M n;rcases D with⟨ad,e1,e2,e3⟩|⟨K,e1,e2,e3,O,P,L⟩
    .rw[hc.1,e1] at n;simp only[lT,de] at n;rw[<-n,e2] at r;exact h.PD r
    .rw[hc.1,e1] at n
     grind
  .rcases h.new i a hi k hc.2.1 with⟨w,_⟩|⟨x,p,w,A⟩
   .grind [vc]
   .exact(h.apart p D A hc.1 hc.2.2.2 (λh1 h2=>J op mi b hb h1 h2 x p) hc.2.2.1).elim
 .have m:touchAt t i=aa a:=by rw[<-touchAt_old (u:=u) (cE hi h.T0)];exact k
  exact(h.old i a hi m d).imp (·.app u) id
 .have m:touchAt t i=aa a:=by rw[<-touchAt_old (u:=u) (cE hi h.T0)];exact k
  exact(h.QX x p i a hi m d).imp (·.app u) id
 .have m:touchAt t i=aa a:=by rw[<-touchAt_old (u:=u) (cE hi h.T0)];exact k
  exact h.GU i a b hi m hb
 .rcases e k with⟨h1,h2⟩|⟨_,h2,op,mi,q⟩
  .rw[kA h1];exact h.new i a hi h2 d
  grind
 .rcases e k with⟨h1,h2⟩|⟨_,h2,op,mi,q⟩
  .rw[kA h1] at w;exact(h.mw x p i a hi h2 w C b o v l F).app u
  .exfalso;rcases E op mi a q (by rw[l];rfl) with⟨ad,e1,e2,e3⟩|⟨K,_,_,_,_,_,L⟩
   .rw[l] at e1;cases e1;exact(h.ms x p b o v F).2.2.1 e2
   grind
def TL.appW(h:TL Y d f t j B){x:Nat}(A:x<j)(Z:∀ op∈u,op.g=Y.base+x)(hl:∀ op∈u,op.act.low B)(ht:∀ op∈u,∀ a,op.act.touch?=aa a->a.loc.isMemory=ab->qk Y d (f x) x a):TL Y d f (t++u) j B:=by
 have ZJ:=h.base;have r:∀ {i:Nat} {a:Touch},touchAt (t++u) i=aa a->(i<t.size/\touchAt t i=aa a)∨(t.size<=i/\(t++u).g? i=aa (Y.base+x)/\∃ op∈u,op.act.touch?=aa a):=by
  intro i a q;obtain⟨y,w,K⟩:=touch_of q;rcases getElem?_append_cases w with⟨hi,hy'⟩|⟨hi,E⟩
  .grind [touchAt_of]
  .exact .inr ⟨hi,by simp[Trace.g?,w,Z y E],y,E,K⟩
 refine⟨h.base,h.IQ,h.hC,h.ne,h.PD,h.QW,h.IS,h.ms,h.ND,λsaid=>?_,seen_app h.seen hl,λi a hi q d=>?_,λy w i a hi q d=>?_,λi a b hi q hb=>?_,λi a hi q d=>?_,λy w i a hi q F H b o v G T=>?_,h.rX u⟩
 .refine noRace_append (h.nr said) Z λi a q op mi b hb hc=>?_
  have O:b.loc.isMemory=ab:=by rw[<-hc.1];exact hc.2.1
  have D:=ht op mi b hb O;obtain⟨c,l⟩:=BF hc.2.1;rcases cG i Y.T0 with hi|hi
  .rcases h.QX x A i a hi q hc.2.1 with V|⟨hs,hka⟩
   .exact V
   .exfalso;have n:=BG hs l;rw[hc.1] at l;rcases D with⟨ad,e1,e2,e3⟩|⟨e0,⟨c',e1,e2⟩|⟨o,e1,_⟩|⟨e1,p,o,v,e2,e3⟩⟩
    .rw[e1] at l;simp only[lT,de] at l;rw[<-l,e2] at n;exact h.PD n
    .rw[e1] at l;simp only[de] at l;rw[<-l] at n;rw[h.IS _ n] at e2;omega
    .rw[e1] at l;simp only[lT,de] at l;rw[<-l] at n;exact h.QW n
    .rw[e2] at l;simp only[lT,de] at l;rw[<-l] at n;exact(h.ms x A p o v e3).2.2.2 n
  .rcases h.new i a hi q hc.2.1 with⟨F,N⟩|⟨y,w,F,P⟩
   ·
    by_cases I:a.write=ab/\∃ p o v,a.loc=.cell ⟨p,o,af⟩/\f x p o=aa v
    .obtain⟨h1,p,o,v,h2,X⟩:=I;exact h.mw x A i a hi q F h1 p o v h2 X
    .exfalso;refine h.apart (said:=said) A N D hc.1.symm ?_ (λ_ R p o v k T=>I ⟨R,p,o,v,k,T⟩) hc.2.2.1.symm
     rcases hc.2.2.2 with V|V|⟨h1,h2,X⟩
     .grind
     .grind
     grind
   .by_cases L:y=x
    .grind [vc]
    .exfalso;obtain⟨k,_,H,J⟩:=hc;rcases P with⟨ad,e1,e2,e3⟩|⟨e0,⟨c1,e1,e2⟩|⟨o,e1,e1l,e1u⟩|⟨e1,p,o,v,e2,e3⟩⟩
     .rcases D with⟨C,e,m,z⟩|⟨U,⟨c2,e,m⟩|⟨o,e,_⟩|⟨e,p,o,v,m,z⟩⟩
      .grind
      .rw[<-k,e1] at e;simp only[lT,de] at e;rw[<-e,e2,h.IQ] at m;omega
      .rw[<-k,e1] at e;cases e;exact h.ne e2
      .rw[<-k,e1] at m;cases m;exact(h.ms x A p o v z).2.2.1 e2
     .rcases D with⟨C,e,m,z⟩|⟨U,⟨c2,e,m⟩|⟨o,e,_⟩|⟨e,p,o,v,m,z⟩⟩
      .rw[k,e] at e1;simp only[lT,de] at e1;rw[<-e1,m,h.IQ] at e2;omega
      .grind
      .rw[k,e] at e1;simp only[lT,de] at e1;rw[<-e1,h.hC] at e2;omega
      .rw[k,m] at e1;simp only[lT,de] at e1;rw[<-e1,(h.ms x A p o v z).1] at e2;omega
     .rcases D with⟨C,e,m,z⟩|⟨U,⟨c2,e,m⟩|⟨S,e,M,Q⟩|⟨e,p,S,v,m,z⟩⟩
      .rw[<-k,e1] at e;cases e;exact h.ne m
      .rw[<-k,e1] at e;simp only[lT,de] at e;rw[<-e,h.hC] at m;omega
      .rw[<-k,e1] at e;cases e;rcases Nat.lt_or_gt_of_ne L with h1|h1
       .have:=uO Y.kc (show y+1<=x from h1)
        grind
       .have:=uO Y.kc (show x+1<=y from h1)
        grind
      .rw[<-k,e1] at m;cases m;exact(h.ms x A _ _ v z).2.1 rfl
     .rcases D with⟨C,e,m,z⟩|⟨U,⟨c2,e,m⟩|⟨S,e,M,Q⟩|⟨e,b2,S,v',m,z⟩⟩
      .rw[<-k,e2] at e;cases e;exact(h.ms y w p o v e3).2.2.1 m
      .rw[<-k,e2] at e;simp only[lT,de] at e;rw[<-e,(h.ms y w p o v e3).1] at m;omega
      .rw[<-k,e2] at e;cases e;exact(h.ms y w _ _ v e3).2.1 rfl
      grind
 .have s:touchAt t i=aa a:=by rw[<-touchAt_old (u:=u) (cE hi h.T0)];exact q
  exact(h.old i a hi s d).imp (·.app u) id
 .have s:touchAt t i=aa a:=by rw[<-touchAt_old (u:=u) (cE hi h.T0)];exact q
  exact(h.QX y w i a hi s d).imp (·.app u) id
 .have s:touchAt t i=aa a:=by rw[<-touchAt_old (u:=u) (cE hi h.T0)];exact q
  exact h.GU i a b hi s hb
 .rcases r q with⟨h1,h2⟩|⟨_,h2,op,mi,W⟩
  .rw[kA h1];exact h.new i a hi h2 d
  grind
 .rcases r q with⟨h1,h2⟩|⟨_,h2,_⟩
  .rw[kA h1] at F;exact(h.mw y w i a hi h2 F H b o v G T).app u
  grind
def TL.mute(h:TL Y d f t j B){g:Nat}(q:∀ op∈u,op.g=g)(hl:∀ op∈u,op.act.low B)(hn:∀ op∈u,op.act.touch?=af):TL Y d f (t++u) j B:=by
 have old:∀ {i:Nat} {a:Touch},touchAt (t++u) i=aa a->i<t.size/\touchAt t i=aa a:=by
  intro i a c;obtain⟨y,r,n⟩:=touch_of c
  grind [touchAt_of]
 refine⟨h.base,h.IQ,h.hC,h.ne,h.PD,h.QW,h.IS,h.ms,h.ND,λsaid=>noRace_append (h.nr said) q λi a _ op mi b hb _=>(by grind),seen_app h.seen hl,λi a hi c d=>(h.old i a hi (old c).2 d).imp (·.app u) id,
  λx k i a hi c d=>(h.QX x k i a hi (old c).2 d).imp (·.app u) id,λi a b hi c hb=>h.GU i a b hi (old c).2 hb,λi a hi c d=>?_,λx k i a hi c m l b o v e p=>?_,h.rX u⟩
 .rw[kA (old c).1];exact h.new i a hi (old c).2 d
 .rw[kA (old c).1] at m;exact(h.mw x k i a hi (old c).2 m l b o v e p).app u
def TL.fork(h:TL Y d f t j B){x y:MemOp}(n:x.g=0/\x.act=.go (Y.base+j))(m:y.g=Y.base+j/\y.act=.start)(A:Deaf t 0=0)(D:Deaf t (Y.base+j)=0)
  (G:∀ b o v,f j b o=aa v->d b=0/\b≠Y.C/\b≠Y.Wg/\¬Y.Sh b):TL Y d f (t++#[x,y]) (j+1) B:=by
 have E:∀ op∈#[x,y],op.act.touch?=af:=by
  intro op mi;simp only[List.mem_toArray,e9,rf,or_false] at mi;rcases mi with rfl|rfl
  .rw[n.2];rfl
  .rw[m.2];rfl
 have l:∀ op∈#[x,y],op.act.low B:=by
  intro op mi;simp only[List.mem_toArray,e9,rf,or_false] at mi;rcases mi with rfl|rfl
  .rw[n.2];trivial
  .rw[m.2];trivial
 have old:∀ {i:Nat} {a:Touch},touchAt (t++#[x,y]) i=aa a->i<t.size/\touchAt t i=aa a:=by
  intro i a c;obtain⟨z,q,F⟩:=touch_of c
  grind [touchAt_of]
 have r:∀ z,z<j+1->∀ b o v,f z b o=aa v->d b=0/\b≠Y.C/\b≠Y.Wg/\¬Y.Sh b:=λz q b o v s=>by
  rcases cG z j with h1|h1
  .exact h.ms z h1 b o v s
  grind
 refine⟨h.base,h.IQ,h.hC,h.ne,h.PD,h.QW,h.IS,r,h.ND,λsaid=>?_,seen_app h.seen l,λi a hi c d=>(h.old i a hi (old c).2 d).imp (·.app _) id,
  λz q i a hi c d=>?_,λi a b hi c hb=>h.GU i a b hi (old c).2 hb,λi a hi c d=>?_,λz q i a hi c p w b o v k s=>?_,h.rX _⟩
 .have e:t++#[x,y]=(t++#[x])++#[y]:=by grind
  rw[e];refine noRace_append (g:=Y.base+j) (noRace_append (g:=0) (h.nr said) (λop mi=>by grind) (λi a _ op mi b hb _=>?_)) (λop mi=>by grind) (λi a _ op mi b hb _=>?_)
  .grind
  grind
 .rcases cG z j with h1|h1
  .exact(h.QX z h1 i a hi (old c).2 d).imp (·.app _) id
  .obtain rfl:z=j:=by omega
   exact(h.old i a hi (old c).2 d).imp (fork_knows n m A D) id
 .rw[kA (old c).1];rcases h.new i a hi (old c).2 d with h1|⟨z,h1,h2⟩
  .grind
  grind
 .rw[kA (old c).1] at p;rcases cG z j with h1|h1
  .exact(h.mw z h1 i a hi (old c).2 p w b o v k s).app _
  .obtain rfl:z=j:=by omega
   exact fork_knows n m A D (vc (old c).2 p)
def TL.Xb(h:TL Y d f t j B)(M:Deaf t 0=0)(hn:NoRelease (stA Y.Wg) t){q:Nat}(I:t.act? q=aa (.mark (.acquire (stA Y.Wg))))(y:t.g? q=aa 0)(C:t.heard q)
  (L:∀ x,x<j->∃ r,RelBy (stA Y.Wg) t (Y.base+x) r/\r<q):Past (lQ λb=>Y.Sh b∨b=Y.Wg) B t:=by
 have m:∀ x,x<j->∀ i,t.g? i=aa (Y.base+x)->t.counts i->HappensBefore t i q:=by
  intro x w i p v;obtain⟨r,c,F⟩:=L x w;have e:HappensBefore t r q:=.single (.inr ⟨.marked F (.inr c.act) I (λk _ _=>hn k),c.heard,C⟩)
  have K:i<=r:=Nat.le_of_not_lt λn=>c.after i n p v
  rcases cG i r with n|J
  .exact .trans (.single (.inl ⟨n,_,p,c.g⟩)) e
  grind
 have o:∀ {l:Go.Loc},lQ Y.Sh l->lQ (λb=>Y.Sh b∨b=Y.Wg) l:=λ{l} hl=>by cases l <;> first|exact .inl hl|exact hl
 refine⟨h.nr,λi a s d=>?_,λi g p E v=>?_,M,h.seen⟩
 .rcases cG i Y.T0 with hi|hi
  .exact(h.old i a hi s d).imp id λ⟨h1,h2⟩=>⟨o h1,h2⟩
  .rcases h.new i a hi s d with⟨h1,_⟩|⟨x,w,p,G⟩
   .grind [vc]
   .rcases G with⟨ad,e1,e2,e3⟩|⟨O,_⟩
    .exact .inr ⟨by rw[e1];exact .inr e2,e3⟩
    .left
     have v:t.counts i:=⟨a,s,d,.inl (by grind)⟩
     obtain⟨z,H,A⟩:=sK.1 y;exact⟨q,z,H,A,.inr (m x w i p v)⟩
 .rcases cG i Y.T0 with hi|hi
  .exact h.over i g hi p E v
  .obtain⟨a,s,d,N⟩:=v;rcases h.new i a hi s d with⟨h1,_⟩|⟨x,w,D,G⟩
   .grind
   .exact⟨q,y,m x w i D ⟨a,s,d,N⟩⟩
def TL.start{Y:Lay}{t:Trace}{B:Nat}{f:Nat->Mem}(e:Past (lQ Y.Sh) B t)(o:Y.T0=t.size)(hb:1<=Y.base)(b:Y.C≠Y.Wg)(k:¬Y.Sh Y.Wg)(l:¬Y.Sh Y.C):TL Y (λ_=>0) f t 0 B :=
 ⟨hb,rfl,rfl,b,k,l,λ_ _=>rfl,λx c=>absurd c (jk x),by omega,e.clean,e.seen,λi a _ h d=>e.known i a h d,λx c=>absurd c (jk x),λ_ _ _ _ _ _=>rfl,
  λi a hi h _=>by
   obtain⟨x,c,_⟩:=touch_of h
   grind,λx c=>absurd c (jk x),λi g _ m b n=>e.over i g m b n⟩
end
end
section
open Go.Conc
open Go.ConcN (WD CTag Mode Vc Ssum pend phi cnt WgLive PayAt Has RW DWs WSit RelBy sumTo upd upd_same upd_ne AtR0 get_map_set get_map_set_same norel_of Deaf_still)
open Go.ConcR (KK WgAt stA smA rd wr mk Payload g_of_ofEvents)
def Cx.work(P:aq):Cx P:={ main:=ae,rely:=cg,xA:=λ_ _ _=>False,ij:=id,Bg:=True }
def Cx.lead(P:aq)(ty:ar)(Wg:Nat):Cx P:={ main:=ab,rely:=λs s'=>cg s s'/\(WgLive ty Wg s.w->WgLive ty Wg s'.w),xA:=λ_ _ _=>False,ij:=λh=>h.1,Bg:=False }
instance (P:aq):(Cx.work P).js:=⟨av⟩
def E0:St->St->Array Event->Prop:=λ_ _ _=>False
def Es(Wg:Nat):St->St->Array Event->Prop:=λs s' es=>s'=s/\∃ a:Addr,a.block=Wg/\(es=#[mk (.read a)]∨es=#[mk (.write a)])
def PE:Nat->Go.Loc->Prop:=λ_ _=>False
variable [Payload]
structure TU (C N lo k:Nat)(vs:Nat->ak)(w w':az):Prop where
 tape:w'.tape=w.tape
 os:w'.os=w.os
 output:w'.output=w.output
 size:w'.heap.size=w.heap.size
 block:∀ b,b≠C->w'.heap[b]?=w.heap[b]?
 pay:PayAt C N w'
 out:∀ o,(o<lo∨lo+k<=o)->w'.cell? ⟨C,o,af⟩=w.cell? ⟨C,o,af⟩
 new:∀ i,i<k->w'.cell? ⟨C,lo+i,af⟩=aa (vs i)
section
variable (P:aq)(ty:ar)(Y:Lay)(N:Nat)(val:Nat->Nat->ak)
def JJ(x:Nat)(g:au)(s:St):Prop :=
 g.status=.running/\∀ w1,cg s { s with w:=w1 }->PayAt Y.C N w1->WgLive ty Y.Wg w1 ->
  ∃ g' w2 es,aK P ae g w1=.go g' w2 es/\TU Y.C N (Y.kc*x) Y.kc (val x) w1 w2/\(∀ e∈es,∃ o,e=⟨.cell ⟨Y.C,o,af⟩,ab,ae⟩/\Y.kc*x<=o/\o<Y.kc*x+Y.kc) /\
   ∃ m,Goes P ae (RW ty Y.Wg Y.C N 0 (Y.kc*x)) Go.ConcR.DC0 (AtR0 P ty Y.Wg Y.C N 0 (Y.kc*x+1) (val x 0)) m g' w2
end
structure lU (f:Nat->Nat)(r:Mem)(g:Nat)(s:St):Prop where
 blk:∀ b,(s.own b∨∃ L∈s.β,b∈L.bs)->f b=g/\b<s.w.heap.size
 M:∀ b o v,s.M b o=aa v->(f b=g∨r b o=aa v)/\b<s.w.heap.size
structure jM (Y:Lay)(f:Nat->Nat)(E:Nat->Mem)(j:Nat)(s:St):Prop where
 blk:∀ b,(s.own b∨∃ L∈s.β,b∈L.bs)->f b=0/\b≠Y.C/\b≠Y.Wg/\¬Y.Sh b/\b<s.w.heap.size
 M:∀ b o v,s.M b o=aa v->f b=0/\b≠Y.C/\b≠Y.Wg/\¬Y.Sh b/\b<s.w.heap.size
 ms:∀ x,x<j->∀ b o v,E x b o=aa v->s.M b o=aa v
structure GV (Y:Lay)(f:Nat->Nat)(r:Mem)(y:Nat)(w w':az):Prop where
 size:w.heap.size<=w'.heap.size
 blk:∀ b,b<w.heap.size->f b=Y.base+y->w'.heap[b]?=w.heap[b]?
 cell:∀ b o v,r b o=aa v->w.cell? ⟨b,o,af⟩=aa v->w'.cell? ⟨b,o,af⟩=aa v
 pay:∀ o,Y.kc*y<=o->o<Y.kc*y+Y.kc->w'.cell? ⟨Y.C,o,af⟩=w.cell? ⟨Y.C,o,af⟩
 os:w'.os=w.os
 tape:w'.tape=w.tape
 output:w'.output=w.output
omit [Payload] in
def GV.refl(Y:Lay)(f:Nat->Nat)(r:Mem)(y:Nat)(w:az):GV Y f r y w w:=⟨bg _,λ_ _ _=>rfl,λ_ _ _ _ h=>h,λ_ _ _=>rfl,rfl,rfl,rfl⟩
omit [Payload] in
def GV.at(Y:Lay)(f:Nat->Nat)(r:Mem)(y:Nat)(w:az)(d:Nat):GV Y f r y w (w.at d):=⟨bg _,λ_ _ _=>rfl,λ_ _ _ _ h=>h,λ_ _ _=>rfl,rfl,rfl,rfl⟩
structure DU (Y:Lay)(f:Nat->Nat)(w w':az):Prop where
 size:w.heap.size<=w'.heap.size
 blk:∀ b,b<w.heap.size->f b=0->b≠Y.C->b≠Y.Wg->w'.heap[b]?=w.heap[b]?
 os:w'.os=w.os
 tape:w'.tape=w.tape
 output:w'.output=w.output
omit [Payload] in
def jN{w w':az}{b:Nat}(h:w'.heap[b]?=w.heap[b]?)(o:Nat):w'.cell? ⟨b,o,af⟩=w.cell? ⟨b,o,af⟩:=by simp[a9,h]
omit [Payload] in
def cg.more{s:St}{w w':az}(h:cg s { s with w:=w })(z:w.heap.size<=w'.heap.size)(c:∀ b,(s.own b∨∃ L∈s.β,b∈L.bs)->w'.heap[b]?=w.heap[b]?)
  (W:∀ b o v,s.M b o=aa v->w.cell? ⟨b,o,af⟩=aa v->w'.cell? ⟨b,o,af⟩=aa v) (l:w'.os=w.os) (p:w'.tape=w.tape) (u:w'.output=w.output):cg s { s with w:=w' } :=
 ⟨rfl,rfl,rfl,eK h.size z,λb J=>by show w'.heap[b]?=_;rw[c b J];exact h.eL b J,λb o v q=>W b o v q (h.mem b o v q),l.trans h.os,p.trans h.tape,u.trans h.output⟩
section
variable {Y:Lay}{f hm':Nat->Nat}{E:Nat->Mem}{j y:Nat}{s:St}{w w':az}
omit [Payload] in
def lU.JK(n:lU f (E y) (Y.base+y) s)(h:cg s { s with w:=w })(k:GV Y f (E y) y w w'):cg s { s with w:=w' }:=by
 have z:=h.size;refine h.more k.size (λb c=>?_) (λb o v q K=>?_) k.os k.tape k.output
 .obtain⟨l,p⟩:=n.blk b c;exact k.blk b (cE p z) l
 .obtain⟨l,p⟩:=n.M b o v q;rcases l with l|l
  .rw[jN (k.blk b (cE p z) l) o];exact K
  .exact k.cell b o v l K
omit [Payload] in
def lU.sU{r:Mem}{g:Nat}(n:lU f r g s)(h:s.w.heap.size<=w.heap.size)(X:∀ b,b<w.heap.size->hm' b=f b):lU hm' r g s :=
 ⟨λb c=>let ⟨l,p⟩:=n.blk b c;⟨by grind,p⟩,λb o v q=>let ⟨l,p⟩:=n.M b o v q;⟨by grind,p⟩⟩
omit [Payload] in
def jM.JK(n:jM Y f E j s)(h:cg s { s with w:=w })(k:DU Y f w w'):cg s { s with w:=w' }:=by
 have z:=h.size;refine h.more k.size (λb c=>?_) (λb o v q K=>?_) k.os k.tape k.output
 .obtain⟨l,p,u,H,A⟩:=n.blk b c;exact k.blk b (cE A z) l p u
 .obtain⟨l,p,u,H,A⟩:=n.M b o v q;rw[jN (k.blk b (cE A z) l p u) o];exact K
omit [Payload] in
def jM.sU(n:jM Y f E j s)(h:s.w.heap.size<=w.heap.size)(X:∀ b,b<w.heap.size->hm' b=f b):jM Y hm' E j s :=
 ⟨λb c=>let ⟨l,p,u,H,A⟩:=n.blk b c;⟨by grind,p,u,H,A⟩,
  λb o v q=>let ⟨l,p,u,H,A⟩:=n.M b o v q;⟨by grind,p,u,H,A⟩,n.ms⟩
omit [Payload] in
def lU.rely{r:Mem}{g:Nat}(n:lU f r g s)(h:s.w.heap.size<=w.heap.size):lU f r g { s with w:=w } :=
 ⟨λb c=>let ⟨l,p⟩:=n.blk b c;⟨l,cE p h⟩,λb o v q=>let ⟨l,p⟩:=n.M b o v q;⟨l,cE p h⟩⟩
omit [Payload] in
def jM.rely(n:jM Y f E j s)(h:s.w.heap.size<=w.heap.size):jM Y f E j { s with w:=w } :=
 ⟨λb c=>let ⟨l,p,u,H,A⟩:=n.blk b c;⟨l,p,u,H,cE A h⟩,λb o v q=>let ⟨l,p,u,H,A⟩:=n.M b o v q;⟨l,p,u,H,cE A h⟩,n.ms⟩
omit [Payload] in
theorem lU.ghost{r:Mem}{g:Nat}{s':St}(n:lU f r g s)(k:eQ s s'):lU f r g s':=by
 refine⟨λb c=>by rw[k.w];exact n.blk b (k.blk b c),λb o v q=>?_⟩
 rw[k.w]
 by_cases c:∃ L∈s.β,b∈L.bs
 .obtain⟨l,p⟩:=n.blk b (.inr c)
  grind
 .exact n.M b o v (by rw[<-k.jA b (λL D t=>c ⟨L,D,t⟩)];exact q)
omit [Payload] in
def lU.forget{r:Mem}{g:Nat}{s':St}(n:lU f r g s)(k:mM s s'):lU f r g s' :=
 ⟨λb c=>by rw[k.w];exact n.blk b (by rw[<-k.own,<-k.β];exact c),λb o v q=>by rw[k.w];exact n.M b o v (k.less b o v q)⟩
omit [Payload] in
theorem jM.ghost{s':St}(n:jM Y f E j s)(k:eQ s s'):jM Y f E j s':=by
 refine⟨λb c=>by rw[k.w];exact n.blk b (k.blk b c),λb o v q=>?_,λx O b o v q=>k.mem _ _ _ (n.ms x O b o v q)⟩
 rw[k.w]
 by_cases c:∃ L∈s.β,b∈L.bs
 .exact n.blk b (.inr c)
 .exact n.M b o v (by rw[<-k.jA b (λL D t=>c ⟨L,D,t⟩)];exact q)
def na(f:Nat->Nat)(B g:Nat):Nat->Nat:=λb=>if b<B then f b else g
omit [Payload] in
theorem eR{f:Nat->Nat}{B g b:Nat}(h:b<B):na f B g b=f b:=by simp[na,h]
omit [Payload] in
theorem sV{f:Nat->Nat}{B g b:Nat}(h:B<=b):na f B g b=g:=by simp[na,ky.2 h]
omit [Payload] in
def lU.step{r:Mem}{g:Nat}{s':St}{σ σ':List aV}(n:lU f r g s)(F:aJ σ' s')(st:Step σ s σ' s'):lU (na f s.w.heap.size g) r g s':=by
 refine⟨λb c=>?_,λb o v q=>?_⟩
 .rcases c with c|⟨L,D,c⟩
  .rw[st.own] at c;obtain⟨l,p⟩:=n.blk b (.inl c);exact⟨by grind [eR],cE p st.size⟩
  .have G:=F.lt L D b c;rcases st.xx L D b c with l|⟨Q,I,l⟩
   .grind [sV]
   .obtain⟨k1,R⟩:=n.blk b (.inr ⟨Q,I,l⟩)
    grind [eR]
 .have G:=gx.lt F.mem q;rcases cG b s.w.heap.size with l|l
  .rw[eR l]
   by_cases c:∃ L∈s.β,b∈L.bs
   .exact⟨.inl (n.blk b (.inr c)).1,G⟩
   .rw[st.jA b l (λL D t=>c ⟨L,D,t⟩)] at q
    exact⟨(n.M b o v q).1,G⟩
  grind [sV]
omit [Payload] in
def jM.step{s':St}{σ σ':List aV}(n:jM Y f E j s)(F:aJ σ' s')(st:Step σ s σ' s')(hW:Y.Wg<s.w.heap.size)(hC:Y.C<s.w.heap.size)(Z:∀ b,Y.Sh b->b<s.w.heap.size):jM Y (na f s.w.heap.size 0) E j s':=by
 have S:∀ b,s.w.heap.size<=b->b<s'.w.heap.size->na f s.w.heap.size 0 b=0/\b≠Y.C/\b≠Y.Wg/\¬Y.Sh b/\b<s'.w.heap.size:=λb l p =>
  ⟨sV l,by omega,by omega,λh=>by grind,p⟩
 refine⟨λb c=>?_,λb o v q=>?_,λx O b o v q=>st.mem _ _ _ (n.ms x O b o v q)⟩
 .rcases c with c|⟨L,D,c⟩
  .rw[st.own] at c;obtain⟨l,p,u,H,A⟩:=n.blk b (.inl c);exact⟨by grind [eR],p,u,H,cE A st.size⟩
  .have G:=F.lt L D b c;rcases st.xx L D b c with l|⟨Q,I,l⟩
   .grind
   .obtain⟨k1,R,U,V,T⟩:=n.blk b (.inr ⟨Q,I,l⟩)
    grind [eR]
 .have G:=gx.lt F.mem q;rcases cG b s.w.heap.size with l|l
  .by_cases c:∃ L∈s.β,b∈L.bs
   .obtain⟨k1,R,U,V,T⟩:=n.blk b (.inr c)
    grind [eR]
   .rw[st.jA b l (λL D t=>c ⟨L,D,t⟩)] at q
    obtain⟨k1,R,U,V,T⟩:=n.M b o v q
    grind [eR]
  grind
end
end
section
open Go.Conc
open Go.ConcN (WD CTag Mode Vc Ssum pend phi cnt WgLive PayAt Has RW DWs WSit RelBy sumTo upd upd_same upd_ne AtR0 get_map_set get_map_set_same norel_of Deaf_still)
open Go.ConcR (KK WgAt stA smA rd wr mk Payload g_of_ofEvents)
variable [Payload]
section
variable (P:aq)(ty:ar)(Y:Lay)(N:Nat)(val:Nat->Nat->ak)(l:Nat->Nat)(c:Nat->Mem)
inductive WS (x:Nat):Nat->Nat->Rk->Nat->au->az->Prop
 |am {r:Rk} {g:au} {s:St} {w:az}:km (Cx.work P) E0 (JJ P ty Y N val x) r g s->cg s { s with w:=w }->lU l (c x) (Y.base+x) s->WS x 1 7 r 0 g w
 |rel {m:Nat} {g:au} {w:az}:Goes P ae (RW ty Y.Wg Y.C N 0 (Y.kc*x)) Go.ConcR.DC0 (AtR0 P ty Y.Wg Y.C N 0 (Y.kc*x+1) (val x 0)) m g w->WS x 0 7 (Rk.nat m) 0 g w
 |tail {st m d:Nat} {g:au} {w:az}:st<=6->WSit P ty Y.Wg Y.C N PE PE 0 (Y.kc*x+1) (val x 0) st m d g w->WS x 0 st (Rk.nat m) d g w
structure Com (j:Nat)(n:Array au)(w:az)(t:Trace)(D:Nat->WD)(A:Nat->Nat)(K:Nat->Rk)(p:Nat):Prop where
 size:n.size=Y.base+j
 lv:∀ i g,0<i->i<Y.base->n[i]?=aa g->∃ m,K i=Rk.nat m/\QuitsD P m (Deaf t i) g
 above:∀ i,Y.base+j<=i->Deaf t i=0
 wk:∀ x,x<j->∃ g,n[Y.base+x]?=aa g/\WS P ty Y N val l c x (A x) (D x).stage (K (Y.base+x)) (D x).deaf g w
 tl:TL Y l c t j w.heap.size
 norel:ry t
 deaf0:Deaf t 0=p
 deafW:∀ x,x<j->Deaf t (Y.base+x)=(D x).deaf
 rel:∀ x,x<j->(D x).stage<=6->∃ r,RelBy (stA Y.Wg) t (Y.base+x) r
 xI:∀ x,x<j->A x=0->∀ i,1<=i->i<Y.kc->w.cell? ⟨Y.C,Y.kc*x+i,af⟩=aa (val x i)
 BH:∀ x,x<j->(D x).stage<=6->Has Y.C (Y.kc*x) (val x 0) w
 pay:PayAt Y.C N w
 live:WgLive ty Y.Wg w
 Bd:Y.Wg<w.heap.size
 Dj:Y.C<w.heap.size
 MU:∀ b,Y.Sh b->b<w.heap.size
 kc:0<Y.kc
 NF:∀ y,y<j->∀ b o v,c y b o=aa v->b<w.heap.size
end
section
variable {P:aq}{ty:ar}{Y:Lay}{N:Nat}{val:Nat->Nat->ak}{l hm':Nat->Nat}{c:Nat->Mem}{j x:Nat}{n:Array au}{w w':az}{t:Trace}{D:Nat->WD}{A:Nat->Nat}{K:Nat->Rk}{p:Nat}
def RW.JK(k:GV Y l (c x) x w w')(hl:WgLive ty Y.Wg w')(a:PayAt Y.C N w')(d:0<Y.kc):RW ty Y.Wg Y.C N 0 (Y.kc*x+1-1) w w' :=
 ⟨λb hb=>absurd hb (jk b),λ_=>hl,λ_=>a,k.pay _ (bg _) (by grind)⟩
def WS.JK{a st d:Nat}{r:Rk}{g:au}(h:WS P ty Y N val l c x a st r d g w)(k:GV Y l (c x) x w w')(hl:WgLive ty Y.Wg w')(e:PayAt Y.C N w')(i:0<Y.kc)(hh:∀ b,b<w.heap.size->hm' b=l b) :
  WS P ty Y N val hm' c x a st r d g w':=by
 cases h with
 |am h1 h2 h3=>exact .am h1 (h3.JK h2 k) (h3.sU h2.size hh)
 |rel h1=>exact .rel (Goes.rely (λ_ _ _ h1 h2=>h1.trans h2) h1 (RW.JK k hl e i))
 |tail h0 h1=>exact .tail h0 (h1.rely (RW.JK k hl e i))
omit [Payload] in
def km.run{X:Cx P}{E:St->St->Array Event->Prop}{S:au->St->Prop}(q:∀ g s,S g s->g.status=.running):∀ {r:Rk}{g:au}{s:St},km X E S r g s->g.status=.running
 |.leaf,_,_,h=>q _ _ h
 |.node f,g,s,h=>by
  rcases h with h|⟨s',_,h⟩|⟨h,_⟩
  .grind
  .exact km.run q (r:=f s) h
  grind
def WS.status{a st d:Nat}{r:Rk}{g:au}(h:WS P ty Y N val l c x a st r d g w):g.status=.running∨g.status=.finished:=by
 cases h with
 |am h1 _ _=>exact .inl (h1.run λg s h=>h.1)
 |rel h1=>exact .inl (Goes.running (λ_ _ x=>x.1) w (Go.ConcN.RW.refl w) h1)
 |tail _ h1=>exact h1.status
def WS.woken{a st d:Nat}{r:Rk}{g:au}(h:WS P ty Y N val l c x a st r d g w)(b e:au)(w':az):woken P b e w' g=g:=by
 unfold Go.Conc.woken;split
 .exact again_running _ h.status
 .rfl
def Com.at(h:Com P ty Y N val l c j n w t D A K p)(d:Nat):Com P ty Y N val l c j n (w.at d) t D A K p :=
 ⟨h.size,h.lv,h.above,λx a=>let ⟨g,h1,h2⟩:=h.wk x a;⟨g,h1,h2.JK (.at ..) h.live h.pay h.kc λ_ _=>rfl⟩,h.tl,h.norel,h.deaf0,h.deafW,h.rel,h.xI,h.BH,h.pay,h.live,h.Bd,h.Dj,h.MU,h.kc,h.NF⟩
def Com.stepW(h:Com P ty Y N val l c j n w t D A K p)(hx:x<j){g g':au}{fn:aW}{pos:String}{es:Array Event}{a' qh d':Nat}{r':Rk}
  (hh:∀ b,b<w.heap.size->hm' b=l b) (B:w.heap.size<=w'.heap.size) (u:∀ y,y<j->y≠x->GV Y l (c y) y w w')
  (V:WS P ty Y N val hm' c x a' qh r' d' g' w') (TV:∀ e∈es,(aM e).low w'.heap.size) (TX:∀ e∈es,∀ a,(aM e).touch?=aa a->a.loc.isMemory=ab->qk Y hm' (c x) x a)
  (R:∀ e∈es,∀ a,e.loc≠.mark (.release a)) (J:deafBehind (D x).deaf es=d')
  (ab7:qh<=6->∃ r,RelBy (stA Y.Wg) (t++MemOp.ofEvents (Y.base+x) fn pos es) (Y.base+x) r)
  (h1:a'=0->∀ i,1<=i->i<Y.kc->w'.cell? ⟨Y.C,Y.kc*x+i,af⟩=aa (val x i)) (h0:qh<=6->Has Y.C (Y.kc*x) (val x 0) w') (H:PayAt Y.C N w') (F:WgLive ty Y.Wg w') :
  Com P ty Y N val hm' c j ((n.map (woken P g g' w')).setIfInBounds (Y.base+x) g') w' (t++MemOp.ofEvents (Y.base+x) fn pos es) (upd D x ⟨qh,0,d'⟩) (upd A x a') (upd K (Y.base+x) r') p:=by
 have hb:=h.tl.base;have G:∀ y,y≠x->Y.base+x≠Y.base+y:=λy d e=>d (by omega)
 have Q:∀ i I,0<i->i<Y.base->((n.map (Go.Conc.woken P g g' w')).setIfInBounds (Y.base+x) g')[i]?=aa I->n[i]?=aa I:=by
  intro i I hi PF FF;rw[get_map_set _ _ _ _ (by omega)] at FF
  obtain⟨z,hz,rfl⟩:=sK.1 FF;obtain⟨m,_,hq⟩:=h.lv i z hi PF hz
  grind [woken_quitsD]
 refine⟨by simp[h.size],λi I hi PF FF=>?_,λi hi=>?_,λy d=>?_,?_,h.norel.app R,by rw[Deaf_other t (by omega) _ g_of_ofEvents,h.deaf0],λy d=>?_,λy d k=>?_,λy d M i U T=>?_,λy d k=>?_,H,F,cE h.Bd B,cE h.Dj B,λb hb=>cE (h.MU b hb) B,h.kc,λy d b o v W=>cE (h.NF y d b o v W) B⟩
 .obtain⟨m,Z,O⟩:=h.lv i I hi PF (Q i I hi PF FF);refine⟨m,by rw[upd_ne K _ (by omega)];exact Z,?_⟩
  rw[Deaf_other t (by omega) _ g_of_ofEvents];exact O
 .rw[Deaf_other t (by omega) _ g_of_ofEvents];exact h.above i hi
 .by_cases e:y=x
  .subst e;exact⟨g',get_map_set_same _ _ _ (by rw[h.size];omega),by rw[upd_same,upd_same,upd_same];exact V⟩
  .obtain⟨I,FF,L⟩:=h.wk y d;refine⟨I,by rw[get_map_set _ _ _ _ (G y e),FF,j6,L.woken],?_⟩
   rw[upd_ne A _ e,upd_ne D _ e,upd_ne K _ (G y e).symm];exact L.JK (u y d e) F H h.kc hh
 .refine(h.tl.sU hh B h.Bd h.Dj h.MU λy d b o v W=>?_).appW hx (λop mi=>by grind [Go.Conc.mem_ofEvents]) (λop mi=>?_) (λop mi a M hma=>?_)
  .exact h.NF y d b o v W
  .grind [Go.Conc.mem_ofEvents]
  grind [Go.Conc.mem_ofEvents]
 .by_cases e:y=x
  .subst e;rw[Deaf_own,h.deafW y d,upd_same];exact J
  .rw[Deaf_other t (G y e) _ g_of_ofEvents,h.deafW y d,upd_ne D _ e]
 .by_cases e:y=x
  .subst e;rw[upd_same] at k;grind
  .rw[upd_ne D _ e] at k;obtain⟨r,hr⟩:=h.rel y d k;exact⟨r,hr.appOther g_of_ofEvents (G y e)⟩
 .by_cases e:y=x
  .subst e;rw[upd_same] at M;grind
  .rw[upd_ne A _ e] at M;rw[(u y d e).pay _ (by omega) (by omega)]
   exact h.xI y d M i U T
 .by_cases e:y=x
  .subst e;rw[upd_same] at k;grind
  .rw[upd_ne D _ e] at k;have:=h.BH y d k;have hk:=h.kc;simp only[Has] at this ⊢;rw[(u y d e).pay _ (by omega) (by omega)]
   exact this
def Com.step0(h:Com P ty Y N val l c j n w t D A K p){g g':au}{fn:aW}{pos:String}{es:Array Event}
  (hh:∀ b,b<w.heap.size->hm' b=l b) (u:w.heap.size<=w'.heap.size) (k:∀ y,y<j->GV Y l (c y) y w w')
  (R:∀ e∈es,(aM e).low w'.heap.size) (V:∀ e∈es,∀ a,(aM e).touch?=aa a->a.loc.isMemory=ab->rW Y hm' a)
  (TX:∀ e∈es,∀ a,(aM e).touch?=aa a->a.kind=.plain->a.write=ab->∀ x,x<j->∀ b o v,a.loc=.cell ⟨b,o,af⟩->c x b o≠aa v)
  (L:∀ e∈es,∀ a,e.loc≠.mark (.release a)) (F:PayAt Y.C N w') (B:WgLive ty Y.Wg w') :
  Com P ty Y N val hm' c j ((n.map (woken P g g' w')).setIfInBounds 0 g') w' (t++MemOp.ofEvents 0 fn pos es) D A K (deafBehind p es):=by
 have hb:=h.tl.base;have hk:=h.kc;refine⟨by simp[h.size],λi T hi PF FF=>?_,λi hi=>?_,λy d=>?_,?_,h.norel.app L,by rw[Deaf_own,h.deaf0],λy d=>by rw[Deaf_other t (by omega) _ g_of_ofEvents,h.deafW y d],λy d G=>?_,λy d J i O M=>?_,λy d G=>?_,F,B,cE h.Bd u,cE h.Dj u,λb hb=>cE (h.MU b hb) u,h.kc,λy d b o v W=>cE (h.NF y d b o v W) u⟩
 .rw[get_map_set _ _ _ _ (by omega)] at FF
  obtain⟨z,U,rfl⟩:=sK.1 FF;obtain⟨m,Q,H⟩:=h.lv i z hi PF U;exact⟨m,Q,by rw[woken_quitsD H,Deaf_other t (by omega) _ g_of_ofEvents];exact H⟩
 .rw[Deaf_other t (by omega) _ g_of_ofEvents];exact h.above i hi
 .obtain⟨T,FF,I⟩:=h.wk y d;exact⟨T,by rw[get_map_set _ _ _ _ (by omega),FF,j6,I.woken],I.JK (k y d) B F h.kc hh⟩
 .refine(h.tl.sU hh u h.Bd h.Dj h.MU h.NF).app0 (λop mi=>by grind [Go.Conc.mem_ofEvents]) (λop mi=>?_) (λop mi a J hma=>?_) (λop mi a J=>?_)
  .grind [Go.Conc.mem_ofEvents]
  .grind [Go.Conc.mem_ofEvents]
  grind [Go.Conc.mem_ofEvents]
 .obtain⟨r,Z⟩:=h.rel y d G;exact⟨r,Z.appOther g_of_ofEvents (by omega)⟩
 .rw[(k y d).pay _ (by omega) (by omega)]
  exact h.xI y d J i O M
 .have:=h.BH y d G;simp only[Has] at this ⊢;rw[(k y d).pay _ (by omega) (by omega)]
  exact this
def Com.leave(h:Com P ty Y N val l c j n w t D A K p){i m:Nat}(hi:0<i)(Q:i<Y.base){g g':au}{fn:aW}{pos:String}{es:Array Event}
  (G:∀ e∈es,e.mute=ab) (R:QuitsD P m (deafBehind (Deaf t i) es) g') :
  Com P ty Y N val l c j ((n.map (woken P g g' w)).setIfInBounds i g') w (t++MemOp.ofEvents i fn pos es) D A (upd K i (Rk.nat m)) p:=by
 have hb:=h.tl.base;have B:∀ e∈es,∀ a,e.loc≠.mark (.release a):=λe L a=>vn (G e L) a
 refine⟨by simp[h.size],λk I H v b=>?_,λk H=>?_,λy u=>?_,?_,h.norel.app B,by rw[Deaf_other t (by omega) _ g_of_ofEvents,h.deaf0],λy u=>by rw[Deaf_other t (by omega) _ g_of_ofEvents,h.deafW y u],λy u F=>?_,h.xI,h.BH,h.pay,h.live,h.Bd,h.Dj,h.MU,h.kc,h.NF⟩
 .by_cases e:k=i
  .subst e;rw[get_map_set_same _ _ _ (by grind)] at b
   cases b;exact⟨m,by rw[upd_same],by grind [Deaf_own]⟩
  .rw[get_map_set _ _ _ _ (mf e)] at b;obtain⟨z,M,rfl⟩:=sK.1 b;obtain⟨O,C,d⟩:=h.lv k z H v M;exact⟨O,by rw[upd_ne K _ e];exact C,by rw[woken_quitsD d,Deaf_other t (mf e) _ g_of_ofEvents];exact d⟩
 .rw[Deaf_other t (by omega) _ g_of_ofEvents];exact h.above k H
 .obtain⟨I,b,o⟩:=h.wk y u;exact⟨I,by rw[get_map_set _ _ _ _ (by omega),b,j6,o.woken],by rw[upd_ne K _ (by omega)];exact o⟩
 .exact h.tl.mute (g:=i) (λop mi=>by grind [Go.Conc.mem_ofEvents]) (λop mi=>by grind [Go.Conc.mem_ofEvents,low_mute]) (λop mi=>by grind [Go.Conc.mem_ofEvents,touch_mute])
 .obtain⟨r,J⟩:=h.rel y u F;exact⟨r,J.appOther g_of_ofEvents (by omega)⟩
def Com.spawn(h:Com P ty Y N val l c j n w t D A K 0){a' child:au}{x y:MemOp}{r:Rk}{s:St}(R:x.g=0/\x.act=.go (Y.base+j))(Q:y.g=Y.base+j/\y.act=.start)
  (M:∀ b o v,c j b o=aa v->l b=0/\b≠Y.C/\b≠Y.Wg/\¬Y.Sh b/\b<w.heap.size)
  (I:km (Cx.work P) E0 (JJ P ty Y N val j) r child s) (F:cg s { s with w:=w }) (T:lU l (c j) (Y.base+j) s) :
  Com P ty Y N val l c (j+1) ((n.setIfInBounds 0 a').push child) w (t++#[x,y]) (upd D j ⟨7,0,0⟩) (upd A j 1) (upd K (Y.base+j) r) 0:=by
 have hb:=h.tl.base;have O:∀ op∈#[x,y],op=x∨op=y:=by grind
 have d:∀ op∈#[x,y],op.act≠.mark .disable/\op.act≠.mark .enable:=by
  grind
 have k:∀ i,0<i->i<Y.base+j->((n.setIfInBounds 0 a').push child)[i]?=n[i]?:=λi hi u4=>by
  rw[Array.getElem?_push_lt (by simp[h.size];omega),<-fQ,sI (by omega)]
 refine⟨by simp[h.size];omega,λi g hi PF hg=>?_,λi hi=>?_,λz u=>?_,h.tl.fork R Q h.deaf0 (h.above _ (bg _)) λb o v H=>let ⟨h1,h2,J,L,_⟩:=M b o v H;⟨h1,h2,J,L⟩,λad=>(h.norel ad).app λop mi=>?_,by rw[Deaf_still t 0 _ d,h.deaf0],λz u=>?_,λz u e=>?_,λz u B=>?_,λz u e=>?_,h.pay,h.live,h.Bd,h.Dj,h.MU,h.kc,λz u b o v H=>?_⟩
 .rw[k i hi (by omega)] at hg
  obtain⟨m,h1,h2⟩:=h.lv i g hi PF hg;exact⟨m,by rw[upd_ne K _ (by omega)];exact h1,by rw[Deaf_still t _ _ d];exact h2⟩
 .rw[Deaf_still t _ _ d];exact h.above i (by omega)
 .rcases cG z j with u4|a
  .obtain⟨g,hg,G⟩:=h.wk z u4;exact⟨g,by grind,by rw[upd_ne D _ (by omega),upd_ne A _ (by omega),upd_ne K _ (by omega)];exact G⟩
  .obtain rfl:z=j:=by omega
   refine⟨child,?_,by rw[upd_same,upd_same,upd_same];exact .am I F T⟩
   rw[show Y.base+z=(n.setIfInBounds 0 a').size by simp[h.size],Array.getElem?_push_size]
 .grind
 .rw[Deaf_still t _ _ d];rcases cG z j with u4|a
  .rw[h.deafW z u4,upd_ne D _ (by omega)]
  .obtain rfl:z=j:=by omega
   rw[upd_same];exact h.above _ (bg _)
 .rcases cG z j with u4|a
  .rw[upd_ne D _ (by omega)] at e
   obtain⟨r,F⟩:=h.rel z u4 e;refine⟨r,F.appNot λop mi=>?_⟩
   grind
  .obtain rfl:z=j:=by omega
   rw[upd_same] at e
   grind
 .rcases cG z j with u4|a
  .rw[upd_ne A _ (by omega)] at B
   exact h.xI z u4 B
  .obtain rfl:z=j:=by omega
   rw[upd_same] at B
   grind
 .rcases cG z j with u4|a
  .rw[upd_ne D _ (by omega)] at e
   exact h.BH z u4 e
  .obtain rfl:z=j:=by omega
   rw[upd_same] at e
   grind
 .rcases cG z j with u4|a
  .exact h.NF z u4 b o v H
  grind
end
end
section
open Go.Conc
open Go.ConcN (WD CTag Mode Vc Ssum pend phi cnt WgLive PayAt Has RW DWs WSit RelBy sumTo upd upd_same upd_ne AtR0)
open Go.ConcR (KK WgAt stA smA rd wr mk Payload g_of_ofEvents again_blocked)
variable [Payload]
section
variable (P:aq)(ty:ar)(Y:Lay)(N:Nat)(val:Nat->Nat->ak)(n:Nat)(T l:au->St->Prop)
def AtAcq(g:au)(s:St):Prop:=g.status=.running/\∃ g',(∀ w,aK P ab g w=.go g' w #[mk (.acquire (stA Y.Wg))])/\∀ c,(Cx.lead P ty Y.Wg).rely s c->T g' c
def AtKe(g:au)(s:St):Prop:=g.status=.running/\∃ g',(∀ w,aK P ab g w=.go g' w #[mk .enable])/\∀ c,(Cx.lead P ty Y.Wg).rely s c->(ek (Cx.lead P ty Y.Wg) (Es Y.Wg)) (AtAcq P ty Y T) g' c
def AtW4(g:au)(s:St):Prop:=g.status=.running/\∀ c,(Cx.lead P ty Y.Wg).rely s c->WgAt ty Y.Wg c.w 0 0->∃ g',aK P ab g c.w=.go g' c.w #[rd (stA Y.Wg)]/\(ek (Cx.lead P ty Y.Wg) (Es Y.Wg)) (AtKe P ty Y T) g' c
def AtW3(g:au)(s:St):Prop:=g.status=.running/\g.offers=af/\∀ c,(Cx.lead P ty Y.Wg).rely s c ->
 ((∃ st,WgAt ty Y.Wg c.w st 0)->aK P ab g c.w=.go { g with status:=.blocked } c.w #[]) /\
 (WgAt ty Y.Wg c.w 0 1->∃ g',aK P ab g c.w=.go g' (c.w.setCell (smA Y.Wg) (.int .u32 0)) (semEvents (smA Y.Wg))/\(ek (Cx.lead P ty Y.Wg) (Es Y.Wg)) (AtW4 P ty Y T) g' { c with w:=c.w.setCell (smA Y.Wg) (.int .u32 0) })
def AtW2(vs:Nat)(g:au)(s:St):Prop:=g.status=.running/\∀ c,(Cx.lead P ty Y.Wg).rely s c->∀ v:Nat,v<2147483648->WgAt ty Y.Wg c.w (v*KK) 0 ->
 (v=vs->∃ g',aK P ab g c.w=.go g' (c.w.setCell (stA Y.Wg) (.int .u64 (v*KK+1))) #[rd (stA Y.Wg),wr (stA Y.Wg)]/\(ek (Cx.lead P ty Y.Wg) (Es Y.Wg)) (AtW3 P ty Y T) g' { c with w:=c.w.setCell (stA Y.Wg) (.int .u64 (v*KK+1)) }) /\
 (v≠vs->∃ g',aK P ab g c.w=.go g' c.w #[rd (stA Y.Wg)]/\l g' c)
def AtW1(g:au)(s:St):Prop:=g.status=.running/\∀ c,(Cx.lead P ty Y.Wg).rely s c->∀ v:Nat,v<2147483648->WgAt ty Y.Wg c.w (v*KK) 0 ->
 ∃ g',aK P ab g c.w=.go g' c.w #[rd (stA Y.Wg)]/\(v=0->(ek (Cx.lead P ty Y.Wg) (Es Y.Wg)) (AtKe P ty Y T) g' c)/\(v≠0->(ek (Cx.lead P ty Y.Wg) (Es Y.Wg)) (AtW2 P ty Y T l v) g' c)
def AtKd(g:au)(s:St):Prop:=g.status=.running/\∃ g',(∀ w,aK P ab g w=.go g' w #[mk .disable])/\∀ c,(Cx.lead P ty Y.Wg).rely s c->l g' c
def St.child(s:St):St:={ β:=[],M:=s.M,w:=s.w,own:=λ_=>False }
def AtGo(j:Nat)(Next:au->St->Prop)(g:au)(s:St):Prop:=g.status=.running/\∀ c,(Cx.lead P ty Y.Wg).rely s c ->
 ∃ g' child,aK P ab g c.w=.spawn g' child c.w #[]/\child.status=.running/\ek (Cx.work P) E0 (JJ P ty Y N val j) child c.child/\Next g' c
def AtKeS(j:Nat)(Next:au->St->Prop)(g:au)(s:St):Prop:=g.status=.running/\∃ g',(∀ w,aK P ab g w=.go g' w #[mk .enable])/\∀ c,(Cx.lead P ty Y.Wg).rely s c->(ek (Cx.lead P ty Y.Wg) (Es Y.Wg)) (AtGo P ty Y N val j Next) g' c
def AtA1(j:Nat)(Next:au->St->Prop)(g:au)(s:St):Prop:=g.status=.running/\∀ c,(Cx.lead P ty Y.Wg).rely s c->∀ v:Nat,v<2147483647->WgAt ty Y.Wg c.w (v*KK) 0 ->
 ∃ g',aK P ab g c.w=.go g' (c.w.setCell (stA Y.Wg) (.int .u64 ((v+1)*KK))) #[rd (stA Y.Wg),wr (stA Y.Wg)]/\(ek (Cx.lead P ty Y.Wg) (Es Y.Wg)) (AtKeS P ty Y N val j Next) g' { c with w:=c.w.setCell (stA Y.Wg) (.int .u64 ((v+1)*KK)) }
def AtKdS(j:Nat)(Next:au->St->Prop)(g:au)(s:St):Prop:=g.status=.running/\∃ g',(∀ w,aK P ab g w=.go g' w #[mk .disable])/\∀ c,(Cx.lead P ty Y.Wg).rely s c->(ek (Cx.lead P ty Y.Wg) (Es Y.Wg)) (AtA1 P ty Y N val j Next) g' c
def Spawns:Nat->au->St->Prop
 |0,g,s=>(ek (Cx.lead P ty Y.Wg) (Es Y.Wg)) (AtKd P ty Y l) g s
 |r+1,g,s=>(ek (Cx.lead P ty Y.Wg) (Es Y.Wg)) (AtKdS P ty Y N val (n-(r+1)) (Spawns r)) g s
def Rk.lift:Rk->Rk
 |.leaf=>.node λ_=>.leaf
 |.node f=>.node λs=>Rk.lift (f s)
omit [Payload] in
def Rk.FG:∀ {x r:Rk},Rk.lt x r->Rk.lt x.lift r.lift
 |_,.leaf,h=>h.elim
 |_,.node _,⟨s,h⟩=>⟨s,h.elim (λe=>.inl (by rw[e])) λh=>.inr (Rk.FG h)⟩
omit [Payload] in
def Rk.JL(s:St):∀ r:Rk,∃ x,Rk.lt x r.lift
 |.leaf=>⟨.leaf,s,.inl rfl⟩
 |.node f=>⟨(f s).lift,s,.inl rfl⟩
inductive CS:CTag->Nat->Rk->Nat->au->St->Prop
 |skd {r:Nat} {rk:Rk} {g:au} {s:St}:r<n->(km (Cx.lead P ty Y.Wg) (Es Y.Wg)) (AtKdS P ty Y N val (n-(r+1)) (Spawns P ty Y N val n l r)) rk g s->CS (.sp r 5) (n-(r+1)) rk 0 g s
 |sa1 {r:Nat} {rk:Rk} {g:au} {s:St}:r<n->(km (Cx.lead P ty Y.Wg) (Es Y.Wg)) (AtA1 P ty Y N val (n-(r+1)) (Spawns P ty Y N val n l r)) rk g s->CS (.sp r 4) (n-(r+1)) rk 1 g s
 |ske {r:Nat} {rk:Rk} {g:au} {s:St}:r<n->(km (Cx.lead P ty Y.Wg) (Es Y.Wg)) (AtKeS P ty Y N val (n-(r+1)) (Spawns P ty Y N val n l r)) rk g s->CS (.sp r 3) (n-(r+1)) rk 1 g s
 |sgo {r:Nat} {rk:Rk} {g:au} {s:St}:r<n->(km (Cx.lead P ty Y.Wg) (Es Y.Wg)) (AtGo P ty Y N val (n-(r+1)) (Spawns P ty Y N val n l r)) rk g s->CS (.sp r 2) (n-(r+1)) rk 0 g s
 |kd {rk:Rk} {g:au} {s:St}:(km (Cx.lead P ty Y.Wg) (Es Y.Wg)) (AtKd P ty Y l) rk g s->CS .kd n rk 0 g s
 |w1 {rk:Rk} {g:au} {s:St}:(km (Cx.lead P ty Y.Wg) (Es Y.Wg)) (AtW1 P ty Y T l) rk g s->CS .w1 n rk 1 g s
 |w2 {vs:Nat} {rk:Rk} {g:au} {s:St}:(km (Cx.lead P ty Y.Wg) (Es Y.Wg)) (AtW2 P ty Y T l vs) rk g s->CS (.w2 vs) n rk 1 g s
 |w3 {rk:Rk} {g:au} {s:St}:(km (Cx.lead P ty Y.Wg) (Es Y.Wg)) (AtW3 P ty Y T) rk g s->CS .w3 n rk.lift 1 g s
 |blk {rk:Rk} {g:au} {s:St}:AtW3 P ty Y T g s->CS .blk n rk 1 { g with status:=.blocked } s
 |w4 {rk:Rk} {g:au} {s:St}:(km (Cx.lead P ty Y.Wg) (Es Y.Wg)) (AtW4 P ty Y T) rk g s->CS .w4 n rk 1 g s
 |ke {rk:Rk} {g:au} {s:St}:(km (Cx.lead P ty Y.Wg) (Es Y.Wg)) (AtKe P ty Y T) rk g s->CS .ke n rk 1 g s
 |acq {rk:Rk} {g:au} {s:St}:(km (Cx.lead P ty Y.Wg) (Es Y.Wg)) (AtAcq P ty Y T) rk g s->CS .acq n rk 0 g s
structure Fin (p:Nat->Nat)(o:Nat->Mem)(m:Machine)(t:Trace):Prop where
 out:∃ (gs:Array au) (w:az) (sl:Option (Nat×Nat)) (a:au) (s:St) (q:Nat->Nat),m=crowd gs w sl/\gs[0]?=aa a/\gs.size=Y.base+n/\T a { s with w:=w }/\cg s { s with w:=w }/\jM Y p o n s /\
  Leavers P t gs q/\Past (lQ λb=>Y.Sh b∨b=Y.Wg) w.heap.size t/\ry t/\PayAt Y.C N w/\(∀ x,x<n->∀ i,i<Y.kc->w.cell? ⟨Y.C,Y.kc*x+i,af⟩=aa (val x i))/\Y.C<w.heap.size/\Y.Wg<w.heap.size/\∀ b,Y.Sh b->b<w.heap.size
abbrev Mu:=Nat×((Nat->Rk)×Rk)
def FH(M:Nat):Mu->Mu->Prop:=Prod.Lex (· < ·) (Prod.Lex (Vec M) Rk.lt)
omit [Payload] in
def QY(M:Nat):WellFounded (FH M):=(Prod.lex Nat.lt_wfRel ⟨_,(Prod.lex ⟨Vec M,JI M⟩ ⟨Rk.lt,⟨Rk.acc⟩⟩).wf⟩).wf
structure sW (μ:Mu)(gs:Array au)(w:az)(t:Trace)(p:Nat->Nat)(o:Nat->Mem)(j:Nat)(D:Nat->WD)(A:Nat->Nat)(K:Nat->Rk)(d0:Nat)(tag:CTag)(rk:Rk)(a:au)(s:St) (st sm:Int):Prop where
 a0:gs[0]?=aa a
 cs:CS P ty Y N val n T l tag j rk d0 a s
 rely:cg s { s with w:=w }
 lead:jM Y p o j s
 ga:Com P ty Y N val p o j gs w t D A K d0
 wg:WgAt ty Y.Wg w st sm
 mode:Go.ConcN.Mode j D tag st sm
 mu:μ=(phi n (Vc j D) tag+Ssum j D+sumTo j A,(K,rk))
def Inv(k:Mu)(m:Machine)(t:Trace):Prop :=
 ∃ (b:Array au) (w:az) (sl:Option (Nat×Nat)) (p:Nat->Nat) (o:Nat->Mem) (j:Nat) (D:Nat->WD) (A:Nat->Nat) (K:Nat->Rk) (i:Nat) (tag:CTag) (rk:Rk) (a:au) (s:St) (st sm:Int),
  m=crowd b w sl/\sW P ty Y N val n T l k b w t p o j D A K i tag rk a s st sm
end
section
variable {P:aq}{ty:ar}{Y:Lay}{N:Nat}{val:Nat->Nat->ak}{n:Nat}{T l:au->St->Prop}{p hm':Nat->Nat}{o:Nat->Mem}{j:Nat}{tag:CTag}{rk:Rk}{d:Nat}{a:au}{s:St}{w w':az}
omit [Payload] in
def fM{s:St}(h:cg s { s with w:=w })(B:WgLive ty Y.Wg w):(Cx.lead P ty Y.Wg).rely s { s with w:=w }:=⟨h,λ_=>B⟩
omit [Payload] in
def AtW3.rely{g:au}{c:St}(h:AtW3 P ty Y T g s)(z:(Cx.lead P ty Y.Wg).rely s c):AtW3 P ty Y T g c :=
 ⟨h.1,h.2.1,λs2 u=>h.2.2 s2 ⟨z.1.trans u.1,λx=>u.2 (z.2 x)⟩⟩
def CS.status(h:CS P ty Y N val n T l tag j rk d a s):(a.status=.running/\tag≠.blk)∨(a.status=.blocked/\tag=.blk):=by
 cases h with
 |skd _ h=>exact .inl ⟨h.run λ_ _ x=>x.1,by simp⟩
 |sa1 _ h=>exact .inl ⟨h.run λ_ _ x=>x.1,by simp⟩
 |ske _ h=>exact .inl ⟨h.run λ_ _ x=>x.1,by simp⟩
 |sgo _ h=>exact .inl ⟨h.run λ_ _ x=>x.1,by simp⟩
 |kd h=>exact .inl ⟨h.run λ_ _ x=>x.1,by simp⟩
 |w1 h=>exact .inl ⟨h.run λ_ _ x=>x.1,by simp⟩
 |w2 h=>exact .inl ⟨h.run λ_ _ x=>x.1,by simp⟩
 |w3 h=>exact .inl ⟨h.run λ_ _ x=>x.1,by simp⟩
 |blk h=>grind
 |w4 h=>exact .inl ⟨h.run λ_ _ x=>x.1,by simp⟩
 |ke h=>exact .inl ⟨h.run λ_ _ x=>x.1,by simp⟩
 |acq h=>exact .inl ⟨h.run λ_ _ x=>x.1,by simp⟩
def CS.wokenBy(h:CS P ty Y N val n T l tag j rk d a s)(g g':au)(w':az) :
  ∃ tag' rk',CS P ty Y N val n T l tag' j rk' d (woken P g g' w' a) s/\(tag'=tag∨(tag=.blk/\tag'=.w3))/\(mayWake P g=ab->g'.status=.running->tag'≠.blk):=by
 unfold Go.Conc.woken;split
 .rcases h.status with⟨i,b⟩|⟨_,rfl⟩
  .grind [again_running]
  .cases h with
   |blk hb=>exact⟨.w3,Rk.lift .leaf,by rw[again_blocked hb.1 hb.2.1];exact .w3 (show km _ _ _ .leaf _ _ from hb),.inr ⟨rfl,rfl⟩,λ_ _=>by simp⟩
 grind
def kL{μ:Mu}{gs:Array au}{sl:Option (Nat×Nat)}{t:Trace}{D:Nat->WD}{A:Nat->Nat}{K:Nat->Rk}{st sm:Int}(I:sW P ty Y N val n T l μ gs w t p o j D A K d tag rk a s st sm)
  {x:Nat} (W:x<j) {g g':au} {es:Array Event} {a' s' d':Nat} {r':Rk} {F G:Int} (hg:gs[Y.base+x]?=aa g) (hgo:aK P ae g w=.go g' w' es)
  (hh:∀ b,b<w.heap.size->hm' b=p b) (Dv:w.heap.size<=w'.heap.size) (V:∀ y,y<j->y≠x->GV Y p (o y) y w w') (J:DU Y p w w')
  (hws:WS P ty Y N val hm' o x a' s' r' d' g' w') (S:∀ e∈es,(aM e).low w'.heap.size) (TX:∀ e∈es,∀ a,(aM e).touch?=aa a->a.loc.isMemory=ab->qk Y hm' (o x) x a)
  (TY:∀ e∈es,∀ a,e.loc≠.mark (.release a)) (E:deafBehind (D x).deaf es=d')
  (L:s'<=6->∃ r,RelBy (stA Y.Wg) (t++MemOp.ofEvents (Y.base+x) g.frame.fn g.frame.place es) (Y.base+x) r)
  (h1:a'=0->∀ i,1<=i->i<Y.kc->w'.cell? ⟨Y.C,Y.kc*x+i,af⟩=aa (val x i)) (h0:s'<=6->Has Y.C (Y.kc*x) (val x 0) w') (R:PayAt Y.C N w') (Q:WgAt ty Y.Wg w' F G)
  (H:∀ tag',(tag'=tag∨(tag=.blk/\tag'=.w3))->(mayWake P g=ab->g'.status=.running->tag'≠.blk)->Go.ConcN.Mode j (upd D x ⟨s',0,d'⟩) tag' F G)
  (Z:(s'+a'<(D x).stage+A x/\cnt ⟨s',0,d'⟩<=cnt (D x))∨(s'=(D x).stage/\a'=A x/\Rk.lt r' (K (Y.base+x)))) (hjn:Y.base+j<=Y.base+n) :
  ∃ q ops μ',runT P (crowd gs w sl) (Y.base+x)=(.next q,ops)/\FH (Y.base+n) μ' μ/\Inv P ty Y N val n T l μ' q (t++ops):=by
 have hb:=I.ga.tl.base;obtain⟨tag',rk',U,m,X⟩:=I.cs.wokenBy g g' w';have Wu:(Y.base+x==0)=ae:=by grind
 have O:=runT_crowd_go (P:=P) (sl:=sl) (i:=Y.base+x) hg (by rw[Wu];exact hgo)
 have e1:=Go.ConcN.sumTo_upd D (⟨s',0,d'⟩:WD) cnt W;have e2:=Go.ConcN.sumTo_upd D (⟨s',0,d'⟩:WD) WD.stage W;have e3:sumTo j (upd A x a')+A x=sumTo j A+a':=Go.ConcN.sumTo_upd A a' id W;refine⟨_,_,(phi n (Vc j (upd D x ⟨s',0,d'⟩)) tag'+Ssum j (upd D x ⟨s',0,d'⟩)+sumTo j (upd A x a'),(upd K (Y.base+x) r',rk')),O,?_,
  _,w',sl,hm',o,j,_,_,_,d,tag',rk',woken P g g' w' a,s,F,G,rfl,⟨by rw[Go.ConcN.get_map_set _ _ _ _ (by omega),I.a0];rfl,U,I.lead.JK I.rely J,I.lead.sU I.rely.size hh,
   I.ga.stepW W hh Dv V hws S TX TY E L h1 h0 R ⟨_,_,Q⟩,Q,H tag' m X,rfl⟩⟩
 rw[I.mu,Go.ConcN.phi_retag n _ m];simp only[Vc,Ssum] at *;rcases Z with⟨q1,q2⟩|⟨q1,q2,q3⟩
 .refine Prod.Lex.left _ _ ?_;have:=Go.ConcN.phi_mono n (v':=sumTo j λa=>cnt (upd D x ⟨s',0,d'⟩ a)) (v:=sumTo j λa=>cnt (D a)) (by omega) tag
  omega
 .have ec:cnt (⟨s',0,d'⟩:WD)=cnt (D x):=by simp only[cnt,q1]
  have ev:(sumTo j λa=>cnt (upd D x ⟨s',0,d'⟩ a))=sumTo j λa=>cnt (D a):=by omega
  have es':(sumTo j λa=>(upd D x ⟨s',0,d'⟩ a).stage)=sumTo j λa=>(D a).stage:=by omega
  have ea:sumTo j (upd A x a')=sumTo j A:=by omega
  rw[ev,es',ea];exact Prod.Lex.right _ (Prod.Lex.left _ _ ⟨Y.base+x,by omega,by rw[upd_same];exact q3,λk hk=>upd_ne K _ hk⟩)
end
end
section
open Go.Conc
open Go.ConcN (WD CTag Vc Ssum pend phi cnt WgLive PayAt Has RW DWs WSit RelBy sumTo upd upd_same upd_ne AtR0 isW3 isOpen OpenSt deafBehind_idle bk_cell okW_none Vc_upd Vc_le le_sumTo others_uncounted)
open Go.ConcR (KK WgAt stA smA rd wr mk Payload g_of_ofEvents Bk bk_of_mute ofEvent_loc_mark ofEvent_cell)
variable [Payload]
section
variable {P:aq}{ty:ar}{Y:Lay}{N:Nat}{val:Nat->Nat->ak}{n:Nat}{T G:au->St->Prop}{E hm':Nat->Nat}{O:Nat->Mem}{j:Nat}{tag:CTag}{rk:Rk}{d:Nat}{a:au}{s:St}{w w':az}
omit [Payload] in
def GV.wg(h:Aside Y.Wg w w')(F:E Y.Wg=0)(k:1<=Y.base)(hM:∀ b o v,O j b o=aa v->b≠Y.Wg)(hC:Y.C≠Y.Wg):GV Y E (O j) j w w' :=
 ⟨by rw[h.size];grind,λb _ oG=>h.block b (λe=>by grind),λb o v H S=>by rw[jN (h.block b (hM b o v H))];exact S,λo _ _=>jN (h.block _ hC) o,h.os,h.tape,h.output⟩
omit [Payload] in
def DU.wg(h:Aside Y.Wg w w'):DU Y E w w':=⟨by rw[h.size];grind,λb _ _ _ z=>h.block b z,h.os,h.tape,h.output⟩
omit [Payload] in
def DU.refl(w:az):DU Y E w w:=⟨bg _,λ_ _ _ _ _=>rfl,rfl,rfl,rfl⟩
omit [Payload] in
def JM{B:Nat}{es:Array Event}(h:∀ e∈es,Bk Y.Wg e)(F:Y.Wg<B):∀ e∈es,(aM e).low B:=by
 intro e c;rcases h e c with p|p|⟨ad,wr,rfl,J⟩
 .rw[ofEvent_loc_mark p];trivial
 .rw[ofEvent_loc_mark p];trivial
 .rw[ofEvent_cell];show ad.block<B;grind
omit [Payload] in
def NG{x:Nat}{es:Array Event}(h:∀ e∈es,Bk Y.Wg e):∀ e∈es,∀ a,(aM e).touch?=aa a->a.loc.isMemory=ab->qk Y E (O x) x a:=by
 intro e c b k _;rcases h e c with p|p|⟨ad,wr,rfl,J⟩
 .rw[ofEvent_loc_mark p] at k;cases k
 .rw[ofEvent_loc_mark p] at k;cases k
 .rw[ofEvent_cell] at k;simp only[MemAct.touch?,de] at k;subst k;exact .inl ⟨ad,rfl,J,rfl⟩
omit [Payload] in
def BI{es:Array Event}(h:∀ e∈es,Bk Y.Wg e):∀ e∈es,∀ a,e.loc≠.mark (.release a):=by
 intro e c a X;rcases h e c with p|p|⟨ad,wr,rfl,_⟩
 .grind
 .grind
 grind
omit [Payload] in
def NH{x:Nat}{σ σ':List aV}{s2:St}{es:Array Event}(U:lU E (O x) (Y.base+x) s)(V:aJ σ s)(R:eX s es)(st:Step σ s σ' s2) :
  (∀ e∈es,(aM e).low s2.w.heap.size)/\(∀ e∈es,∀ a,(aM e).touch?=aa a->a.loc.isMemory=ab->qk Y (na E s.w.heap.size (Y.base+x)) (O x) x a) /\
  (∀ e∈es,e.loc≠.mark .disable/\e.loc≠.mark .enable)/\∀ e∈es,∀ a,e.loc≠.mark (.release a):=by
 have key:∀ e∈es,(aM e).low s2.w.heap.size/\(∀ a,(aM e).touch?=aa a->a.loc.isMemory=ab->qk Y (na E s.w.heap.size (Y.base+x)) (O x) x a)/\(e.loc≠.mark .disable/\e.loc≠.mark .enable)/\∀ a,e.loc≠.mark (.release a):=by
  intro e c;have h:=R e c;obtain⟨loc,wr,sy⟩:=e;cases loc with
  |cell ad =>
   obtain⟨p,z,l⟩:=h;simp only at p z l;subst p;have u:ad.block<s.w.heap.size:=by
    rcases l with l|⟨⟨L,Q,l⟩,_⟩|⟨_,v,l⟩
    .exact l.elim
    .exact V.lt L Q _ l
    .exact gx.lt V.mem l
   refine⟨by rw[ofEvent_cell];exact cE u st.size,λb k _=>?_,⟨by simp,by simp⟩,by simp⟩
   rw[ofEvent_cell] at k;simp only[MemAct.touch?,de] at k;subst k;refine .inr ⟨rfl,?_⟩;rcases l with l|⟨⟨L,Q,l⟩,_⟩|⟨Z,v,l⟩
   .exact l.elim
   .exact .inl ⟨ad.block,rfl,by rw[eR u];exact(U.blk _ (.inr ⟨L,Q,l⟩)).1⟩
   .rcases(U.M _ _ _ l).1 with W|W
    .exact .inl ⟨ad.block,rfl,by grind [eR]⟩
    .refine .inr (.inr ⟨Z,ad.block,ad.off,v,?_,W⟩);obtain⟨b,o,sp⟩:=ad
     grind
  |obj r =>
   obtain⟨p,z⟩:=h;simp only at p z;subst p;obtain⟨L,Q,l⟩:=z.resolve_left id;have u:=V.lt L Q _ l;refine⟨?_,λb k _=>?_,⟨by simp,by simp⟩,by simp⟩
   .simp[aM,MemAct.low,Loc.low];exact cE u st.size
   .simp[aM,MemAct.touch?] at k;subst k;exact .inr ⟨rfl,.inl ⟨r,rfl,by rw[eR u];exact(U.blk _ (.inr ⟨L,Q,l⟩)).1⟩⟩
  |mark m =>
   simp only[ov] at h;rcases h with rfl|⟨f,rfl⟩
   .exact⟨by simp[aM,MemAct.low],λb k=>by simp[aM,MemAct.touch?] at k,⟨by simp,by simp⟩,by simp⟩
   .exact⟨by simp[aM,MemAct.low],λb k=>by simp[aM,MemAct.touch?] at k,⟨by simp,by simp⟩,by simp⟩
  |_=>exact h.elim
 grind
def stepWorker{μ:Mu}{gs:Array au}{sl:Option (Nat×Nat)}{t:Trace}{D:Nat->WD}{A:Nat->Nat}{K:Nat->Rk}{st sm:Int}(I:sW P ty Y N val n T G μ gs w t E O j D A K d tag rk a s st sm)(hn:n<2147483648)(hj:j<=n)
  (hpd:j+pend tag<=n) {x:Nat} (hx:x<j) {g:au} (hg:gs[Y.base+x]?=aa g) (vt:g.status=.running) :
  ∃ m₁ ops μ',runT P (crowd gs w sl) (Y.base+x)=(.next m₁,ops)/\FH (Y.base+n) μ' μ/\Inv P ty Y N val n T G μ' m₁ (t++ops):=by
 have JN:=I.ga.tl.base;obtain⟨g₁,ZK,hs⟩:=I.ga.wk x hx;obtain rfl:g=g₁:=by grind
 generalize IT:(D x).stage=sg at hs;generalize ZL:K (Y.base+x)=r at hs;generalize TZ:(D x).deaf=dd at hs;generalize hA:A x=ax at hs;have ZM:Deaf t (Y.base+x)=dd:=by rw[I.ga.deafW x hx,TZ]
 have hVj:=Vc_le j D;have same:∀ m' FI,Go.ConcN.Mode j (upd D x ⟨sg,m',FI⟩) tag st sm:=λm' FI=>by have:=I.mode.same (i:=x) m' FI;grind
 cases hs with
 |@am r g s0 w p z l =>
  rcases p.norm (λs0=>cg s0 { s0 with w:=w }/\lU E (O x) (Y.base+x) s0) (λs0 s' T1 hi=>⟨hi.1.ghost T1,hi.2.ghost T1⟩) (λ_ s0 s' T1 hi=>⟨hi.1.forget T1,hi.2.forget T1⟩) ⟨z,l⟩ with⟨s',⟨k1,k2⟩,lV⟩|⟨_,s',⟨k1,k2⟩,lW⟩
  ·
   obtain⟨g',w2,es,hgo,F,Xd,m,hk⟩:=lV.2 w k1 I.ga.pay I.ga.live;have ZN:=I.ga.kc;refine kL I hx hg hgo (hm':=E) (λ_ _=>rfl) (by rw[F.size];grind) (λy hy ZO=>⟨by rw[F.size];grind,λb _ k=>F.block b (λe=>by rw[e,I.ga.tl.hC] at k;omega),λb o v H S=>?_,λo ZP ZQ=>F.out o ?_,F.os,F.tape,F.output⟩)
    ⟨by rw[F.size];grind,λb _ _ z _=>F.block b z,F.os,F.tape,F.output⟩ (.rel hk) (λe c=>?_) (λe c b k _=>?_) (λe c=>?_) ?_ (λh=>absurd h (by decide)) (λ_ i _ hi=>F.new i hi) (λh=>absurd h (by decide)) F.pay
    (I.wg.of_block (F.block _ (mf I.ga.tl.ne))) (λ_ ht _=>(same _ _).retag ht) (.inl ⟨by omega,by simp[cnt,IT]⟩) (by omega)
   .rw[jN (F.block b (I.ga.tl.ms y hy b o v H).2.1)];exact S
   .rcases Nat.lt_or_gt_of_ne ZO with h|h
    .have:=uO Y.kc (show y+1<=x from h)
     grind
    .have:=uO Y.kc (show x+1<=y from h)
     grind
   .obtain⟨o,rfl,_⟩:=Xd e c;rw[ofEvent_cell];show Y.C<_;rw[F.size];exact I.ga.Dj
   .obtain⟨o,rfl,ZP,ZQ⟩:=Xd e c;rw[ofEvent_cell] at k;simp only[MemAct.touch?,de] at k;subst k;exact .inr ⟨rfl,.inr (.inl ⟨o,rfl,ZP,ZQ⟩)⟩
   .grind
   .rw[TZ];exact deafBehind_idle (λe c=>by grind) 0
  ·
   obtain⟨g',s2,es,r',hgo,Xe,Ps,u⟩:=lW _ k1;obtain⟨⟨σ,σ',V,k9,IU⟩,R⟩:=Xe.resolve_right id;have k3:lU E (O x) (Y.base+x) { s' with w:=w }:=k2.rely k1.size;obtain⟨e1,e2,e3,e4⟩:=NH k3 V R IU;have vW:∀ b,b<w.heap.size->E b≠Y.base+x->s2.w.heap[b]?=w.heap[b]?:=λb k Bh=>IU.eL b k λL Q Qp=>Bh (k3.blk b (.inr ⟨L,Q,Qp⟩)).1
   refine kL I hx hg hgo (hm':=na E w.heap.size (Y.base+x)) (λb k=>eR k) IU.size (λy hy ZO=>⟨IU.size,λb k hby=>vW b k (by omega),λb o v H S=>?_,λo _ _=>jN (vW _ I.ga.Dj (by rw[I.ga.tl.hC];omega)) o,IU.os,IU.tape,IU.output⟩)
    ⟨IU.size,λb k h0 _ _=>vW b k (by omega),IU.os,IU.tape,IU.output⟩ (.am Ps (cg.vV k9.mem) (k3.step k9 IU)) e1 e2 e4 (by rw[TZ];exact deafBehind_idle e3 0) (λh=>absurd h (by decide)) (λh=>absurd h (by decide)) (λh=>absurd h (by decide)) ?_
    (I.wg.of_block (vW _ I.ga.Bd (by rw[I.ga.tl.IQ];omega))) (λ_ ht _=>(same _ _).retag ht) (.inr ⟨IT.symm,hA.symm,by grind⟩) (by omega)
   .rw[jN (vW b (I.ga.NF y hy b o v H) (by rw[(I.ga.tl.ms y hy b o v H).1];omega))];exact S
   .obtain⟨cs,c1,c2⟩:=I.ga.pay;exact⟨cs,(vW _ I.ga.Dj (by rw[I.ga.tl.hC];omega)).trans c1,c2⟩
 |@rel m g w h =>
  rcases Goes.cases h with lV|⟨m',rfl,lW⟩
  ·
   obtain⟨_,acd,g',hgo,m₂,hk⟩:=lV w (Go.ConcN.RW.refl w);refine kL I hx hg hgo (hm':=E) (λ_ _=>rfl) (bg _) (λy _ _=>.refl ..) (.refl w) (.tail (by decide) (.k1 hk)) (λe c=>?_) (λe c b k _=>?_) (λe c=>?_) (by rw[TZ];rfl) (λ_=>⟨t.size,RelBy.new ZM _ _⟩) (λ_=>I.ga.xI x hx hA) (λ_=>by grind) I.ga.pay I.wg
    (λ_ ht _=>(I.mode.counted hx (by omega) (.inl rfl) _ _).retag ht) (.inl ⟨by omega,by simp[cnt,IT]⟩) (by omega)
   .simp at c;subst c;exact I.ga.Bd
   .simp at c;subst c;simp[mk,aM,MemAct.touch?] at k
   .simp at c;subst c;simp[mk]
  .obtain⟨g',w',es,hgo,⟨rfl,rfl⟩,FJ⟩:=lW w (Go.ConcN.RW.refl w);exact kL I hx hg hgo (hm':=E) (λ_ _=>rfl) (bg _) (λy _ _=>.refl ..) (.refl w') (.rel FJ) (by simp) (by simp) (by simp) (by rw[TZ];rfl) (λh=>absurd h (by decide)) (λ_=>I.ga.xI x hx hA) (λh=>absurd h (by decide)) I.ga.pay I.wg (λ_ ht _=>(same _ _).retag ht)
    (.inr ⟨IT.symm,hA.symm,by rw[ZL];exact Rk.DT _ s⟩) (by omega)
 |@tail sg m dd g w h6 h =>
  have PG:∀ {g':au} {w':az} {es:Array Event} {s' m' FI:Nat} {qh GW:Int},aK P ae g w=.go g' w' es->Aside Y.Wg w w'->WgAt ty Y.Wg w' qh GW->(∀ e∈es,Bk Y.Wg e) ->
    (∀ jx e,es[jx]?=aa e->(aM e).touch?=af∨0<deafBehind dd (es.extract 0 jx))->s'<=6->WSit P ty Y.Wg Y.C N PE PE 0 (Y.kc*x+1) (val x 0) s' m' FI g' w'->deafBehind dd es=FI ->
    (∀ tag',(tag'=tag∨(tag=.blk/\tag'=.w3))->(mayWake P g=ab->g'.status=.running->tag'≠.blk)->Go.ConcN.Mode j (upd D x ⟨s',0,FI⟩) tag' qh GW)->((s'<sg/\cnt ⟨s',0,FI⟩<=cnt (D x))∨(s'=sg/\m'+1=m)) ->
    ∃ m₁ ops μ',runT P (crowd gs w sl) (Y.base+x)=(.next m₁,ops)/\FH (Y.base+n) μ' μ/\Inv P ty Y N val n T G μ' m₁ (t++ops):=by
   intro g' w' es s' m' FI qh GW hgo NI JO GX hd Xf T2 ZR vX u;obtain⟨cs,Xg,Xh⟩:=I.ga.pay;refine kL I hx hg hgo (hm':=E) (λ_ _=>rfl) (by rw[NI.size];grind) (λy hy _=>.wg NI I.ga.tl.IQ JN (λb o v H=>(I.ga.tl.ms y hy b o v H).2.2.1) I.ga.tl.ne) (.wg NI) (.tail Xf T2) (JM GX (by rw[NI.size];exact I.ga.Bd)) (NG GX) (BI GX) (by grind)
    (λ_=>let ⟨r,hr⟩:=I.ga.rel x hx (by omega);⟨r,hr.book ZM _ _ GX hd⟩) (λ_ i hi1 Fe=>(jN (NI.block _ I.ga.tl.ne) _).trans (I.ga.xI x hx hA i hi1 Fe)) (λ_=>(jN (NI.block _ I.ga.tl.ne) _).trans (I.ga.BH x hx (by omega))) ⟨cs,(NI.block _ I.ga.tl.ne).trans Xg,Xh⟩ JO vX
    (u.imp (λh=>⟨by omega,h.2⟩) λh=>⟨by omega,hA.symm,by rw[ZL,<-h.2];exact Rk.DT _ s⟩) (by omega)
  have book:∀ {g':au} {w':az} {es:Array Event} {s' m' FI:Nat} {qh GW:Int},aK P ae g w=.go g' w' es->Aside Y.Wg w w'->WgAt ty Y.Wg w' qh GW->(∀ e∈es,Bk Y.Wg e) ->
    (∀ jx e,es[jx]?=aa e->(aM e).touch?=af∨0<deafBehind dd (es.extract 0 jx))->s'<=6->WSit P ty Y.Wg Y.C N PE PE 0 (Y.kc*x+1) (val x 0) s' m' FI g' w'->deafBehind dd es=FI ->
    Go.ConcN.Mode j (upd D x ⟨s',0,FI⟩) tag qh GW->((s'<sg/\cnt ⟨s',0,FI⟩<=cnt (D x))∨(s'=sg/\m'+1=m)) ->
    ∃ m₁ ops μ',runT P (crowd gs w sl) (Y.base+x)=(.next m₁,ops)/\FH (Y.base+n) μ' μ/\Inv P ty Y N val n T G μ' m₁ (t++ops) :=
   λhgo NI JO GX hd Xf T2 ZR vX u=>PG hgo NI JO GX hd Xf T2 ZR (λ_ ht _=>vX.retag ht) u
  have idle:∀ {g':au} {m':Nat},aK P ae g w=.go g' w #[]->WSit P ty Y.Wg Y.C N PE PE 0 (Y.kc*x+1) (val x 0) sg m' dd g' w->m'+1=m ->
    ∃ m₁ ops μ',runT P (crowd gs w sl) (Y.base+x)=(.next m₁,ops)/\FH (Y.base+n) μ' μ/\Inv P ty Y N val n T G μ' m₁ (t++ops):=by
   intro g' m' hgo T2 E;exact book hgo (.refl Y.Wg w) I.wg (by simp) (by simp) h6 T2 rfl (same _ _) (.inr ⟨rfl,E⟩)
  cases h with
  |r0 h=>omega
  |k1 h =>
   rcases Goes.cases h with lV|⟨m',rfl,lW⟩
   .obtain⟨_,g',hgo,m₂,hk⟩:=lV w (Go.ConcN.RW.refl w);exact book hgo (.refl Y.Wg w) I.wg (by intro e c;simp at c;subst c;exact .inl rfl) (by intro jx e c;exact .inl (by have:=uM c;simp at this;subst this;rfl)) (by decide) (.d1 hk) rfl (I.mode.counted hx (by omega) (.inr rfl) _ _) (.inl ⟨by omega,by simp[cnt,IT]⟩)
   .obtain⟨g',w',es,hgo,⟨rfl,rfl⟩,FJ⟩:=lW w (Go.ConcN.RW.refl w);exact idle hgo (.k1 FJ) rfl
  |d1 h =>
   rcases Goes.cases h with lV|⟨m',rfl,lW⟩
   .obtain⟨_,QH⟩:=lV w (Go.ConcN.RW.refl w);have zM:=I.wg;have JP:=I.mode;have VR:cnt (D x)=1:=by simp[cnt,IT]
    have hV1:1<=Vc j D:=by have:=le_sumTo (f:=λx=>cnt (D x)) hx;simp only[Vc];omega
    have bk2:∀ e∈#[rd (stA Y.Wg),wr (stA Y.Wg)],Bk Y.Wg e:=by intro e c;simp at c;rcases c with rfl|rfl <;> exact bk_cell _ _ rfl
    have VZ:∀ jx e,(#[rd (stA Y.Wg),wr (stA Y.Wg)]:Array Event)[jx]?=aa e->(aM e).touch?=af∨0<deafBehind 1 ((#[rd (stA Y.Wg),wr (stA Y.Wg)]:Array Event).extract 0 jx):=by
     intro jx e c
     match jx,c with
     |0,_=>exact .inr (by simp[deafBehind])
     |1,_=>exact .inr (by simp[deafBehind,rd])
     |jx+2,c=>simp at c
    have hq0:∀ q,cnt (⟨1,q,1⟩:WD)=0:=λ_=>rfl
    have dz:∀ q,OpenSt j D->OpenSt j (upd D x ⟨1,q,1⟩):=λq h a J=>by
     by_cases e:a=x
     .subst e;rw[upd_same];simp
     .rw[upd_ne D _ e];exact h a J
    generalize acf:st=Xi at JP zM;generalize acg:sm=sm0 at JP zM;cases JP with
    |opn p z l =>
     obtain⟨v,H⟩:∃ v,Vc j D+pend tag=v+1:=⟨Vc j D+pend tag-1,by omega⟩
     rw[H] at zM;have QA:WgAt ty Y.Wg w (((v:Nat)+1)*KK+((0:Nat):Int)) 0:=by grind
     obtain⟨g',hgo,_,hq⟩:=QH v 0 (by omega) (by omega) QA
     obtain⟨q,hq⟩:=hq (by omega)
     have VI:Vc j (upd D x ⟨1,0,1⟩)+pend tag=v:=by have:=Vc_upd D (⟨1,0,1⟩:WD) hx;grind
     refine book hgo (aside_setCell w (stA Y.Wg) _) (zM.setSt _) bk2 VZ (by decide) (.quit hq) rfl ?_ (.inl ⟨by omega,by grind⟩)
     have e:((v:Nat):Int)*KK+((0:Nat):Int)=((Vc j (upd D x ⟨1,0,1⟩)+pend tag:Nat):Int)*KK:=by grind
     rw[e];exact .opn p (dz 0 z) (λvs ev=>by grind)
    |reg p z l =>
     obtain⟨v,H⟩:∃ v,Vc j D=v+1:=⟨Vc j D-1,by omega⟩
     rw[H] at zM;have hp:pend tag=0:=by cases tag <;> first|rfl|exact p.elim
     have QA:WgAt ty Y.Wg w (((v:Nat)+1)*KK+((1:Nat):Int)) 0:=by grind
     obtain⟨g',hgo,X,hq⟩:=QH v 1 (by omega) (by omega) QA
     by_cases Pp:v=0
     .subst Pp;obtain⟨m₂,hk⟩:=X ⟨rfl,rfl⟩;refine book hgo (aside_setCell w (stA Y.Wg) _) (zM.setSt _) bk2 VZ (by decide) (.d2 hk) rfl ?_ (.inl ⟨by omega,by simp[cnt]⟩)
      have DC:∀ a,a<j->a≠x->(D a).stage=1:=λa J e=>by
       have c0:=others_uncounted hx H VR a J e;have:=z a J;simp only[cnt] at c0;split at c0 <;> omega
      have:=Go.ConcN.Mode.last (j:=j) (D:=upd D x ⟨4,0,1⟩) (tag:=tag) x p hx (by rw[upd_same];simp) (λa J e=>by rw[upd_ne D _ e];grind)
      rw[upd_same] at this
      grind
     .obtain⟨q,hq⟩:=hq (by omega)
      have VI:Vc j (upd D x ⟨1,0,1⟩)=v:=by have:=Vc_upd D (⟨1,0,1⟩:WD) hx;grind
      refine book hgo (aside_setCell w (stA Y.Wg) _) (zM.setSt _) bk2 VZ (by decide) (.quit hq) rfl ?_ (.inl ⟨by omega,by grind⟩)
      have e:((v:Nat):Int)*KK+((1:Nat):Int)=((Vc j (upd D x ⟨1,0,1⟩):Nat):Int)*KK+1:=by grind
      rw[e];exact .reg p (dz 0 z) (by omega)
    |last L _ z l Z =>
     grind
    |sema z=>have:=z x hx;omega
    |fin _ z=>have:=z x hx;omega
   .obtain⟨g',w',es,hgo,⟨rfl,rfl⟩,FJ⟩:=lW w (Go.ConcN.RW.refl w);exact idle hgo (.d1 FJ) rfl
  |d2 h =>
   rcases Goes.cases h with lV|⟨m',rfl,lW⟩
   .obtain⟨_,QZ⟩:=lV w (Go.ConcN.RW.refl w);obtain⟨T3,DC,e1,e2⟩:=I.mode.isLast hx (by omega)
    have zM:=I.wg;rw[e1,e2,IT] at zM;obtain⟨g',hgo,m₂,hk⟩:=QZ (by grind)
    refine book hgo (.refl Y.Wg w) zM (by intro e c;simp at c;subst c;exact bk_cell _ _ rfl) (by intro jx e c;match jx,c with|0,_=>exact .inr (by simp[deafBehind])|jx+1,c=>grind) (by decide) (.d3 hk) rfl ?_ (.inl ⟨by omega,by simp[cnt]⟩)
    have:=Go.ConcN.Mode.last (j:=j) (D:=upd D x ⟨3,0,1⟩) (tag:=tag) x T3 hx (by rw[upd_same];simp) (λa J e=>by rw[upd_ne D _ e];grind)
    rw[upd_same] at this
    grind
   .obtain⟨g',w',es,hgo,⟨rfl,rfl⟩,FJ⟩:=lW w (Go.ConcN.RW.refl w);exact idle hgo (.d2 FJ) rfl
  |d3 h =>
   rcases Goes.cases h with lV|⟨m',rfl,lW⟩
   .obtain⟨_,QZ⟩:=lV w (Go.ConcN.RW.refl w);obtain⟨T3,DC,e1,e2⟩:=I.mode.isLast hx (by omega)
    have zM:=I.wg;rw[e1,e2,IT] at zM;obtain⟨g',hgo,m₂,hk⟩:=QZ (by grind)
    refine book hgo (aside_setCell w (stA Y.Wg) _) (zM.setSt 0) (by intro e c;simp at c;subst c;exact bk_cell _ _ rfl) (by intro jx e c;match jx,c with|0,_=>exact .inr (by simp[deafBehind])|jx+1,c=>grind) (by decide) (.d4 hk) rfl ?_ (.inl ⟨by omega,by simp[cnt]⟩)
    have:=Go.ConcN.Mode.last (j:=j) (D:=upd D x ⟨2,0,1⟩) (tag:=tag) x T3 hx (by rw[upd_same];simp) (λa J e=>by rw[upd_ne D _ e];grind)
    rw[upd_same] at this
    grind
   .obtain⟨g',w',es,hgo,⟨rfl,rfl⟩,FJ⟩:=lW w (Go.ConcN.RW.refl w);exact idle hgo (.d3 FJ) rfl
  |d4 h =>
   rcases Goes.cases h with lV|⟨m',rfl,lW⟩
   .obtain⟨_,hmw,QZ⟩:=lV w (Go.ConcN.RW.refl w);obtain⟨T3,DC,e1,e2⟩:=I.mode.isLast hx (by omega)
    have zM:=I.wg;rw[e1,e2,IT] at zM;obtain⟨g',hgo,q,hq⟩:=QZ (by grind)
    have vY:g'.status=.running:=by
     cases q with
     |zero=>exact absurd hq.2 (by decide)
     |succ q=>exact hq.elim (λx=>absurd x.2 (by decide)) (λx=>x.1)
    refine PG hgo (aside_setCell w (smA Y.Wg) _) (zM.setSm 1) (es:=semEvents (smA Y.Wg)) ?_ ?_ (by decide) (.quit hq) (by simp[deafBehind,semEvents]) ?_ (.inl ⟨by omega,by simp[cnt]⟩)
    .intro e c;simp[semEvents] at c;rcases c with rfl|rfl|rfl|rfl
     .exact .inl rfl
     .exact bk_cell _ _ rfl
     .exact bk_cell _ _ rfl
     .exact .inr (.inl rfl)
    .intro jx e c
     match jx,c with
     |0,c=>simp[semEvents] at c;subst c;exact .inl rfl
     |1,_=>exact .inr (by simp[deafBehind,semEvents])
     |2,_=>exact .inr (by simp[deafBehind,semEvents])
     |3,c=>simp[semEvents] at c;subst c;exact .inl rfl
     |jx+4,c=>simp[semEvents] at c
    .intro tag' ht U;have hnb:=U hmw vY;have e3:tag'=.w3:=by
      rcases ht with rfl|⟨_,rfl⟩
      .cases tag' <;> first|rfl|exact T3.elim|grind
      .rfl
     subst e3;simp only[cq];exact .sema λa J=>by
      by_cases e:a=x
      .subst e;rw[upd_same]
      .rw[upd_ne D _ e];grind
   .obtain⟨g',w',es,hgo,⟨rfl,rfl⟩,FJ⟩:=lW w (Go.ConcN.RW.refl w);exact idle hgo (.d4 FJ) rfl
  |quit h =>
   cases m with
   |zero=>rw[h.1] at vt;cases vt
   |succ q =>
    rcases h with⟨hf,_⟩|⟨_,g',es,PH,lW,hq⟩
    .grind
    .have GX:∀ e∈es,Bk Y.Wg e:=λe c=>bk_of_mute (PH e c)
     have ZH:∀ jx e,es[jx]?=aa e->(aM e).touch?=af∨0<deafBehind dd (es.extract 0 jx):=λjx e c=>.inl (touch_mute (PH e (uM c)))
     exact book (lW w) (.refl Y.Wg w) I.wg GX ZH (by decide) (.quit hq) rfl (same _ _) (.inr ⟨rfl,rfl⟩)
end
end
section
open Go.Conc
open Go.ConcN (WD CTag Vc Ssum pend phi cnt WgLive PayAt Has RW DWs WSit RelBy sumTo upd upd_same upd_ne AtR0 isW3 isOpen OpenSt deafBehind_idle bk_cell okW_none Vc_upd Vc_le le_sumTo others_uncounted sumTo_upd_out bk_dis bk_en bk_rd bk_rw bk_sem allQuit_of exists_counted)
open Go.ConcR (KK WgAt stA smA rd wr mk Payload g_of_ofEvents Bk bk_of_mute ofEvent_loc_mark ofEvent_cell ofEvent_mk)
variable [Payload]
section
variable {P:aq}{ty:ar}{Y:Lay}{N:Nat}{val:Nat->Nat->ak}{n:Nat}{T k:au->St->Prop}{l hm':Nat->Nat}{z G:Nat->Mem}{j:Nat}{tag:CTag}{rk:Rk}{d:Nat}{a:au}{s:St}{w w':az}
 {S:Mu} {O:Array au} {sl:Option (Nat×Nat)} {t:Trace} {D:Nat->WD} {A:Nat->Nat} {K:Nat->Rk} {st sm:Int}
omit [Payload] in
def TL.congr{B:Nat}(h:TL Y l z t j B)(e:∀ y,y<j->G y=z y):TL Y l G t j B :=
 ⟨h.base,h.IQ,h.hC,h.ne,h.PD,h.QW,h.IS,λx H=>by rw[e x H];exact h.ms x H,h.T0,h.nr,h.seen,h.old,h.QX,h.GU,λi a hi W l=>(h.new i a hi W l).imp id λ⟨x,H,u,F⟩=>⟨x,H,u,by grind⟩,
  λx H=>by rw[e x H];exact h.mw x H,h.over⟩
def WS.congr{x a st d:Nat}{r:Rk}{g:au}(h:WS P ty Y N val l z x a st r d g w)(e:G x=z x):WS P ty Y N val l G x a st r d g w:=by
 cases h with
 |am u F J=>exact .am u F (by grind)
 |rel u=>exact .rel u
 |tail h0 u=>exact .tail h0 u
def Com.congr{q:Nat}(h:Com P ty Y N val l z j O w t D A K q)(e:∀ y,y<j->G y=z y):Com P ty Y N val l G j O w t D A K q :=
 ⟨h.size,h.lv,h.above,λx H=>let ⟨g,u,F⟩:=h.wk x H;⟨g,u,F.congr (e x H)⟩,h.tl.congr e,h.norel,h.deaf0,h.deafW,h.rel,h.xI,h.BH,h.pay,h.live,h.Bd,h.Dj,h.MU,h.kc,λy I=>by rw[e y I];exact h.NF y I⟩
omit [Payload] in
def NJ{σ σ':List aV}{s2:St}{es:Array Event}(X:jM Y l z j s)(Z:aJ σ s)(Q:eX s es)(st:Step σ s σ' s2) :
  (∀ e∈es,(aM e).low s2.w.heap.size)/\(∀ e∈es,∀ a,(aM e).touch?=aa a->a.loc.isMemory=ab->rW Y (na l s.w.heap.size 0) a) /\
  (∀ e∈es,∀ a,(aM e).touch?=aa a->a.kind=.plain->a.write=ab->∀ x,x<j->∀ b o v,a.loc=.cell ⟨b,o,af⟩->z x b o≠aa v) /\
  (∀ e∈es,e.loc≠.mark .disable/\e.loc≠.mark .enable)/\∀ e∈es,∀ a,e.loc≠.mark (.release a):=by
 have key:∀ e∈es,(aM e).low s2.w.heap.size/\(∀ a,(aM e).touch?=aa a->a.loc.isMemory=ab->rW Y (na l s.w.heap.size 0) a) /\
   (∀ a,(aM e).touch?=aa a->a.kind=.plain->a.write=ab->∀ x,x<j->∀ b o v,a.loc=.cell ⟨b,o,af⟩->z x b o≠aa v)/\(e.loc≠.mark .disable/\e.loc≠.mark .enable)/\∀ a,e.loc≠.mark (.release a):=by
  intro e E;have h:=Q e E;obtain⟨loc,wr,sy⟩:=e;cases loc with
  |cell ad =>
   obtain⟨u,F,J⟩:=h;simp only at u F J;subst u;have p:ad.block<s.w.heap.size/\l ad.block=0/\ad.block≠Y.C/\ad.block≠Y.Wg/\¬Y.Sh ad.block:=by
    rcases J with J|⟨⟨L,V,J⟩,_⟩|⟨_,v,J⟩
    .exact J.elim
    .obtain⟨k1,k2,R,k4,k5⟩:=X.blk _ (.inr ⟨L,V,J⟩)
     grind
    .obtain⟨k1,k2,R,k4,k5⟩:=X.M _ _ _ J
     grind
   refine⟨by rw[ofEvent_cell];exact cE p.1 st.size,λb c _=>?_,λb c _ hbw x H b' o v hl U=>?_,⟨by simp,by simp⟩,by simp⟩
   .rw[ofEvent_cell] at c;simp only[MemAct.touch?,de] at c;subst c;exact .inr ⟨ad.block,rfl,by grind [eR],p.2.2.2.1,p.2.2.1,p.2.2.2.2,rfl⟩
   .rw[ofEvent_cell] at c;simp only[MemAct.touch?,de] at c;subst c;simp only at hbw hl;have hM:=X.ms x H b' o v U
    grind
  |obj r =>
   obtain⟨u,F⟩:=h;simp only at u F;subst u;obtain⟨L,V,J⟩:=F.resolve_left id;obtain⟨k1,k2,R,k4,k5⟩:=X.blk _ (.inr ⟨L,V,J⟩);refine⟨?_,λb c _=>?_,λb c _ _ x _ b' o v hl=>?_,⟨by simp,by simp⟩,by simp⟩
   .simp[aM,MemAct.low,Loc.low];exact cE k5 st.size
   .simp[aM,MemAct.touch?] at c;subst c;exact .inr ⟨r,rfl,by grind [eR],R,k2,k4,rfl⟩
   .simp[aM,MemAct.touch?] at c
    grind
  |mark m =>
   simp only[ov] at h;rcases h with rfl|⟨f,rfl⟩
   .exact⟨by simp[aM,MemAct.low],λb c=>by simp[aM,MemAct.touch?] at c,λb c=>by simp[aM,MemAct.touch?] at c,⟨by simp,by simp⟩,by simp⟩
   .exact⟨by simp[aM,MemAct.low],λb c=>by simp[aM,MemAct.touch?] at c,λb c=>by simp[aM,MemAct.touch?] at c,⟨by simp,by simp⟩,by simp⟩
  |_=>exact h.elim
 grind
def sX(I:sW P ty Y N val n T k S O w t l z j D A K d tag rk a s st sm){a':au}{es:Array Event}{tag':CTag}{rk':Rk}{qh GW:Int}{s':St}(hgo:aK P ab a w=.go a' w' es)
  (Z:∀ b,b<w.heap.size->hm' b=l b) (Dv:w.heap.size<=w'.heap.size) (Xj:∀ y,y<j->GV Y l (z y) y w w')
  (TV:∀ e∈es,(aM e).low w'.heap.size) (htm:∀ e∈es,∀ a,(aM e).touch?=aa a->a.loc.isMemory=ab->rW Y hm' a)
  (TX:∀ e∈es,∀ a,(aM e).touch?=aa a->a.kind=.plain->a.write=ab->∀ x,x<j->∀ b o v,a.loc=.cell ⟨b,o,af⟩->z x b o≠aa v)
  (TY:∀ e∈es,∀ a,e.loc≠.mark (.release a)) (Q0:PayAt Y.C N w') (zM:WgAt ty Y.Wg w' qh GW)
  (GY:CS P ty Y N val n T k tag' j rk' (deafBehind d es) a' s') (T4:cg s' { s' with w:=w' }) (g:jM Y hm' z j s') (q:Go.ConcN.Mode j D tag' qh GW)
  (p:phi n (Vc j D) tag'<phi n (Vc j D) tag∨(phi n (Vc j D) tag'=phi n (Vc j D) tag/\Rk.lt rk' rk)) :
  ∃ m₁ ops μ',runT P (crowd O w sl) 0=(.next m₁,ops)/\FH (Y.base+n) μ' S/\Inv P ty Y N val n T k μ' m₁ (t++ops):=by
 have c:=I.ga.tl.base;have vt:=runT_crowd_go (P:=P) (sl:=sl) (i:=0) I.a0 (by simpa using hgo)
 refine⟨_,_,(phi n (Vc j D) tag'+Ssum j D+sumTo j A,(K,rk')),vt,?_,_,w',sl,hm',z,j,D,A,K,deafBehind d es,tag',rk',a',s',qh,GW,rfl,
  ⟨Go.ConcN.get_map_set_same _ _ _ (by rw[I.ga.size];omega),GY,T4,g,I.ga.step0 Z Dv Xj TV htm TX TY Q0 ⟨_,_,zM⟩,zM,q,rfl⟩⟩
 rw[I.mu];rcases p with h|⟨u,F⟩
 .exact Prod.Lex.left _ _ (by omega)
 .rw[u];exact Prod.Lex.right _ (Prod.Lex.right _ F)
def im(I:sW P ty Y N val n T k S O w t l z j D A K d tag rk a s st sm){a':au}{es:Array Event}{rk':Rk}{s1 s':St}(u:cg s1 { s1 with w:=w })(q:jM Y l z j s1)(hgo:aK P ab a w=.go a' s'.w es)
  (Xe:qv { s1 with w:=w } s' es∨Es Y.Wg { s1 with w:=w } s' es) (GY:CS P ty Y N val n T k tag j rk' d a' s') (p:Rk.lt rk' rk) :
  ∃ m₁ ops μ',runT P (crowd O w sl) 0=(.next m₁,ops)/\FH (Y.base+n) μ' S/\Inv P ty Y N val n T k μ' m₁ (t++ops):=by
 rcases Xe with⟨⟨σ,σ',Z,k9,g⟩,Q⟩|⟨rfl,ad,had,Xd⟩
 .have R:jM Y l z j { s1 with w:=w }:=q.rely u.size;obtain⟨e1,e2,e3,e4,e5⟩:=NJ R Z Q g;have vW:∀ b,b<w.heap.size->(l b≠0∨b=Y.C∨b=Y.Wg)->s'.w.heap[b]?=w.heap[b]?:=λb c Bh=>g.eL b c λL V Qp=>by
   obtain⟨q1,q2,q3,_⟩:=R.blk b (.inr ⟨L,V,Qp⟩)
   grind
  have JN:=I.ga.tl.base;refine sX I hgo (hm':=na l w.heap.size 0) (λb c=>eR c) g.size (λy hy=>⟨g.size,λb c hby=>vW b c (.inl (by omega)),λb o v U _=>k9.mem b o v (g.mem _ _ _ (q.ms y hy b o v U)),λo _ _=>jN (vW _ I.ga.Dj (.inr (.inl rfl))) o,g.os,g.tape,g.output⟩) e1 e2 e3 e5 ?_
   (I.wg.of_block (vW _ I.ga.Bd (.inr (.inr rfl)))) (s':=s') (tag':=tag) (rk':=rk') (by rw[deafBehind_idle e4];exact GY) (cg.vV k9.mem) (R.step k9 g I.ga.Bd I.ga.Dj I.ga.MU) I.mode (.inr ⟨rfl,p⟩)
  obtain⟨cs,c1,c2⟩:=I.ga.pay;exact⟨cs,(vW _ I.ga.Dj (.inr (.inl rfl))).trans c1,c2⟩
 .have NK:∀ e∈es,e=mk (.read ad)∨e=mk (.write ad):=by
   grind
  refine sX I hgo (hm':=l) (λb c=>rfl) (bg _) (λy hy=>.refl ..) (λe E=>?_) (λe E b c _=>?_) (λe E b c hk=>?_) (λe E=>?_) I.ga.pay I.wg (s':={ s1 with w:=w }) (tag':=tag) (rk':=rk') ?_ (u.trans' ) (q.rely u.size) I.mode (.inr ⟨rfl,p⟩)
  .have hW:=I.ga.Bd;rcases NK e E with rfl|rfl <;> (rw[ofEvent_mk];show ad.block<_;grind)
  .rcases NK e E with rfl|rfl <;> (rw[ofEvent_mk] at c;simp[MemAct.touch?] at c;subst c;exact .inl ⟨ad,rfl,had,by simp⟩)
  .rcases NK e E with rfl|rfl <;> (rw[ofEvent_mk] at c;simp[MemAct.touch?] at c;grind)
  .rcases NK e E with rfl|rfl <;> simp[mk]
  .rw[deafBehind_idle (λe E=>by rcases NK e E with rfl|rfl <;> simp[mk])];exact GY
def gm(I:sW P ty Y N val n T k S O w t l z j D A K d tag rk a s st sm){a':au}{es:Array Event}{tag':CTag}{rk':Rk}{qh GW:Int}{s1:St}(u:cg s1 { s1 with w:=w })(PI:jM Y l z j s1)
  (hgo:aK P ab a w=.go a' w' es) (g:Aside Y.Wg w w') (JO:WgAt ty Y.Wg w' qh GW) (GX:∀ e∈es,Bk Y.Wg e) (GY:CS P ty Y N val n T k tag' j rk' (deafBehind d es) a' { s1 with w:=w' }) (vX:Go.ConcN.Mode j D tag' qh GW)
  (p:phi n (Vc j D) tag'<phi n (Vc j D) tag∨(phi n (Vc j D) tag'=phi n (Vc j D) tag/\Rk.lt rk' rk)) :
  ∃ m₁ ops μ',runT P (crowd O w sl) 0=(.next m₁,ops)/\FH (Y.base+n) μ' S/\Inv P ty Y N val n T k μ' m₁ (t++ops):=by
 obtain⟨cs,VR,SP⟩:=I.ga.pay;have F:cg s1 { s1 with w:=w' }:=PI.JK u (DU.wg g);refine sX I hgo (hm':=l) (λb c=>rfl) (by rw[g.size];grind) (λy hy=>.wg g I.ga.tl.IQ I.ga.tl.base (λb o v U=>(I.ga.tl.ms y hy b o v U).2.2.1) I.ga.tl.ne) (JM GX (by rw[g.size];exact I.ga.Bd)) (λe E b c l=>?_) (λe E b c hk=>?_) (BI GX)
  ⟨cs,(g.block _ I.ga.tl.ne).trans VR,SP⟩ JO GY F.trans' (PI.rely F.size) vX p
 .rcases GX e E with q|q|⟨ad,wr,rfl,W⟩
  .rw[ofEvent_loc_mark q] at c;cases c
  .rw[ofEvent_loc_mark q] at c;cases c
  .rw[ofEvent_cell] at c;simp only[MemAct.touch?,de] at c;subst c;exact .inl ⟨ad,rfl,W,by simp⟩
 .rcases GX e E with q|q|⟨ad,wr,rfl,W⟩
  .rw[ofEvent_loc_mark q] at c;cases c
  .rw[ofEvent_loc_mark q] at c;cases c
  .rw[ofEvent_cell] at c;simp only[MemAct.touch?,de] at c
   grind
end
section
variable {P:aq}{ty:ar}{Y:Lay}{N:Nat}{val:Nat->Nat->ak}{n:Nat}{T f:au->St->Prop}{l hm':Nat->Nat}{u k:Nat->Mem}{j:Nat}{tag:CTag}{rk:Rk}{d:Nat}{a:au}{s:St}{w w':az}
 {E:Mu} {z:Array au} {sl:Option (Nat×Nat)} {t:Trace} {D:Nat->WD} {A:Nat->Nat} {K:Nat->Rk} {st F:Int}
def CS.bound(h:CS P ty Y N val n T f tag j rk d a s):j+pend tag<=n:=by
 cases h <;> simp only[pend] <;> (try simp) <;> omega
omit [Payload] in
def iq{S:au->St->Prop}(h:km (Cx.lead P ty Y.Wg) (Es Y.Wg) S rk a s)(p:cg s { s with w:=w })(G:jM Y l u j s)(live:WgLive ty Y.Wg w) :
  (∃ s',cg s' { s' with w:=w }/\jM Y l u j s'/\S a s')∨∃ s',cg s' { s' with w:=w }/\jM Y l u j s'/\∃ g' s2 es r',aK P ab a w=.go g' s2.w es/\(qv { s' with w:=w } s2 es∨Es Y.Wg { s' with w:=w } s2 es)/\km (Cx.lead P ty Y.Wg) (Es Y.Wg) S r' g' s2/\Rk.lt r' rk:=by
 rcases h.norm (λs0=>cg s0 { s0 with w:=w }/\jM Y l u j s0) (λs0 s' C hi=>⟨hi.1.ghost C,hi.2.ghost C⟩) (λH=>False.elim H) ⟨p,G⟩ with⟨s',⟨k1,c⟩,B⟩|⟨_,s',⟨k1,c⟩,B⟩
 .grind
 .exact .inr ⟨s',k1,c,B _ ⟨k1,λ_=>live⟩⟩
def WS.quits{x a st d:Nat}{r:Rk}{g:au}(h:WS P ty Y N val l u x a st r d g w)(b:st=1):∃ m,QuitsD P m d g:=by
 cases h with
 |am _ _ _=>cases b
 |rel _=>cases b
 |tail _ h=>exact⟨_,h.quits b⟩
def WS.small{x a st d:Nat}{r:Rk}{g:au}(h:WS P ty Y N val l u x a st r d g w)(b:st=1):a=0:=by
 cases h with
 |am _ _ _=>cases b
 |rel _=>rfl
 |tail _ h=>rfl
def JQ(I:sW P ty Y N val n T f E z w t l u j D A K d tag rk a s st F)(hn:n<2147483648)(V0:∀ g s,f g s->ek (Cx.lead P ty Y.Wg) (Es Y.Wg) (AtW1 P ty Y T f) g s)(vt:a.status=.running) :
  ∃ Z ops,runT P (crowd z w sl) 0=(.next Z,ops)/\((∃ hm' k,Fin P Y N val n T hm' k Z (t++ops))∨∃ μ',FH (Y.base+n) μ' E/\Inv P ty Y N val n T f μ' Z (t++ops)):=by
 have hVj:=Vc_le j D;have JN:=I.ga.tl.base;have live:=I.ga.live;have fin:∀ {X:Prop},(∃ Z ops μ',runT P (crowd z w sl) 0=(.next Z,ops)/\FH (Y.base+n) μ' E/\Inv P ty Y N val n T f μ' Z (t++ops)) ->
   ∃ Z ops,runT P (crowd z w sl) 0=(.next Z,ops)/\((∃ hm' k,Fin P Y N val n T hm' k Z (t++ops))∨∃ μ',FH (Y.base+n) μ' E/\Inv P ty Y N val n T f μ' Z (t++ops)) :=
  λ{_} ⟨Z,ops,μ',p,h2,h3⟩=>⟨Z,ops,p,.inr ⟨μ',h2,h3⟩⟩
 have hbound:=I.cs.bound;have cs:=I.cs;have R:=I.wg;have O:=I.mode;cases cs with
 |@skd r rk g s hr h =>
  rcases iq h I.rely I.lead live with⟨s',k1,c,_,g',J,Q⟩|⟨s',k1,c,g',s2,es,r',J,V,Q,U⟩
  .obtain⟨r2,Q⟩:=Q { s' with w:=w } (fM k1 live);exact fin (X:=True) (gm I k1 c (J w) (.refl Y.Wg w) R bk_dis (.sa1 hr Q) (O.reopen av av rfl (by simp)) (.inl (by simp only[phi];omega)))
  .exact fin (X:=True) (im I k1 c J V (.skd hr Q) U)
 |@sa1 r rk g s hr h =>
  rcases iq h I.rely I.lead live with⟨s',k1,c,_,W⟩|⟨s',k1,c,g',s2,es,r',J,V,Q,U⟩
  .obtain⟨ho,e1,e2,_⟩:=O.open_inv av;rw[e1,e2] at R;obtain⟨a',J,r2,Q⟩:=W { s' with w:=w } (fM k1 live) (Vc (n-(r+1)) D) (by omega) (by simpa[pend] using R)
   refine fin (X:=True) (gm I k1 c J (aside_setCell w (stA Y.Wg) _) (R.setSt _) bk_rw (.ske hr Q) ?_ (.inl (by simp only[phi];omega)))
   have e:(((Vc (n-(r+1)) D:Nat):Int)+1)*KK=((Vc (n-(r+1)) D+pend (.sp r 3):Nat):Int)*KK:=by simp[pend]
   rw[e];exact .opn av ho (by simp)
  .exact fin (X:=True) (im I k1 c J V (.sa1 hr Q) U)
 |@ske r rk g s hr h =>
  rcases iq h I.rely I.lead live with⟨s',k1,c,_,g',J,Q⟩|⟨s',k1,c,g',s2,es,r',J,V,Q,U⟩
  .obtain⟨r2,Q⟩:=Q { s' with w:=w } (fM k1 live);exact fin (X:=True) (gm I k1 c (J w) (.refl Y.Wg w) R bk_en (.sgo hr Q) (O.reopen av av rfl (by simp)) (.inl (by simp only[phi];omega)))
  .exact fin (X:=True) (im I k1 c J V (.ske hr Q) U)
 |@sgo r rk g s hr h =>
  rcases iq h I.rely I.lead live with⟨s',k1,c,_,W⟩|⟨s',k1,c,g',s2,es,r',J,V,Q,U⟩
  .obtain⟨a',child,hsp,_,⟨rc,hwk⟩,PK⟩:=W { s' with w:=w } (fM k1 live);obtain⟨ho,e1,e2,_⟩:=O.open_inv av;rw[e1,e2] at R;have vY:=runT_crowd_spawn (P:=P) (sl:=sl) (i:=0) I.a0 (by simpa using hsp)
   rw[I.ga.size] at vY;have B:jM Y l u (n-(r+1)) { s' with w:=w }:=c.rely k1.size
   let k:=upd u (n-(r+1)) s'.M
   have ZS:∀ y,y<n-(r+1)->k y=u y:=λy hy=>upd_ne u _ (by omega)
   have Xk:k (n-(r+1))=s'.M:=upd_same u _ _;have Q1:cg (St.child { s' with w:=w }) { St.child { s' with w:=w } with w:=w }:=cg.vV k1.mem;have T5:lU l (k (n-(r+1))) (Y.base+(n-(r+1))) (St.child { s' with w:=w }):=by
    refine⟨λb hb=>?_,λb o v hv=>⟨.inr (by rw[Xk];exact hv),(B.M b o v hv).2.2.2.2⟩⟩
    rcases hb with hb|⟨L,hL,_⟩
    .exact hb.elim
    .simp[St.child] at hL
   have FK:=(I.ga.congr ZS).spawn (a':=a') (x:={ g:=0,fn:=a.frame.fn,pos:=a.frame.place,act:=.go (Y.base+(n-(r+1))) }) (y:={ g:=Y.base+(n-(r+1)),fn:=child.frame.fn,pos:=a.frame.place,act:=.start }) ⟨rfl,rfl⟩ ⟨rfl,rfl⟩
    (λb o v hv=>by rw[Xk] at hv;exact B.M b o v hv) hwk Q1 T5
   have eV:Vc (n-(r+1)+1) (upd D (n-(r+1)) ⟨7,0,0⟩)=Vc (n-(r+1)) D+1:=by
    simp only[Vc,sumTo,upd_same];rw[sumTo_upd_out D _ cnt (bg _)];rfl
   have eS:Ssum (n-(r+1)+1) (upd D (n-(r+1)) ⟨7,0,0⟩)=Ssum (n-(r+1)) D+7:=by
    simp only[Ssum,sumTo,upd_same];rw[sumTo_upd_out D _ WD.stage (bg _)]
   have eA:sumTo (n-(r+1)+1) (upd A (n-(r+1)) 1)=sumTo (n-(r+1)) A+1:=by
    have:sumTo (n-(r+1)) (upd A (n-(r+1)) 1)=sumTo (n-(r+1)) A:=sumTo_upd_out A 1 id (i:=n-(r+1)) (j:=n-(r+1)) (bg _);show sumTo (n-(r+1)) (upd A (n-(r+1)) 1)+upd A (n-(r+1)) 1 (n-(r+1))=_;rw[upd_same]
    grind
   have V1:OpenSt (n-(r+1)+1) (upd D (n-(r+1)) ⟨7,0,0⟩):=λi hi=>by
    by_cases e:i=n-(r+1)
    .subst e;rw[upd_same];simp
    .rw[upd_ne D _ e];exact ho i (by omega)
   have Xl:((z.setIfInBounds 0 a').push child)[0]?=aa a':=by
    have h0:0<z.size:=by rw[I.ga.size];omega
    grind
   have zN:jM Y l k (n-(r+1)+1) { s' with w:=w }:=⟨B.blk,B.M,λy hy b o v hv=>by
    rcases cG y (n-(r+1)) with p|p
    .rw[ZS y p] at hv;exact B.ms y p b o v hv
    .obtain rfl:y=n-(r+1):=by omega
     rw[Xk] at hv;exact hv⟩
   have ej:n-(r+1)+1=n-r:=by omega
   rw[ej] at FK eV eS eA V1 zN;have Xm:∀ tag',pend tag'=0->((Vc (n-(r+1)) D+pend (.sp r 2):Nat):Int)*KK=((Vc (n-r) (upd D (n-(r+1)) ⟨7,0,0⟩)+pend tag':Nat):Int)*KK:=λtag' hp=>by rw[eV,hp];simp[pend]
   cases r with
   |zero =>
    obtain⟨r3,Q⟩:=PK;simp only[me] at FK eV eS eA V1 Xm zN;refine⟨_,_,vY,.inr ⟨(phi n (Vc n (upd D (n-(0+1)) ⟨7,0,0⟩)) .kd+Ssum n (upd D (n-(0+1)) ⟨7,0,0⟩)+sumTo n (upd A (n-(0+1)) 1),(upd K (Y.base+(n-(0+1))) rc,r3)),by rw[I.mu];exact Prod.Lex.left _ _ (by simp only[phi];omega),
     _,w,sl,l,k,n,_,_,_,0,.kd,r3,a',{ s' with w:=w },_,_,rfl,⟨Xl,.kd Q,k1.trans',zN,FK,R,?_,rfl⟩⟩⟩
    rw[Xm .kd rfl];exact .opn av V1 (by simp)
   |succ r' =>
    obtain⟨r3,Q⟩:=PK;refine⟨_,_,vY,.inr ⟨(phi n (Vc (n-(r'+1)) (upd D (n-(r'+1+1)) ⟨7,0,0⟩)) (.sp r' 5)+Ssum (n-(r'+1)) (upd D (n-(r'+1+1)) ⟨7,0,0⟩)+sumTo (n-(r'+1)) (upd A (n-(r'+1+1)) 1),(upd K (Y.base+(n-(r'+1+1))) rc,r3)),by rw[I.mu];exact Prod.Lex.left _ _ (by simp only[phi];omega),
     _,w,sl,l,k,n-(r'+1),_,_,_,0,.sp r' 5,r3,a',{ s' with w:=w },_,_,rfl,⟨Xl,.skd (by omega) Q,k1.trans',zN,FK,R,?_,rfl⟩⟩⟩
    rw[Xm (.sp r' 5) rfl];exact .opn av V1 (by simp)
  .exact fin (X:=True) (im I k1 c J V (.sgo hr Q) U)
 |kd h =>
  rcases iq h I.rely I.lead live with⟨s',k1,c,_,g',J,Q⟩|⟨s',k1,c,g',s2,es,r',J,V,Q,U⟩
  .obtain⟨r2,Q⟩:=V0 _ _ (Q { s' with w:=w } (fM k1 live));exact fin (X:=True) (gm I k1 c (J w) (.refl Y.Wg w) R bk_dis (.w1 Q) (O.reopen av av rfl (by simp)) (.inl (by simp only[phi];omega)))
  .exact fin (X:=True) (im I k1 c J V (.kd Q) U)
 |w1 h =>
  rcases iq h I.rely I.lead live with⟨s',k1,c,_,W⟩|⟨s',k1,c,g',s2,es,r',J,V,Q,U⟩
  .obtain⟨ho,e1,e2,_⟩:=O.open_inv av;rw[e1,e2] at R;have hV:=Vc_le n D;obtain⟨a',J,h0,Bh⟩:=W { s' with w:=w } (fM k1 live) (Vc n D) (by omega) (by grind)
   by_cases hv:Vc n D=0
   .obtain⟨r2,Q⟩:=h0 hv;refine fin (X:=True) (gm I k1 c J (.refl Y.Wg w) R bk_rd (.ke Q) ?_ (.inl (by simp only[phi];omega)))
    have e:((Vc n D+pend .w1:Nat):Int)*KK=0:=by grind
    rw[e];exact .fin av (allQuit_of ho hv)
   .obtain⟨r2,Q⟩:=Bh hv;refine fin (X:=True) (gm I k1 c J (.refl Y.Wg w) R bk_rd (.w2 Q) ?_ (.inl (by simp only[phi];omega)))
    have:=O.reopen (tag':=.w2 (Vc n D)) av av rfl (λvs e=>by grind)
    grind
  .exact fin (X:=True) (im I k1 c J V (.w1 Q) U)
 |@w2 vs rk g s h =>
  rcases iq h I.rely I.lead live with⟨s',k1,c,_,W⟩|⟨s',k1,c,g',s2,es,r',J,V,Q,U⟩
  .obtain⟨ho,e1,e2,Xn⟩:=O.open_inv av;rw[e1,e2] at R;obtain⟨hle,p⟩:=Xn vs rfl;obtain⟨Xo,T6⟩:=W { s' with w:=w } (fM k1 live) (Vc n D) (by omega) (by grind)
   by_cases e:Vc n D=vs
   .obtain⟨a',J,r2,Q⟩:=Xo e;exact fin (X:=True) (gm I k1 c J (aside_setCell w (stA Y.Wg) _) (R.setSt _) bk_rw (.w3 Q) (.reg av ho (by omega)) (.inl (by simp only[phi];omega)))
   .obtain⟨a',J,Q⟩:=T6 e;obtain⟨r2,Q⟩:=V0 _ _ Q;refine fin (X:=True) (gm I k1 c J (.refl Y.Wg w) R bk_rd (.w1 Q) ?_ (.inl (by simp only[phi];omega)))
    have:=O.reopen (tag':=.w1) av av rfl (by simp)
    grind
  .exact fin (X:=True) (im I k1 c J V (.w2 Q) U)
 |@w3 rk g s h =>
  rcases iq h I.rely I.lead live with⟨s',k1,c,lV⟩|⟨s',k1,c,g',s2,es,r',J,V,Q,U⟩
  .obtain⟨_,TH,W⟩:=lV;obtain⟨NL,PL⟩:=W { s' with w:=w } (fM k1 live);obtain⟨x,hx⟩:=Rk.JL s rk;have T7:AtW3 P ty Y T a { s' with w:=w }:=AtW3.rely ⟨vt,TH,W⟩ (fM k1 live);generalize st=Xi at O R;generalize F=sm0 at O R;cases O with
   |opn p _ _=>exact p.elim
   |reg p h2 h3=>exact fin (X:=True) (gm I k1 c (NL ⟨_,R⟩) (.refl Y.Wg w) R (by simp) (.blk (rk:=x) T7) (.reg av h2 h3) (.inr ⟨rfl,hx⟩))
   |last L p h2 h3 h4=>exact fin (X:=True) (gm I k1 c (NL ⟨_,R⟩) (.refl Y.Wg w) R (by simp) (.blk (rk:=x) T7) (.last L av h2 h3 h4) (.inr ⟨rfl,hx⟩))
   |sema h2 =>
    obtain⟨a',J,r2,Q⟩:=PL R;exact fin (X:=True) (gm I k1 c J (aside_setCell w (smA Y.Wg) _) (R.setSm 0) bk_sem (.w4 Q) (.fin av h2) (.inl (by simp only[phi];omega)))
   |fin p _=>exact p.elim
  .exact fin (X:=True) (im I k1 c J V (.w3 Q) (Rk.FG U))
 |blk h=>grind
 |w4 h =>
  rcases iq h I.rely I.lead live with⟨s',k1,c,_,W⟩|⟨s',k1,c,g',s2,es,r',J,V,Q,U⟩
  .obtain⟨hq,e1,e2⟩:=O.fin_inv av;rw[e1,e2] at R;obtain⟨a',J,r2,Q⟩:=W { s' with w:=w } (fM k1 live) R;exact fin (X:=True) (gm I k1 c J (.refl Y.Wg w) R bk_rd (.ke Q) (.fin av hq) (.inl (by simp only[phi];omega)))
  .exact fin (X:=True) (im I k1 c J V (.w4 Q) U)
 |ke h =>
  rcases iq h I.rely I.lead live with⟨s',k1,c,_,g',J,Q⟩|⟨s',k1,c,g',s2,es,r',J,V,Q,U⟩
  .obtain⟨r2,Q⟩:=Q { s' with w:=w } (fM k1 live);obtain⟨hq,e1,e2⟩:=O.fin_inv av;rw[e1,e2] at R;exact fin (X:=True) (gm I k1 c (J w) (.refl Y.Wg w) R bk_en (.acq Q) (.fin av hq) (.inl (by simp only[phi];omega)))
  .exact fin (X:=True) (im I k1 c J V (.ke Q) U)
 |acq h =>
  rcases iq h I.rely I.lead live with⟨s',k1,c,_,a',J,Q⟩|⟨s',k1,c,g',s2,es,r',J,V,Q,U⟩
  .obtain⟨hq,e1,e2⟩:=O.fin_inv av;have vY:=runT_crowd_go (P:=P) (sl:=sl) (i:=0) I.a0 (by simpa using J w)
   have ev:MemOp.ofEvents 0 a.frame.fn a.frame.place #[mk (.acquire (stA Y.Wg))]=#[{ g:=0,fn:=a.frame.fn,pos:=a.frame.place,act:=.mark (.acquire (stA Y.Wg)) }]:=by rw[ofEvents_eq];simp[ofEvent_mk]
   have vZ:=I.ga.step0 (g:=a) (g':=a') (fn:=a.frame.fn) (pos:=a.frame.place) (es:=#[mk (.acquire (stA Y.Wg))]) (hm':=l) (w':=w) (λ_ _=>rfl) (bg _) (λy _=>.refl ..) (by simp;exact I.ga.Bd) (by intro e he b hb;simp at he;subst he;simp[mk,aM,MemAct.touch?] at hb) (by intro e he b hb;simp at he;subst he;simp[mk,aM,MemAct.touch?] at hb) (by intro e he;simp at he;subst he;simp[mk]) I.ga.pay live
   have hd0:deafBehind 0 #[mk (.acquire (stA Y.Wg))]=0:=rfl;have hy:(t++#[({ g:=0,fn:=a.frame.fn,pos:=a.frame.place,act:=.mark (.acquire (stA Y.Wg)) }:MemOp)])[t.size]?=aa { g:=0,fn:=a.frame.fn,pos:=a.frame.place,act:=.mark (.acquire (stA Y.Wg)) }:=by simp
   have T8:=vZ.tl.Xb (by rw[vZ.deaf0];rfl) (vZ.norel _) (q:=t.size) (by rw[ev,act?_of hy]) (by rw[ev];simp[Trace.g?]) (by rw[ev];exact⟨0,by simp[Trace.g?],by rw[deaf_old (bg _)];exact I.ga.deaf0⟩) (λx hx=>by
    obtain⟨r,hr⟩:=I.ga.rel x hx (by rw[hq x hx];omega)
    exact⟨r,hr.appOther g_of_ofEvents (by omega),lt_of_act? hr.act⟩)
   have GG:∃ q,Leavers P (t++MemOp.ofEvents 0 a.frame.fn a.frame.place #[mk (.acquire (stA Y.Wg))]) ((z.map (woken P a a' w)).setIfInBounds 0 a') q:=by
    have each:∀ i,∃ m,∀ g,0<i->((z.map (woken P a a' w)).setIfInBounds 0 a')[i]?=aa g->QuitsD P m (Deaf (t++MemOp.ofEvents 0 a.frame.fn a.frame.place #[mk (.acquire (stA Y.Wg))]) i) g:=by
     intro i;cases QG:((z.map (woken P a a' w)).setIfInBounds 0 a')[i]? with
     |none=>exact⟨0,λg _ C=>by cases C⟩
     |some g =>
      rcases oI i with e|JR
      .exact⟨0,λg' h=>by omega⟩
      .rcases cG i Y.base with U|SU
       .obtain⟨m,_,Xp⟩:=vZ.lv i g JR U QG;exact⟨m,λg' _ FJ=>by grind⟩
       .obtain⟨x,rfl⟩:∃ x,i=Y.base+x:=⟨i-Y.base,by omega⟩
        have hx:x<n:=by
         have:=(hY.1 QG).1;rw[vZ.size] at this;omega
        obtain⟨g0,FF,Xq⟩:=vZ.wk x hx;rw[QG] at FF;cases FF;obtain⟨m,Xp⟩:=Xq.quits (hq x hx);refine⟨m,λg' _ FJ=>?_⟩
        cases FJ;rw[vZ.deafW x hx];exact Xp
    exact⟨λi=>Classical.choose (each i),λi g hi C=>Classical.choose_spec (each i) g hi C,λi hi=>vZ.above i (by rw[vZ.size] at hi;exact hi)⟩
   obtain⟨q,GG⟩:=GG;refine⟨_,_,vY,.inl ⟨l,u,⟨_,w,sl,a',s',q,rfl,Go.ConcN.get_map_set_same _ _ _ (by rw[I.ga.size];omega),vZ.size,Q { s' with w:=w } (fM k1 live),k1,c,GG,T8,vZ.norel,I.ga.pay,λx hx i hi=>?_,I.ga.Dj,I.ga.Bd,I.ga.MU⟩⟩⟩
   obtain⟨g0,_,Xq⟩:=I.ga.wk x hx;rcases oI i with e|JR
   .subst e;exact I.ga.BH x hx (by rw[hq x hx];omega)
   .exact I.ga.xI x hx (Xq.small (hq x hx)) i JR hi
  .exact fin (X:=True) (im I k1 c J V (.acq Q) U)
end
end
section
open Go.Conc
open Go.ConcN (WD CTag Vc Ssum pend phi cnt WgLive PayAt Has WSit RelBy sumTo upd upd_same upd_ne exists_counted)
open Go.ConcR (KK WgAt stA smA Payload)
variable [Payload]
section
variable {P:aq}{ty:ar}{Y:Lay}{N:Nat}{val:Nat->Nat->ak}{n:Nat}{T c:au->St->Prop}{p:Nat->Nat}{y:Nat->Mem}{j:Nat}{tag:CTag}{rk:Rk}{d:Nat}{a:au}{s:St}{w:az}
 {f:Mu} {l:Array au} {sl:Option (Nat×Nat)} {t:Trace} {D:Nat->WD} {A:Nat->Nat} {K:Nat->Rk} {st u:Int}
def WS.running_of{x a st d:Nat}{r:Rk}{g:au}(h:WS P ty Y N val p y x a st r d g w)(b:st≠1):g.status=.running:=by
 cases h with
 |am h1 _ _=>exact h1.run λ_ _ x=>x.1
 |rel h1=>exact Goes.running (λ_ _ x=>x.1) w (Go.ConcN.RW.refl w) h1
 |tail _ h1=>exact h1.running_of b
def someone_runs(I:sW P ty Y N val n T c f l w t p y j D A K d tag rk a s st u):∃ (i:Nat)(g:au),l[i]?=aa g/\g.status=.running:=by
 rcases I.cs.status with⟨e,_⟩|⟨_,rfl⟩
 .exact⟨0,a,I.a0,e⟩
 .have b:=I.mode;cases b with
  |opn h1 _ _=>exact h1.elim
  |reg _ _ k =>
   obtain⟨i,hi,o⟩:=exists_counted k;obtain⟨g,h,e⟩:=I.ga.wk i hi;exact⟨_,g,h,e.running_of (by omega)⟩
  |last L _ m k _ =>
   obtain⟨g,h,e⟩:=I.ga.wk L m;exact⟨_,g,h,e.running_of (by omega)⟩
  |fin h1 _=>exact h1.elim
def all_awake(I:sW P ty Y N val n T c f l w t p y j D A K d tag rk a s st u):∀ g∈l,awake g:=by
 intro g r B;obtain⟨i,hi⟩:=Array.mem_iff_getElem?.1 r;rcases oI i with rfl|b
 .rw[I.a0] at hi;cases hi;rcases I.cs.status with⟨k,_⟩|⟨k,_⟩ <;> rw[k] <;> simp
 .rcases cG i Y.base with o|v
  .obtain⟨m,_,q⟩:=I.ga.lv i g b o hi;rcases q.status with h|h <;> rw[h] <;> simp
  .obtain⟨x,rfl⟩:∃ x,i=Y.base+x:=⟨i-Y.base,by omega⟩
   have z:x<j:=by
    have:=(hY.1 hi).1;rw[I.ga.size] at this;omega
   obtain⟨g',e,k⟩:=I.ga.wk x z;rw[hi] at e;cases e;rcases k.status with h|h <;> rw[h] <;> simp
def sW.at(I:sW P ty Y N val n T c f l w t p y j D A K d tag rk a s st u)(b:Nat):sW P ty Y N val n T c f l (w.at b) t p y j D A K d tag rk a s st u :=
 ⟨I.a0,I.cs,I.rely.more (bg _) (λ_ _=>rfl) (λ_ _ _ _ h=>h) rfl rfl rfl,I.lead,I.ga.at b,I.wg,I.mode,I.mu⟩
def DV(I:sW P ty Y N val n T c f l w t p y j D A K d tag rk a s st u){i:Nat}(hi:0<i)(v:i<Y.base){g:au}(F:l[i]?=aa g)(e:g.status=.running) :
  ∃ o ops μ',runT P (crowd l w sl) i=(.next o,ops)/\FH (Y.base+n) μ' f/\Inv P ty Y N val n T c μ' o (t++ops):=by
 obtain⟨m,H,E⟩:=I.ga.lv i g hi v F;cases m with
 |zero=>rw[E.1] at e;cases e
 |succ m =>
  rcases E with⟨L,_⟩|⟨_,g',es,z,r,B⟩
  .grind
  .have C:(i==0)=ae:=by grind
   have q:=runT_crowd_go (P:=P) (sl:=sl) (i:=i) F (by rw[C];exact r w)
   obtain⟨tag',rk',x,h,G⟩:=I.cs.wokenBy g g' w;have b:Go.ConcN.Mode j D tag' st u:=I.mode.retag h;refine⟨_,_,(phi n (Vc j D) tag'+Ssum j D+sumTo j A,(upd K i (Rk.nat m),rk')),q,?_,_,w,sl,p,y,j,D,A,_,d,tag',rk',woken P g g' w a,s,st,u,rfl,
    ⟨by rw[Go.ConcN.get_map_set _ _ _ _ (by omega),I.a0];rfl,x,I.rely,I.lead,I.ga.leave hi v z B,I.wg,b,rfl⟩⟩
   rw[I.mu,Go.ConcN.phi_retag n _ h];exact Prod.Lex.right _ (Prod.Lex.left _ _ ⟨i,by omega,by rw[upd_same,H];exact Rk.DT _ s,λk J=>upd_ne K _ J⟩)
def JS(E:n<2147483648)(z:∀ g s,c g s->ek (Cx.lead P ty Y.Wg) (Es Y.Wg) (AtW1 P ty Y T c) g s){m:Machine}(h:Inv P ty Y N val n T c f m t) :
  ∃ b ops,stepT P m=(.next b,ops)/\((∃ hm' NM,Fin P Y N val n T hm' NM b (t++ops))∨∃ k,FH (Y.base+n) k f/\Inv P ty Y N val n T c k b (t++ops)):=by
 obtain⟨l,w,sl,p,y,j,D,A,K,Q,tag,rk,a,s,st,u,rfl,I⟩:=h;obtain⟨i,g,H,o,r,e,q⟩:=crowd_pick (P:=P) (w:=w) (sl:=sl) (all_awake I) (someone_runs I);rw[q];have C:=I.at H;have O:j<=n:=by have:=I.cs.bound;omega
 rcases oI i with rfl|v
 .rw[I.a0] at r;cases r;exact JQ (sl:=o) C E z e
 .rcases cG i Y.base with B|L
  .obtain⟨b,ops,k,M,J,G⟩:=DV (sl:=o) C v B r e
   grind
  .obtain⟨x,rfl⟩:∃ x,i=Y.base+x:=⟨i-Y.base,by omega⟩
   have F:x<j:=by
    have:=(hY.1 r).1;rw[I.ga.size] at this;omega
   obtain⟨b,ops,k,M,J,G⟩:=stepWorker (sl:=o) C E O I.cs.bound F r e
   grind
def GZ(B:n<2147483648)(o:∀ g s,c g s->ek (Cx.lead P ty Y.Wg) (Es Y.Wg) (AtW1 P ty Y T c) g s):∀ (f:Mu)(m:Machine)(t:Trace),Inv P ty Y N val n T c f m t ->
  ∃ M k i hm' NM,runNT P M m t=(.next k,i)/\Fin P Y N val n T hm' NM k i:=by
 intro f
 induction (QY (Y.base+n)).apply f with
 |intro f _ z =>
  intro m t h;obtain⟨b,ops,r,e⟩:=JS B o h;rcases e with⟨hm',NM,e⟩|⟨q,e,x⟩
  .exact⟨1,b,t++ops,hm',NM,by simp[runNT,r],e⟩
  .obtain⟨M,k,i,hm',NM,k1,v⟩:=z q e b (t++ops) x;exact⟨M+1,k,i,hm',NM,by simp only[runNT,r];exact k1,v⟩
def To.fork{g:au}{s s0:St}{T':au->St->Prop}(kc:Nat)(ZN:0<kc)(Wg C:Nat)(hn:n<2147483648)(Bh:C≠Wg)(X:eQ s s0)(vt:g.status=.running)
  (hC:∃ L∈s.β,C∈L.bs) (hW:∃ L∈s.β,Wg∈L.bs) (E:∀ b,(s.own b∨∃ L∈s.β,b∈L.bs)->b<s.w.heap.size)
  (h0:∀ b,(b=C∨b=Wg)->¬s0.own b/\(∀ L∈s0.β,b∉L.bs)/\∀ o,s0.M b o=af) (R:WgAt ty Wg s.w 0 0) (Z:PayAt C N s.w)
  (h:∀ Y:Lay,Y.Wg=Wg->Y.C=C->Y.kc=kc->∃ T c,(∀ g s,c g s->ek (Cx.lead P ty Y.Wg) (Es Y.Wg) (AtW1 P ty Y T c) g s)/\Spawns P ty Y N val n c n g s0 /\
   ∀ g' s',T g' s'->gx s'->PayAt C N s'.w->(∀ x,x<n->∀ i,i<kc->s'.w.cell? ⟨C,kc*x+i,af⟩=aa (val x i))->C<s'.w.heap.size->(∀ b,(b=C∨b=Wg)->¬s'.own b/\(∀ L∈s'.β,b∉L.bs)/\∀ o,s'.M b o=af) ->
    ∃ s2,T' g' s2/\s2.w=s'.w/\gx s2/\∀ Sh:Nat->Prop,Clear Sh s'->¬Sh C->Clear Sh s2):To P g s T':=by
 intro Sh l sl t q p ha I hP hc TY;have W:¬Sh C:=λhs=>let ⟨L,I,hb⟩:=hC;hc.β C hs L I hb
 have V:¬Sh Wg:=λhs=>let ⟨L,I,hb⟩:=hW;hc.β Wg hs L I hb
 have T9:=E C (.inr hC);have Xr:=E Wg (.inr hW);have JR:1<=l.size:=(hY.1 ha).1
 let Y:Lay:={ Sh:=Sh,T0:=t.size,Wg:=Wg,C:=C,base:=l.size,kc:=kc }
 obtain⟨T,c,V0,z,Xs⟩:=h Y rfl rfl rfl;have U:=hc.ghost X;have NK:gx s0:=.ghost X;have B:jM Y (λ_=>0) (λ_ _ _=>af) 0 s0:=by
  refine⟨λb hb=>⟨rfl,λe=>?_,λe=>?_,λe=>?_,by rw[X.w];exact E b (X.blk b hb)⟩,λb o v hv=>⟨rfl,λe=>?_,λe=>?_,λe=>?_,gx.lt NK hv⟩,λx m=>absurd m (jk x)⟩
  .grind
  .grind
  .rcases hb with hb|⟨L,I,hb⟩
   .exact U.own b e hb
   .exact U.β b e L I hb
  .grind
  .grind
  .rw[U.M b e o] at hv;cases hv
 have Q:Com P ty Y N val (λ_=>0) (λ_ _ _=>af) 0 l s.w t (λ_=>⟨0,0,0⟩) (λ_=>0) (λi=>Rk.nat (q i)) 0 :=
  ⟨rfl,λi g hi _ QG=>⟨q i,rfl,I.old i g hi QG⟩,I.above,λx m=>absurd m (jk x),TL.start hP rfl JR Bh V W,TY,hP.hears,λx m=>absurd m (jk x),λx m=>absurd m (jk x),λx m=>absurd m (jk x),λx m=>absurd m (jk x),
   Z,⟨_,_,R⟩,Xr,T9,hc.lt,ZN,λx m=>absurd m (jk x)⟩
 have O:cg s0 { s0 with w:=s.w }:=by
  have:=cg.vV NK;rw[<-X.w];exact this
 have G:∃ f,Inv P ty Y N val n T c f (crowd l s.w sl) t:=by
  cases n with
  |zero =>
   obtain⟨r,z⟩:=z;exact⟨_,l,s.w,sl,_,_,0,_,_,_,0,.kd,r,g,s0,_,_,rfl,⟨ha,.kd z,O,B,Q,R,by have:=Go.ConcN.Mode.opn (j:=0) (D:=λ_=>(⟨0,0,0⟩:WD)) (tag:=.kd) av (λi hi=>absurd hi (jk i)) (by simp);simpa[Vc,sumTo,pend] using this,rfl⟩⟩
  |succ n =>
   obtain⟨r,z⟩:=z;have V2:CS P ty Y N val (n+1) T c (.sp n 5) (n+1-(n+1)) r 0 g s0:=.skd (Nat.lt_succ_self n) z;rw[rm] at V2;exact⟨_,l,s.w,sl,_,_,0,_,_,_,0,.sp n 5,r,g,s0,_,_,rfl,⟨ha,V2,O,B,Q,R,by have:=Go.ConcN.Mode.opn (j:=0) (D:=λ_=>(⟨0,0,0⟩:WD)) (tag:=.sp n 5) av (λi hi=>absurd hi (jk i)) (by simp);simpa[Vc,sumTo,pend] using this,rfl⟩⟩
 obtain⟨f,G⟩:=G;obtain⟨M,m',t',hm',NM,ZT,⟨gs',w',sl',a',H,q',rfl,Xl,_,hT,SQ,Ua,gu,hP',acp,hp',J,hlC,hlW,hlS⟩⟩:=GZ hn V0 f _ _ G;have S:jM Y hm' NM n { H with w:=w' }:=Ua.rely SQ.size;have F:∀ b,(b=C∨b=Wg∨Sh b)->¬H.own b/\(∀ L∈H.β,b∉L.bs)/\∀ o,H.M b o=af:=by
  intro b hb;have key:∀ x,(hm' x=0/\x≠Y.C/\x≠Y.Wg/\¬Y.Sh x/\x<w'.heap.size)->x≠b:=by
   grind
  refine⟨λho=>key b (S.blk b (.inl ho)) rfl,λL I Qp=>key b (S.blk b (.inr ⟨L,I,Qp⟩)) rfl,λo=>?_⟩
  cases hM:H.M b o with
  |none=>rfl
  |some v=>exact absurd rfl (key b (S.M b o v hM))
 obtain⟨s2,hT2,Xn,Xp,SP⟩:=Xs a' { H with w:=w' } hT (λb o v hv=>SQ.mem b o v hv) hp' J hlC (λb hb=>F b (hb.elim .inl λe=>.inr (.inl e)))
 have GI:Clear (λb=>Sh b∨b=Wg) { H with w:=w' }:=by
  have k:∀ b,(Sh b∨b=Wg)->¬H.own b/\(∀ L∈H.β,b∉L.bs)/\∀ o,H.M b o=af:=λb hb=>F b (hb.elim (λe=>.inr (.inr e)) λe=>.inr (.inl e))
  exact⟨λb hb=>(k b hb).1,λb hb=>(k b hb).2.1,λb hb=>(k b hb).2.2,λb hb=>hb.elim (hlS b) λe=>by grind⟩
 grind
end
end
section
open Go.Conc Go.RowKit Go.Conc.Lib Go.ConcR.Gen
open Go.ConcN (WgLive)
open Go.ConcR (KK WgAt stA smA rd wr mk DC0)
variable {L:WgLink}
section
variable (P:aq)(R:az->az->Prop)(L:WgLink)(Wg:Nat)(a:au)
def XL(g:au)(_:az):Prop:=g.status=.running/\∃ g',(∀ w,aK P ab g w=.go g' w #[mk .enable])/\∀ w1,WgLive L.tWg Wg w1->∃ m,Goes P ab R DC0 (λg _=>g=a) m g' w1
def GRd(g:au)(_:az):Prop:=g.status=.running/\∃ g' ad,ad.block=Wg/\(∀ w,aK P ab g w=.go g' w #[mk (.read ad)])/\∀ w1,WgLive L.tWg Wg w1->∃ m,Goes P ab R DC0 (XL P R L Wg a) m g' w1
def GA1(g:au)(w:az):Prop:=g.status=.running/\∀ v:Nat,v<2147483647->WgAt L.tWg Wg w (v*KK) 0 ->
 ∃ g',aK P ab g w=.go g' (w.setCell (stA Wg) (.int .u64 ((v+1)*KK))) #[rd (stA Wg),wr (stA Wg)]/\∃ m,Goes P ab R DC0 (λg w=>GRd P R L Wg a g w∨XL P R L Wg a g w) m g' (w.setCell (stA Wg) (.int .u64 ((v+1)*KK)))
def GKd(g:au)(_:az):Prop:=g.status=.running/\∃ g',(∀ w,aK P ab g w=.go g' w #[mk .disable])/\∀ w1,WgLive L.tWg Wg w1->∃ m,Goes P ab R DC0 (GA1 P R L Wg a) m g' w1
end
set_option maxRecDepth 100000 in
def NZ{P:aq}(H:WgLib P L){R:az->az->Prop}{Wg:Nat}(c:∀ {w w1},WgLive L.tWg Wg w->R w w1->WgLive L.tWg Wg w1){b₀:aR}{a₀:Act}{ops₀:Array aw}{i₀:Nat}{rest₀:List Nat}{k₀:List Item}{cs:List aR}
  (w:az) (b:WgLive L.tWg Wg w) :
  Goes P ab R DC0 (GKd P R L Wg (G (b₀.at (a₀.put ((ops₀[i₀]?).bind (·.dst)) (.tuple #[])) (.inRegion ops₀ rest₀::k₀)) cs)) 12
   (G ((base L.add).at ⟨#[.pointer (aa ⟨Wg,0,af⟩),.int .i64 1,aj,aj,aj,aj,aj,aj,aj,aj,aj,aj,aj,aj,aj,aj,aj,aj,aj,aj,aj,aj,aj,aj,aj,aj,aj,aj,aj,aj,aj,aj,aj,aj,aj,aj,aj,aj,aj,aj,aj,aj,aj,aj,aj,aj,aj,aj,aj,aj,aj,aj,aj,aj,aj,aj,aj,aj,aj,aj,aj,aj,aj,aj,aj,aj,aj,aj,aj,aj,aj,aj,aj,aj,aj,aj,aj,aj,aj,aj,aj,aj,aj,aj,aj,aj,aj,aj,aj,aj,aj,aj,aj,aj,aj,aj,aj,aj,aj,aj,aj,aj,aj,aj,aj,aj,aj,aj,aj,aj,aj,aj,aj,aj,aj,aj,aj],[]⟩ [.code (body_add L)]) (b₀.at a₀ (.inRegion ops₀ (i₀::rest₀)::k₀)::cs)) w:=by
 lib_facts
 simp only[body_add,addFn,fI]
 repeat (u_c aE c b)
 u_cond ab c b
 repeat (u_c aE c b)
 u_reg c b
 u_op c b
 u_op c b
 u_c aA c b
 repeat (u_c aE c b)
 u_cond ae c b
 u_c stepG_skip c b
 repeat (u_c aE c b)
 u_reg c b
 refine Goes.stop (λm g=>?_)
 refine⟨rfl,_,λw=>stepG_mark0 .disable (by simp) rfl rfl (by k_ne) rfl H.f_disable (x_disable_n L) (x_disable_b L) (x_disable_x L) (x_disable_f L),λw b=>?_⟩
 clear g;refine⟨40,?_⟩
 walk_nrm
 u_c aA c b
 repeat (u_c aE c b)
 u_reg c b
 u_defer c b
 u_c aA c b
 repeat (u_c aE c b)
 u_reg c b
 u_op c b
 u_c aA c b
 repeat (u_c aE c b)
 u_reg c b
 u_bub c b
 u_c aA c b
 repeat (u_c aE c b)
 u_cond ae c b
 u_c stepG_skip c b
 repeat (u_c aE c b)
 u_reg c b
 u_op c b
 u_op c b
 u_op c b
 u_op c b
 u_op c b
 u_op c b
 u_call H.f_uAdd (nm_uAdd L) uAddFn c b
 repeat (u_c aE c b)
 u_reg c b
 u_op c b
 u_c aA c b
 repeat (u_c aE c b)
 u_reg c b
 u_op c b
 u_op c b
 u_op c b
 u_op c b
 refine Goes.stop (λf e=>?_)
 replace b:=c b e
 clear e;refine⟨rfl,λv t j=>?_⟩
 have l:KK=4294967296:=rfl;have p:IntKind.u64.wrap ((v:Int)*KK+4294967296)=((v:Int)+1)*KK:=by rw[IntKind.wrap_u64];simp only[l];omega
 refine⟨_,(stepG_add_atomic rfl rfl (by k_ne) rfl H.f_addU64 (x_addU64_n L) (x_addU64_b L) (x_addU64_x L) .u64 (x_addU64_f L) rfl rfl j.cellSt (j.thaw 0)).trans (by rw[p];rfl),110,?_⟩
 replace b:WgLive L.tWg Wg (f.setCell (stA Wg) (.int .u64 (((v:Int)+1)*KK))):=⟨_,_,j.setSt _⟩
 clear j
 walk_nrm
 u_op c b
 u_c aA c b
 u_c stepG_ret' c b
 u_leave1 H.f_uAdd c b
 u_op c b
 u_c aA c b
 have u:bits .and .u64 (((v:Int)+1)*4294967296) 2147483648=0:=by
  have:=Go.ConcN.st_flag (v+1) 0 (by omega) (by omega)
  simpa using this
 have s:bits .and .u64 (((v:Int)+1)*4294967296) 2147483647=0:=by
  have:=Go.ConcN.st_waiters (v+1) 0 (by omega) (by omega)
  simpa using this
 have x:((v:Int)+1+2147483648) % 4294967296-2147483648=(v:Int)+1:=by omega
 have q:¬((v:Int)+1<0):=by omega
 have r:(0:Int)<(v:Int)+1:=by omega
 repeat (u_c aE c b)
 u_reg c b
 u_op c b
 u_op c b
 u_op c b
 u_op c b
 u_skip c b
 u_skip c b
 u_op c b
 u_c aA c b
 repeat (u_c aE c b)
 u_cond ae c b
 u_c stepG_skip c b
 repeat (u_c aE c b)
 u_reg c b
 u_op c b
 u_op c b
 u_op c b
 u_op c b
 u_c aA c b
 repeat (u_c aE c b)
 u_reg c b
 u_op c b
 u_op c b
 u_op c b
 u_op c b
 u_c aA c b
 by_cases k:(v:Int)+1=1
 .repeat (u_c aE c b)
  u_reg c b
  u_op c b
  u_op c b
  u_op c b
  u_op c b
  u_op c b
  u_op c b
  u_op c b
  u_op c b
  u_op c b
  u_op c b
  u_c aA c b
  repeat (u_c aE c b)
  u_cond ab c b
  repeat (u_c aE c b)
  u_reg c b
  u_op c b
  u_op c b
  u_op c b
  u_conv H.underlying_tPU32 H.room_tU32 (Go.ConcN.Gen.WgLive.cell1 b).choose_spec c b
  refine Goes.stop (λn i=>.inl ?_)
  clear i;refine⟨rfl,_,⟨Wg,1,af⟩,rfl,λw=>stepG_markAt .read (by simp) rfl rfl (by k_ne) rfl H.f_raceRead (x_raceRead_n L) (x_raceRead_b L) (x_raceRead_x L) (x_raceRead_f L) (ad:=⟨Wg,1,af⟩) (by simp[Act.eval]),λw b=>⟨50,?_⟩⟩
  walk_nrm
  u_c aA c b
  repeat (u_c aE c b)
  u_reg c b
  u_op c b
  u_op c b
  u_c aA c b
  repeat (u_c aE c b)
  u_cond ae c b
  u_c stepG_skip c b
  repeat (u_c aE c b)
  u_reg c b
  u_op c b
  u_op c b
  u_op c b
  u_skip c b
  u_skip c b
  u_op c b
  u_op c b
  u_skip c b
  u_skip c b
  u_skip c b
  u_skip c b
  u_op c b
  u_c aA c b
  repeat (u_c aE c b)
  u_cond ae c b
  u_c stepG_skip c b
  repeat (u_c aE c b)
  u_reg c b
  u_op c b
  u_op c b
  u_op c b
  u_skip c b
  u_skip c b
  u_op c b
  u_c aA c b
  repeat (u_c aE c b)
  u_cond ab c b
  u_c stepG_ret' c b
  refine Goes.stop (λh d=>?_)
  clear d;refine⟨rfl,_,λw=>stepG_unwind_entry (v:=.tuple #[]) (evs:=#[mk .enable]) rfl H.f_enable (x_enable_n L) (x_enable_b L) (x_enable_x L) (x_enable_f L) (by simp[Extern.Race.none_]) (by simp[mk]) (by simp[mk]),λw b=>⟨1,?_⟩⟩
  u_leave0 H.f_add c b
  exact Goes.stop λ_ _=>rfl
 .have o:((v:Int)+1==1)=ae:=by simpa using k
  repeat (u_c aE c b)
  u_reg c b
  u_op c b
  u_op c b
  u_op c b
  u_op c b
  u_op c b
  u_op c b
  u_op c b
  u_op c b
  u_op c b
  u_op c b
  u_c aA c b
  repeat (u_c aE c b)
  u_cond ae c b
  u_c stepG_skip c b
  repeat (u_c aE c b)
  u_reg c b
  u_op c b
  u_op c b
  u_c aA c b
  repeat (u_c aE c b)
  u_cond ae c b
  u_c stepG_skip c b
  repeat (u_c aE c b)
  u_reg c b
  u_op c b
  u_op c b
  u_op c b
  u_skip c b
  u_skip c b
  u_op c b
  u_op c b
  u_skip c b
  u_skip c b
  u_skip c b
  u_skip c b
  u_op c b
  u_c aA c b
  repeat (u_c aE c b)
  u_cond ae c b
  u_c stepG_skip c b
  repeat (u_c aE c b)
  u_reg c b
  u_op c b
  u_op c b
  u_op c b
  u_skip c b
  u_skip c b
  u_op c b
  u_c aA c b
  repeat (u_c aE c b)
  u_cond ab c b
  u_c stepG_ret' c b
  refine Goes.stop (λh d=>.inr ?_)
  clear d;refine⟨rfl,_,λw=>stepG_unwind_entry (v:=.tuple #[]) (evs:=#[mk .enable]) rfl H.f_enable (x_enable_n L) (x_enable_b L) (x_enable_x L) (x_enable_f L) (by simp[Extern.Race.none_]) (by simp[mk]) (by simp[mk]),λw b=>⟨1,?_⟩⟩
  u_leave0 H.f_add c b
  exact Goes.stop λ_ _=>rfl
end
section
open Go.Conc Go.RowKit Go.Conc.Lib Go.ConcR.Gen
open Go.ConcN (WgLive)
open Go.ConcR (KK WgAt stA smA rd wr mk DC0)
section
variable (P:aq)(R:az->az->Prop)(L:WgLink)(Wg:Nat)(a:au)(b:au->Prop)
def Ul(g:au)(_:az):Prop:=g.status=.running/\∃ g',(∀ w,aK P ab g w=.go g' w #[mk (.acquire (stA Wg))])/\∀ w1,WgLive L.tWg Wg w1->∃ m,Goes P ab R DC0 (λg _=>g=a) m g' w1
def XM(g:au)(_:az):Prop:=g.status=.running/\∃ g',(∀ w,aK P ab g w=.go g' w #[mk .enable])/\∀ w1,WgLive L.tWg Wg w1->∃ m,Goes P ab R DC0 (Ul P R L Wg a) m g' w1
def HW4(g:au)(w:az):Prop:=g.status=.running/\(WgAt L.tWg Wg w 0 0->∃ g',aK P ab g w=.go g' w #[rd (stA Wg)]/\∃ m,Goes P ab R DC0 (XM P R L Wg a) m g' w)
def HW3(g:au)(w:az):Prop:=g.status=.running/\g.offers=af/\((∃ st,WgAt L.tWg Wg w st 0)->aK P ab g w=.go { g with status:=.blocked } w #[]) /\
 (WgAt L.tWg Wg w 0 1->∃ g',aK P ab g w=.go g' (w.setCell (smA Wg) (.int .u32 0)) (semEvents (smA Wg))/\∃ m,Goes P ab R DC0 (HW4 P R L Wg a) m g' (w.setCell (smA Wg) (.int .u32 0)))
def HWr(g:au)(_:az):Prop:=g.status=.running/\∃ g' ad,ad.block=Wg/\(∀ w,aK P ab g w=.go g' w #[mk (.write ad)])/\∀ w1,WgLive L.tWg Wg w1->∃ m,Goes P ab R DC0 (HW3 P R L Wg a) m g' w1
def HW2(vs:Nat)(g:au)(w:az):Prop:=g.status=.running/\∀ v:Nat,v<2147483648->WgAt L.tWg Wg w (v*KK) 0 ->
 (v=vs->∃ g',aK P ab g w=.go g' (w.setCell (stA Wg) (.int .u64 (v*KK+1))) #[rd (stA Wg),wr (stA Wg)]/\∃ m,Goes P ab R DC0 (HWr P R L Wg a) m g' (w.setCell (stA Wg) (.int .u64 (v*KK+1)))) /\
 (v≠vs->∃ g',aK P ab g w=.go g' w #[rd (stA Wg)]/\∃ m,Goes P ab R DC0 (λg _=>b g) m g' w)
def HW1(g:au)(w:az):Prop:=g.status=.running/\∀ v:Nat,v<2147483648->WgAt L.tWg Wg w (v*KK) 0 ->
 ∃ g',aK P ab g w=.go g' w #[rd (stA Wg)]/\(v=0->∃ m,Goes P ab R DC0 (XM P R L Wg a) m g' w)/\(v≠0->∃ m,Goes P ab R DC0 (HW2 P R L Wg a b v) m g' w)
def HKd(g:au)(_:az):Prop:=g.status=.running/\∃ g',(∀ w,aK P ab g w=.go g' w #[mk .disable])/\∀ w1,WgLive L.tWg Wg w1->∃ m,Goes P ab R DC0 (λg _=>b g) m g' w1
end
def Rm(L:WgLink)(Wg:Nat)(c:aR)(cs:List aR)(g:au):Prop :=
 ∃ T:Array ak,g=G ((base L.wait).at ⟨T,[]⟩ [.code (L7 L),.inLoop (L7 L),.inBlock 0]) (c::cs)/\T.size=84/\T[0]?=aa (.pointer (aa ⟨Wg,0,af⟩))
set_option maxRecDepth 100000 in
def D7{L:WgLink}{P:aq}(H:WgLib P L){R:az->az->Prop}{Wg:Nat}(b:∀ {w w1},WgLive L.tWg Wg w->R w w1->WgLive L.tWg Wg w1){c:aR}{cs:List aR}(w:az)(a:WgLive L.tWg Wg w) :
  Goes P ab R DC0 (HKd P R L Wg (Rm L Wg c cs)) 6 (G ((base L.wait).at ⟨#[.pointer (aa ⟨Wg,0,af⟩),aj,aj,aj,aj,aj,aj,aj,aj,aj,aj,aj,aj,aj,aj,aj,aj,aj,aj,aj,aj,aj,aj,aj,aj,aj,aj,aj,aj,aj,aj,aj,aj,aj,aj,aj,aj,aj,aj,aj,aj,aj,aj,aj,aj,aj,aj,aj,aj,aj,aj,aj,aj,aj,aj,aj,aj,aj,aj,aj,aj,aj,aj,aj,aj,aj,aj,aj,aj,aj,aj,aj,aj,aj,aj,aj,aj,aj,aj,aj,aj,aj,aj,aj],[]⟩ [.code (body_wait L)]) (c::cs)) w:=by
 lib_facts
 unfold Rm;simp only[L7,body_wait,waitFn,fI]
 repeat (u_c aE b a)
 u_cond ab b a
 repeat (u_c aE b a)
 u_reg b a
 refine Goes.stop (λe d=>?_)
 clear d;refine⟨rfl,_,λw=>stepG_mark0 .disable (by simp) rfl rfl (by k_ne) rfl H.f_disable (x_disable_n L) (x_disable_b L) (x_disable_x L) (x_disable_f L),λw a=>⟨6,?_⟩⟩
 walk_nrm
 u_c aA b a
 repeat (u_c aE b a)
 u_c stepG_block b a
 u_c stepG_loop b a
 exact Goes.stop λ_ _=>⟨_,rfl,rfl,rfl⟩
end
section
open Go.Conc Go.RowKit Go.Conc.Lib Go.ConcR.Gen
open Go.ConcN (WgLive)
open Go.ConcN.Gen
open Go.ConcR (KK WgAt stA smA rd wr mk DC0)
set_option maxRecDepth 100000 in
def D6{L:WgLink}{P:aq}(H:WgLib P L){R:az->az->Prop}{Wg:Nat}(b:∀ {w w1},WgLive L.tWg Wg w->R w w1->WgLive L.tWg Wg w1){b₀:aR}{a₀:Act}{ops₀:Array aw}{i₀:Nat}{rest₀:List Nat}{k₀:List Item}{cs:List aR}
  (g:au) (A:Rm L Wg (b₀.at a₀ (.inRegion ops₀ (i₀::rest₀)::k₀)) cs g) (w:az) (a:WgLive L.tWg Wg w) :
  ∃ m,Goes P ab R DC0 (HW1 P R L Wg (G (b₀.at (a₀.put ((ops₀[i₀]?).bind (·.dst)) (.tuple #[])) (.inRegion ops₀ rest₀::k₀)) cs) (Rm L Wg (b₀.at a₀ (.inRegion ops₀ (i₀::rest₀)::k₀)) cs)) m g w:=by
 lib_facts
 obtain⟨T,rfl,p,t⟩:=A;obtain⟨v0,v1,v2,v3,v4,v5,v6,v7,v8,v9,v10,v11,v12,v13,M,F,v16,v17,V,y,v20,v21,x,v23,v24,B,v26,v27,X,W,v30,v31,v32,E,v34,v35,v36,v37,v38,v39,v40,v41,v42,Z,v44,z,O,I,v48,D,v50,J,N,v53,v54,v55,K,v57,v58,v59,v60,v61,v62,v63,v64,Q,v66,v67,v68,U,v70,v71,Y,C,v74,v75,v76,v77,u,v79,v80,v81,v82,v83,rfl⟩:=array84 T p;simp only[iI,kW,de] at t;subst t;refine⟨30,?_⟩;unfold Rm;simp only[L7,body_wait,waitFn,fI]
 u_c stepG_block b a
 repeat (u_c aE b a)
 u_reg b a
 u_op b a
 u_op b a
 u_op b a
 u_call H.f_uLoad (nm_uLoad L) uLoadFn b a
 repeat (u_c aE b a)
 u_reg b a
 u_op b a
 u_c aA b a
 repeat (u_c aE b a)
 u_reg b a
 u_op b a
 u_op b a
 u_op b a
 refine Goes.stop (λq j=>?_)
 replace a:=b a j
 clear j;refine⟨rfl,λv hv d=>?_⟩
 rcases oI v with rfl|hvp
 .replace d:WgAt L.tWg Wg q 0 0:=by grind
  refine⟨_,stepG_load_atomic (v:=0) rfl rfl (by k_ne) rfl H.f_loadU64 (x_loadU64_n L) (x_loadU64_b L) (x_loadU64_x L) .u64 (x_loadU64_f L) rfl d.cellSt,λ_=>⟨80,?_⟩,λh=>absurd rfl h⟩
  clear d
  walk_nrm
  u_op b a
  u_c aA b a
  u_c stepG_ret' b a
  u_leave1 H.f_uLoad b a
  u_op b a
  u_c aA b a
  repeat (u_c aE b a)
  u_reg b a
  u_op b a
  u_op b a
  u_op b a
  u_op b a
  u_c aA b a
  repeat (u_c aE b a)
  u_reg b a
  u_op b a
  u_op b a
  u_op b a
  u_op b a
  u_c aA b a
  repeat (u_c aE b a)
  u_reg b a
  u_op b a
  u_op b a
  u_c aA b a
  repeat (u_c aE b a)
  u_cond ab b a
  repeat (u_c aE b a)
  u_cond ab b a
  repeat (u_c aE b a)
  u_reg b a
  refine Goes.stop (λf c=>?_)
  clear c;refine⟨rfl,_,λw=>stepG_mark0 .enable (by simp) rfl rfl (by k_ne) rfl H.f_enable (x_enable_n L) (x_enable_b L) (x_enable_x L) (x_enable_f L),λw a=>⟨20,?_⟩⟩
  walk_nrm
  u_c aA b a
  repeat (u_c aE b a)
  u_reg b a
  u_op b a
  u_conv H.underlying_tWgP H.room_tWg (Go.ConcN.Gen.WgLive.cell0 a).choose_spec b a
  refine Goes.stop (λf c=>?_)
  clear c;refine⟨rfl,_,λw=>stepG_markAt .acquire (by simp) rfl rfl (by k_ne) rfl H.f_acquire (x_acquire_n L) (x_acquire_b L) (x_acquire_x L) (x_acquire_f L) (by simp[Act.eval,stA]),λw a=>⟨40,?_⟩⟩
  walk_nrm
  u_c aA b a
  repeat (u_c aE b a)
  u_reg b a
  u_op b a
  u_op b a
  u_op b a
  u_op b a
  u_op b a
  u_op b a
  u_op b a
  u_op b a
  u_skip b a
  u_skip b a
  u_op b a
  u_c aA b a
  repeat (u_c aE b a)
  u_cond ae b a
  u_c stepG_skip b a
  u_c stepG_ret' b a
  u_leave0 H.f_wait b a
  grind [Goes.stop]
 .obtain⟨S,l⟩:∃ S:Int,(v:Int)*KK=S:=⟨_,rfl⟩;have a1:S / 4294967296=(v:Int):=by rw[<-l];simp only[KK];omega
  have b1:bits .and .u64 S 2147483648=0:=by rw[<-l];have:=Go.ConcN.st_flag v 0 (by omega) (by omega);simpa[KK] using this
  have b2:bits .and .u64 S 2147483647=0:=by rw[<-l];have:=Go.ConcN.st_waiters v 0 (by omega) (by omega);simpa[KK] using this
  have c1:IntKind.i32.wrap (v:Int)=(v:Int):=by grind [IntKind.wrap_i32]
  have w1:IntKind.u64.wrap (S+1)=S+1:=by rw[IntKind.wrap_u64,<-l];simp only[KK];omega
  have q3:decide ((v:Int)<0)=ae:=eu (by omega)
  have q4:decide (0<(v:Int))=ab:=cj (by omega)
  have q5:((v:Int)==0)=ae:=by grind
  have q6:decide ((v:Int)=0)=ae:=eu (by omega)
  rw[l] at d;refine⟨_,stepG_load_atomic (v:=S) rfl rfl (by k_ne) rfl H.f_loadU64 (x_loadU64_n L) (x_loadU64_b L) (x_loadU64_x L) .u64 (x_loadU64_f L) rfl d.cellSt,λh0=>absurd h0 (by omega),λ_=>⟨80,?_⟩⟩
  clear d
  walk_nrm
  u_op b a
  u_c aA b a
  u_c stepG_ret' b a
  u_leave1 H.f_uLoad b a
  u_op b a
  u_c aA b a
  repeat (u_c aE b a)
  u_reg b a
  u_op b a
  u_op b a
  u_op b a
  u_op b a
  u_c aA b a
  repeat (u_c aE b a)
  u_reg b a
  u_op b a
  u_op b a
  u_op b a
  u_op b a
  u_c aA b a
  repeat (u_c aE b a)
  u_reg b a
  u_op b a
  u_op b a
  u_c aA b a
  repeat (u_c aE b a)
  u_cnd ae b a
  u_c stepG_skip b a
  repeat (u_c aE b a)
  u_reg b a
  u_op b a
  u_op b a
  u_op b a
  u_op b a
  u_op b a
  u_op b a
  u_call H.f_uCas (nm_uCas L) uCasFn b a
  repeat (u_c aE b a)
  u_reg b a
  u_op b a
  u_c aA b a
  repeat (u_c aE b a)
  u_reg b a
  u_op b a
  u_op b a
  u_op b a
  u_op b a
  u_op b a
  refine Goes.stop (λf c=>?_)
  replace a:=b a c
  clear c;refine⟨rfl,λv' VI d=>⟨λe=>?_,λe=>?_⟩⟩
  .subst e;rw[l] at d ⊢;refine⟨_,(stepG_cas_hit (v:=S) (n:=S+1) rfl rfl (by k_ne) rfl H.f_casU64 (x_casU64_n L) (x_casU64_b L) (x_casU64_x L) .u64 (x_casU64_f L) rfl rfl rfl d.cellSt (d.thaw 0)).trans (by rfl),90,?_⟩
   replace a:WgLive L.tWg Wg (f.setCell (stA Wg) (.int .u64 (S+1))):=⟨_,_,d.setSt _⟩
   clear d
   walk_nrm
   u_op b a
   u_c aA b a
   u_c stepG_ret' b a
   u_leave1 H.f_uCas b a
   u_c aA b a
   repeat (u_c aE b a)
   u_cond ab b a
   repeat (u_c aE b a)
   u_reg b a
   u_op b a
   u_op b a
   u_op b a
   u_op b a
   u_c aA b a
   repeat (u_c aE b a)
   u_cond ab b a
   repeat (u_c aE b a)
   u_reg b a
   u_op b a
   u_op b a
   u_op b a
   u_conv H.underlying_tPU32 H.room_tU32 (Go.ConcN.Gen.WgLive.cell1 a).choose_spec b a
   refine Goes.stop (λf c=>?_)
   clear c;refine⟨rfl,_,⟨Wg,1,af⟩,rfl,λw=>stepG_markAt .write (by simp) rfl rfl (by k_ne) rfl H.f_raceWrite (x_raceWrite_n L) (x_raceWrite_b L) (x_raceWrite_x L) (x_raceWrite_f L) (ad:=⟨Wg,1,af⟩) (by simp[Act.eval]),λw a=>⟨60,?_⟩⟩
   walk_nrm
   u_c aA b a
   repeat (u_c aE b a)
   u_reg b a
   u_op b a
   u_c aA b a
   repeat (u_c aE b a)
   u_reg b a
   u_op b a
   u_op b a
   u_op b a
   u_op b a
   u_skip b a
   u_op b a
   u_c aA b a
   repeat (u_c aE b a)
   u_cond ae b a
   u_c stepG_skip b a
   repeat (u_c aE b a)
   u_reg b a
   u_op b a
   u_op b a
   u_op b a
   u_op b a
   refine Goes.stop (λo k=>?_)
   replace a:=b a k
   clear k;refine⟨rfl,rfl,λ⟨st,d⟩=>stepG_semacquire_wait rfl rfl rfl H.f_semacquire (x_semacquire_n L) (x_semacquire_b L) (x_semacquire_x L) (x_semacquire_f L) (by simp[Act.eval,smA]) d.cellSm,λr=>?_⟩
   refine⟨_,(stepG_semacquire (n:=1) rfl rfl (by k_ne) rfl H.f_semacquire (x_semacquire_n L) (x_semacquire_b L) (x_semacquire_x L) (x_semacquire_f L) (by simp[Act.eval,smA]) r.cellSm (by k_ne) (r.thaw 1)).trans (by rfl),40,?_⟩
   replace a:WgLive L.tWg Wg (o.setCell (smA Wg) (.int .u32 0)):=⟨_,_,r.setSm 0⟩
   clear r
   walk_nrm
   u_c aA b a
   repeat (u_c aE b a)
   u_reg b a
   u_op b a
   u_op b a
   u_op b a
   u_call H.f_uLoad (nm_uLoad L) uLoadFn b a
   repeat (u_c aE b a)
   u_reg b a
   u_op b a
   u_c aA b a
   repeat (u_c aE b a)
   u_reg b a
   u_op b a
   u_op b a
   u_op b a
   refine Goes.stop (λs i=>?_)
   replace a:=b a i
   clear i;refine⟨rfl,λd=>⟨_,stepG_load_atomic (v:=0) rfl rfl (by k_ne) rfl H.f_loadU64 (x_loadU64_n L) (x_loadU64_b L) (x_loadU64_x L) .u64 (x_loadU64_f L) rfl d.cellSt,40,?_⟩⟩
   clear d
   walk_nrm
   u_op b a
   u_c aA b a
   u_c stepG_ret' b a
   u_leave1 H.f_uLoad b a
   u_op b a
   u_op b a
   u_c aA b a
   repeat (u_c aE b a)
   u_cond ab b a
   repeat (u_c aE b a)
   u_reg b a
   refine Goes.stop (λf c=>?_)
   clear c;refine⟨rfl,_,λw=>stepG_mark0 .enable (by simp) rfl rfl (by k_ne) rfl H.f_enable (x_enable_n L) (x_enable_b L) (x_enable_x L) (x_enable_f L),λw a=>⟨20,?_⟩⟩
   walk_nrm
   u_c aA b a
   repeat (u_c aE b a)
   u_reg b a
   u_op b a
   u_conv H.underlying_tWgP H.room_tWg (Go.ConcN.Gen.WgLive.cell0 a).choose_spec b a
   refine Goes.stop (λf c=>?_)
   clear c;refine⟨rfl,_,λw=>stepG_markAt .acquire (by simp) rfl rfl (by k_ne) rfl H.f_acquire (x_acquire_n L) (x_acquire_b L) (x_acquire_x L) (x_acquire_f L) (by simp[Act.eval,stA]),λw a=>⟨40,?_⟩⟩
   walk_nrm
   u_c aA b a
   repeat (u_c aE b a)
   u_reg b a
   u_op b a
   u_c aA b a
   repeat (u_c aE b a)
   u_cond ae b a
   u_c stepG_skip b a
   u_c stepG_ret' b a
   u_leave0 H.f_wait b a
   grind [Goes.stop]
  .refine⟨_,stepG_cas_miss (v:=(v':Int)*KK) (old:=S) (n:=S+1) rfl rfl (by k_ne) rfl H.f_casU64 (x_casU64_n L) (x_casU64_b L) (x_casU64_x L) .u64 (x_casU64_f L) rfl rfl rfl d.cellSt (d.thaw 0) (by rw[<-l];simp only[KK];omega),30,?_⟩
   clear d
   walk_nrm
   u_op b a
   u_c aA b a
   u_c stepG_ret' b a
   u_leave1 H.f_uCas b a
   u_c aA b a
   repeat (u_c aE b a)
   u_cond ae b a
   u_c stepG_skip b a
   u_c stepG_inBlock b a
   u_c stepG_inLoop b a
   exact Goes.stop λ_ _=>⟨_,rfl,by simp,by simp⟩
end
section
open Go.Conc Go.Conc.Lib
open Go.ConcN (WgLive)
open Go.ConcR (KK WgAt stA smA rd wr mk DC0 Payload)
def fi(ty:ar)(Wg:Nat)(w w1:az):Prop:=WgLive ty Wg w->WgLive ty Wg w1
def fi.refl{ty:ar}{Wg:Nat}(w:az):fi ty Wg w w:=id
def fi.trans{ty:ar}{Wg:Nat}{a b c:az}(h:fi ty Wg a b)(k:fi ty Wg b c):fi ty Wg a c:=λx=>k (h x)
def xL(R:az->az->Prop)(Stop:au->az->Prop)(g:au)(w:az):Prop:=∀ w1,R w w1->Stop g w1
def Goes.all{P:aq}{main:Bool}{R:az->az->Prop}{D:az->az->Array Event->Prop}{Stop:au->az->Prop}(k:∀ a b c,R a b->R b c->R a c) :
  ∀ {n:Nat} {g:au} {w:az},Goes P main R D Stop n g w->Goes P main R D (xL R Stop) n g w
 |0,g,w,h=>λw1 l w2 p=>h w2 (k _ _ _ l p)
 |n+1,g,w,h=>by
  rcases h with h|⟨d,h⟩
  .exact .inl λw1 l w2 p=>h w2 (k _ _ _ l p)
  .refine .inr ⟨d,λw1 l=>?_⟩
   have p:=h w1 l;cases j:aK P main g w1 with
   |go g' w' es =>
    rw[j,goes_go] at p;rw[goes_go];exact⟨p.1,Goes.all k p.2⟩
   |_=>rw[j] at p;exact p.elim
structure Apart (Wg:Nat)(F:St->Prop):Prop where
 rely:∀ s s',F s->cg s s'->F s'
 heap:∀ s,F s->∃ σ,aJ σ s
 free:∀ s,F s->¬s.own Wg/\(∀ L∈s.β,Wg∉L.bs)/\∀ o,s.M Wg o=af
section
variable {P:aq}{L:WgLink}{Wg:Nat}{F:St->Prop}
def yv(ty:ar)(Wg:Nat)(F:St->Prop)(s:St):Prop:=F s/\WgLive ty Wg s.w
def Apart.PT(A:Apart Wg F){s:St}(h:F s):gx s:=(A.heap s h).choose_spec.mem
def Apart.set(A:Apart Wg F){s:St}(h:F s)(a:Addr)(x:a.block=Wg)(v:ak):cg s { s with w:=s.w.setCell a v }:=by
 obtain⟨l,p,y⟩:=A.free s h;have j:∀ b,b≠Wg->(s.w.setCell a v).heap[b]?=s.w.heap[b]?:=λb hb=>by
  have:=(aside_setCell s.w a v).block b (by grind)
  exact this
 refine⟨rfl,rfl,rfl,Nat.le_of_eq (aside_setCell s.w a v).size.symm,λb hb=>j b ?_,λb o u k=>?_,(aside_setCell s.w a v).os,(aside_setCell s.w a v).tape,(aside_setCell s.w a v).output⟩
 .grind
 .have C:b≠Wg:=by grind
  show (s.w.setCell a v).cell? _=_;rw[jN (j b C) o];exact A.PT h b o u k
def Apart.next(A:Apart Wg F){ty:ar}{s i:St}(h:yv ty Wg F s)(r:(Cx.lead P ty Wg).rely s i):yv ty Wg F i:=⟨A.rely s i h.1 r.1,r.2 h.2⟩
def Apart.here(A:Apart Wg F){ty:ar}{s:St}(h:yv ty Wg F s):(Cx.lead P ty Wg).rely s s:=⟨cg.vV (A.PT h.1),id⟩
def Apart.goes(A:Apart Wg F){ty:ar}{S:au->St->Prop}{Stop:au->az->Prop}(k:∀ g s,yv ty Wg F s->xL (fi ty Wg) Stop g s.w->ek (Cx.lead P ty Wg) (Es Wg) S g s){n:Nat}{g:au}{s:St}
  (d:yv ty Wg F s) (h:Goes P ab (fi ty Wg) DC0 Stop n g s.w):ek (Cx.lead P ty Wg) (Es Wg) S g s:=by
 refine ek.goes (X:=Cx.lead P ty Wg) (R:=fi ty Wg) (D:=DC0) (Stop:=xL (fi ty Wg) Stop) (yv ty Wg F) (λs i hi f=>A.next hi f) (λs i _ f=>f.2) ?_ (λs hi=>A.here hi) k n g s d (Goes.all (λ_ _ _ l p=>l.trans p) h)
 rintro s es hi w' ⟨rfl,rfl⟩;exact⟨rfl,.inl (.quiet (A.heap s hi.1).choose_spec)⟩
end
set_option maxRecDepth 100000 in
def D5{P:aq}{L:WgLink}(H:WgLib P L){Wg:Nat}:Frame.enter P L.add #[.pointer (aa ⟨Wg,0,af⟩),.int .i64 1] .normal=(base L.add).at ⟨#[.pointer (aa ⟨Wg,0,af⟩),.int .i64 1,aj,aj,aj,aj,aj,aj,aj,aj,aj,aj,aj,aj,aj,aj,aj,aj,aj,aj,aj,aj,aj,aj,aj,aj,aj,aj,aj,aj,aj,aj,aj,aj,aj,aj,aj,aj,aj,aj,aj,aj,aj,aj,aj,aj,aj,aj,aj,aj,aj,aj,aj,aj,aj,aj,aj,aj,aj,aj,aj,aj,aj,aj,aj,aj,aj,aj,aj,aj,aj,aj,aj,aj,aj,aj,aj,aj,aj,aj,aj,aj,aj,aj,aj,aj,aj,aj,aj,aj,aj,aj,aj,aj,aj,aj,aj,aj,aj,aj,aj,aj,aj,aj,aj,aj,aj,aj,aj,aj,aj,aj,aj,aj,aj,aj,aj],[]⟩ [.code (Go.ConcR.Gen.body_add L)] :=
 (enter_at (c:=Go.ConcR.Gen.body_add L) _ H.f_add (by kernel_rfl)).trans (by kernel_rfl)
set_option maxRecDepth 100000 in
def BZ{P:aq}{L:WgLink}(H:WgLib P L){Wg:Nat}:Frame.enter P L.wait #[.pointer (aa ⟨Wg,0,af⟩)] .normal=(base L.wait).at ⟨#[.pointer (aa ⟨Wg,0,af⟩),aj,aj,aj,aj,aj,aj,aj,aj,aj,aj,aj,aj,aj,aj,aj,aj,aj,aj,aj,aj,aj,aj,aj,aj,aj,aj,aj,aj,aj,aj,aj,aj,aj,aj,aj,aj,aj,aj,aj,aj,aj,aj,aj,aj,aj,aj,aj,aj,aj,aj,aj,aj,aj,aj,aj,aj,aj,aj,aj,aj,aj,aj,aj,aj,aj,aj,aj,aj,aj,aj,aj,aj,aj,aj,aj,aj,aj,aj,aj,aj,aj,aj,aj],[]⟩ [.code (Go.ConcR.Gen.body_wait L)] :=
 (enter_at (c:=Go.ConcR.Gen.body_wait L) _ H.f_wait (by kernel_rfl)).trans (by kernel_rfl)
section
variable [Payload] {P:aq}{L:WgLink}{Y:Lay}{F:St->Prop}{N n:Nat}{val:Nat->Nat->ak}
def XK(H:WgLib P L)(A:Apart Y.Wg F){j:Nat}{Next:au->St->Prop}{b₀:aR}{a₀:Act}{ops₀:Array aw}{i₀:Nat}{rest₀:List Nat}{k₀:List Item}{cs:List aR}
  (o:∀ s,yv L.tWg Y.Wg F s->ek (Cx.lead P L.tWg Y.Wg) (Es Y.Wg) (AtGo P L.tWg Y N val j Next) (G (b₀.at (a₀.put ((ops₀[i₀]?).bind (·.dst)) (.tuple #[])) (.inRegion ops₀ rest₀::k₀)) cs) s)
  {s:St} (d:yv L.tWg Y.Wg F s) :
  ek (Cx.lead P L.tWg Y.Wg) (Es Y.Wg) (AtKdS P L.tWg Y N val j Next) (G (Frame.enter P L.add #[.pointer (aa ⟨Y.Wg,0,af⟩),.int .i64 1] .normal) (b₀.at a₀ (.inRegion ops₀ (i₀::rest₀)::k₀)::cs)) s:=by
 have z:∀ g s,yv L.tWg Y.Wg F s->XL P (fi L.tWg Y.Wg) L Y.Wg (G (b₀.at (a₀.put ((ops₀[i₀]?).bind (·.dst)) (.tuple #[])) (.inRegion ops₀ rest₀::k₀)) cs) g s.w->ek (Cx.lead P L.tWg Y.Wg) (Es Y.Wg) (AtKeS P L.tWg Y N val j Next) g s:=by
  rintro g s d ⟨l,g',p,y⟩;refine⟨.leaf,l,g',p,λi f=>?_⟩
  have a:=A.next d f;obtain⟨m,q⟩:=y i.w a.2;exact A.goes (λg s d h=>by obtain rfl:=h s.w (.refl _);grind) a q
 have k:∀ g s,yv L.tWg Y.Wg F s->xL (fi L.tWg Y.Wg) (GA1 P (fi L.tWg Y.Wg) L Y.Wg (G (b₀.at (a₀.put ((ops₀[i₀]?).bind (·.dst)) (.tuple #[])) (.inRegion ops₀ rest₀::k₀)) cs)) g s.w->ek (Cx.lead P L.tWg Y.Wg) (Es Y.Wg) (AtA1 P L.tWg Y N val j Next) g s:=by
  rintro g s d h;refine⟨.leaf,(h s.w (.refl _)).1,λi f v I t=>?_⟩
  have a:=A.next d f;obtain⟨g',l,m,q⟩:=(h i.w f.2).2 v I t;have b:yv L.tWg Y.Wg F { i with w:=i.w.setCell (stA Y.Wg) (.int .u64 ((v+1)*KK)) }:=⟨A.rely _ _ a.1 (A.set a.1 _ rfl _),⟨_,_,t.setSt _⟩⟩;refine⟨g',l,A.goes (λg s d h=>?_) b q⟩
  rcases h s.w (.refl _) with h|h
  .obtain⟨l,g',ad,p,y,h4⟩:=h;refine .step l λi f=>⟨g',i,_,y i.w,.inr ⟨rfl,ad,p,.inl rfl⟩,?_⟩
   have a:=A.next d f;obtain⟨m,q⟩:=h4 i.w a.2;exact A.goes (λg s d h=>z g s d (h s.w (.refl _))) a q
  grind
 have t:=NZ (P:=P) (L:=L) H (R:=fi L.tWg Y.Wg) (Wg:=Y.Wg) (λh r=>r h) (b₀:=b₀) (a₀:=a₀) (ops₀:=ops₀) (i₀:=i₀) (rest₀:=rest₀) (k₀:=k₀) (cs:=cs) s.w d.2
 rw[D5 H];refine A.goes (λg s d h=>?_) d t
 obtain⟨l,g',p,y⟩:=h s.w (.refl _);refine⟨.leaf,l,g',p,λi f=>?_⟩
 have a:=A.next d f;obtain⟨m,q⟩:=y i.w a.2;exact A.goes k a q
section
variable (P L Y F)
def TW(B g:au)(s:St):Prop:=yv L.tWg Y.Wg F s/\∃ m,Goes P ab (fi L.tWg Y.Wg) DC0 (λg _=>g=B) m g s.w
def FX(c:aR)(cs:List aR)(g:au)(s:St):Prop:=yv L.tWg Y.Wg F s/\∃ m,Goes P ab (fi L.tWg Y.Wg) DC0 (λg _=>Rm L Y.Wg c cs g) m g s.w
end
variable {b₀:aR}{a₀:Act}{ops₀:Array aw}{i₀:Nat}{rest₀:List Nat}{k₀:List Item}{cs:List aR}
omit [Payload] in
def Uk(H:WgLib P L)(A:Apart Y.Wg F){T J:au->St->Prop}(K:∀ g s,TW P L Y F (G (b₀.at (a₀.put ((ops₀[i₀]?).bind (·.dst)) (.tuple #[])) (.inRegion ops₀ rest₀::k₀)) cs) g s->T g s)
  (E:∀ g s,FX P L Y F (b₀.at a₀ (.inRegion ops₀ (i₀::rest₀)::k₀)) cs g s->J g s) {g:au} {s:St} (h:FX P L Y F (b₀.at a₀ (.inRegion ops₀ (i₀::rest₀)::k₀)) cs g s) :
  ek (Cx.lead P L.tWg Y.Wg) (Es Y.Wg) (AtW1 P L.tWg Y T J) g s:=by
 generalize hc:b₀.at a₀ (.inRegion ops₀ (i₀::rest₀)::k₀)=c at *;generalize U:G (b₀.at (a₀.put ((ops₀[i₀]?).bind (·.dst)) (.tuple #[])) (.inRegion ops₀ rest₀::k₀)) cs=B at K;have O:∀ g s,yv L.tWg Y.Wg F s->xL (fi L.tWg Y.Wg) (Ul P (fi L.tWg Y.Wg) L Y.Wg B) g s.w->ek (Cx.lead P L.tWg Y.Wg) (Es Y.Wg) (AtAcq P L.tWg Y T) g s:=by
  intro g s d h;obtain⟨l,g',p,y⟩:=h s.w (.refl _);exact⟨.leaf,l,g',p,λi f=>K _ _ ⟨A.next d f,y i.w (A.next d f).2⟩⟩
 have z:∀ g s,yv L.tWg Y.Wg F s->xL (fi L.tWg Y.Wg) (XM P (fi L.tWg Y.Wg) L Y.Wg B) g s.w->ek (Cx.lead P L.tWg Y.Wg) (Es Y.Wg) (AtKe P L.tWg Y T) g s:=by
  intro g s d h;obtain⟨l,g',p,y⟩:=h s.w (.refl _);refine⟨.leaf,l,g',p,λi f=>?_⟩
  obtain⟨m,q⟩:=y i.w (A.next d f).2;exact A.goes O (A.next d f) q
 have Z:∀ g s,yv L.tWg Y.Wg F s->xL (fi L.tWg Y.Wg) (HW4 P (fi L.tWg Y.Wg) L Y.Wg B) g s.w->ek (Cx.lead P L.tWg Y.Wg) (Es Y.Wg) (AtW4 P L.tWg Y T) g s:=by
  intro g s d h;refine⟨.leaf,(h s.w (.refl _)).1,λi f t=>?_⟩
  obtain⟨g',l,m,q⟩:=(h i.w f.2).2 t;exact⟨g',l,A.goes z (A.next d f) q⟩
 have V:∀ g s,yv L.tWg Y.Wg F s->xL (fi L.tWg Y.Wg) (HW3 P (fi L.tWg Y.Wg) L Y.Wg B) g s.w->ek (Cx.lead P L.tWg Y.Wg) (Es Y.Wg) (AtW3 P L.tWg Y T) g s:=by
  intro g s d h;refine⟨.leaf,(h s.w (.refl _)).1,(h s.w (.refl _)).2.1,λi f=>⟨(h i.w f.2).2.2.1,λt=>?_⟩⟩
  obtain⟨g',l,m,q⟩:=(h i.w f.2).2.2.2 t;exact⟨g',l,A.goes Z (s:={ i with w:=i.w.setCell (smA Y.Wg) (.int .u32 0) }) ⟨A.rely _ _ (A.next d f).1 (A.set (A.next d f).1 _ rfl _),⟨_,_,t.setSm 0⟩⟩ q⟩
 have W:∀ g s,yv L.tWg Y.Wg F s->xL (fi L.tWg Y.Wg) (HWr P (fi L.tWg Y.Wg) L Y.Wg B) g s.w->ek (Cx.lead P L.tWg Y.Wg) (Es Y.Wg) (AtW3 P L.tWg Y T) g s:=by
  intro g s d h;obtain⟨l,g',ad,p,y,h4⟩:=h s.w (.refl _);refine .step l λi f=>⟨g',i,_,y i.w,.inr ⟨rfl,ad,p,.inr rfl⟩,?_⟩
  obtain⟨m,q⟩:=h4 i.w (A.next d f).2;exact A.goes V (A.next d f) q
 have Q:∀ (v:Nat) g s,yv L.tWg Y.Wg F s->xL (fi L.tWg Y.Wg) (HW2 P (fi L.tWg Y.Wg) L Y.Wg B (Rm L Y.Wg c cs) v) g s.w->ek (Cx.lead P L.tWg Y.Wg) (Es Y.Wg) (AtW2 P L.tWg Y T J v) g s:=by
  intro vs g s d h;refine⟨.leaf,(h s.w (.refl _)).1,λi f v I t=>⟨λe=>?_,λe=>?_⟩⟩
  .obtain⟨g',l,m,q⟩:=((h i.w f.2).2 v I t).1 e;exact⟨g',l,A.goes W (s:={ i with w:=i.w.setCell (stA Y.Wg) (.int .u64 (v*KK+1)) }) ⟨A.rely _ _ (A.next d f).1 (A.set (A.next d f).1 _ rfl _),⟨_,_,t.setSt _⟩⟩ q⟩
  .obtain⟨g',l,m,q⟩:=((h i.w f.2).2 v I t).2 e;exact⟨g',l,E _ _ ⟨A.next d f,m,q⟩⟩
 obtain⟨d,m,q⟩:=h;refine A.goes (λg s d h=>?_) d q
 obtain⟨m,t⟩:=D6 (P:=P) (L:=L) H (R:=fi L.tWg Y.Wg) (Wg:=Y.Wg) (λh r=>r h) (b₀:=b₀) (a₀:=a₀) (ops₀:=ops₀) (i₀:=i₀) (rest₀:=rest₀) (k₀:=k₀) (cs:=cs) g (by rw[hc];exact h s.w (.refl _)) s.w d.2
 rw[hc,U] at t;refine A.goes (λg s d h=>?_) d t
 refine⟨.leaf,(h s.w (.refl _)).1,λi f v I t=>?_⟩
 obtain⟨g',l,p,y⟩:=(h i.w f.2).2 v I t;refine⟨g',l,λh0=>?_,λC=>?_⟩
 .obtain⟨m,q⟩:=p h0;exact A.goes z (A.next d f) q
 .obtain⟨m,q⟩:=y C;exact A.goes (Q v) (A.next d f) q
omit [Payload] in
def Um(H:WgLib P L)(A:Apart Y.Wg F){c:aR}{J:au->St->Prop}(E:∀ g s,FX P L Y F c cs g s->J g s){s:St}(d:yv L.tWg Y.Wg F s) :
  ek (Cx.lead P L.tWg Y.Wg) (Es Y.Wg) (AtKd P L.tWg Y J) (G (Frame.enter P L.wait #[.pointer (aa ⟨Y.Wg,0,af⟩)] .normal) (c::cs)) s:=by
 have t:=D7 (P:=P) (L:=L) H (R:=fi L.tWg Y.Wg) (Wg:=Y.Wg) (λh r=>r h) (c:=c) (cs:=cs) s.w d.2
 rw[BZ H];refine A.goes (λg s d h=>?_) d t
 obtain⟨l,g',p,y⟩:=h s.w (.refl _);exact⟨.leaf,l,g',p,λi f=>E _ _ ⟨A.next d f,y i.w (A.next d f).2⟩⟩
end
end
end Go.AM
namespace Go.AM.R1
section
open Go.Proofs Go.Conc.Lib
def PZ:WgLink:={ add:=74,done:=76,wait:=78,relMerge:=124,disable:=125,enable:=126,inBubble:=127,associate:=128,fatal:=129,uOr:=130,uAdd:=131,raceRead:=132,uLoad:=133,uStore:=134,disassociate:=135,semrelease:=136,acquire:=138,isAssociated:=139,uCas:=140,raceWrite:=141,semacquire:=142,orU64:=167,addU64:=168,loadU64:=169,storeU64:=170,casU64:=174,tWgP:=174,tUP:=176,tAssoc:=178,tWg:=139,tAU:=136,tU64:=134,tUint:=182,tU32:=137,tPU32:=183,tPAU:=215,tPU64:=217,tNoCopy:=131,tANoCopy:=132,tAlign64:=133 }
def Cf:WgLib ah PZ where
 f_add:=Tryz.func74.trans (dn aa (by kernel_rfl))
 f_done:=Tryz.func76.trans (dn aa (by kernel_rfl))
 f_wait:=Tryz.func78.trans (dn aa (by kernel_rfl))
 f_relMerge:=Tryz.func124.trans (dn aa (by kernel_rfl))
 f_disable:=Tryz.func125.trans (dn aa (by kernel_rfl))
 f_enable:=Tryz.func126.trans (dn aa (by kernel_rfl))
 f_inBubble:=Tryz.func127.trans (dn aa (by kernel_rfl))
 f_associate:=Tryz.func128.trans (dn aa (by kernel_rfl))
 f_fatal:=Tryz.func129.trans (dn aa (by kernel_rfl))
 f_uOr:=Tryz.func130.trans (dn aa (by kernel_rfl))
 f_uAdd:=Tryz.func131.trans (dn aa (by kernel_rfl))
 f_raceRead:=Tryz.func132.trans (dn aa (by kernel_rfl))
 f_uLoad:=Tryz.func133.trans (dn aa (by kernel_rfl))
 f_uStore:=Tryz.func134.trans (dn aa (by kernel_rfl))
 f_disassociate:=Tryz.func135.trans (dn aa (by kernel_rfl))
 f_semrelease:=Tryz.func136.trans (dn aa (by kernel_rfl))
 f_acquire:=Tryz.func138.trans (dn aa (by kernel_rfl))
 f_isAssociated:=Tryz.func139.trans (dn aa (by kernel_rfl))
 f_uCas:=Tryz.func140.trans (dn aa (by kernel_rfl))
 f_raceWrite:=Tryz.func141.trans (dn aa (by kernel_rfl))
 f_semacquire:=Tryz.func142.trans (dn aa (by kernel_rfl))
 f_orU64:=Tryz.func167.trans (dn aa (by kernel_rfl))
 f_addU64:=Tryz.func168.trans (dn aa (by kernel_rfl))
 f_loadU64:=Tryz.func169.trans (dn aa (by kernel_rfl))
 f_storeU64:=Tryz.func170.trans (dn aa (by kernel_rfl))
 f_casU64:=Tryz.func174.trans (dn aa (by kernel_rfl))
 underlying_tWgP:=Tryz.underlying174
 runUnderlying_tWgP:=Tryz.runUnderlying174
 sizeOf_tWgP:=Tryz.sizeOf174
 isAgg_tWgP:=Tryz.isAgg174
 zeroValue_tWgP:=Tryz.zeroValue174
 underlying_tUP:=Tryz.underlying176
 runUnderlying_tUP:=Tryz.runUnderlying176
 sizeOf_tUP:=Tryz.sizeOf176
 isAgg_tUP:=Tryz.isAgg176
 zeroValue_tUP:=Tryz.zeroValue176
 underlying_tI32:=Tryz.underlying178
 runUnderlying_tI32:=Tryz.runUnderlying178
 sizeOf_tI32:=Tryz.sizeOf178
 isAgg_tI32:=Tryz.isAgg178
 zeroValue_tI32:=Tryz.zeroValue178
 underlying_tWg:=Tryz.underlying139
 runUnderlying_tWg:=Tryz.runUnderlying139
 sizeOf_tWg:=Tryz.sizeOf139
 isAgg_tWg:=Tryz.isAgg139
 zeroValue_tWg:=Tryz.zeroValue139
 underlying_tAU:=Tryz.underlying136
 runUnderlying_tAU:=Tryz.runUnderlying136
 sizeOf_tAU:=Tryz.sizeOf136
 isAgg_tAU:=Tryz.isAgg136
 zeroValue_tAU:=Tryz.zeroValue136
 underlying_tU64:=Tryz.underlying134
 runUnderlying_tU64:=Tryz.runUnderlying134
 sizeOf_tU64:=Tryz.sizeOf134
 isAgg_tU64:=Tryz.isAgg134
 zeroValue_tU64:=Tryz.zeroValue134
 underlying_tSh:=Tryz.underlying182
 runUnderlying_tSh:=Tryz.runUnderlying182
 sizeOf_tSh:=Tryz.sizeOf182
 isAgg_tSh:=Tryz.isAgg182
 zeroValue_tSh:=Tryz.zeroValue182
 underlying_tU32:=Tryz.underlying137
 runUnderlying_tU32:=Tryz.runUnderlying137
 sizeOf_tU32:=Tryz.sizeOf137
 isAgg_tU32:=Tryz.isAgg137
 zeroValue_tU32:=Tryz.zeroValue137
 underlying_tPU32:=Tryz.underlying183
 runUnderlying_tPU32:=Tryz.runUnderlying183
 sizeOf_tPU32:=Tryz.sizeOf183
 isAgg_tPU32:=Tryz.isAgg183
 zeroValue_tPU32:=Tryz.zeroValue183
 underlying_tPAU:=Tryz.underlying215
 runUnderlying_tPAU:=Tryz.runUnderlying215
 sizeOf_tPAU:=Tryz.sizeOf215
 isAgg_tPAU:=Tryz.isAgg215
 zeroValue_tPAU:=Tryz.zeroValue215
 underlying_tPU64:=Tryz.underlying217
 runUnderlying_tPU64:=Tryz.runUnderlying217
 sizeOf_tPU64:=Tryz.sizeOf217
 isAgg_tPU64:=Tryz.isAgg217
 zeroValue_tPU64:=Tryz.zeroValue217
 underlying_t0:=Tryz.underlying0
 runUnderlying_t0:=Tryz.runUnderlying0
 sizeOf_t0:=Tryz.sizeOf0
 isAgg_t0:=Tryz.isAgg0
 zeroValue_t0:=Tryz.zeroValue0
 underlying_t3:=Tryz.underlying3
 runUnderlying_t3:=Tryz.runUnderlying3
 sizeOf_t3:=Tryz.sizeOf3
 isAgg_t3:=Tryz.isAgg3
 zeroValue_t3:=Tryz.zeroValue3
 underlying_t4:=Tryz.underlying4
 runUnderlying_t4:=Tryz.runUnderlying4
 sizeOf_t4:=Tryz.sizeOf4
 isAgg_t4:=Tryz.isAgg4
 zeroValue_t4:=Tryz.zeroValue4
 underlying_t9:=Tryz.underlying9
 runUnderlying_t9:=Tryz.runUnderlying9
 sizeOf_t9:=Tryz.sizeOf9
 isAgg_t9:=Tryz.isAgg9
 zeroValue_t9:=Tryz.zeroValue9
 underlying_t20:=Tryz.underlying20
 runUnderlying_t20:=Tryz.runUnderlying20
 sizeOf_t20:=Tryz.sizeOf20
 isAgg_t20:=Tryz.isAgg20
 zeroValue_t20:=Tryz.zeroValue20
 underlying_t21:=Tryz.underlying21
 runUnderlying_t21:=Tryz.runUnderlying21
 sizeOf_t21:=Tryz.sizeOf21
 isAgg_t21:=Tryz.isAgg21
 zeroValue_t21:=Tryz.zeroValue21
 room_tWg:=by kernel_rfl
 room_tU32:=by kernel_rfl
end
end Go.AM.R1
namespace Go.AM
section
open Go.Conc (G)
structure Kk {P:aq}(X:Cx P)(N:Nat)(ops:Array aw)(φ:Fr)(σ:List aV)(x:Nat->D)(c:Nat->Fr)(idx:Nat->Option Nat)(last:Nat):Prop where
 back:∀ i o,ops[i]?=aa o->∀ e∈o.after,cZ e=ab->e.on<i
 Jq:∀ i o d,ops[i]?=aa o->o.dst=aa d->idx d=aa i/\d<N
 xE:∀ d i,idx d=aa i->∃ o,ops[i]?=aa o/\o.dst=aa d
 one:∀ i o,ops[i]?=aa o->i≠last->OA X N ops.toList o (c i) σ (x i) σ
 SX:∀ i o,ops[i]?=aa o->i≠last->∀ t σ s v,c8 σ s v (match idx t with|some j=>(if ∃ e∈o.after,cZ e=ab/\e.on=j then x j else .any)|none=>look φ t)->c8 σ s v (look (c i) t)
 V6:∀ o,ops[last]?=aa o->∀ j,j<ops.size->j≠last->∃ e∈o.after,cZ e=ab/\e.on=j
 has:last<ops.size
section
variable {P:aq}{X:Cx P}{N:Nat}{ops:Array aw}{φ:Fr}{σ:List aV}{x:Nat->D}{c:Nat->Fr}{idx:Nat->Option Nat}{last:Nat}
theorem BV{a t:Nat}{L:Array Bool}(h:∀ i,i<ops.size->L.getD i ab=ab):Region.linearise.go .any ops a t L []=[]:=by
 cases a with
 |zero=>exact vJ t L
 |succ n =>
  have b:bd .any ops L=[]:=by
   cases b:bd .any ops L with
   |nil=>rfl
   |cons y d =>
    have e:y∈bd .any ops L:=by grind
    grind [mem_ready]
  grind [oS]
def Kk.arr(h:Kk X N ops φ σ x c idx last){Y:au->St->Prop}{b:aR}{kk:List Item}{cs:List aR}(hb:b.kind≠.early){s0:St}
  (hQ:∀ s a,a.tmps.size=N->(∀ t,c8 σ s (a.tmps.getD t aj) (match idx t with|some j=>if j=last then .any else x j|none=>look φ t))->a.defers=[]->aJ σ s->cB σ s0 σ s->fp X Y (G (b.aT a (.inRegion ops [last]::kk)) cs) s) :
  ∀ (f:Nat) (L:Array Bool),L.size=ops.size->(L.toList.filter (λb=>!b)).length<=f->¬L.getD last ae=ab ->
   (∀ i o,ops[i]?=aa o->L.getD i ae=ab->∀ e∈o.after,cZ e=ab->L.getD e.on ae=ab) ->
   ∀ (s:St) (a:Act),IN N σ s (fZ φ x idx L) a->a.defers=[]->aJ σ s->cB σ s0 σ s ->
   ∀ t,fp X Y (G (b.aT a (.inRegion ops (Region.linearise.go .any ops f t L [])::kk)) cs) s:=by
 intro f
 induction f with
 |zero =>
  intro L hs hf m O s a g I hh st t;exfalso;have hm:L[last]'(by have:=h.has;omega)∈L.toList:=by simp
  have M:=h.has;cases hb:L[last]'(by omega) with
  |true=>exact m (by simp[dC,fQ (by omega:last<L.size),hb])
  |false =>
   have:L[last]'(by omega)∈L.toList.filter (λb=>!b):=mc.2 ⟨hm,by grind⟩
   grind
 |succ f ih =>
  intro L hs hf m O s a g I hh st t;rw[oS];cases J:(bd .any ops L)[t % (bd .any ops L).length]? with
  |none =>
   exfalso;have hr:bd .any ops L=[]:=by
    cases hr:bd .any ops L with
    |nil=>rfl
    |cons y ys =>
     grind [Nat.mod_lt]
   have F:∀ i,i<ops.size->L.getD i ae=ab:=by
    intro i
    induction i using Nat.strongRecOn with
    |_ i ihi =>
     intro hi;cases hb:L.getD i ae with
     |true=>rfl
     |false =>
      have hm:i∈bd .any ops L:=mem_ready.2 ⟨ops[i],fQ hi,by
       grind,λe R u=>by
       have:=h.back i _ (fQ hi) e R u
       grind⟩
      grind
   exact m (F last h.has)
  |some i =>
   have hi:=bT J;obtain⟨o,C,ZA,QF⟩:=mem_ready.1 hi;have M:i<ops.size:=(hY.1 C).1;have K:¬L.getD i ae=ab:=by
    grind
   by_cases B:i=last
   .subst B;have A:Region.linearise.go .any ops f (t / (bd .any ops L).length) (L.setIfInBounds i ab) []=[]:=by
     refine BV λj hj=>?_
     have hj2:(L.setIfInBounds i ab).getD j ae=ab:=by
      rw[eC (by omega)]
      by_cases e:j=i
      .grind
      .obtain⟨ed,R,u,rfl⟩:=h.V6 o C j hj e
       grind
     grind
    simp only[A];refine hQ s a g.size (λt=>?_) I hh st
    have:=g.slot t;unfold fZ at this;cases k:idx t with
    |none=>grind
    |some j =>
     simp only[k] at this ⊢;obtain⟨Z,w,_⟩:=h.xE _ _ k
     by_cases e:j=i
     .rw[bc e];trivial
     .rw[aY e];obtain⟨ed,R,u,rfl⟩:=h.V6 o C j (hY.1 w).1 e
      grind
   have q:(L.setIfInBounds i ab).size=ops.size:=by grind
   have p:((L.setIfInBounds i ab).toList.filter (λb=>!b)).length<=f:=by
    have h1:L.toList[i]?=aa ae:=by
     rw[zj,fQ (by omega:i<L.size)]
     simpa[dC,fQ (by omega:i<L.size)] using K
    grind [count_set]
   have H:∀ j o',ops[j]?=aa o'->(L.setIfInBounds i ab).getD j ae=ab->∀ e∈o'.after,cZ e=ab->(L.setIfInBounds i ab).getD e.on ae=ab:=by
    grind [eC]
   have r:¬(L.setIfInBounds i ab).getD last ae=ab:=by
    grind [eC]
   have S:cv N σ s (c i) a:=g.Jp λt σ s v E=>h.SX i o C B t σ s v (by
    unfold fZ at E;cases k:idx t with
    |none=>grind
    |some j =>
     simp only[k] at E ⊢;split
     .grind
     .trivial)
   have z:∀ (s':St) (v:ak),cB σ s σ s'->c8 σ s' v (x i)->IN N σ s' (fZ φ x idx (L.setIfInBounds i ab)) (a.put o.dst v):=by
    intro s' v l E;cases I:o.dst with
    |none =>
     refine⟨g.size,g.defers.imp λ_ h1=>h1.mono l.ext,λt=>?_⟩
     have n:=(g.slot t).mono l.ext hh.len;simp only[Act.put];unfold fZ at n ⊢;cases k:idx t with
     |none=>grind
     |some j =>
      simp only[k] at n ⊢;obtain⟨Z,w,Q⟩:=h.xE _ _ k
      grind [eC]
    |some d =>
     obtain⟨V,W⟩:=h.Jq i o d C I;refine⟨by simp[Act.put,g.size],g.defers.imp λ_ h1=>h1.mono l.ext,λt=>?_⟩
     simp only[Act.put]
     by_cases e:d=t
     .subst e;have T:d<a.tmps.size:=by rw[g.size];exact W
      simp only[dC,vl T,fI];unfold fZ;simp only[V];rw[bc ((eC (by omega)).2 (.inl rfl))]
      exact E
     .have n:=(g.slot t).mono l.ext hh.len;simp only[dC] at n ⊢;rw[sI e];unfold fZ at n ⊢;cases k:idx t with
      |none=>grind
      |some j =>
       simp only[k] at n ⊢;obtain⟨Z,w,Q⟩:=h.xE _ _ k
       grind [eC]
   have:=h.one i o C B s a S hh b kk cs Y i (Region.linearise.go .any ops f (t / (bd .any ops L).length) (L.setIfInBounds i ab) []) hb (by grind)
   simp only[oH] at this;exact this λv s' E U l=>ih _ q p r H s' _ (z _ _ l E) (by cases o.dst <;> exact I) U (st.trans l) _
theorem Kk.region(h:Kk X N ops φ σ x c idx last)(v:P.follows Departure.mixedOrders=ab){r:au->St->Prop}{b:aR}{kk:List Item}{cs:List aR}(hb:b.kind≠.early){s0:St}{a0:Act}{id:Nat}
  (y:cv N σ s0 φ a0) (q:a0.defers=[]) (n:aJ σ s0)
  (u:∀ s a,a.tmps.size=N->(∀ t,c8 σ s (a.tmps.getD t aj) (match idx t with|some j=>if j=last then .any else x j|none=>look φ t))->a.defers=[]->aJ σ s->cB σ s0 σ s->fp X r (G (b.aT a (.inRegion ops [last]::kk)) cs) s) :
  fp X r (G (b.aT a0 (.code (.region id ops ab)::kk)) cs) s0:=by
 refine .next rfl λg e=>?_
 have e:=X.ij e;have f:=n.rely e;have l:=y.rely e n;have k:Step σ g σ { g with w:={ g.w with drawn:=g.w.drawn+1 } }:=Step.same rfl rfl rfl rfl;have m:aJ σ { g with w:={ g.w with drawn:=g.w.drawn+1 } }:=f.same rfl;have p:=e.stepW.trans (k.ox f);refine⟨_,{ g with w:={ g.w with drawn:=g.w.drawn+1 } },#[],lP,⟨⟨σ,σ,f,m,k⟩,.nil⟩,?_⟩;simp only[Region.schedule,v,Bool.true_or,cq];refine h.arr hb (s0:=s0) u ops.size _ (by simp) (by simp) ?_ ?_ _ a0 ?_ q m p _
 .simp[dC,mI];split <;> simp
 .intro i o A hi;simp[dC,mI] at hi;split at hi <;> simp at hi
 .have d:=l.mono (k.ox f) f.len;refine⟨d.size,d.defers,λt=>?_⟩
  unfold fZ;cases z:idx t with
  |none=>exact d.slot t
  |some j =>
   simp only;rw[aY]
   .exact d.slot t
   .simp[dC,mI];split <;> simp
end
end
section
open Go.Conc Go.RowKit Go.Conc.Lib Go.ConcR.Gen
open Go.ConcN (WgLive Has RW DWs AtR0 EvW)
open Go.ConcN.Gen
open Go.ConcR (KK WgAt stA smA rd wr mk DC0 Payload)
section
variable {P:aq}{R:az->az->Prop}{D:az->az->Array Event->Prop}{Stop A:au->az->Prop}
def Goes.never(b:∀ w,R w w)(f:∀ g w,Stop g w->∃ g' e,aK P ae g w=.go g' w #[e])(d:∀ n g w,A g w->¬Goes P ae R D Stop n g w) :
  ∀ (m n:Nat) (g:au) (w:az),Goes P ae R DC0 A m g w->¬Goes P ae R D Stop n g w
 |0,n,g,w,h,k=>d n g w (h w (b w)) k
 |m+1,n,g,w,h,k=>by
  rcases h with h|⟨_,h⟩
  .exact d n g w (h w (b w)) k
  .have h1:=h w (b w);cases a:aK P ae g w with
   |go g' w' es =>
    rw[a,goes_go] at h1;obtain⟨⟨rfl,rfl⟩,h2⟩:=h1;have no:¬Stop g w':=λi=>by
     obtain⟨g2,e,j⟩:=f g w' i;rw[j] at a;simp at a
    cases n with
    |zero=>exact no (k w' (b w'))
    |succ n =>
     rcases k with k|⟨_,k⟩
     .exact no (k w' (b w'))
     .have k1:=k w' (b w');rw[a,goes_go] at k1;exact Goes.never b f d m n g' w' h2 k1.2
   |_=>rw[a] at h1;exact h1.elim
def Goes.meet(f:∀ w,R w w)(i:∀ g w,Stop g w->∃ g' e,aK P ae g w=.go g' w #[e])(d:∀ n g w,A g w->Goes P ae R D Stop n g w->∀ w1,R w w1->Stop g w1) :
  ∀ (m n:Nat) (g:au) (w:az),Goes P ae R DC0 A m g w->Goes P ae R D Stop n g w->Goes P ae R DC0 Stop m g w
 |0,n,g,w,h,k=>d n g w (h w (f w)) k
 |m+1,n,g,w,h,k=>by
  rcases h with h|⟨b,h⟩
  .exact .inl (d n g w (h w (f w)) k)
  .refine .inr ⟨b,λw1 hr=>?_⟩
   have h1:=h w1 hr;cases a:aK P ae g w1 with
   |go g' w' es =>
    rw[a,goes_go] at h1;rw[goes_go];obtain⟨⟨rfl,rfl⟩,h2⟩:=h1;have no:¬Stop g w':=λb=>by
     obtain⟨g2,e,j⟩:=i g w' b;rw[j] at a;simp at a
    refine⟨⟨rfl,rfl⟩,?_⟩;cases n with
    |zero=>exact absurd (k w' hr) no
    |succ n =>
     rcases k with k|⟨_,k⟩
     .exact absurd (k w' hr) no
     .have k1:=k w' hr;rw[a,goes_go] at k1;exact Goes.meet f i d m n g' w' h2 k1.2
   |_=>rw[a] at h1;exact h1.elim
end
variable [Payload] {L:WgLink}{P:aq}{Wg C n Low x:Nat}{val:ak}{c:aR}{cs:List aR}
def StK(P:aq)(g:au)(_:az):Prop:=∃ g3,∀ w,aK P ae g w=.go g3 w #[mk .disable]
def StR(P:aq)(L:WgLink)(Wg C n Low x:Nat)(val:ak)(g:au)(w:az):Prop :=
 (WgLive L.tWg Wg w/\Has C (x-1) val w)/\∃ g2,(∀ w,aK P ae g w=.go g2 w #[mk (.releaseMerge (stA Wg))])/\∀ w,WgLive L.tWg Wg w/\Has C (x-1) val w->∃ m,Goes P ae (RW L.tWg Wg C n Low (x-1)) DC0 (StK P) m g2 w
set_option maxRecDepth 100000 in
def MO(H:WgLib P L)(w:az)(a:WgLive L.tWg Wg w/\Has C (x-1) val w) :
  Goes P ae (RW L.tWg Wg C n Low (x-1)) DC0 (StR P L Wg C n Low x val) 23 (G ((baseD L.done).at ⟨#[.pointer (aa ⟨Wg,0,af⟩),aj,aj,aj],[]⟩ [.code (body_done L)]) (c::cs)) w:=by
 lib_facts
 simp only[body_done,body_add,doneFn,addFn,fI]
 u_reg kn_rely a
 u_op kn_rely a
 u_in kn_rely a
 refine goes_call rfl rfl (by k_ne) rfl H.f_add (nm_add L) rfl ⟨by u_nil,?_⟩
 walk_nrmf addFn
 repeat (u_c aE kn_rely a)
 u_cond ab kn_rely a
 repeat (u_c aE kn_rely a)
 u_reg kn_rely a
 u_op kn_rely a
 u_op kn_rely a
 u_c aA kn_rely a
 repeat (u_c aE kn_rely a)
 u_cond ab kn_rely a
 u_reg kn_rely a
 u_op kn_rely a
 u_conv H.underlying_tWgP H.room_tWg (Go.ConcN.Gen.WgLive.cell0 a.1).choose_spec kn_rely a
 refine Goes.stop (λd b=>?_)
 replace a:=kn_rely a b
 clear b;refine⟨a,_,λw=>stepG_markAt .releaseMerge (by simp) rfl rfl (by k_ne) rfl H.f_relMerge (x_relMerge_n L) (x_relMerge_b L) (x_relMerge_x L) (x_relMerge_f L) (by simp[Act.eval,stA]),λw a=>⟨10,?_⟩⟩
 walk_nrm
 u_c aA kn_rely a
 repeat (u_c aE kn_rely a)
 u_reg kn_rely a
 exact Goes.stop λd b=>⟨_,λw=>stepG_mark0 .disable (by simp) rfl rfl (by k_ne) rfl H.f_disable (x_disable_n L) (x_disable_b L) (x_disable_x L) (x_disable_f L)⟩
def Uz(H:WgLib P L){y:Nat}(f:c.mode=.returning)(s:QuitsD P y 0 (G c cs))(w:az)(d:WgLive L.tWg Wg w/\Has C (x-1) val w) :
  Goes P ae (RW L.tWg Wg C n Low (x-1)) DC0 (AtR0 P L.tWg Wg C n Low x val) 23 (G ((baseD L.done).at ⟨#[.pointer (aa ⟨Wg,0,af⟩),aj,aj,aj],[]⟩ [.code (body_done L)]) (c::cs)) w:=by
 have B:=doneN (Own:=λ_ _=>False) (Rd:=λ_ _=>False) (Low:=Low) (n:=n) H f s w d
 have p:∀ g w,AtR0 P L.tWg Wg C n Low x val g w->∃ g' e,aK P ae g w=.go g' w #[e]:=λg w h=>by
  obtain⟨_,_,g',i,_⟩:=h;exact⟨g',_,i⟩
 have t:(mk (.releaseMerge (stA Wg)):Event)≠mk .disable:=by simp[mk]
 refine Goes.meet (λw=>.refl w) p ?_ _ _ _ _ (MO H w d) B
 intro j g w h k w1 hr;obtain⟨d,g2,i,u⟩:=h;have a:AtR0 P L.tWg Wg C n Low x val g w1∨∃ r,Goes P ae (RW L.tWg Wg C n Low (x-1)) (DWs Wg (λ_ _=>False) (λ_ _=>False) C n x) (AtR0 P L.tWg Wg C n Low x val) r g2 w1:=by
  cases j with
  |zero=>exact .inl (k w1 hr)
  |succ j =>
   rcases k with k|⟨_,k⟩
   .exact .inl (k w1 hr)
   .have k1:=k w1 hr;rw[i w1,goes_go] at k1;exact .inr ⟨j,k1.2⟩
 rcases a with h|⟨r,h⟩
 .exact h
 .exfalso;obtain⟨m,z⟩:=u w1 (kn_rely d hr);refine Goes.never (λw=>.refl w) p ?_ _ _ _ _ z h
  rintro o g4 w4 ⟨g5,q⟩ k;have b:∀ w,¬AtR0 P L.tWg Wg C n Low x val g4 w:=λw v=>by
   obtain⟨_,_,g6,l,_⟩:=v;rw[q w] at l;simp[mk] at l
  cases o with
  |zero=>exact b w4 (k w4 (.refl w4))
  |succ o =>
   rcases k with k|⟨_,k⟩
   .exact b w4 (k w4 (.refl w4))
   .have k1:=k w4 (.refl w4);rw[q w4,goes_go] at k1;have:=(k1.1.2 _ (Array.mem_singleton.2 rfl)).2.1;exact this rfl
end
end Go.AM
namespace Go.AM.R1
section
open Go.Proofs Go.Conc Go.Conc.Lib
open Go.ConcN (WgLive PayAt Has RW AtR0)
open Go.ConcR (KK WgAt stA smA rd wr mk Payload DC0)
instance pay:Payload:=⟨142⟩
def l4(f:Int):dh:=λargs σ=>match args,σ with
 |[.e (.one (.c (.int .i64 k))),g,.e (.one (.c (.int .i64 n)))],[]=>match kO 2 g with
  |none=>af
  |some (b,d)=>aa (V9 (du k (cP.list b d) n),[],[cP.fits b d,k=f])
 |_,_=>af
noncomputable def P0:Code:=(Tryz.f75.body).getD .skip
noncomputable def KJ:Array aw:=match P0 with|.seq (.region _ o _) _=>o|_=>#[]
noncomputable def KL:Array aw:=match P0 with|.seq _ (.region _ o _)=>o|_=>#[]
def KM:Tryz.f75.body=aa (.seq (.region 0 KJ ae) (.region 1 KL ab)):=by kernel_rfl
def oW(d:Option Nat)(op:Op)(ty:ar)(b:Array Edge):aw:={ dst:=d,op:=op,type:=ty,pos:= "l12_snap.go:82",after:=b,guard:=af }
def uA:List aw:=[oW (aa 6) (.load 129 (.tmp 4)) 129 #[],oW (aa 7) (.load 3 (.tmp 5)) 3 #[],oW (aa 8) (.load 3 (.tmp 1)) 3 #[],oW (aa 9) (.load 23 (.tmp 2)) 23 #[],oW (aa 10) (.load 3 (.tmp 3)) 3 #[],
 oW (aa 11) (.call { callee:=.value (.func 77),args:=#[.tmp 8,.tmp 9,.tmp 10],argTypes:=#[3,23,3] }) 142 #[⟨2,.data⟩,⟨3,.data⟩,⟨4,.data⟩],
 oW (aa 12) (.indexAddr 129 (.tmp 6) (.tmp 7)) 0 #[⟨0,.data⟩,⟨1,.data⟩,⟨0,.phase⟩,⟨1,.phase⟩,⟨2,.phase⟩,⟨3,.phase⟩,⟨4,.phase⟩,⟨5,.phase⟩],
 oW af (.store 142 (.tmp 12) (.tmp 11)) 0 #[⟨6,.data⟩,⟨5,.data⟩,⟨5,.chain⟩,⟨0,.phase⟩,⟨1,.phase⟩,⟨2,.phase⟩,⟨3,.phase⟩,⟨4,.phase⟩,⟨5,.phase⟩]]
def Og:KL=uA.toArray:=by kernel_rfl
def nZ{i:Nat}{o:aw}(h:uA[i]?=aa o):i<8:=(cp.1 h).1
section
variable (k:Int)(ps:List bw) (a:Int)(n x C:Nat)
def Ux(b:ak):Fr:=[(0,.e (.one (.v b))),(1,.e (.one (.c (.rp [.int .i64 k])))),(2,.e (.one (.c (.rp [.sl ae 2 ps.length (cP.fn ps)])))),(3,.e (.one (.c (.rp [.int .i64 a])))),(4,.e (.one (.c (.rp [.val (.slice (aa ⟨C,0,af⟩) n n)])))),(5,.e (.one (.c (.rp [.int .i64 x]))))]
def xW:Nat->D
 |0=>.e (.one (.v (.slice (aa ⟨C,0,af⟩) n n)))
 |1=>dI x
 |2=>dI k
 |3=>cP.sl ps
 |4=>dI a
 |5=>V9 (du k ps a)
 |6=>.e (.one (.v (.pointer (aa ⟨C,x*2,af⟩))))
 |_=>.any
def Em:Nat->Option Nat
 |6=>aa 0|7=>aa 1|8=>aa 2|9=>aa 3|10=>aa 4|11=>aa 5|12=>aa 6|_=>af
def frW(b:ak):Nat->Fr
 |5=>[(8,dI k),(9,cP.sl ps),(10,dI a)]
 |6=>[(6,.e (.one (.v (.slice (aa ⟨C,0,af⟩) n n)))),(7,dI x)]
 |_=>Ux k ps a n x C b
end
def Oh{X:Cx ah}{n x C:Nat}(h:x<n):OA X 13 uA (oW (aa 12) (.indexAddr 129 (.tmp 6) (.tmp 7)) 0 #[⟨0,.data⟩,⟨1,.data⟩,⟨0,.phase⟩,⟨1,.phase⟩,⟨2,.phase⟩,⟨3,.phase⟩,⟨4,.phase⟩,⟨5,.phase⟩]) [(6,.e (.one (.v (.slice (aa ⟨C,0,af⟩) n n)))),(7,dI x)] [] (.e (.one (.v (.pointer (aa ⟨C,x*2,af⟩))))) []:=by
 refine .mb (λ_ _ _ _=>dq rfl) (bF.quiet λs ρ l f=>?_)
 have c:=f (.tmp 6);have d:=f (.tmp 7);have i:bZ [(6,D.e (.one (.v (.slice (aa ⟨C,0,af⟩) n n)))),(7,dI x)] (.tmp 6)=.e (.one (.v (.slice (aa ⟨C,0,af⟩) n n))):=rfl;have j:bZ [(6,D.e (.one (.v (.slice (aa ⟨C,0,af⟩) n n)))),(7,dI x)] (.tmp 7)=dI x:=rfl;rw[i] at c;rw[j] at d;have c:=Rd.fX c;have d:=fx d;generalize b:ρ (.tmp 7)=vy at d;cases d;have g:=(tok 129 i129 rfl).run_underlying (w:=s.w);refine⟨.pointer (aa ⟨C,x*2,af⟩),?_,Rd.val rfl,?_⟩
 .simp[ay,oW,c,b,Instr.indexAt,asIntOf,g,i129,(tok 142 i142 rfl).run_sizeOf,i142,dg,h]
 .simp[ay,oW,c,b,Instr.indexAt,asIntOf,g,i129,dg,h]
def Uy{X:Cx ah}{k:Int}(p:dG X 77 (l4 k))(ps:List bw) (a:Int)(n x C:Nat)(w:x<n)(l:ak) :
  Kk X 13 uA.toArray (Ux k ps a n x C l) [] (xW k ps a n x C) (frW k ps a n x C l) Em 7:=by
 have r:bC X [(77,l4 k)]:=bC.cons p bC.nil;have c:∀ (i:Nat) (o:aw) (φ:Fr) (d:D) (obs:List Prop),uA[i]?=aa o->Fw tt [(77,l4 k)] [] uA φ [] o=aa (d,af,obs)->ag obs->OA X 13 uA o φ [] d [] :=
  λi o φ d obs _ h b=>dW tok r h b
 refine⟨?_,?_,?_,?_,?_,?_,by decide⟩
 .intro i o b e m _;simp only[iI] at b;have hi:=nZ b
  match i,hi with
  |0,_|1,_|2,_|3,_|4,_|5,_|6,_|7,_ =>
   cases b;simp[oW] at m
   try (rcases m with rfl|rfl|rfl|rfl|rfl|rfl|rfl|rfl|rfl <;> decide)
   try (rcases m with rfl|rfl|rfl <;> decide)
 .intro i o d b q;simp only[iI] at b;have hi:=nZ b
  match i,hi with
  |0,_|1,_|2,_|3,_|4,_|5,_|6,_|7,_ =>
   cases b;cases q
   try exact⟨rfl,by decide⟩
 .intro d i h;unfold Em at h;split at h <;> cases h <;> exact⟨_,rfl,rfl⟩
 .intro i o b g;simp only[iI] at b;have hi:=nZ b
  match i,hi with
  |0,_=>cases b;exact c 0 _ _ _ _ rfl rfl av
  |1,_=>cases b;exact c 1 _ _ _ _ rfl rfl av
  |2,_=>cases b;exact c 2 _ _ _ _ rfl rfl av
  |3,_=>cases b;exact c 3 _ _ _ _ rfl rfl av
  |4,_=>cases b;exact c 4 _ _ _ _ rfl rfl av
  |5,_ =>
   cases b;have:=c 5 _ (frW k ps a n x C l 5) _ _ rfl rfl (by simp[ag,cP.aH])
   rw[cP.list_fn] at this;exact this
  |6,_=>cases b;exact Oh w
  |7,_=>grind
 .intro i o b g t σ s v f;simp only[iI] at b;have hi:=nZ b
  match i,hi with
  |0,_|1,_|2,_|3,_|4,_ =>
   match t with
   |0|1|2|3|4|5=>exact f
   |t+6=>trivial
  |5,_ =>
   cases b
   match t with
   |8=>exact(show c8 σ s v (xW k ps a n x C 2) from by simpa[Em,oW,cZ,Region.binds] using f)
   |9=>exact(show c8 σ s v (xW k ps a n x C 3) from by simpa[Em,oW,cZ,Region.binds] using f)
   |10=>exact(show c8 σ s v (xW k ps a n x C 4) from by simpa[Em,oW,cZ,Region.binds] using f)
   |0|1|2|3|4|5|6|7=>trivial
   |t+11=>trivial
  |6,_ =>
   cases b
   match t with
   |6=>exact(show c8 σ s v (xW k ps a n x C 0) from by simpa[Em,oW,cZ,Region.binds] using f)
   |7=>exact(show c8 σ s v (xW k ps a n x C 1) from by simpa[Em,oW,cZ,Region.binds] using f)
   |0|1|2|3|4|5=>trivial
   |t+8=>trivial
  |7,_=>grind
 .intro o b j u g;simp only[iI] at b;cases b
  match j,u with
  |0,_=>exact⟨⟨0,.phase⟩,by simp[oW],rfl,rfl⟩
  |1,_=>exact⟨⟨1,.phase⟩,by simp[oW],rfl,rfl⟩
  |2,_=>exact⟨⟨2,.phase⟩,by simp[oW],rfl,rfl⟩
  |3,_=>exact⟨⟨3,.phase⟩,by simp[oW],rfl,rfl⟩
  |4,_=>exact⟨⟨4,.phase⟩,by simp[oW],rfl,rfl⟩
  |5,_=>exact⟨⟨5,.phase⟩,by simp[oW],rfl,rfl⟩
  |6,_=>exact⟨⟨6,.data⟩,by simp[oW],rfl,rfl⟩
  |7,_=>grind
noncomputable def uB:aR:={ (default:aR) with fn:=Tryz.prog.funcs.size,defers:=[],mode:=.panicking [goexitEntry] }
def wF(vs:Array ak):Deferred:={ target:=.fn (.func 75) vs,args:=#[] }
def Ho(v0 v1 v2 v3 v4 v5:ak)(w:az):aK ah ae (born ah (wF #[v0,v1,v2,v3,v4,v5])) w =
  .go (G ((baseD 75).at ⟨#[v0,v1,v2,v3,v4,v5,aj,aj,aj,aj,aj,aj,aj],[]⟩ [.code (.seq (.region 0 KJ ae) (.region 1 KL ab))]) [uB]) w #[]:=by
 have c:=KM;have d:Tryz.f75.ntmps=13:=by kernel_rfl
 have b:¬Tryz.f75.name= "runtime.NumGoroutine":=by
  have:(Tryz.f75.name== "runtime.NumGoroutine")=ae:=by kernel_rfl
  grind
 simp[born,wF,aK,unwind,callDeferred,invoke,callFunc,Tryz.func75,c,d,b,seen,GStep.after,G,Frame.enter,Frame.at,baseD,uB]
end
section
open Go.Proofs
variable {X:Cx ah}
abbrev pk(ps:List bw)(i:Nat):bw:=ps.getD i (0,[])
def KD{k n:Int}{ps:List bw}{i:Nat}{r:Bs}(hi:i<ps.length)(h:ee k (pk ps i) n=aa r)(a:∀ j,j<i->ee k (pk ps j) n=af):du k ps n=aa r:=by
 unfold du
 induction ps generalizing i with
 |nil=>simp at hi
 |cons p ps ih =>
  cases i with
  |zero=>grind
  |succ i =>
   have b:=a 0 (by omega)
   grind
def Eg{k n:Int}{ps:List bw}(a:∀ j,j<ps.length->ee k (pk ps j) n=af):du k ps n=af:=by
 unfold du;rw[List.findSome?_eq_none_iff];intro p b;obtain⟨j,c,rfl⟩:=dT b
 grind
theorem Bu.VQ{P:aq}{φ:Fr}{σ:List aV}{T:List (Nat×TI)}(e:db P T){fn:Func}{c:Nat}{res:D}{σ':List aV}(ks:List Nat){ps:List Prop}(h:Nn T fn.results.toList ks φ res=aa ps)(i:ag ps)(g:kI ks σ=aa σ')(b:ld σ'=ab)(hn:eg ks=ab)(k:∀ j,j<c->ks[j]?=aa j) :
  Bu P fn c res σ' .ret φ σ:=by
 refine⟨.inl rfl,ks,?_⟩;unfold Nn at h;split at h
 .rename_i ds Xw
  split at h
  .rename_i d f
   split at h
   .rename_i a
    exact⟨d,ps,Bt.VQ e Xw f,h,i,a,g,b,hn,k⟩
   .cases h
  .cases h
 .cases h
def fN{a:List Nat}:∀ j,j<0->a[j]?=aa j:=λ_ h=>absurd h (jk _)
def KE(d:dG X 219 pb) (k:Int)(ps:List bw) (n:Int)(g:ck k=ab):Ev X 77 [dI k,cP.sl ps,dI n] [] (V9 (du k ps n)) []:=by
 refine Ev.fY Tryz.func77 rfl rfl rfl λm=>?_
 have f:=m.sl 1 rfl;have b:bC X [(137,Dk aI (Hf dE) aI (λk p n=>Ag (ee k p n)) λk _ _=>[ck k=ab])]:=.cons (Rx d) .nil
 refine aD b [] 100 rfl av ?_;refine AK.bO 1 (λi=>i<=ps.length/\∀ j,j<i->ee k (pk ps j) n=af) (λi:Nat=>[(0,dI k),(2,dI n),(6,.e (.one (.ptr 0 0))),(11,cP.sl ps),(12,dI ps.length),(13,dI i)]) (λ_=>[.cells 142 [.c (.str []),.c (.bool ae)]]) (λi=>ps.length-i) 0 rfl ?_ rfl ?_ rfl ⟨by omega,by omega⟩ ?_
 .simp[ag.cat,ag,aP.same]
 .simp[ag.cat,ag]
 rintro i ⟨hi,a⟩
 by_cases h:i<ps.length
 .cases l:ee k (pk ps i) n with
  |some r =>
   refine aD b [(14,ab),(24,ab)] 100 rfl ?_ (AK.freeze 6 0 rfl rfl rfl (AK.ei ?_))
   .simp only[ag,bz,dE.list_fn];refine⟨?_,dE.aH _,g,by omega,by omega,cj (by omega)⟩
    grind
   .refine Bu.VQ tok [] rfl ?_ rfl rfl rfl fN;rw[KD h l a];simp only[bz,dE.list_fn];have e:ee k ((ps.getD i cP.bD).1,(ps.getD i cP.bD).2) n=aa r:=l;rw[e];simp[ag.cat,ag]
  |none =>
   refine aD b [(14,ab),(24,ae)] 100 rfl ?_ (AK.aQ (i+1) rfl ?_ ?_ ?_ ?_)
   .simp only[ag,bz,dE.list_fn];refine⟨by simp only[bu];omega,?_,dE.aH _,g,by omega,by omega,cj (by omega)⟩
    grind
   .simp[ag.cat,ag,aP.same]
   .simp[ag.cat,ag]
   .grind
   grind
 .refine aD b [(14,ae)] 100 rfl (by simp[ag];omega) (AK.leaveD rfl rfl ?_)
  refine aD b [] 100 rfl av ?_;refine AK.freeze 6 0 rfl rfl rfl ?_;refine AK.iQ tok [] rfl ?_ rfl rfl rfl fN;rw[Eg λj o=>a j (by omega)]
  simp[ag.cat,ag]
def Ry(a:dG X 219 pb){k:Int}(e:ck k=ab):dG X 77 (l4 k):=by
 intro args σ res σ' obs h c;unfold l4 at h;split at h
 .rename_i k1 da n
  split at h
  .cases h
  .rename_i g f d
   cases h;obtain⟨b,rfl⟩:=c;exact(KE a _ _ n e).args λs vs=>cw.imp (λ_ r=>r) (cw.imp (λ_ r=>cP.jR d b r) (cw.imp (λ_ r=>r) (λ_ r=>r))) vs
 .cases h
def Hc:dh:=λargs σ=>match args,σ with
 |[.e (.one (.c (.str [46]))),.e (.one (.c (.int .i64 c)))],[]=>aa (dS (List.replicate c.toNat 46),[],[0<=c/\c<=3])
 |_,_=>af
def t239:dG X 239 (jX aI (λn=>dI (cD n.toNat)) λn=>[0<=n/\n<=4000000]):=.oi λn h=>by
 have a:0<=n/\n<=4000000:=h;obtain⟨m,rfl⟩:∃ m:Nat,n=m:=⟨n.toNat,by omega⟩
 exact B8 (X:=X) m (by omega)
def KF{n:Nat}(a:1<=n)(b:n<=8):n<=cD n/\cD n<=n+3:=by
 unfold cD;split
 .omega
 .split
  .omega
  .split <;> omega
def KG(a:dG X 238 Hc)(p:Bs):Ev X 219 [dS p] [] (dS (iF p)) []:=by
 refine Ev.bQ Tryz.func219 rfl λe=>?_
 have d:bC X [(218,jX aS (λs=>dB (bH s)) λ_=>[]),(239,jX aI (λn=>dI (cD n.toNat)) λn=>[0<=n/\n<=4000000]),(238,Hc)]:=.cons t218 (.cons t239 (.cons a .nil))
 by_cases b:bH p=ab
 .have c:=b;simp only[bH,bL,ba] at c;have f:=KF c.1.1 c.1.2;refine aD d [(5,ae)] 100 rfl ?_ (AK.bm rfl ?_)
  .simp[ag,b,bu];omega
  .simp[ag,ag.cat,iF,b]
 .refine aD d [(5,ab)] 100 rfl ?_ (AK.bm rfl ?_)
  .simp[ag,b]
  .simp[ag,ag.cat,iF,b]
def Uq(a:dG X 238 Hc):dG X 219 pb:=.oi λp _=>KG a p
def N9:Ev X 238 [dS [46],dI 0] [] (dS []) []:=by
 refine Ev.bQ Tryz.func238 rfl λa=>?_
 refine aX [(12,ab)] 100 rfl ?_ (AK.bm rfl ?_)
 .simp[ag]
 .simp[ag,ag.cat]
def Oa:Ev X 238 [dS [46],dI 1] [] (dS [46]) []:=by
 refine Ev.bQ Tryz.func238 rfl λa=>?_
 refine aX [(12,ae),(14,ab)] 100 rfl ?_ (AK.bm rfl ?_)
 .simp[ag]
 .simp[ag,ag.cat]
def Uo(a:Ev X 238 [dS [46],dI 2] [] (dS [46,46]) [])(d:Ev X 238 [dS [46],dI 3] [] (dS [46,46,46]) []):dG X 238 Hc:=by
 intro args σ res σ' obs h b;unfold Hc at h;split at h
 .rename_i c
  cases h;have:c=0∨c=1∨c=2∨c=3:=by have:0<=c/\c<=3:=b;omega
  rcases this with rfl|rfl|rfl|rfl
  .exact N9
  .exact Oa
  .exact a
  .exact d
 .cases h
end
section
open Go.Proofs
def Ai{P:aq}{o:aw}{k:an->D}{σ:List aV}{op:BinOp}{t ty:ar}{x y:an}(h:o.op=.binOp op t x y ty){e:ar}(C:P.underlying t=aa (.pointer e)){b c:Bool}
  (A:∀ s u v,aJ σ s->c8 σ s u (k x)->c8 σ s v (k y)->∃ p q,u=.pointer p/\v=.pointer q/\(p==q)=b/\(eqGuard op t x y u v).run P s.w=.ok () s.w/\(∀ es,(eqGuard op t x y u v).events P s.w es=es) /\
   (Op.equal t u v).run P s.w=.ok b s.w/\∀ es,(Op.equal t u v).events P s.w es=es)
  (n:lq op b=aa c):bF P o k σ (.e (.one (.c (.bool c)))) σ:=by
 refine .quiet λs ρ z r=>?_
 obtain⟨p,q,g,f,B,i,m,j,l⟩:=A s _ _ z (r x) (r y);rw[g,f] at i j;have a:=m #[];have d:=l #[];rw[g,f] at a d;cases op <;> simp only[lq,reduceCtorEq,de] at n
 .subst n;exact⟨.bool b,by simp[ay,h,g,f,i,binOp,j],Rd.bool,by simp[ay,h,g,f,i,a,binOp,j,d]⟩
 .subst n;exact⟨.bool (!b),by simp[ay,h,g,f,i,binOp,j],Rd.bool,by simp[ay,h,g,f,i,a,binOp,j,d]⟩
def Kn{P:aq}{o:aw}{f:an->D}{σ:List aV}{op:BinOp}{t ty:ar}{x:an}(h:o.op=.binOp op t x (.const (.pointer af)) ty){e:ar}(i:P.underlying t=aa (.pointer e)){c:Bool}
  (l:f x=.e (.one (.c .kh))) (m:f (.const (.pointer af))=.e (.one (.c .kh))) (j:lq op ab=aa c):bF P o f σ (.e (.one (.c (.bool c)))) σ:=by
 refine Ai h i (b:=ab) ?_ j;intro s u v _ a d;rw[l] at a;rw[m] at d
 replace a:=fx a
 replace d:=fx d
 cases a;cases d;have k:(Op.equal t (.pointer af) (.pointer af)).run P s.w=.ok ab s.w:=by
  show (Op.equalIn (9999+1) t _ _).run P s.w=_;unfold Op.equalIn;simp[underlying,i]
 have g:∀ es,(Op.equal t (.pointer af) (.pointer af)).events P s.w es=es:=λes=>by
  show (Op.equalIn (9999+1) t _ _).events P s.w es=es;unfold Op.equalIn;simp[underlying,i]
 exact⟨af,af,rfl,rfl,rfl,by cases op <;> simp[eqGuard],λes=>by cases op <;> simp[eqGuard],k,g⟩
def Ro{P:aq}{o:aw}{d:an->D}{σ:List aV}{op:BinOp}{t ty:ar}{x:an}(h:o.op=.binOp op t x (.const (.pointer af)) ty){e:ar}(g:P.underlying t=aa (.pointer e)){c:Bool}{l off:Nat}
  (m:d x=.e (.one (.ptr l off))) (n:d (.const (.pointer af))=.e (.one (.c .kh))) (j:lq op ae=aa c):bF P o d σ (.e (.one (.c (.bool c)))) σ:=by
 refine Ai h g (b:=ae) ?_ j;intro s u v _ i a;rw[m] at i;rw[n] at a
 replace a:=fx a
 cases a;obtain⟨_,L,b,_,_,rfl⟩:=(i:gv σ s u (.ptr l off));have k:(Op.equal t (.pointer (aa ⟨b,off,af⟩)) (.pointer af)).run P s.w=.ok ae s.w:=by
  show (Op.equalIn (9999+1) t _ _).run P s.w=_;unfold Op.equalIn;simp[underlying,g]
 have f:∀ es,(Op.equal t (.pointer (aa ⟨b,off,af⟩)) (.pointer af)).events P s.w es=es:=λes=>by
  show (Op.equalIn (9999+1) t _ _).events P s.w es=es;unfold Op.equalIn;simp[underlying,g]
 exact⟨_,af,rfl,rfl,rfl,by cases op <;> simp[eqGuard],λes=>by cases op <;> simp[eqGuard],k,f⟩
def N0{P:aq}{o:aw}{f:an->D}{σ:List aV}{op:BinOp}{t ty:ar}{x y:an}(h:o.op=.binOp op t x y ty){e:ar}(k:P.underlying t=aa (.pointer e)){n:Nat}(r:n≠0)
  (q:∀ w,(sizeOf e).run P w=.ok n w) (j:∀ w es,(sizeOf e).events P w es=es) {c:Bool} {l off:Nat}
  (C:f x=.e (.one (.ptr l off))) (E:f y=.e (.one (.ptr l off))) (z:lq op ab=aa c):bF P o f σ (.e (.one (.c (.bool c)))) σ:=by
 refine Ai h k (b:=ab) ?_ z;intro s u v _ m p;rw[C] at m;rw[E] at p;obtain⟨_,L,b,B,i,rfl⟩:=(m:gv σ s u (.ptr l off));obtain⟨_,G,F,d,a,rfl⟩:=(p:gv σ s v (.ptr l off));rw[B] at d;cases d;rw[i] at a;cases a;have A:(Op.equal t (.pointer (aa ⟨b,off,af⟩)) (.pointer (aa ⟨b,off,af⟩))).run P s.w=.ok ab s.w:=by
  show (Op.equalIn (9999+1) t _ _).run P s.w=_;unfold Op.equalIn;simp[underlying,k,q,r,sameAddr]
 have g:∀ es,(Op.equal t (.pointer (aa ⟨b,off,af⟩)) (.pointer (aa ⟨b,off,af⟩))).events P s.w es=es:=λes=>by
  show (Op.equalIn (9999+1) t _ _).events P s.w es=es;unfold Op.equalIn;simp[underlying,k,q,j,r,sameAddr]
 exact⟨_,_,rfl,rfl,by simp,by cases op <;> simp[eqGuard],λes=>by cases op <;> simp[eqGuard],A,g⟩
end
end Go.AM.R1
namespace Go.AM
section
open Go.Conc (G)
def rU{P:aq}(X:Cx P)(N:Nat)(all:List aw)(o:aw)(φ:Fr)(σ:List aV){ι:Type}(x:ι->D)(σ':ι->List aV):Prop :=
 ∀ s a,cv N σ s φ a->aJ σ s->∀ (b:aR) (k:List Item) (cs:List aR) (S:au->St->Prop) (i:Nat) (rest:List Nat),b.kind≠.early->all.toArray[i]?=aa o ->
  (∀ j v s',c8 (σ' j) s' v (x j)->aJ (σ' j) s'->cB σ s (σ' j) s'->fp X S (G (b.aT (a.put o.dst v) (.inRegion all.toArray rest::k)) cs) s')->fp X S (G (b.aT a (.inRegion all.toArray (i::rest)::k)) cs) s
def zY:List aw->Nat->(Nat->D)->List (Option Nat×D)
 |[],_,_=>[]
 |o::r,i,x=>(o.dst,x i)::zY r (i+1) x
def wi{x:Nat->D}:∀ {l:List aw}{k j:Nat},(zY l k x)[j]?=(l[j]?).map λo=>(o.dst,x (k+j))
 |[],k,j=>by simp[zY]
 |o::r,k,0=>by simp[zY]
 |o::r,k,j+1=>by
  simp only[zY,mJ];rw[wi,show k+1+j=k+(j+1) by omega]
def mU(all:List aw)(φ:Fr)(x:Nat->D)(i:Nat):Fr:=jm (λj=>fJ j (bR (all.getD i fT).after.toList)) 0 (zY all 0 x) (ux all φ)
def MT(all:List aw)(φ:Fr)(x:Nat->D):Fr:=jm (λ_=>ab) 0 (zY all 0 x) (ux all φ)
def nS(N:Nat):List aw->Bool
 |[]=>ab
 |o::r=>match gw N o.dst with|true=>nS N r|false=>ae
def yn{N:Nat}:∀ {l:List aw},nS N l=ab->∀ (i:Nat)(o:aw),l[i]?=aa o->gw N o.dst=ab
 |[],_,i,o,h=>by grind
 |p::r,h,i,o,hi=>by
  simp only[nS] at h;split at h
  .rename_i a
   cases i with
   |zero=>grind
   |succ i=>exact yn h i o (by grind)
  grind
def rV:List aw->Nat->Bool
 |[],_=>ab
 |o::r,i=>match SZ i (bR o.after.toList) with|true=>rV r (i+1)|false=>ae
def BT:∀ {l:List aw}{k:Nat},rV l k=ab->∀ (i:Nat)(o:aw),l[i]?=aa o->∀ e∈bR o.after.toList,e<k+i
 |[],_,_,i,o,h=>by grind
 |p::r,k,h,i,o,hi=>by
  simp only[rV] at h;split at h
  .rename_i b
   cases i with
   |zero=>simp at hi;subst hi;exact DL b
   |succ i=>intro e a;have:=BT h i o (by grind) e a;omega
  grind
def zZ(pre:Nat->Bool):List Nat->Bool
 |[]=>ae
 |e::r=>match pre e with|true=>zZ pre r|false=>ab
theorem yo{pre:Nat->Bool}:∀ {l:List Nat},zZ pre l=ab->∃ e∈l,pre e=ae
 |[],h=>by cases h
 |e::r,h=>by
  simp only[zZ] at h;split at h
  .obtain⟨c,a,b⟩:=yo h;grind
  grind
def xK(pre:Nat->Bool)(m:Nat):List aw->Nat->Bool
 |[],_=>ab
 |o::r,i=>match pre i with
  |true=>xK pre m r (i+1)
  |false=>match aG i m with
   |true=>xK pre m r (i+1)
   |false=>match zZ pre (bR o.after.toList) with|true=>xK pre m r (i+1)|false=>ae
theorem FQ{pre:Nat->Bool}{m:Nat}:∀ {l:List aw}{k:Nat},xK pre m l k=ab->∀ (i:Nat)(o:aw),l[i]?=aa o->pre (k+i)=ae->k+i≠m->∃ e∈bR o.after.toList,pre e=ae
 |[],_,_,i,o,h=>by grind
 |p::r,k,h,i,o,hi=>by
  intro a b;simp only[xK] at h;cases i with
  |zero =>
   simp at hi;subst hi;simp only[iN] at a b
   grind [Nat.eq_of_beq_eq_true,yo]
  |succ i =>
   have c:xK pre m r (k+1)=ab:=by
    grind
   exact FQ c i o (by grind) (by grind) (by omega)
section
variable {P:aq}{X:Cx P}{N:Nat}{ops:Array aw}{φ:Fr}{σ:List aV}{idx:Nat->Option Nat}
def NR{x:Nat->D}{s:St}{a:Act}{L:Array Bool}{i:Nat}{o:aw}(b:∀ t σ s v,c8 σ s v (match idx t with|some j=>(if ∃ e∈o.after,cZ e=ab/\e.on=j then x j else .any)|none=>look φ t)->c8 σ s v (look (mU ops.toList φ x i) t))
  (c:IN N σ s (fZ φ x idx L) a) (g:∀ e∈o.after,cZ e=ab->L.getD e.on ae=ab):cv N σ s (mU ops.toList φ x i) a:=c.Jp λt σ s v f=>b t σ s v (by
 unfold fZ at f;cases d:idx t with
 |none=>grind
 |some j =>
  simp only[d] at f ⊢;split
  .grind
  .trivial)
def G6{x y:Nat->D}{σ2:List aV}{s s':St}{a:Act}{v:ak}{L:Array Bool}{i:Nat}{o:aw}(f:∀ d,o.dst=aa d->idx d=aa i/\d<N)(p:∀ d j,idx d=aa j->∃ o,ops[j]?=aa o/\o.dst=aa d)
  (z:ops[i]?=aa o) (r:i<L.size) (w:∀ j,L.getD j ae=ab->y j=x j) (c:s.β.length=σ.length) (st:cB σ s σ2 s') (b:IN N σ s (fZ φ x idx L) a) (u:c8 σ2 s' v (y i)):IN N σ2 s' (fZ φ y idx (L.setIfInBounds i ab)) (a.put o.dst v):=by
 have old:∀ t,idx t≠aa i->c8 σ2 s' (a.tmps.getD t aj) (fZ φ y idx (L.setIfInBounds i ab) t):=by
  intro t A;have m:=(b.slot t).mono st.ext c;unfold fZ at m ⊢
  grind [eC]
 cases q:o.dst with
 |none =>
  refine⟨b.size,b.defers.imp λ_ n=>n.mono st.ext,λt=>?_⟩
  refine old t λh=>?_
  grind
 |some d =>
  obtain⟨g,k⟩:=f d q;refine⟨by simp[Act.put,b.size],b.defers.imp λ_ n=>n.mono st.ext,λt=>?_⟩
  simp only[Act.put]
  by_cases e:d=t
  .subst e;have l:d<a.tmps.size:=by rw[b.size];exact k
   simp only[dC,vl l,fI];unfold fZ;simp only[g];rw[bc ((eC r).2 (.inl rfl))];exact u
  .have:=old t (λh=>by
    grind)
   simp only[dC] at this ⊢
   grind
def J6{back:∀ i o,ops[i]?=aa o->∀ e∈o.after,cZ e=ab->e.on<i}{L:Array Bool}(f:L.size=ops.size)(d:bd .any ops L=[]):∀ i,i<ops.size->L.getD i ae=ab:=by
 intro i
 induction i using Nat.strongRecOn with
 |_ i a =>
  intro hi;cases c:L.getD i ae with
  |true=>rfl
  |false =>
   have h:i∈bd .any ops L:=mem_ready.2 ⟨ops[i],fQ hi,by
    grind,λe g b=>by
    grind⟩
   grind
def D1{L:Array Bool}{t:Nat}(a:(bd .any ops L)[t % (bd .any ops L).length]?=af):bd .any ops L=[]:=by
 cases c:bd .any ops L with
 |nil=>rfl
 |cons y b =>
  grind [Nat.mod_lt]
theorem z0{L:Array Bool}(e:L.size=ops.size)(d:(L.toList.filter (λb=>!b)).length<=0):∀ i,i<ops.size->L.getD i ae=ab:=by
 intro i hi;have a:L[i]'(by omega)∈L.toList:=by simp
 cases c:L[i]'(by omega) with
 |true=>simp[dC,fQ (by omega:i<L.size),c]
 |false =>
  have:L[i]'(by omega)∈L.toList.filter (λb=>!b):=mc.2 ⟨a,by grind⟩
  grind
end
end
end Go.AM
