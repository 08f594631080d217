/- Part 3. No condition. -/
import Derived.Test.YtemefbgdmkionaaGreatDoorA2
import Derived.Sort.LotD5
import Derived.Sort.Walk13a
import Derived.Conc.Beside
import Derived.Conc.CrowdRun
import Derived.Conc.WgGenN2
import Derived.Conc.WgGenN3
set_option linter.all false
set_option maxHeartbeats 8000000
open Go renaming Value → ak
open Option renaming some → aa
open Go renaming Program → aq
open Go renaming TypeId → ar
open Bool renaming true → ab
open Go renaming Goroutine → au
open Go renaming Frame → aO
open Go renaming Oper → aw
open Go renaming FuncId → aV
open Go.Region renaming wanted → bj
open Go renaming execOp → ay
open Go renaming Operand → an
open Option renaming none → af
open Bool renaming false → ae
open Go renaming undef → aj
open Go.World renaming cell? → aZ
open List renaming getD_eq_getElem?_getD → ai
open Go.Sem renaming events_bind → aP
open Go.Result renaming evThen_ok → aU
open Go renaming World → az
open Go renaming stepG → aK
open List renaming range → bh
open Go.MemAct renaming ofEvent → aM
open Nat renaming ble → bq
open Go.Region renaming ready → ba
open Go.Proofs.Tryz renaming prog → ah
open Go.Conc renaming stepG_seq → aD
open Go.Conc renaming stepG_region_end → aC
namespace Go.AM.R1
def kO{p:Bs}(h:b8 p=ab):∀ b∈p,97<=b.toNat/\b.toNat<=122:=by
 intro b a;have:=List.all_eq_true.1 h b a;simpa[eG] using this
def wA:∀ (p:Bs) (n m:Int)(k:Nat),(∀ b∈p,97<=b.toNat/\b.toNat<=122)->0<=n->n<m->1<=m ->
  0<=p.foldl (λn b=>27*n+((b.toNat:Int)-97) % 256+1) n/\p.foldl (λn b=>27*n+((b.toNat:Int)-97) % 256+1) n<m*27 ^ p.length
 |[],n,m,_,_,a,d,_=>by simpa using⟨a,d⟩
 |b::p,n,m,k,c,a,d,h=>by
  obtain⟨g,f⟩:=c b (by simp)
  have:=wA p (27*n+((b.toNat:Int)-97) % 256+1) (m*27) k (λx e=>c x (by simp[e])) (by omega) (by omega) (by omega)
  simp only[ji,eQ];rw[Int.pow_succ,Int.mul_comm (27 ^ p.length) 27,<-Int.mul_assoc];exact this
def PF:∀ {n:Nat},n<=8->(27:Int) ^ n<=282429536481:=by
 intro n a
 match n,a with
 |0,_|1,_|2,_|3,_|4,_|5,_|6,_|7,_|8,_=>decide
def yu{p:Bs}(h:bL p=ab):0<=codeOf p/\codeOf p<282429536481:=by
 simp only[bL,bO,bd] at h;obtain⟨b,a⟩:=wA p 0 1 0 (kO h.2) (by omega) (by omega) (by omega)
 have:=PF h.1.2;rw[Int.one_mul] at a;exact⟨b,Int.lt_of_lt_of_le a this⟩
section
open Go.Proofs
variable {X:Cx ah}
def Kq(k:Int):Ev X 68 [dI k] [] (dB (cA k)) []:=by
 refine Ev.bQ Tryz.func68 rfl λc=>?_
 by_cases a:1<=k
 .by_cases b:k<=99
  .refine aX [(4,ab),(7,ab)] 100 rfl ?_ (AK.bo rfl ?_)
   .simp[ag,a,b]
   .simp[ag,cA,a,b]
  .refine aX [(4,ab),(7,ae)] 100 rfl ?_ (AK.bo rfl ?_)
   .simp[ag,a];omega
   .simp[ag,cA,a,b]
 .refine aX [(4,ae)] 100 rfl ?_ (AK.bo rfl ?_)
  .simp[ag];omega
  .simp[ag,cA,a]
def t68:dD X 68 (kN aI (λk=>dB (cA k)) λ_=>[]):=.oH λk _=>Kq k
def Ab{s:Bs}{i:Nat}(h:i<s.length):b8 (s.take (i+1))=(b8 (s.take i)&&eG (s.getD i 0)):=by
 unfold b8;rw[j3,bl h]
 grind
def pg{b:UInt8}:eG b=ab↔97<=(b.toNat:Int)/\(b.toNat:Int)<=122:=by simp[eG];omega
def wy{s:Bs}{i:Nat}(h:i<s.length)(a:eG (s.getD i 0)=ae):b8 s=ae:=by
 cases b:b8 s with
 |false=>rfl
 |true =>
  have:=List.all_eq_true.1 b (s.getD i 0) (by grind)
  rw[a] at this;cases this
def BZ(s:Bs):Ev X 195 [dS s] [] (dB (b8 s)) []:=by
 refine Ev.bQ Tryz.func195 rfl λg=>?_
 have f:=g.str 0 rfl;refine bm rfl av ?_;refine AK.wa (λi=>i<=s.length/\b8 (s.take i)=ab) (λi:Nat=>[(0,dS s),(5,dI s.length),(6,dI i)]) (λ_=>[]) (λi=>s.length-i) 0 rfl (by simp[ag.cat,ag]) ⟨by omega,by simp[b8]⟩ rfl ?_
 rintro i ⟨hi,a⟩
 by_cases h:i<s.length
 .by_cases b:cy s i<97
  .refine aX [(7,ab),(12,ab)] 100 rfl ?_ (AK.hY (bZ.zero rfl ?_))
   .simp[-ai,ag,h,cu,b]
   .have:eG (s.getD i 0)=ae:=by
     cases c:eG (s.getD i 0) with
     |false=>rfl
     |true=>have:=pg.1 c;unfold cy at b;omega
    simp[ag.cat,ag,wy h this]
  .by_cases d:cy s i<=122
   .refine aX [(7,ab),(12,ae),(17,ae)] 100 rfl ?_ (AK.again (i+1) rfl ?_ ?_ ?_ rfl)
    .simp[-ai,ag,h,cu,b,d,bx]
     grind
    .simp[ag.cat,ag]
    .refine⟨by omega,?_⟩
     rw[Ab h,a,dF];exact pg.2 (by unfold cy at b d;omega)
    .omega
   .refine aX [(7,ab),(12,ae),(17,ab)] 100 rfl ?_ (AK.hY (bZ.zero rfl ?_))
    .simp[-ai,ag,h,cu,b];exact ck (by omega)
    .have:eG (s.getD i 0)=ae:=by
      cases c:eG (s.getD i 0) with
      |false=>rfl
      |true=>have:=pg.1 c;unfold cy at d;omega
     simp[ag.cat,ag,wy h this]
 .have e:i=s.length:=by omega
  subst e;refine aX [(7,ae)] 100 rfl (by simp[ag]) (AK.leave rfl rfl ?_)
  refine bm rfl av (AK.bo rfl ?_);rw[bY] at a;simp[ag.cat,ag,a]
def UI:dD X 195 (kN aS (λs=>dB (b8 s)) λ_=>[]):=.oH λk _=>BZ k
abbrev tb1:List (Nat×dg):=[(68,kN aI (λk=>dB (cA k)) λ_=>[]),(195,kN aS (λs=>dB (b8 s)) λ_=>[])]
def Ya:bD X tb1:=.cons t68 (.cons UI .nil)
def B4(p:Bs):Ev X 164 [dS p] [] (dB (bL p)) []:=by
 refine Ev.bQ Tryz.func164 rfl λc=>?_
 by_cases a:1<=p.length
 .by_cases b:p.length<=8
  .refine aE Ya [(5,ab),(9,ab),(11,ab)] 100 rfl ?_ (AK.bo rfl ?_)
   .simp[ag];omega
   .simp[ag,bL,a,b]
  .refine aE Ya [(5,ab),(9,ae),(11,ae)] 100 rfl ?_ (AK.bo rfl ?_)
   .simp[ag];omega
   .simp[ag,bL,a,b]
 .refine aE Ya [(5,ae),(11,ae)] 100 rfl ?_ (AK.bo rfl ?_)
  .simp[ag];omega
  .simp[ag,bL,a]
def t164:dD X 164 (kN aS (λs=>dB (bL s)) λ_=>[]):=.oH λk _=>B4 k
def B5(n:Nat)(h:n<=4000000):Ev X 209 [dI n] [] (dI (cB n)) []:=by
 refine Ev.bQ Tryz.func209 rfl λd=>?_
 by_cases b:n<1
 .refine aX [(5,ab),(9,ab)] 100 rfl ?_ (AK.bo rfl ?_)
  .simp[ag];omega
  .simp[ag,cB,b]
 .by_cases c:8<n
  .refine aX [(5,ae),(8,ab)] 100 rfl ?_ (AK.bo rfl ?_)
   .simp[ag];omega
   .simp[ag,cB,c]
  .refine aX [(5,ae),(8,ae)] 100 rfl ?_ ?_
   .simp[ag];omega
   have e:cB n=2∨cB n=4∨cB n=8:=by unfold cB;grind
   refine AK.wa (λi:Nat=>(i=2∨i=4∨i=8)/\i<=cB n) (λi:Nat=>[(0,dI n),(3,dI i)]) (λ_=>[]) (λi=>8-i) 2 rfl (by simp[ag.cat,ag]) ⟨by simp,by omega⟩ rfl ?_
   rintro i ⟨hi,a⟩
   by_cases h:i<n
   .refine aX [(12,ab)] 100 rfl ?_ (AK.again (2*i) rfl ?_ ?_ ?_ rfl)
    .simp[ag,bx];omega
    .simp[ag.cat,ag];omega
    .unfold cB at a ⊢
     grind
    .omega
   .refine aX [(12,ae)] 100 rfl (by simp[ag];omega) (AK.leave rfl rfl ?_)
    refine bm rfl av (AK.bo rfl ?_);have:i=cB n:=by
     unfold cB at a ⊢
     grind
    simp[ag.cat,ag,this]
def Ec(s:Bs)(b:UInt8):strip (s++[b])=if b=46 then strip s else s++[b]:=by
 unfold strip;rw[List.reverse_append];simp only[List.reverse_cons,List.reverse_nil,uU,List.singleton_append,List.dropWhile_cons]
 grind
def wz{s:Bs}{n:Nat}(h:n<s.length):strip (s.take (n+1))=if s.getD n 0=46 then strip (s.take n) else s.take (n+1):=by
 have e:s.take (n+1)=s.take n++[s.getD n 0]:=by
  rw[j3,bl h]
  grind
 rw[e,Ec]
def B6(s:Bs):Ev X 204 [dS s,dU 46] [] (dS (strip s)) []:=by
 refine Ev.bQ Tryz.func204 rfl λi=>?_
 have h:=i.str 0 rfl;refine bm rfl av ?_;refine AK.wa (λn=>n<=s.length/\strip (s.take n)=strip s) (λn:Nat=>[(0,dS (s.take n)),(1,dU 46)]) (λ_=>[]) (λn=>n) s.length rfl (by simp[ag.cat,ag]) ⟨by omega,by simp⟩ rfl ?_
 rintro n ⟨k,a⟩;cases n with
 |zero =>
  refine aX [(7,ae),(16,ae)] 100 rfl ?_ (AK.leave rfl rfl ?_)
  .simp[ag]
  refine bm rfl av (AK.bo rfl ?_);have:strip s=[]:=by rw[<-a];rfl
  simp[ag.cat,ag,this]
 |succ n =>
  have g:(s.take (n+1)).length=n+1:=by simp;omega
  have f:cy (s.take (n+1)) n=cy s n:=by simp[cy,ai,gQ]
  have j:=wz (s:=s) (n:=n) (by omega)
  have b:((n:Int)+1-1).toNat=n:=by omega
  by_cases c:s.getD n 0=46
  .refine aX [(7,ab),(15,ab),(16,ab)] 100 rfl ?_ (AK.again n rfl ?_ ?_ ?_ rfl)
   .have d:cy s n=46:=by unfold cy;rw[c];rfl
    simp[-ai,-List.length_take,ag,g,cu,b,f,d,bx];omega
   .simp[ag.cat,ag];show (s.take (n+1)).take _=_
    grind
   .grind
   .omega
  .refine aX [(7,ab),(15,ae),(16,ae)] 100 rfl ?_ (AK.leave rfl rfl ?_)
   .have d:cy s n≠46:=by
     unfold cy;intro e;exact c (pD.1 (by show _=46;omega))
    simp[-ai,-List.length_take,ag,g,cu,b,f,d,bx];omega
   refine bm rfl av (AK.bo rfl ?_);rw[j,aY c] at a;simp[ag.cat,ag,a]
def UJ:dg:=λargs σ=>match args,σ with
 |[.e (.one (.c (.str s))),.e (.one (.c (.int .u8 46)))],[]=>aa (dS (strip s),[],[])
 |_,_=>af
def t204:dD X 204 UJ:=by
 intro args σ res σ' obs h _;unfold UJ at h;split at h
 .cases h;exact B6 _
 .cases h
def NS(s:Bs):Ev X 163 [dS s,dS [46]] [] (dS (strip s)) []:=by
 refine Ev.bQ Tryz.func163 rfl λb=>?_
 by_cases h:s=[]
 .subst h;refine aE (bD.cons t204 .nil) [(8,ab),(12,ab)] 100 rfl ?_ (AK.bo rfl ?_)
  .simp[ag]
  .simp[ag,strip]
 .refine aE (bD.cons t204 .nil) [(8,ae),(11,ae),(12,ae),(16,ab),(20,ab),(21,ab)] 100 rfl ?_ (AK.bo rfl ?_)
  .cases s with
   |nil=>exact absurd rfl h
   |cons a r=>simp[ag];decide
  .simp[ag]
def Rj:dg:=λargs σ=>match args,σ with
 |[.e (.one (.c (.str s))),.e (.one (.c (.str [46])))],[]=>aa (dS (strip s),[],[])
 |_,_=>af
def t163:dD X 163 Rj:=by
 intro args σ res σ' obs h _;unfold Rj at h;split at h
 .cases h;exact NS _
 .cases h
def tR{p:Bs}{i:Nat}(h:i<p.length):codeOf (p.take (i+1))=27*codeOf (p.take i)+(cy p i-97) % 256+1:=by
 unfold codeOf;rw[j3,bl h];simp only[jC,Option.toList_some,ji,List.foldl_nil,cy,ai,bl h,fG]
def jP{p:Bs}(h:bL p=ab){i:Nat}(hi:i<=p.length):0<=codeOf (p.take i)/\codeOf (p.take i)<282429536481:=by
 simp only[bL,bO,bd] at h;obtain⟨d,a⟩:=wA (p.take i) 0 1 0 (λb c=>kO h.2 b (iI c)) (by omega) (by omega) (by omega)
 have:=PF (n:=(p.take i).length) (by rw[List.length_take];omega)
 rw[Int.one_mul] at a;exact⟨d,Int.lt_of_lt_of_le a this⟩
def wB{p:Bs}{i:Nat}(h:i<p.length):p.getD i 0∈p:=by
 grind
abbrev tb2:List (Nat×dg):=[(68,kN aI (λk=>dB (cA k)) λ_=>[]),(164,kN aS (λs=>dB (bL s)) λ_=>[])]
def ov:bD X tb2:=.cons t68 (.cons t164 .nil)
abbrev dNm(n:Int):D:=.eN [.one (.c (.int .i64 n)),.one (.c .nU)]
def Kr(k:Int)(p:Bs)(f:cA k=ab)(b:bL p=ab):Ev X 166 [dI k,dS p] [] (dNm (iX k p)) []:=by
 refine Ev.bQ Tryz.func166 rfl λq=>?_
 have a:=b;simp only[bL,bO,bd] at a;have d:=f;simp only[cA,bO,bd] at d;refine aE ov [(8,ae),(13,ae)] 100 rfl (by simp[ag,f,b]) ?_
 refine AK.wa (λi=>i<=p.length) (λi:Nat=>[(0,dI k),(1,dS p),(6,dI (codeOf (p.take i))),(19,dI p.length),(20,dI i)]) (λ_=>[]) (λi=>p.length-i) 0 rfl (by simp[ag.cat,ag,codeOf]) (by omega) rfl ?_
 intro i hi
 by_cases h:i<p.length
 .have g:=jP b hi;have r:=jP b (i:=i+1) (by omega)
  have e:=tR h;refine aX [(21,ab)] 100 rfl ?_ (AK.again (i+1) rfl ?_ ?_ ?_ rfl)
  .simp only[ag,cu,bx];simp[-ai,h,cu];have l:=kO a.2 (p.getD i 0) (wB h);have c:97<=cy p i/\cy p i<=122:=by unfold cy;omega
   omega
  .have l:=kO a.2 (p.getD i 0) (wB h);have c:97<=cy p i/\cy p i<=122:=by unfold cy;omega
   have j:(cy p i-97) % 256=cy p i-97:=Int.emod_eq_of_lt (by omega) (by omega)
   rw[j] at e;simp[-ai,ag.cat,ag,cu,e]
  .show i+1<=p.length;omega
  grind
 .have e:i=p.length:=by omega
  subst e;have g:=yu b;refine aX [(21,ae)] 100 rfl (by simp[ag]) (AK.leave rfl rfl ?_)
  refine bm rfl ?_ (AK.bo rfl ?_)
  .rw[bY];have n:0<=codeOf p*(2*k+1):=Int.mul_nonneg g.1 (by omega)
   have o:codeOf p*(2*k+1)<=282429536481*199:=Int.mul_le_mul (by omega) (by omega) (by omega) (by omega)
   generalize codeOf p*(2*k+1)=m at n o;simp only[ag,bx];simp;omega
  .rw[bY];refine ag.cat.2 ⟨?_,ag.cat.2 ⟨rfl,av⟩⟩;show (_:Int)=_;rw[Int.mul_comm 7919 k];rfl
def t166:dD X 166 (ow aI aS (λk p=>dNm (iX k p)) λk p=>[cA k=ab,bL p=ab]):=.qG λk p h=>Kr k p h.1 h.2
def Rm{P:aq}{o:aw}{j:an->D}{σ:List aW}{op:BinOp}{t ty:ar}{x:an}(h:o.op=.binOp op t x (.const .nilIface) ty){c:Bool}{ms:Array (String×ar)}(l:P.underlying t=aa (.interface ms))
  (n:j x=.e (.one (.c .nU))) (p:j (.const .nilIface)=.e (.one (.c .nU)))
  (k:lP op ab=aa c):bF P o j σ (.e (.one (.c (.bool c)))) σ:=by
 refine .quiet λs ρ q m=>?_
 have d:=m x;have g:=m (.const .nilIface);rw[n] at d;rw[p] at g
 replace d:=fC d
 replace g:=fC g
 generalize b:ρ x=vx at d;generalize a:ρ (.const .nilIface)=vy at g;cases d;cases g;have i:(Op.equal t .nilIface .nilIface).run P s.w=.ok ab s.w:=by
  show (Op.equalIn (9999+1) t _ _).run P s.w=_;unfold Op.equalIn;simp[underlying,l]
 have f:∀ es,(Op.equal t .nilIface .nilIface).events P s.w es=es:=λes=>by
  show (Op.equalIn (9999+1) t _ _).events P s.w es=es;unfold Op.equalIn;simp[underlying,l]
 cases op <;> simp only[lP,reduceCtorEq,de] at k
 .subst k;exact⟨.bool ab,by simp[ay,h,b,a,eqGuard,binOp,i],Rd.bool,by simp[ay,h,b,a,eqGuard,binOp,i,f]⟩
 .subst k;exact⟨.bool ae,by simp[ay,h,b,a,eqGuard,binOp,i],Rd.bool,by simp[ay,h,b,a,eqGuard,binOp,i,f]⟩
def G7(k:Int)(p:Bs) (n:Int)(b:cA k=ab)(a:bL p=ab):Ev X 127 [dI k,dS p,dI n] [] (dB (iX k p==n)) []:=by
 refine Ev.bQ Tryz.func127 rfl λc=>?_
 refine aE (bD.cons t166 .nil) [(17,ab)] 100 rfl ?_ ?_
 .simp[ag,b,a]
 refine AK.law (Rm rfl Tryz.underlying213 rfl rfl rfl) rfl rfl ?_;refine aE (bD.cons t166 .nil) [(17,ab)] 100 rfl ?_ (AK.bo rfl ?_)
 .rfl
 .rfl
def t127:dD X 127 (Di aI aS aI (λk p n=>dB (iX k p==n)) λk p _=>[cA k=ab,bL p=ab]):=.IN λk p n h=>G7 k p n h.1 h.2
abbrev dQ(n:Int):D:=.e (.one (.c (.int .u64 n)))
def _root_.Go.AM.AW.FY{P:aq}{X:Cx P}{N:Nat}{Q:Post}{φ:Fr}{σ:List aW}{x y:Code}(h:AW X N y Q φ σ):AW X N (.cond (.const (.bool ae)) x y) Q φ σ:=by
 intro s a f hh b k cs S hb hQ;refine .ctl hh rfl (λ_=>uY (t:=ae) rfl) λg h1=>?_
 exact h g a (f.rely h1 hh) (hh.rely h1) b k cs S hb λe c σ' s' a' q i d st=>hQ e c σ' s' a' q i d (h1.stepW.trans st)
def _root_.Go.AM.AK.FY{P:aq}{X:Cx P}{N:Nat}{Qf:Post}{K:List It}{φ:Fr}{σ:List aW}{x y:Code}(h:AK X N Qf (.code y::K) .normal φ σ):AK X N Qf (.code (.cond (.const (.bool ae)) x y)::K) .normal φ σ:=AW.FY h
def Ki{P:aq}{o:aw}{l:an->D}{σ:List aW}{op:BinOp}{t ty:ar}{x y:an}{k p:IntKind}{a b:Int} (c:Int)(h:o.op=.binOp op t x y ty)
  (r:l x=.e (.one (.c (.int k a)))) (u:l y=.e (.one (.c (.int p b)))) (m:bx k c)
  (d:∀ w,(binOp op t (.int k a) (.int p b)).run P w=.ok (.int k c) w) (n:∀ w,(binOp op t (.int k a) (.int p b)).events P w #[]=#[]) :
  bF P o l σ (.e (.one (.c (.int k c)))) σ:=by
 refine .quiet λs ρ v q=>?_
 have f:=q x;have i:=q y;rw[r] at f;rw[u] at i
 replace f:=fC f
 replace i:=fC i
 generalize j:ρ x=vx at f;generalize g:ρ y=vy at i;cases f;cases i;exact⟨.int k c,by simp only[ay,h,bS,j,g,gx,b7,d,cW],.int m,by simp[ay,h,j,g,gx,jI,d,n]⟩
def Eh:Ev X 238 [dQ 1,dQ 2] [] (.eN [.one (.c (.int .u64 0)),.one (.c (.int .u64 2))]) []:=by
 refine Ev.bQ Tryz.func238 rfl λa=>?_
 refine dE rfl (by simp[ag,bx]) (AK.bo rfl ?_)
 simp[ag,ag.cat]
def Ei:Ev X 238 [dQ 1,dQ 3] [] (.eN [.one (.c (.int .u64 0)),.one (.c (.int .u64 3))]) []:=by
 refine Ev.bQ Tryz.func238 rfl λa=>?_
 refine dE rfl (by simp[ag,bx]) (AK.bo rfl ?_)
 simp[ag,ag.cat]
def UL:dg:=λargs σ=>match args,σ with
 |[.e (.one (.c (.int .u64 1))),.e (.one (.c (.int .u64 c)))],[]=>aa (.eN [.one (.c (.int .u64 0)),.one (.c (.int .u64 c))],[],[c=2∨c=3])
 |_,_=>af
def t238:dD X 238 UL:=by
 intro args σ res σ' obs h a;unfold UL at h;split at h
 .cases h;rcases a with rfl|rfl
  .exact Eh
  .exact Ei
 .cases h
def Rs(c:Int)(a:c=2∨c=3):Ev X 227 [dQ 1,dQ c] [] (.eN [.one (.c (.int .u64 0)),.one (.c (.int .u64 c))]) []:=by
 refine Ev.bQ Tryz.func227 rfl λb=>?_
 refine aE (bD.cons t238 .nil) [] 100 rfl av ?_;refine AK.FY ?_;refine aE (bD.cons t238 .nil) [] 100 rfl ?_ (AK.bo rfl ?_)
 .simp[ag,a]
 .simp[ag,ag.cat]
def Ri:dg:=λargs σ=>match args,σ with
 |[.e (.one (.c (.int .u64 1))),.e (.one (.c (.int .u64 c)))],[]=>aa (.eN [.one (.c (.int .u64 0)),.one (.c (.int .u64 c))],[],[c=2∨c=3])
 |_,_=>af
def t227:dD X 227 Ri:=by
 intro args σ res σ' obs h a;unfold Ri at h;split at h
 .cases h;exact Rs _ a
 .cases h
end
section
open Go.Proofs
open Go.Sort (bitsLen)
variable {X:Cx ah}
def xZ:List UInt8:=(bh 256).map λi=>UInt8.ofNat (bitsLen i)
def ku{x k:Nat}(h:x<2 ^ k):bitsLen x<=k:=by
 unfold bitsLen;split
 .omega
 .rename_i a
  have:=(Nat.log2_lt a).2 h;omega
def O1{x:Nat}(h:x<256):(iO xZ x).toNat=bitsLen x:=by
 unfold iO xZ;rw[bt,ai,nF,List.getElem?_range h];have:=ku (x:=x) (k:=8) h;simp only[j4,fG];rw[UInt8.toNat_ofNat'];omega
def uj{n k:Nat}(h:2 ^ k<=n):bitsLen n=k+bitsLen (n / 2 ^ k):=by
 have a:0<2 ^ k:=Nat.two_pow_pos k;have d:0<n / 2 ^ k:=Nat.div_pos h a;unfold bitsLen;rw[aY (by omega),aY (by omega)]
 have e:Nat.log2 n=k+Nat.log2 (n / 2 ^ k):=by
  rw[Nat.log2_eq_iff (by omega)]
  have c:=Nat.log2_self_le (n:=n / 2 ^ k) (by omega)
  have b:=Nat.lt_log2_self (n:=n / 2 ^ k)
  constructor
  .rw[Nat.pow_add,jD];exact ez (ei _ c) (Nat.div_mul_le_self n _)
  .rw[show k+Nat.log2 (n / 2 ^ k)+1=k+(Nat.log2 (n / 2 ^ k)+1) by omega,Nat.pow_add]
   have:=(Nat.div_lt_iff_lt_mul a).1 b
   rwa [jD] at this
 omega
set_option maxRecDepth 100000 in
def Mt(n:Nat)(l:n<=4000000):Ev X 138 [dQ n] [] (dI (bitsLen n)) []:=by
 refine Ev.bQ Tryz.func138 rfl λj=>?_
 have fin:∀ {T:List UInt8} {x:Nat},T=xZ->x<256->(iO T (x:Int)).toNat=bitsLen x:=λb h=>by rw[b];exact O1 h
 have d:∀ {T:List UInt8},T=xZ->T.length=256:=λb=>by rw[b];rfl
 by_cases g:65536<=n
 .have c:((n:Int).toNat / 2 ^ Int.toNat 16)=n / 65536:=by simp
  have e:bitsLen n=16+bitsLen (n / 65536):=uj (n:=n) (k:=16) g;have f:=ku (x:=n / 65536) (k:=8) (by simp;omega)
  refine aX [(4,ae),(8,ab),(14,ae)] 200 rfl ?_ (AK.bo rfl ?_)
  .generalize b:(ByteArray.data _).toList=T;have a:T=xZ:=by rw[<-b];decide +kernel
   simp only[ag,c,fin a (show n / 65536<256 by omega),d a,bx,bd,bR];and_intros <;> omega
  .generalize b:(ByteArray.data _).toList=T;have a:T=xZ:=by rw[<-b];decide +kernel
   simp only[ag,ag.cat,c,fin a (show n / 65536<256 by omega),aG,aF]
   omega
 by_cases i:256<=n
 .have c:((n:Int).toNat / 2 ^ Int.toNat 8)=n / 256:=by simp
  have e:bitsLen n=8+bitsLen (n / 256):=uj (n:=n) (k:=8) i;have f:=ku (x:=n / 256) (k:=8) (by simp;omega)
  refine aX [(4,ae),(8,ae),(14,ab)] 200 rfl ?_ (AK.bo rfl ?_)
  .generalize b:(ByteArray.data _).toList=T;have a:T=xZ:=by rw[<-b];decide +kernel
   simp only[ag,c,fin a (show n / 256<256 by omega),d a,bx,bd,bR];and_intros <;> omega
  .generalize b:(ByteArray.data _).toList=T;have a:T=xZ:=by rw[<-b];decide +kernel
   simp only[ag,ag.cat,c,fin a (show n / 256<256 by omega),aG,aF]
   omega
 .have f:=ku (x:=n) (k:=8) (by simp;omega)
  refine aX [(4,ae),(8,ae),(14,ae)] 200 rfl ?_ (AK.bo rfl ?_)
  .generalize b:(ByteArray.data _).toList=T;have a:T=xZ:=by rw[<-b];decide +kernel
   simp only[ag,fin a (show n<256 by omega),d a,bx,bd,bR];and_intros <;> omega
  .generalize b:(ByteArray.data _).toList=T;have a:T=xZ:=by rw[<-b];decide +kernel
   simp only[ag,ag.cat,fin a (show n<256 by omega),aG,aF]
   omega
def Mn(n:Nat)(a:n<=4000000):Ev X 113 [dQ n] [] (dI (bitsLen n)) []:=by
 refine Ev.bQ Tryz.func113 rfl λb=>?_
 refine dE rfl av ?_;refine AK.FY ?_;refine dE rfl av ?_;refine AK.cQ (Mt n a) [] rfl ?_;refine dE rfl av (AK.bo rfl ?_);simp[ag,ag.cat]
end
section
open Go.Proofs
open Go.Sort (swp bitsLen xorNextN xorNextN_lt xorNext xorNext_toNat breakStep breakPatterns)
variable {X:Cx ah}
abbrev bQ(r:Nat):aW:=.cells 216 [.c (.int .u64 r)]
def O2(r:Nat):Ev X 169 [.e (.one (.ptr 0 0))] [bQ r] (dQ (xorNextN r)) [bQ (xorNextN r)]:=by
 refine Ev.bQ Tryz.func169 rfl λd=>?_
 have b:(2:Nat) ^ Int.toNat 13=8192:=by decide
 have c:(2:Nat) ^ Int.toNat 7=128:=by decide
 have a:(2:Nat) ^ Int.toNat 17=131072:=by decide
 refine dE rfl ?_ ?_
 .simp only[ag];omega
 refine AK.norm [bQ (xorNextN r)] rfl ?_ (AK.dA [0] rfl ?_ rfl rfl rfl g7)
 .simp only[ag,ag.cat,xorNextN,bt,b,c,a,aF]
 .simp only[ag,ag.cat,xorNextN,bt,b,c,a]
def O3(n:Nat)(a:n<=4000000):Ev X 168 [dI n] [] (dQ ((1 <<< bitsLen n:Nat):Int)) []:=by
 refine Ev.bQ Tryz.func168 rfl λb=>?_
 have l:=ku (x:=n) (k:=22) (by simp;omega)
 refine dE rfl (by simp only[ag,bx];and_intros <;> omega) ?_
 refine AK.cQ (Mn n a) [] rfl ?_;refine dE rfl ?_ (AK.bo rfl ?_)
 .simp only[ag];omega
 .have c:2 ^ bitsLen n<=2 ^ 22:=zf (by omega) l
  simp only[ag,ag.cat,Nat.shiftLeft_eq,bt]
  grind
def C5{L:Nat}(h:0<L):1 <<< bitsLen L<=2*L:=by
 rw[Nat.shiftLeft_eq,ri];unfold bitsLen;rw[aY (by omega),Nat.pow_succ]
 have:=Nat.log2_self_le (n:=L) (by omega)
 omega
def Mv(L:Nat):1<=1 <<< bitsLen L:=by
 rw[Nat.shiftLeft_eq,ri];exact Nat.two_pow_pos _
def Tg(a L M:Nat):Nat->Nat->UInt64×Array Int->UInt64×Array Int
 |0,_,st=>st
 |k+1,idx,st=>Tg a L M k (idx+1) (breakStep a L M st idx)
def tD{d:Array Int}{a L:Nat}(h:8<=L):breakPatterns d a (a+L)=(Tg a L (1 <<< bitsLen L) 3 (a+L / 4*2-1) (UInt64.ofNat L,d)).2:=by
 unfold breakPatterns;simp only[uJ];rw[bg h];rfl
def AZ{a L M idx:Nat}{r:UInt64}{d:Array Int}:breakStep a L M (r,d) idx=(xorNext r,swp d idx (a+if (xorNextN r.toNat &&& (M-1))≥L then (xorNextN r.toNat &&& (M-1))-L else (xorNextN r.toNat &&& (M-1)))):=by
 unfold breakStep;simp only[xorNext_toNat]
abbrev Zm(n a L M:Nat)(k:Nat):Fr:=[(0,kD n),(1,dI a),(6,dI L),(7,.e (.one (.ptr 1 0))),(8,dQ M),(9,dI ((a+L / 4*2-1+(3-k):Nat):Int))]
def Ml(n:Nat)(d:Array Int)(a b:Nat)(u:d.size=n)(p:a<=b)(y:b<=n)(C:n<=4000000) :
  Ev X 130 [kD n,dI a,dI b] [bI n d] (.eN []) [bI n (breakPatterns d a b)]:=by
 refine Ev.bQ Tryz.func130 rfl λz=>?_
 obtain⟨L,rfl⟩:∃ L,b=a+L:=⟨b-a,by omega⟩
 by_cases v:8<=L
 .rw[tD v];have B:=C5 (L:=L) (by omega)
  have w:=Mv L;have m:(UInt64.ofNat L).toNat=L:=by rw[UInt64.toNat_ofNat'];omega
  refine aX [(15,ab)] 200 rfl ?_ ?_
  .simp only[ag,bx,bd,aG,aF];and_intros <;> omega
  have key:∀ x:Int,x=(L:Int)->Ev X 168 [dI x] [] (dQ ((1 <<< bitsLen L:Nat):Int)) []:=by
   rintro x rfl;exact O3 L (by omega)
  refine AK.cQ (key _ (by omega)) [] rfl ?_
  refine dE rfl ?_ ?_
  .simp only[ag,bx,bd,aG,aF];and_intros <;> omega
  generalize t:1 <<< bitsLen L=M at *;refine AK.bJ 2 (λs:Nat×UInt64×Array Int=>s.2.2.size=n/\s.1<=3/\(Tg a L M s.1 (a+L / 4*2-1+(3-s.1)) s.2).2=(Tg a L M 3 (a+L / 4*2-1) (UInt64.ofNat L,d)).2) (λs=>Zm n a L M s.1) (λs=>[bI n s.2.2,bQ s.2.1.toNat]) (λs=>s.1) (3,UInt64.ofNat L,d) rfl ?_ rfl ?_ rfl ⟨u,bc _,rfl⟩ ?_
  .simp only[ag.cat,ag,aG,aF];and_intros <;> omega
  .simp only[ag.cat,ag,aR,m,aG,aF]
   grind
  rintro⟨k,r,d1⟩ ⟨h,q,c⟩;simp only at h q c;cases k with
  |zero =>
   rw[<-c];refine aX [(33,ae)] 200 rfl ?_ (AK.leaveD rfl rfl ?_)
   .simp only[ag,bx,bR,aG,aF];and_intros <;> omega
   exact bZ.s9 [0] rfl av rfl rfl rfl g7
  |succ k =>
   have A:xorNextN r.toNat<18446744073709551616:=xorNextN_lt _ (UInt64.toNat_lt r);have o:xorNextN r.toNat &&& (M-1)<=M-1:=Nat.and_le_right;have j:((M:Int)-1).toNat=M-1:=by omega
   refine aX [(33,ab)] 200 rfl ?_ ?_
   .simp only[ag,bx,bd,aG,aF];and_intros <;> omega
   refine AK.cQ (O2 r.toNat) [1] rfl ?_;have f:=AZ (a:=a) (L:=L) (M:=M) (idx:=a+L / 4*2-1+(3-(k+1))) (r:=r) (d:=d1);generalize l:xorNextN r.toNat &&& (M-1)=O at *
   by_cases g:L<=O
   .rw[bg g] at f;have i:((a:Int)+((O:Int)-(L:Int))).toNat=a+(O-L):=by omega
    refine aX [(43,ab)] 200 rfl ?_ (AK.aQ (k,xorNext r,swp d1 (a+L / 4*2-1+(3-(k+1))) (a+(O-L))) rfl ?_ ?_ ?_ ?_)
    .simp only[ag,br,bt,j,l,i,bx,bd,aG,aF];and_intros <;> omega
    .simp only[ag.cat,ag,aG,aF];omega
    .simp only[ag.cat,ag,br,bt,j,l,i,xorNext_toNat,aF,aG];exact hI h (by omega) (by omega) (λ_ _=>rfl)
    .refine⟨by rw[size_swp];exact h,by simp only;omega,?_⟩
     rw[<-c,Tg,f,show a+L / 4*2-1+(3-(k+1))+1=a+L / 4*2-1+(3-k) by omega]
    .simp
   .rw[aY g] at f;have i:((a:Int)+(O:Int)).toNat=a+O:=by omega
    refine aX [(43,ae)] 200 rfl ?_ (AK.aQ (k,xorNext r,swp d1 (a+L / 4*2-1+(3-(k+1))) (a+O)) rfl ?_ ?_ ?_ ?_)
    .simp only[ag,br,bt,j,l,i,bx,bR,aG,aF];and_intros <;> omega
    .simp only[ag.cat,ag,aG,aF];omega
    .simp only[ag.cat,ag,br,bt,j,l,i,xorNext_toNat,aF,aG];exact hI h (by omega) (by omega) (λ_ _=>rfl)
    .refine⟨by rw[size_swp];exact h,by simp only;omega,?_⟩
     rw[<-c,Tg,f,show a+L / 4*2-1+(3-(k+1))+1=a+L / 4*2-1+(3-k) by omega]
    .simp
 .have e:breakPatterns d a (a+L)=d:=by unfold breakPatterns;grind
  rw[e];refine aX [(15,ae)] 200 rfl ?_ ?_
  .simp only[ag,bx,bR,aG,aF];and_intros <;> omega
  exact bZ.s9 [0] rfl av rfl rfl rfl g7
end
section
open Go.Proofs
open Go.Sort (swp scanUp scanDown partLoop partEqLoop partition partitionEqual ltInt)
variable {X:Cx ah}
def mL{p:Int->Bool}{d:Array Int}{j i:Nat}(h:i<=j)(a:p d[i]! = ab):scanUp p d j i=scanUp p d j (i+1):=by
 rw[scanUp.eq_1 p d j i,bg (by simp[h,a])]
def gz{p:Int->Bool}{d:Array Int}{j i:Nat}(h:i<=j->p d[i]! = ae):scanUp p d j i=i:=by
 rw[scanUp,aY]
 grind
def kG{p:Int->Bool}{d:Array Int}{j i:Nat}(c:1<=j)(h:i<=j)(a:p d[j]! = ab):scanDown p d i j=scanDown p d i (j-1):=by
 obtain⟨j,rfl⟩:∃ b,j=b+1:=⟨j-1,by omega⟩
 rw[scanDown,bg (by simp[h,a]),nJ]
def fh{p:Int->Bool}{d:Array Int}{j i:Nat}(h:i<=j->p d[j]! = ae):scanDown p d i j=j:=by
 cases j with
 |zero=>rfl
 |succ j =>
  rw[scanDown,aY]
  grind
def nE{p:Int->Bool}{d:Array Int}{j:Nat}:∀ (m i:Nat),j+1-i<=m->i<=scanUp p d j i/\(scanUp p d j i<=j+1∨scanUp p d j i=i):=by
 intro m
 induction m with
 |zero=>intro i h;rw[gz (λa=>by omega)];omega
 |succ m c =>
  intro i h
  by_cases b:i<=j
  .cases a:p d[i]! with
   |true=>rw[mL b a];have:=c (i+1) (by omega);omega
   |false=>rw[gz λ_=>a];omega
  grind
def kT{p:Int->Bool}{d:Array Int}{i:Nat}:∀ j:Nat,scanDown p d i j<=j/\(i<=scanDown p d i j+1∨scanDown p d i j=j):=by
 intro j
 induction j with
 |zero=>rw[show scanDown p d i 0=0 from rfl];omega
 |succ j c =>
  by_cases a:i<=j+1
  .cases b:p d[j+1]! with
   |true=>rw[kG (by omega) a b,nJ];omega
   |false=>rw[fh λ_=>b];omega
  .rw[fh λx=>absurd x a];omega
def partLoop_eq{a i j:Nat}{d:Array Int}{i2 j2:Nat}(f:1<=i)(hi:i2=scanUp (λx=>ltInt x d[a]!) d j i)(b:j2=scanDown (λx=>!ltInt x d[a]!) d i2 j) :
  partLoop ltInt a i j d=if i2>j2 then (j2,d) else partLoop ltInt a (i2+1) (j2-1) (swp d i2 j2):=by
 have c:=nE (p:=λx=>ltInt x d[a]!) (d:=d) (j:=j) (j+1-i) i (bc _)
 have e:=kT (p:=λx=>!ltInt x d[a]!) (d:=d) (i:=i2) j
 rw[<-hi] at c;rw[<-b] at e;rw[partLoop.eq_1,<-hi,<-b]
 grind
def C6{d c:Array Int}{a b v i j:Nat}(f:c=swp d a v)(hi:i=scanUp (λx=>ltInt x c[a]!) c (b-1) (a+1))(e:j=scanDown (λx=>!ltInt x c[a]!) c i (b-1))(h:i>j):partition ltInt d a b v=(j,ab,swp c j a):=by
 unfold partition
 grind
def C7{d c:Array Int}{a b v i j:Nat}(g:c=swp d a v)(hi:i=scanUp (λx=>ltInt x c[a]!) c (b-1) (a+1))(f:j=scanDown (λx=>!ltInt x c[a]!) c i (b-1))(h:¬i>j){r:Nat×Array Int}(e:partLoop ltInt a (i+1) (j-1) (swp c i j)=r):partition ltInt d a b v=(r.1,ae,swp r.2 r.1 a):=by
 subst e;unfold partition
 grind
def OY(n:Nat)(d:Array Int)(a b v:Nat)(Q:d.size=n)(R:a<b)(W:b<=n)(Z:v<n)(hn:n<=4000000) :
  Ev X 136 [kD n,dI a,dI b,dI v] [bI n d] (.eN [.one (.c (.int .i64 (partition ltInt d a b v).1)),.one (.c (.bool (partition ltInt d a b v).2.1))]) [bI n (partition ltInt d a b v).2.2]:=by
 have l:bD X [(134,ui)]:=.cons xi .nil;refine Ev.bQ Tryz.func136 rfl λY=>?_
 refine aE l [(1000002,ab)] 200 rfl ?_ ?_
 .simp only[ag,br,bt,bx,aG,aF];and_intros <;> omega
 refine AK.norm [bI n (swp d a v)] rfl ?_ ?_
 .simp only[ag.cat,ag,br,bt,aF,aG];exact hI Q (by omega) (by omega) (λ_ _=>rfl)
 have w:(swp d a v).size=n:=by rw[size_swp];exact Q
 obtain⟨f,J⟩:∃ f,f=swp d a v:=⟨_,rfl⟩;rw[<-J] at w ⊢;refine aE l [] 200 rfl ?_ ?_
 .simp only[ag,bx];and_intros <;> omega
 refine AK.kM (S2:=Unit) 0 rfl rfl (λ_=>True) (λ_=>[(0,kD n),(1,dI a),(10,dI ((scanUp (λx=>ltInt x f[a]!) f (b-1) (a+1)):Nat)),(11,dI (b-1:Nat))]) (λ_=>[bI n f]) 1 (λk:Nat=>a+1<=k/\k<=n+1/\scanUp (λx=>ltInt x f[a]!) f (b-1) k=scanUp (λx=>ltInt x f[a]!) f (b-1) (a+1)) (λk=>[(0,kD n),(1,dI a),(10,dI (k:Nat)),(11,dI (b-1:Nat))]) (λ_=>[bI n f]) (λk=>b-1+1-k) (a+1) rfl ?_ rfl ?_ rfl ⟨bc _,by omega,rfl⟩ ?_ ?_
 .simp[ag.cat,ag,aR] <;> omega
 .simp[ag.cat,ag,aR]
 .rintro out k ⟨z,A,h⟩
  by_cases m:k<=b-1
  .by_cases t:(λx=>ltInt x f[a]!) f[k]! = ab
   .have g:ltInt f[k]! f[a]! = ab:=by simpa using t
    refine aE l [(32,ab),(42,ab)] 200 rfl ?_ (AK.aQ (k+1) rfl ?_ ?_ ?_ ?_)
    .simp only[ag,br,bt,g,bx,bd,aG,aF];and_intros <;> omega
    .simp only[ag.cat,ag,aG,aF];omega
    .simp[ag.cat,ag,aR]
    .exact⟨by omega,by omega,by rw[<-h,mL m t]⟩
    .omega
   .have g:ltInt f[k]! f[a]! = ae:=by simpa using t
    refine aE l [(32,ab),(42,ae)] 200 rfl ?_ (AK.leaveD rfl rfl ?_)
    .simp only[ag,br,bt,g,bx,bd,aG,aF];and_intros <;> omega
    have e:scanUp (λx=>ltInt x f[a]!) f (b-1) (a+1)=k:=by rw[<-h];exact gz λ_=>by simpa using t
    exact out () av rfl (by simp only[ag.cat,ag,e,aG,aF]) rfl (by simp[ag.cat,ag,aR])
  .refine aE l [(32,ae)] 200 rfl ?_ (AK.leaveD rfl rfl ?_)
   .simp only[ag,bx,bR,aG,aF];omega
   have e:scanUp (λx=>ltInt x f[a]!) f (b-1) (a+1)=k:=by rw[<-h];exact gz λx=>absurd x m
   exact out () av rfl (by simp only[ag.cat,ag,e,aG,aF]) rfl (by simp[ag.cat,ag,aR])
 rintro⟨⟩ -;have S:=nE (p:=λx=>ltInt x f[a]!) (d:=f) (j:=b-1) (b-1+1-(a+1)) (a+1) (bc _)
 obtain⟨i,hi⟩:∃ i,i=scanUp (λx=>ltInt x f[a]!) f (b-1) (a+1):=⟨_,rfl⟩
 rw[<-hi] at S ⊢;refine aE l [] 200 rfl av ?_;refine AK.kM (S2:=Unit) 2 rfl rfl (λ_=>True) (λ_=>[(0,kD n),(1,dI a),(10,dI (i:Nat)),(11,dI ((scanDown (λx=>!ltInt x f[a]!) f (i) (b-1)):Nat))]) (λ_=>[bI n f]) 1 (λk:Nat=>k<=b-1/\k<=n/\scanDown (λx=>!ltInt x f[a]!) f (i) k=scanDown (λx=>!ltInt x f[a]!) f (i) (b-1)) (λk=>[(0,kD n),(1,dI a),(10,dI (i:Nat)),(11,dI (k:Nat))]) (λ_=>[bI n f]) (λk=>k) (b-1) rfl ?_ rfl ?_ rfl ⟨bc _,by omega,rfl⟩ ?_ ?_
 .simp[ag.cat,ag,aR] <;> omega
 .simp[ag.cat,ag,aR]
 .rintro out k ⟨z,A,h⟩
  by_cases m:i<=k
  .by_cases t:(λx=>!ltInt x f[a]!) f[k]! = ab
   .have g:ltInt f[k]! f[a]! = ae:=by simpa using t
    refine aE l [(48,ab),(58,ae)] 200 rfl ?_ (AK.aQ (k-1) rfl ?_ ?_ ?_ ?_)
    .simp only[ag,br,bt,g,bx,bd,aG,aF];and_intros <;> omega
    .simp only[ag.cat,ag,aG,aF];omega
    .simp[ag.cat,ag,aR]
    .exact⟨by omega,by omega,by rw[<-h,kG (by omega) m t]⟩
    .omega
   .have g:ltInt f[k]! f[a]! = ab:=by simpa using t
    refine aE l [(48,ab),(58,ab)] 200 rfl ?_ (AK.leaveD rfl rfl ?_)
    .simp only[ag,br,bt,g,bx,bd,aG,aF];and_intros <;> omega
    have e:scanDown (λx=>!ltInt x f[a]!) f (i) (b-1)=k:=by rw[<-h];exact fh λ_=>by simpa using t
    exact out () av rfl (by simp only[ag.cat,ag,e,aG,aF]) rfl (by simp[ag.cat,ag,aR])
  .refine aE l [(48,ae)] 200 rfl ?_ (AK.leaveD rfl rfl ?_)
   .simp only[ag,bx,bR,aG,aF];omega
   have e:scanDown (λx=>!ltInt x f[a]!) f (i) (b-1)=k:=by rw[<-h];exact fh λx=>absurd x m
   exact out () av rfl (by simp only[ag.cat,ag,e,aG,aF]) rfl (by simp[ag.cat,ag,aR])
 rintro⟨⟩ -;have T:=kT (p:=λx=>!ltInt x f[a]!) (d:=f) (i:=i) (b-1)
 obtain⟨j,O⟩:∃ j,j=scanDown (λx=>!ltInt x f[a]!) f i (b-1):=⟨_,rfl⟩
 rw[<-O] at T ⊢
 by_cases M:j<i
 .rw[C6 J hi O M];refine aE l [(65,ab),(1000009,ab)] 200 rfl ?_ ?_
  .simp only[ag,br,bt,bx,bd,aG,aF];and_intros <;> omega
  refine AK.norm [bI n (swp f j a)] rfl ?_ ?_
  .simp only[ag.cat,ag,br,bt,aF,aG];exact hI w (by omega) (by omega) (λ_ _=>rfl)
  refine aE l [] 200 rfl av (AK.dA [0] rfl ?_ rfl rfl rfl g7);simp[ag.cat,ag]
 refine aE l [(65,ae),(1000011,ab)] 200 rfl ?_ ?_
 .simp only[ag,br,bt,bx,bR,aG,aF];and_intros <;> omega
 refine AK.norm [bI n (swp f i j)] rfl ?_ ?_
 .simp only[ag.cat,ag,br,bt,aF,aG];exact hI w (by omega) (by omega) (λ_ _=>rfl)
 refine aE l [] 200 rfl ?_ ?_
 .simp only[ag,bx];and_intros <;> omega
 have F:(swp f i j).size=n:=by rw[size_swp];exact w
 obtain⟨r,P⟩:∃ r,partLoop ltInt a (i+1) (j-1) (swp f i j)=r:=⟨_,rfl⟩;rw[C7 J hi O (by omega) P]
 obtain⟨d1,N⟩:∃ d1,d1=swp f i j:=⟨_,rfl⟩;rw[<-N] at F P ⊢;refine AK.kM (S2:=Unit) 4 rfl rfl (λ_=>r.1<n/\r.2.size=n) (λ_=>[(0,kD n),(1,dI a),(11,dI r.1)]) (λ_=>[bI n r.2]) 1 (λs:Nat×Nat×Array Int=>s.2.2.size=n/\a+1<=s.1/\s.1<=n+1/\s.2.1<n/\partLoop ltInt a s.1 s.2.1 s.2.2=r) (λs=>[(0,kD n),(1,dI a),(10,dI s.1),(11,dI s.2.1)]) (λs=>[bI n s.2.2]) (λs=>s.2.1+1-s.1) (i+1,j-1,d1) rfl ?_ rfl ?_ rfl ⟨F,by simp only;omega,by simp only;omega,by simp only;omega,P⟩ ?_ ?_
 .simp only[ag.cat,ag,aG,aF];and_intros <;> omega
 .simp[ag.cat,ag,aR]
 .rintro C ⟨i3,o,d2⟩ ⟨y,I,H,L,u⟩;simp only at y I H L u;refine aE l [] 200 rfl av ?_;refine AK.kM (S2:=Unit) 6 rfl rfl (λ_=>True) (λ_=>[(0,kD n),(1,dI a),(10,dI ((scanUp (λx=>ltInt x d2[a]!) d2 (o) (i3)):Nat)),(11,dI (o:Nat))]) (λ_=>[bI n d2]) 1 (λk:Nat=>i3<=k/\k<=n+1/\scanUp (λx=>ltInt x d2[a]!) d2 (o) k=scanUp (λx=>ltInt x d2[a]!) d2 (o) (i3)) (λk=>[(0,kD n),(1,dI a),(10,dI (k:Nat)),(11,dI (o:Nat))]) (λ_=>[bI n d2]) (λk=>o+1-k) (i3) rfl ?_ rfl ?_ rfl ⟨bc _,by omega,rfl⟩ ?_ ?_
  .simp[ag.cat,ag,aR] <;> omega
  .simp[ag.cat,ag,aR]
  .rintro out k ⟨z,A,h⟩
   by_cases m:k<=o
   .by_cases t:(λx=>ltInt x d2[a]!) d2[k]! = ab
    .have g:ltInt d2[k]! d2[a]! = ab:=by simpa using t
     refine aE l [(101,ab),(111,ab)] 200 rfl ?_ (AK.aQ (k+1) rfl ?_ ?_ ?_ ?_)
     .simp only[ag,br,bt,g,bx,bd,aG,aF];and_intros <;> omega
     .simp only[ag.cat,ag,aG,aF];omega
     .simp[ag.cat,ag,aR]
     .exact⟨by omega,by omega,by rw[<-h,mL m t]⟩
     .omega
    .have g:ltInt d2[k]! d2[a]! = ae:=by simpa using t
     refine aE l [(101,ab),(111,ae)] 200 rfl ?_ (AK.leaveD rfl rfl ?_)
     .simp only[ag,br,bt,g,bx,bd,aG,aF];and_intros <;> omega
     have e:scanUp (λx=>ltInt x d2[a]!) d2 (o) (i3)=k:=by rw[<-h];exact gz λ_=>by simpa using t
     exact out () av rfl (by simp only[ag.cat,ag,e,aG,aF]) rfl (by simp[ag.cat,ag,aR])
   .refine aE l [(101,ae)] 200 rfl ?_ (AK.leaveD rfl rfl ?_)
    .simp only[ag,bx,bR,aG,aF];omega
    have e:scanUp (λx=>ltInt x d2[a]!) d2 (o) (i3)=k:=by rw[<-h];exact gz λx=>absurd x m
    exact out () av rfl (by simp only[ag.cat,ag,e,aG,aF]) rfl (by simp[ag.cat,ag,aR])
  rintro⟨⟩ -;have V:=nE (p:=λx=>ltInt x d2[a]!) (d:=d2) (j:=o) (o+1-i3) i3 (bc _)
  obtain⟨i4,D⟩:∃ i4,i4=scanUp (λx=>ltInt x d2[a]!) d2 o i3:=⟨_,rfl⟩
  rw[<-D] at V ⊢;refine aE l [] 200 rfl av ?_;refine AK.kM (S2:=Unit) 8 rfl rfl (λ_=>True) (λ_=>[(0,kD n),(1,dI a),(10,dI (i4:Nat)),(11,dI ((scanDown (λx=>!ltInt x d2[a]!) d2 (i4) (o)):Nat))]) (λ_=>[bI n d2]) 1 (λk:Nat=>k<=o/\k<=n/\scanDown (λx=>!ltInt x d2[a]!) d2 (i4) k=scanDown (λx=>!ltInt x d2[a]!) d2 (i4) (o)) (λk=>[(0,kD n),(1,dI a),(10,dI (i4:Nat)),(11,dI (k:Nat))]) (λ_=>[bI n d2]) (λk=>k) (o) rfl ?_ rfl ?_ rfl ⟨bc _,by omega,rfl⟩ ?_ ?_
  .simp[ag.cat,ag,aR] <;> omega
  .simp[ag.cat,ag,aR]
  .rintro out k ⟨z,A,h⟩
   by_cases m:i4<=k
   .by_cases t:(λx=>!ltInt x d2[a]!) d2[k]! = ab
    .have g:ltInt d2[k]! d2[a]! = ae:=by simpa using t
     refine aE l [(117,ab),(127,ae)] 200 rfl ?_ (AK.aQ (k-1) rfl ?_ ?_ ?_ ?_)
     .simp only[ag,br,bt,g,bx,bd,aG,aF];and_intros <;> omega
     .simp only[ag.cat,ag,aG,aF];omega
     .simp[ag.cat,ag,aR]
     .exact⟨by omega,by omega,by rw[<-h,kG (by omega) m t]⟩
     .omega
    .have g:ltInt d2[k]! d2[a]! = ab:=by simpa using t
     refine aE l [(117,ab),(127,ab)] 200 rfl ?_ (AK.leaveD rfl rfl ?_)
     .simp only[ag,br,bt,g,bx,bd,aG,aF];and_intros <;> omega
     have e:scanDown (λx=>!ltInt x d2[a]!) d2 (i4) (o)=k:=by rw[<-h];exact fh λ_=>by simpa using t
     exact out () av rfl (by simp only[ag.cat,ag,e,aG,aF]) rfl (by simp[ag.cat,ag,aR])
   .refine aE l [(117,ae)] 200 rfl ?_ (AK.leaveD rfl rfl ?_)
    .simp only[ag,bx,bR,aG,aF];omega
    have e:scanDown (λx=>!ltInt x d2[a]!) d2 (i4) (o)=k:=by rw[<-h];exact fh λx=>absurd x m
    exact out () av rfl (by simp only[ag.cat,ag,e,aG,aF]) rfl (by simp[ag.cat,ag,aR])
  rintro⟨⟩ -;have c2:=kT (p:=λx=>!ltInt x d2[a]!) (d:=d2) (i:=i4) o
  obtain⟨B,E⟩:∃ B,B=scanDown (λx=>!ltInt x d2[a]!) d2 i4 o:=⟨_,rfl⟩
  rw[<-E] at c2 ⊢;have q:=partLoop_eq (by omega) D E
  by_cases G:B<i4
  .have e:=q;rw[u,bg G] at e;refine aE l [(134,ab)] 200 rfl ?_ (AK.leaveD rfl rfl ?_)
   .simp only[ag,bx,bd];omega
   exact C () (by grind) rfl (by simp only[ag.cat,ag,e,aG,aF]) rfl (by simp[ag.cat,ag,aR,e])
  .have e:=q;rw[u,aY (by omega)] at e
   refine aE l [(134,ae),(1000019,ab)] 200 rfl ?_ ?_
   .simp only[ag,br,bt,bx,bR,aG,aF];and_intros <;> omega
   refine AK.norm [bI n (swp d2 i4 B)] rfl ?_ ?_
   .simp only[ag.cat,ag,br,bt,aF,aG];exact hI y (by omega) (by omega) (λ_ _=>rfl)
   refine aE l [] 200 rfl ?_ (AK.aQ (i4+1,B-1,swp d2 i4 B) rfl ?_ ?_ ?_ ?_)
   .simp only[ag,bx];and_intros <;> omega
   .simp only[ag.cat,ag,aG,aF];and_intros <;> omega
   .simp[ag.cat,ag,aR]
   .exact⟨by rw[size_swp];exact y,by simp only;omega,by simp only;omega,by simp only;omega,e.symm⟩
   .simp only;omega
 rintro⟨⟩ ⟨U,K⟩;refine aE l [(1000022,ab)] 200 rfl ?_ ?_
 .simp only[ag,br,bt,bx,aG,aF];and_intros <;> omega
 refine AK.norm [bI n (swp r.2 r.1 a)] rfl ?_ ?_
 .simp only[ag.cat,ag,br,bt,aF,aG];exact hI K (by omega) (by omega) (λ_ _=>rfl)
 refine aE l [] 200 rfl av (AK.dA [0] rfl ?_ rfl rfl rfl g7);simp[ag.cat,ag]
def partEqLoop_eq{a i j:Nat}{d:Array Int}{i2 j2:Nat}(f:1<=i)(hi:i2=scanUp (λx=>!ltInt d[a]! x) d j i)(b:j2=scanDown (λx=>ltInt d[a]! x) d i2 j) :
  partEqLoop ltInt a i j d=if i2>j2 then (i2,d) else partEqLoop ltInt a (i2+1) (j2-1) (swp d i2 j2):=by
 have c:=nE (p:=λx=>!ltInt d[a]! x) (d:=d) (j:=j) (j+1-i) i (bc _)
 have e:=kT (p:=λx=>ltInt d[a]! x) (d:=d) (i:=i2) j
 rw[<-hi] at c;rw[<-b] at e;rw[partEqLoop.eq_1,<-hi,<-b]
 grind
def Im(n:Nat)(d:Array Int)(a b v:Nat)(H:d.size=n)(J:a<b)(N:b<=n)(P:v<n)(Q:n<=4000000) :
  Ev X 135 [kD n,dI a,dI b,dI v] [bI n d] (dI (partitionEqual ltInt d a b v).1) [bI n (partitionEqual ltInt d a b v).2]:=by
 have h:bD X [(134,ui)]:=.cons xi .nil;refine Ev.bQ Tryz.func135 rfl λO=>?_
 refine aE h [(1000002,ab)] 200 rfl ?_ ?_
 .simp only[ag,br,bt,bx,aG,aF];and_intros <;> omega
 refine AK.norm [bI n (swp d a v)] rfl ?_ ?_
 .simp only[ag.cat,ag,br,bt,aF,aG];exact hI H (by omega) (by omega) (λ_ _=>rfl)
 have F:(swp d a v).size=n:=by rw[size_swp];exact H
 unfold partitionEqual;generalize swp d a v=d1 at *;obtain⟨r,I⟩:∃ r,partEqLoop ltInt a (a+1) (b-1) d1=r:=⟨_,rfl⟩;rw[I];refine aE h [] 200 rfl ?_ ?_
 .simp only[ag,bx];and_intros <;> omega
 refine AK.kM (S2:=Unit) 0 rfl rfl (λ_=>r.1<=n+1/\r.2.size=n) (λ_=>[(0,kD n),(1,dI a),(9,dI r.1)]) (λ_=>[bI n r.2]) 1 (λs:Nat×Nat×Array Int=>s.2.2.size=n/\a+1<=s.1/\s.1<=n+1/\s.2.1<n/\partEqLoop ltInt a s.1 s.2.1 s.2.2=r) (λs=>[(0,kD n),(1,dI a),(9,dI s.1),(10,dI s.2.1)]) (λs=>[bI n s.2.2]) (λs=>s.2.1+1-s.1) (a+1,b-1,d1) rfl ?_ rfl ?_ rfl ⟨F,by simp only;omega,by simp only;omega,by simp only;omega,I⟩ ?_ ?_
 .simp only[ag.cat,ag,aG,aF];and_intros <;> omega
 .simp[ag.cat,ag,aR]
 .rintro w ⟨i3,c,d2⟩ ⟨t,C,B,D,l⟩;simp only at t C B D l;refine aE h [] 200 rfl av ?_;refine AK.kM (S2:=Unit) 2 rfl rfl (λ_=>True) (λ_=>[(0,kD n),(1,dI a),(9,dI ((scanUp (λx=>!ltInt d2[a]! x) d2 (c) (i3)):Nat)),(10,dI (c:Nat))]) (λ_=>[bI n d2]) 1 (λk:Nat=>i3<=k/\k<=n+1/\scanUp (λx=>!ltInt d2[a]! x) d2 (c) k=scanUp (λx=>!ltInt d2[a]! x) d2 (c) (i3)) (λk=>[(0,kD n),(1,dI a),(9,dI (k:Nat)),(10,dI (c:Nat))]) (λ_=>[bI n d2]) (λk=>c+1-k) (i3) rfl ?_ rfl ?_ rfl ⟨bc _,by omega,rfl⟩ ?_ ?_
  .simp[ag.cat,ag,aR] <;> omega
  .simp[ag.cat,ag,aR]
  .rintro out k ⟨E,G,g⟩
   by_cases m:k<=c
   .by_cases o:(λx=>!ltInt d2[a]! x) d2[k]! = ab
    .have f:ltInt d2[a]! d2[k]! = ae:=by simpa using o
     refine aE h [(31,ab),(41,ae)] 200 rfl ?_ (AK.aQ (k+1) rfl ?_ ?_ ?_ ?_)
     .simp only[ag,br,bt,f,bx,bd,aG,aF];and_intros <;> omega
     .simp only[ag.cat,ag,aG,aF];omega
     .simp[ag.cat,ag,aR]
     .exact⟨by omega,by omega,by rw[<-g,mL m o]⟩
     .omega
    .have f:ltInt d2[a]! d2[k]! = ab:=by simpa using o
     refine aE h [(31,ab),(41,ab)] 200 rfl ?_ (AK.leaveD rfl rfl ?_)
     .simp only[ag,br,bt,f,bx,bd,aG,aF];and_intros <;> omega
     have e:scanUp (λx=>!ltInt d2[a]! x) d2 (c) (i3)=k:=by rw[<-g];exact gz λ_=>by simpa using o
     exact out () av rfl (by simp only[ag.cat,ag,e,aG,aF]) rfl (by simp[ag.cat,ag,aR])
   .refine aE h [(31,ae)] 200 rfl ?_ (AK.leaveD rfl rfl ?_)
    .simp only[ag,bx,bR,aG,aF];omega
    have e:scanUp (λx=>!ltInt d2[a]! x) d2 (c) (i3)=k:=by rw[<-g];exact gz λx=>absurd x m
    exact out () av rfl (by simp only[ag.cat,ag,e,aG,aF]) rfl (by simp[ag.cat,ag,aR])
  rintro⟨⟩ -;have M:=nE (p:=λx=>!ltInt d2[a]! x) (d:=d2) (j:=c) (c+1-i3) i3 (bc _)
  obtain⟨i4,y⟩:∃ i4,i4=scanUp (λx=>!ltInt d2[a]! x) d2 c i3:=⟨_,rfl⟩
  rw[<-y] at M ⊢;refine aE h [] 200 rfl av ?_;refine AK.kM (S2:=Unit) 4 rfl rfl (λ_=>True) (λ_=>[(0,kD n),(1,dI a),(9,dI (i4:Nat)),(10,dI ((scanDown (λx=>ltInt d2[a]! x) d2 (i4) (c)):Nat))]) (λ_=>[bI n d2]) 1 (λk:Nat=>k<=c/\k<=n/\scanDown (λx=>ltInt d2[a]! x) d2 (i4) k=scanDown (λx=>ltInt d2[a]! x) d2 (i4) (c)) (λk=>[(0,kD n),(1,dI a),(9,dI (i4:Nat)),(10,dI (k:Nat))]) (λ_=>[bI n d2]) (λk=>k) (c) rfl ?_ rfl ?_ rfl ⟨bc _,by omega,rfl⟩ ?_ ?_
  .simp[ag.cat,ag,aR] <;> omega
  .simp[ag.cat,ag,aR]
  .rintro out k ⟨E,G,g⟩
   by_cases m:i4<=k
   .by_cases o:(λx=>ltInt d2[a]! x) d2[k]! = ab
    .have f:ltInt d2[a]! d2[k]! = ab:=by simpa using o
     refine aE h [(48,ab),(58,ab)] 200 rfl ?_ (AK.aQ (k-1) rfl ?_ ?_ ?_ ?_)
     .simp only[ag,br,bt,f,bx,bd,aG,aF];and_intros <;> omega
     .simp only[ag.cat,ag,aG,aF];omega
     .simp[ag.cat,ag,aR]
     .exact⟨by omega,by omega,by rw[<-g,kG (by omega) m o]⟩
     .omega
    .have f:ltInt d2[a]! d2[k]! = ae:=by simpa using o
     refine aE h [(48,ab),(58,ae)] 200 rfl ?_ (AK.leaveD rfl rfl ?_)
     .simp only[ag,br,bt,f,bx,bd,aG,aF];and_intros <;> omega
     have e:scanDown (λx=>ltInt d2[a]! x) d2 (i4) (c)=k:=by rw[<-g];exact fh λ_=>by simpa using o
     exact out () av rfl (by simp only[ag.cat,ag,e,aG,aF]) rfl (by simp[ag.cat,ag,aR])
   .refine aE h [(48,ae)] 200 rfl ?_ (AK.leaveD rfl rfl ?_)
    .simp only[ag,bx,bR,aG,aF];omega
    have e:scanDown (λx=>ltInt d2[a]! x) d2 (i4) (c)=k:=by rw[<-g];exact fh λx=>absurd x m
    exact out () av rfl (by simp only[ag.cat,ag,e,aG,aF]) rfl (by simp[ag.cat,ag,aR])
  rintro⟨⟩ -;have c2:=kT (p:=λx=>ltInt d2[a]! x) (d:=d2) (i:=i4) c
  obtain⟨u,z⟩:∃ u,u=scanDown (λx=>ltInt d2[a]! x) d2 i4 c:=⟨_,rfl⟩
  rw[<-z] at c2 ⊢;have q:=partEqLoop_eq (by omega) y z
  by_cases A:u<i4
  .have e:=q;rw[l,bg A] at e;refine aE h [(64,ab)] 200 rfl ?_ (AK.leaveD rfl rfl ?_)
   .simp only[ag,bx,bd];omega
   exact w () (by grind) rfl (by simp only[ag.cat,ag,e,aG,aF]) rfl (by simp[ag.cat,ag,aR,e])
  .have e:=q;rw[l,aY (by omega)] at e
   refine aE h [(64,ae),(1000009,ab)] 200 rfl ?_ ?_
   .simp only[ag,br,bt,bx,bR,aG,aF];and_intros <;> omega
   refine AK.norm [bI n (swp d2 i4 u)] rfl ?_ ?_
   .simp only[ag.cat,ag,br,bt,aF,aG];exact hI t (by omega) (by omega) (λ_ _=>rfl)
   refine aE h [] 200 rfl ?_ (AK.aQ (i4+1,u-1,swp d2 i4 u) rfl ?_ ?_ ?_ ?_)
   .simp only[ag,bx];and_intros <;> omega
   .simp only[ag.cat,ag,aG,aF];and_intros <;> omega
   .simp[ag.cat,ag,aR]
   .exact⟨by rw[size_swp];exact t,by simp only;omega,by simp only;omega,by simp only;omega,e.symm⟩
   .simp only;omega
 rintro⟨⟩ ⟨L,K⟩;refine aE h [] 200 rfl av (AK.dA [0] rfl ?_ rfl rfl rfl g7);simp[ag.cat,ag]
end
section
open Go.Proofs
open Go.Sort (swp scanSorted shiftDown shiftUp partialIns partialInsertionSort ltInt)
variable {X:Cx ah}
def xj{d:Array Int}{b i:Nat}(h:i<b)(a:ltInt d[i]! d[i-1]! = ae):scanSorted ltInt d b i=scanSorted ltInt d b (i+1):=by
 rw[scanSorted.eq_1 ltInt d b i,bg (by simp[h,a])]
def oi{d:Array Int}{b i:Nat}(h:i<b->ltInt d[i]! d[i-1]! = ab):scanSorted ltInt d b i=i:=by
 rw[scanSorted,aY]
 grind
def Mh{d:Array Int}{b:Nat}:∀ (m i:Nat),b-i<=m->i<=b->i<=scanSorted ltInt d b i/\scanSorted ltInt d b i<=b:=by
 intro m
 induction m with
 |zero=>intro i h c;rw[oi λx=>by omega];omega
 |succ m f =>
  intro i h c
  by_cases e:i<b
  .cases a:ltInt d[i]! d[i-1]! with
   |false=>rw[xj e a];grind
   |true=>rw[oi λ_=>a];omega
  grind
def Mi{d:Array Int}{j:Nat}(b:1<=j)(h:ltInt d[j]! d[j-1]! = ab):shiftDown ltInt j d=shiftDown ltInt (j-1) (swp d j (j-1)):=by
 obtain⟨j,rfl⟩:∃ a,j=a+1:=⟨j-1,by omega⟩
 simp only[nJ] at h ⊢;rw[shiftDown,aY (by simp[h])]
def C2{d:Array Int}{j:Nat}(h:1<=j->ltInt d[j]! d[j-1]! = ae):shiftDown ltInt j d=d:=by
 cases j with
 |zero=>rfl
 |succ j =>
  have:=h (by omega)
  simp only[nJ] at this;rw[shiftDown,bg (by simp[this])]
def Mj{d:Array Int}{b j:Nat}(a:j<b)(h:ltInt d[j]! d[j-1]! = ab):shiftUp ltInt b j d=shiftUp ltInt b (j+1) (swp d j (j-1)):=by
 rw[shiftUp.eq_1 ltInt b j d,bg a,aY (by simp[h])]
def C3{d:Array Int}{b j:Nat}(h:j<b->ltInt d[j]! d[j-1]! = ae):shiftUp ltInt b j d=d:=by
 rw[shiftUp]
 grind
abbrev P1(n a b i s:Nat):Fr:=[(0,kD n),(1,dI a),(2,dI b),(7,dI i),(8,dI (5-(s:Int)))]
def OV{a b s i:Nat}{d:Array Int}:partialIns ltInt a b (s+1) i d=(if scanSorted ltInt d b i=b then (d,ab) else if b-a<50 then (d,ae) else
  partialIns ltInt a b s (scanSorted ltInt d b i) (if b-scanSorted ltInt d b i≥2 then shiftUp ltInt b (scanSorted ltInt d b i+1) (if scanSorted ltInt d b i-a≥2 then shiftDown ltInt (scanSorted ltInt d b i-1) (swp d (scanSorted ltInt d b i) (scanSorted ltInt d b i-1)) else swp d (scanSorted ltInt d b i) (scanSorted ltInt d b i-1)) else (if scanSorted ltInt d b i-a≥2 then shiftDown ltInt (scanSorted ltInt d b i-1) (swp d (scanSorted ltInt d b i) (scanSorted ltInt d b i-1)) else swp d (scanSorted ltInt d b i) (scanSorted ltInt d b i-1)))):=rfl
def xk(n:Nat)(d:Array Int)(a b:Nat)(T:d.size=n)(Q:a<b)(V:b<=n)(Z:n<=4000000) :
  Ev X 133 [kD n,dI a,dI b] [bI n d] (dB (partialInsertionSort ltInt d a b).2) [bI n (partialInsertionSort ltInt d a b).1]:=by
 have h:bD X [(134,ui)]:=.cons xi .nil;refine Ev.bQ Tryz.func133 rfl λW=>?_
 obtain⟨r,O⟩:∃ r,partialIns ltInt a b 5 (a+1) d=r:=⟨_,rfl⟩;have H:partialInsertionSort ltInt d a b=r:=O;rw[H];refine aE h [] 200 rfl (by simp only[ag,bx];omega) ?_
 refine AK.kM (S2:=Unit) 0 rfl rfl (λ_=>r.2=ae) (λ_=>[(0,kD n)]) (λ_=>[bI n r.1]) 1 (λs:Nat×Nat×Array Int=>s.2.2.size=n/\s.1<=5/\a+1<=s.2.1/\s.2.1<=b/\partialIns ltInt a b s.1 s.2.1 s.2.2=r) (λs=>P1 n a b s.2.1 s.1) (λs=>[bI n s.2.2]) (λs=>s.1) (5,a+1,d) rfl ?_ rfl ?_ rfl ⟨T,by simp only;omega,by simp only;omega,by simp only;omega,O⟩ ?_ ?_
 .simp[ag.cat,ag]
 .simp[ag.cat,ag,aR]
 .rintro z ⟨s,i,d1⟩ ⟨M,B,hi,u,f⟩;simp only at M B hi u f;cases s with
  |zero =>
   rw[partialIns] at f;refine aE h [(14,ae)] 200 rfl ?_ (AK.leaveD rfl rfl ?_)
   .simp[ag]
   exact z () (by rw[<-f]) rfl (by simp[ag.cat,ag]) rfl (by simp[ag.cat,ag,aR,<-f])
  |succ s =>
   rw[OV] at f;refine aE h [(14,ab)] 200 rfl (by simp only[ag,bd];omega) ?_
   refine AK.kM (S2:=Unit) 2 rfl rfl (λ_=>True) (λ_=>P1 n a b (scanSorted ltInt d1 b i) (s+1)) (λ_=>[bI n d1]) 1 (λk:Nat=>i<=k/\k<=b/\scanSorted ltInt d1 b k=scanSorted ltInt d1 b i) (λk=>P1 n a b k (s+1)) (λ_=>[bI n d1]) (λk=>b-k) i rfl ?_ rfl ?_ rfl ⟨bc _,u,rfl⟩ ?_ ?_
   .simp[ag.cat,ag]
   .simp[ag.cat,ag,aR]
   .rintro out k ⟨S,U,w⟩
    by_cases F:k<b
    .have E:((k:Int)-1).toNat=k-1:=by omega
     cases o:ltInt d1[k]! d1[k-1]! with
     |false =>
      refine aE h [(19,ab),(30,ae)] 200 rfl ?_ (AK.aQ (k+1) rfl ?_ ?_ ?_ ?_)
      .simp only[ag,br,bt,E,o,bx,bd,aG,aF];and_intros <;> omega
      .simp only[ag.cat,ag,aG,aF];omega
      .simp[ag.cat,ag,aR]
      .exact⟨by omega,by omega,by rw[<-w,xj F o]⟩
      .omega
     |true =>
      refine aE h [(19,ab),(30,ab)] 200 rfl ?_ (AK.leaveD rfl rfl ?_)
      .simp only[ag,br,bt,E,o,bx,bd,aG,aF];and_intros <;> omega
      have e:scanSorted ltInt d1 b i=k:=by rw[<-w];exact oi λ_=>o
      exact out () av rfl (by simp only[ag.cat,ag,e,aG,aF]) rfl (by simp[ag.cat,ag,aR])
    .refine aE h [(19,ae)] 200 rfl ?_ (AK.leaveD rfl rfl ?_)
     .simp only[ag,bx,bR,aG,aF];omega
     have e:scanSorted ltInt d1 b i=k:=by rw[<-w];exact oi λx=>absurd x F
     exact out () av rfl (by simp only[ag.cat,ag,e,aG,aF]) rfl (by simp[ag.cat,ag,aR])
   rintro⟨⟩ -;have c:=Mh (d:=d1) (b:=b) (b-i) i (bc _) u;obtain⟨i2,I⟩:∃ i2,i2=scanSorted ltInt d1 b i:=⟨_,rfl⟩;rw[<-I] at c f ⊢
   by_cases t:i2=b
   .rw[bg t] at f;rw[<-f];refine aE h [(37,ab)] 200 rfl ?_ (AK.ee (bZ.mk [0] rfl ?_ rfl rfl rfl g7))
    .simp[ag,t]
    .simp[ag,ag.cat]
   rw[aY t] at f
   by_cases y:b-a<50
   .rw[bg y] at f;rw[<-f];refine aE h [(37,ae),(41,ab)] 200 rfl ?_ (AK.ee (bZ.mk [0] rfl ?_ rfl rfl rfl g7))
    .simp[ag,bx];omega
    .simp[ag,ag.cat]
   rw[aY y] at f;have E:((i2:Int)-1).toNat=i2-1:=by omega
   refine aE h [(37,ae),(41,ae),(1000012,ab)] 200 rfl ?_ ?_
   .simp only[ag,br,bt,E,bx,bR,dv,cT,aG,aF];and_intros <;> omega
   refine AK.norm [bI n (swp d1 i2 (i2-1))] rfl ?_ ?_
   .simp only[ag.cat,ag,br,bt,E,aF,aG];exact hI M (by omega) (by omega) (λ_ _=>rfl)
   have A:(swp d1 i2 (i2-1)).size=n:=by rw[size_swp];exact M
   obtain⟨d2,L⟩:∃ d2,d2=swp d1 i2 (i2-1):=⟨_,rfl⟩;rw[<-L] at A f ⊢;obtain⟨d3,p⟩:∃ d3,d3=if i2-a≥2 then shiftDown ltInt (i2-1) d2 else d2:=⟨_,rfl⟩
   rw[<-p] at f;have Y:∀ (j:Nat) (d:Array Int),(shiftDown ltInt j d).size=d.size:=by
    intro j
    induction j with
    |zero=>intro d;rfl
    |succ j R =>
     intro d;rw[shiftDown];split;· rfl
     .rw[R,size_swp]
   have K:d3.size=n:=by
    grind
   apply AK.join (P1 n a b i2 (s+1)) [bI n d3]
   .intro out
    by_cases N:i2-a≥2
    .rw[bg N] at p;refine aE h [(61,ab)] 200 rfl ?_ ?_
     .simp only[ag,bx,bd,aG,aF];and_intros <;> omega
     refine AK.kM (S2:=Unit) 4 rfl rfl (λ_=>True) (λ_=>P1 n a b i2 (s+1)) (λ_=>[bI n d3]) 1 (λs:Nat×Array Int=>s.2.size=n/\s.1<b/\shiftDown ltInt s.1 s.2=d3) (λs2=>P1 n a b i2 (s+1)++[(9,dI s2.1)]) (λs=>[bI n s.2]) (λs=>s.1) (i2-1,d2) rfl ?_ rfl ?_ rfl ⟨A,by simp only;omega,p.symm⟩ ?_ ?_
     .simp only[ag.cat,ag,aG,aF];omega
     .simp[ag.cat,ag,aR]
     .rintro m ⟨j,d4⟩ ⟨l,J,g⟩;simp only at l J g
      by_cases q:1<=j
      .have v:((j:Int)-1).toNat=j-1:=by omega
       cases o:ltInt d4[j]! d4[j-1]! with
       |true =>
        refine aE h [(65,ab),(77,ab)] 200 rfl ?_ (AK.aQ (j-1,swp d4 j (j-1)) rfl ?_ ?_ ?_ ?_)
        .simp only[ag,br,bt,v,o,bx,bd,aG,aF];and_intros <;> omega
        .simp only[ag.cat,ag,aG,aF];omega
        .simp only[ag.cat,ag,br,bt,v,aF,aG];exact hI l (by omega) (by omega) (λ_ _=>rfl)
        .exact⟨by rw[size_swp];exact l,by simp only;omega,by rw[<-g,Mi q o]⟩
        .simp only;omega
       |false =>
        refine aE h [(65,ab),(77,ae)] 200 rfl ?_ (AK.leaveD rfl rfl ?_)
        .simp only[ag,br,bt,v,o,bx,bd,aG,aF];and_intros <;> omega
        have e:d3=d4:=by rw[<-g];exact C2 λ_=>o
        exact m () av rfl (by simp[ag.cat,ag]) rfl (by simp[ag.cat,ag,aR,e])
      .refine aE h [(65,ae)] 200 rfl ?_ (AK.leaveD rfl rfl ?_)
       .simp only[ag,bR];omega
       have e:d3=d4:=by rw[<-g];exact C2 λx=>absurd x q
       exact m () av rfl (by simp[ag.cat,ag]) rfl (by simp[ag.cat,ag,aR,e])
     rintro⟨⟩ -;refine aE h [(1000018,ab)] 200 rfl av ?_;exact out _ _ rfl (by simp[ag.cat,ag])
    .rw[aY N] at p;rw[<-p];refine aE h [(61,ae),(1000018,ab)] 200 rfl ?_ ?_
     .simp only[ag,bx,bR,aG,aF];and_intros <;> omega
     exact out _ _ rfl (by simp[ag.cat,ag])
   by_cases P:b-i2≥2
   .rw[bg P] at f;obtain⟨d5,D⟩:∃ d5,shiftUp ltInt b (i2+1) d3=d5:=⟨_,rfl⟩;rw[D] at f;refine aE h [(98,ab)] 200 rfl ?_ ?_
    .simp only[ag,bx,bd,aG,aF];and_intros <;> omega
    refine AK.kM (S2:=Unit) 6 rfl rfl (λ_=>d5.size=n) (λ_=>P1 n a b i2 (s+1)) (λ_=>[bI n d5]) 1 (λs:Nat×Array Int=>s.2.size=n/\1<=s.1/\s.1<=b/\shiftUp ltInt b s.1 s.2=d5) (λs2=>P1 n a b i2 (s+1)++[(10,dI s2.1)]) (λs=>[bI n s.2]) (λs=>b-s.1) (i2+1,d3) rfl ?_ rfl ?_ rfl ⟨K,by simp only;omega,by simp only;omega,D⟩ ?_ ?_
    .simp only[ag.cat,ag,aG,aF];omega
    .simp[ag.cat,ag,aR]
    .rintro m ⟨j,d4⟩ ⟨l,q,J,g⟩;simp only at l q J g
     by_cases C:j<b
     .have v:((j:Int)-1).toNat=j-1:=by omega
      cases o:ltInt d4[j]! d4[j-1]! with
      |true =>
       refine aE h [(103,ab),(115,ab)] 200 rfl ?_ (AK.aQ (j+1,swp d4 j (j-1)) rfl ?_ ?_ ?_ ?_)
       .simp only[ag,br,bt,v,o,bx,bd,aG,aF];and_intros <;> omega
       .simp only[ag.cat,ag,aG,aF];omega
       .simp only[ag.cat,ag,br,bt,v,aF,aG];exact hI l (by omega) (by omega) (λ_ _=>rfl)
       .exact⟨by rw[size_swp];exact l,by simp only;omega,by simp only;omega,by rw[<-g,Mj C o]⟩
       .simp only;omega
      |false =>
       refine aE h [(103,ab),(115,ae)] 200 rfl ?_ (AK.leaveD rfl rfl ?_)
       .simp only[ag,br,bt,v,o,bx,bd,aG,aF];and_intros <;> omega
       have e:d5=d4:=by rw[<-g];exact C3 λ_=>o
       exact m () (by rw[e];exact l) rfl (by simp[ag.cat,ag]) rfl (by simp[ag.cat,ag,aR,e])
     .refine aE h [(103,ae)] 200 rfl ?_ (AK.leaveD rfl rfl ?_)
      .simp only[ag,bR];omega
      have e:d5=d4:=by rw[<-g];exact C3 λx=>absurd x C
      exact m () (by rw[e];exact l) rfl (by simp[ag.cat,ag]) rfl (by simp[ag.cat,ag,aR,e])
    rintro⟨⟩ B;refine aE h [] 200 rfl ?_ (AK.aQ (s,i2,d5) rfl ?_ ?_ ?_ ?_)
    .simp only[ag,bx];omega
    .simp only[ag.cat,ag,aG,aF];omega
    .simp[ag.cat,ag,aR]
    .grind
    .simp only;omega
   .rw[aY P] at f;refine aE h [(98,ae)] 200 rfl ?_ (AK.aQ (s,i2,d3) rfl ?_ ?_ ?_ ?_)
    .simp only[ag,bx,bR,aG,aF];and_intros <;> omega
    .simp only[ag.cat,ag,aG,aF];omega
    .simp[ag.cat,ag,aR]
    .grind
    .simp only;omega
 rintro⟨⟩ G;refine aE h [] 200 rfl av (AK.dA [0] rfl ?_ rfl rfl rfl g7);simp[ag,ag.cat,G]
end
section
open Go.Proofs
open Go.Sort (swp pdq rd Rd Below SWO insertionSort heapSort breakPatterns choosePivot reverseRange partialInsertionSort partition partitionEqual Hint ltInt PermIn SortedIn)
variable {X:Cx ah}
abbrev VO(n a b c:Nat)(wb wp:Bool):Fr:=[(0,kD n),(1,dI a),(2,dI b),(3,dI c),(8,dB wb),(9,dB wp)]
def y4{h:Hint}:nC h=2↔h=.decreasing:=by cases h <;> simp[nC]
def tB{h:Hint}:nC h=1↔h=.increasing:=by cases h <;> simp[nC]
structure PqS where
 a:Nat
 b:Nat
 lim:Nat
 wb:Bool
 wp:Bool
 d:Array Int
def OW(n:Nat)(d:Array Int){a b:Nat}(e:d.size=n)(c:b<=n)(h:a<=n)(f:n<=4000000){r:Array Int}(g:r=insertionSort ltInt d a b):Ev X 128 [kD n,dI a,dI b] [bI n d] (.eN []) [bI n r]:=by
 subst g;exact SE n d a b e c h f
def Mk(n:Nat)(d:Array Int){a b:Nat}(g:d.size=n)(c:a<=b)(e:1<=b-a)(f:b<=n)(h:n<=4000000){r:Array Int}(i:r=heapSort ltInt d a b):Ev X 129 [kD n,dI a,dI b] [bI n d] (.eN []) [bI n r]:=by
 subst i;exact OX n d a b g c e f h
def SF(n:Nat)(G:n<=4000000):∀ (m:Nat)(d:Array Int)(a b lim:Nat),b-a<=m->d.size=n->a<=b->b<=n->lim<=100->Below ltInt a b d ->
  ∀ {x y z:Int},x=a->y=b->z=lim->∀ {R:Array Int},R=pdq ltInt d a b lim ab ab->Ev X 112 [kD n,dI x,dI y,dI z] [bI n d] (.eN []) [bI n R]:=by
 have j:bD X [(134,ui)]:=.cons xi .nil;have E:SWO ltInt:=Go.Sort.swo_ltInt;have hpi:=Go.Sort.partialInsertionSort_holds (lt:=ltInt);have hpt:=Go.Sort.partition_holds ltInt;have hpe:=Go.Sort.partitionEqual_holds ltInt;have S:=Go.Sort.reverseRange_holds (α:=Int);have T:=Go.Sort.pdq_sorts ltInt;intro m
 induction m using Nat.strongRecOn with
 |_ m ih =>
 intro d a b lim hm hd hab hb hl hB x y z hx hy hz R hR;subst hx hy hz;refine Ev.bQ Tryz.func112 rfl λhf=>?_
 refine aE j [] 200 rfl av ?_;refine AK.bJ 1 (λs:PqS=>s.d.size=n/\s.a<=s.b/\s.b<=n/\s.lim<=100/\s.b-s.a<=b-a/\Below ltInt s.a s.b s.d/\pdq ltInt s.d s.a s.b s.lim s.wb s.wp=R) (λs=>VO n s.a s.b s.lim s.wb s.wp) (λs=>[bI n s.d]) (λs=>s.b-s.a) ⟨a,b,lim,ab,ab,d⟩ rfl ?_ rfl ?_ rfl ⟨hd,hab,hb,hl,bc _,hB,hR.symm⟩ ?_
 .simp[ag.cat,ag]
 .simp[ag.cat,ag,aR]
 clear hf hB hd hR;rintro⟨f,h,t,wb,wp,d1⟩ ⟨N,A,i,QK,T7,hB,l⟩;simp only at N A i QK T7 hB l
 by_cases B:h-f<=12
 .rw[Go.Sort.pdq_small B] at l;refine aE j [(23,ab)] 200 rfl ?_ ?_
  .simp only[ag,bx,bd];and_intros <;> omega
  refine AK.cQ (OW n d1 (a:=f) (b:=h) N i (by omega) G l.symm) [0] rfl ?_
  refine aE j [] 200 rfl av (AK.ee (bZ.mk [0] rfl av rfl rfl rfl g7))
 by_cases O:t=0
 .rw[Go.Sort.pdq_heap B O] at l;refine aE j [(23,ae),(29,ab)] 200 rfl ?_ ?_
  .simp only[ag,bx,bR,gR];and_intros <;> omega
  refine AK.cQ (Mk n d1 (a:=f) (b:=h) N A (by omega) i G l.symm) [0] rfl ?_
  refine aE j [] 200 rfl av (AK.ee (bZ.mk [0] rfl av rfl rfl rfl g7))
 have o:f<h:=by omega
 obtain⟨f1,f2,f3,f4,f5,Y,M,f8⟩:=Go.Sort.rd_facts (limit:=t) (wb:=wb) (wp:=wp) E hpi S o (by rw[N];exact i) hB
 have fl:=Go.Sort.rd_lim_le (lt:=ltInt) (d:=d1) (a:=f) (b:=h) (limit:=t) (wb:=wb) (wp:=wp);have U:=Go.Sort.rd_dec (lt:=ltInt) (d:=d1) (a:=f) (b:=h) (limit:=t) (wb:=wb) (wp:=wp);have Q:=Go.Sort.rd_not (lt:=ltInt) (d:=d1) (a:=f) (b:=h) (limit:=t) (wb:=wb) (wp:=wp);have H:=Go.Sort.rd_pi_yes (lt:=ltInt) (d:=d1) (a:=f) (b:=h) (limit:=t) (wb:=wb) (wp:=wp);have fno:=Go.Sort.rd_pi_no (lt:=ltInt) (d:=d1) (a:=f) (b:=h) (limit:=t) (wb:=wb) (wp:=wp);have fc:=Go.Sort.rd_c (lt:=ltInt) (d:=d1) (a:=f) (b:=h) (limit:=t) (wb:=wb) (wp:=wp);have fd1:wb=ae->(rd ltInt d1 f h t wb wp).d1=breakPatterns d1 f h/\(rd ltInt d1 f h t wb wp).lim=t-1:=by rintro rfl;exact Go.Sort.rd_false
 have fd2:wb=ab->(rd ltInt d1 f h t wb wp).d1=d1/\(rd ltInt d1 f h t wb wp).lim=t:=by rintro rfl;exact Go.Sort.rd_true
 have D:=Go.Sort.pdq_done (lt:=ltInt) (d:=d1) (wb:=wb) (wp:=wp) B O;have geq:=Go.Sort.pdq_eq (lt:=ltInt) (d:=d1) (wb:=wb) (wp:=wp) B O;have C:=Go.Sort.pdq_left (lt:=ltInt) (d:=d1) (wb:=wb) (wp:=wp) B O;have u:=Go.Sort.pdq_right (lt:=ltInt) (d:=d1) (wb:=wb) (wp:=wp) B O;rw[N] at f1 f4 M;rw[l] at D geq C u;generalize rd ltInt d1 f h t wb wp=r at *
 apply AK.join (VO n f h r.lim wb wp++[(10,dI ((h-f:Nat):Int))]) [bI n r.d1]
 .intro out;cases wb with
  |false =>
   obtain⟨K,J⟩:=fd1 rfl;refine aE j [(23,ae),(29,ae)] 200 rfl ?_ ?_
   .simp only[ag,bx,bR,dv,cT];and_intros <;> omega
   refine AK.cQ (Ml n d1 f h N A i G) [0] rfl ?_;rw[<-K];refine aE j [(1000010,ab)] 200 rfl ?_ ?_
   .simp only[ag,bx];and_intros <;> omega
   exact out _ _ rfl (by simp only[ag.cat,ag,J,aG,aF];and_intros <;> omega)
  |true =>
   obtain⟨K,J⟩:=fd2 rfl;subst K;refine aE j [(23,ae),(29,ae),(1000010,ab)] 200 rfl ?_ ?_
   .simp only[ag,bx,bR,dv,cT];and_intros <;> omega
   exact out _ _ rfl (by simp only[ag.cat,ag,J,aG,aF];and_intros <;> omega)
 refine aE j [] 200 rfl av ?_;refine AK.cQ (Il n r.d1 f h A i (by omega) G) [0] rfl ?_
 rw[<-fc]
 apply AK.join (VO n f h r.lim wb wp++[(10,dI ((h-f:Nat):Int)),(11,dI r.pivot),(12,dI (nC r.hint))]) [bI n r.d2]
 .intro out
  by_cases w:r.c.2=.decreasing
  .obtain⟨K,J,e3⟩:=U w;refine aE j [(50,ab)] 200 rfl ?_ ?_
   .simp only[ag,gR,y4];exact w
   refine AK.cQ (SG n r.d1 f h f1 (by omega) (by omega) i G) [0] rfl ?_
   rw[<-K];refine aE j [(1000015,ab)] 200 rfl ?_ ?_
   .simp only[ag,bx];and_intros <;> omega
   exact out _ _ rfl (by simp only[ag.cat,ag,J,e3,nC,aG,aF];and_intros <;> omega)
  .obtain⟨K,J,e3⟩:=Q w;rw[<-K];refine aE j [(50,ae),(1000015,ab)] 200 rfl ?_ ?_
   .simp only[ag,dv,cT,y4];exact w
   exact out _ _ rfl (by simp only[ag.cat,ag,J,e3,aG,aF])
 by_cases q:r.pi.2=ab
 ·
  have p:(wb&&wp&&decide (r.hint=.increasing))=ab:=by
   grind
  have e:=H p;simp only[bO,bd] at p;obtain⟨⟨rfl,rfl⟩,F⟩:=p;refine aE j [(67,ab)] 200 rfl ?_ ?_
  .simp only[ag,gR,tB];exact F
  refine AK.cQ (xk n r.d2 f h f4 o i G) [0] rfl ?_;rw[<-e,q,<-D q];refine aE j [] 200 rfl av (AK.ee (bZ.mk [0] rfl av rfl rfl rfl g7))
 rw[mc] at q
 apply AK.join (VO n f h r.lim wb wp++[(10,dI ((h-f:Nat):Int)),(11,dI r.pivot)]) [bI n r.pi.1]
 .intro out;cases k:(wb&&wp&&decide (r.hint=.increasing)) with
  |true =>
   have e:=H k;simp only[bO,bd] at k;obtain⟨⟨rfl,rfl⟩,F⟩:=k;refine aE j [(67,ab)] 200 rfl ?_ ?_
   .simp only[ag,gR,tB];exact F
   refine AK.cQ (xk n r.d2 f h f4 o i G) [0] rfl ?_;rw[<-e,q];refine aE j [(1000017,ab)] 200 rfl av ?_;exact out _ _ rfl (by simp[ag.cat,ag])
  |false =>
   have e:r.d2=r.pi.1:=by rw[fno k]
   rw[e];cases wb with
   |false =>
    refine aE j [(1000017,ab)] 200 rfl av ?_;exact out _ _ rfl (by simp[ag.cat,ag])
   |true =>
    cases wp with
    |false =>
     refine aE j [(1000017,ab)] 200 rfl av ?_;exact out _ _ rfl (by simp[ag.cat,ag])
    |true =>
     refine aE j [(67,ae),(1000017,ab)] 200 rfl ?_ ?_
     .simp only[ag,dv,cT,tB];simpa using k
     exact out _ _ rfl (by simp[ag.cat,ag])
 have ep:((f:Int)-1).toNat=f-1:=by omega
 cases k:(decide (f>0)&&!ltInt r.pi.1[f-1]! r.pi.1[r.pivot]!) with
 |true =>
  have v:=k;simp only[bO,bd,jg] at v;obtain⟨L,W,I,q4,_⟩:=Go.Sort.round_eq (mid:=(partitionEqual ltInt r.pi.1 f h r.pivot).1) (d4:=(partitionEqual ltInt r.pi.1 f h r.pivot).2) E hpe v.1 Y.1 Y.2 (by rw[M];exact i) f8 v.2 rfl
  have g:=geq q k ⟨L,W⟩;refine aE j [(74,ab),(85,ae)] 200 rfl ?_ ?_
  .simp only[ag,br,bt,ep,v.2,bx,bd,aG,aF];and_intros <;> omega
  refine AK.cQ (Im n r.pi.1 f h r.pivot M o i (by omega) G) [0] rfl ?_
  refine aE j [] 200 rfl av (AK.aQ ⟨(partitionEqual ltInt r.pi.1 f h r.pivot).1,h,r.lim,wb,wp,(partitionEqual ltInt r.pi.1 f h r.pivot).2⟩ rfl ?_ ?_ ?_ ?_)
  .simp[ag.cat,ag]
  .simp[ag.cat,ag,aR]
  .grind
  .simp only;omega
 |false =>
  obtain⟨L,W,I,q4,q5,q6,q7⟩:=Go.Sort.round_part (mid:=(partition ltInt r.pi.1 f h r.pivot).1) (ap:=(partition ltInt r.pi.1 f h r.pivot).2.1) (d4:=(partition ltInt r.pi.1 f h r.pivot).2.2) E hpt Y.1 Y.2 (by rw[M];exact i) f8 rfl
  apply AK.join (VO n f h r.lim wb wp++[(10,dI ((h-f:Nat):Int)),(11,dI r.pivot)]) [bI n r.pi.1]
  .intro out
   by_cases ha0:0<f
   .have Z:ltInt r.pi.1[f-1]! r.pi.1[r.pivot]! = ab:=by
     grind
    refine aE j [(74,ab),(85,ab),(1000020,ab)] 200 rfl ?_ ?_
    .simp only[ag,br,bt,ep,Z,bx,bd,aG,aF];and_intros <;> omega
    exact out _ _ rfl (by simp[ag.cat,ag])
   .refine aE j [(74,ae),(1000020,ab)] 200 rfl ?_ ?_
    .simp only[ag,bR];omega
    exact out _ _ rfl (by simp[ag.cat,ag])
  refine aE j [] 200 rfl av ?_;refine AK.cQ (OY n r.pi.1 f h r.pivot M o i (by omega) G) [0] rfl ?_
  have gl:=C q k ⟨L,W⟩;have gr:=u q k ⟨L,W⟩;generalize partition ltInt r.pi.1 f h r.pivot=P at *;rw[M] at I
  by_cases V:P.1-f<h-P.1
  .have g:=gl V;obtain⟨w1,w2⟩:=T E P.2.2 f P.1 r.lim ab ab L (by rw[I];omega) q4
   obtain⟨w3,_⟩:=q6 _ w1 w2;refine aE j [(113,ab)] 200 rfl ?_ ?_
   .simp only[ag,bx,bd,aG,aF];and_intros <;> omega
   refine AK.cQ (ih (P.1-f) (by omega) P.2.2 f P.1 r.lim (bc _) I L (by omega) (by omega) q4 rfl rfl rfl rfl) [0] rfl ?_
   refine aE j [] 200 rfl ?_ (AK.aQ ⟨P.1+1,h,r.lim,decide (P.1-f≥(h-f) / 8),P.2.1,pdq ltInt P.2.2 f P.1 r.lim ab ab⟩ rfl ?_ ?_ ?_ ?_)
   .simp only[ag,bx,aG,aF];and_intros <;> omega
   .simp only[ag.cat,ag,aG,aF]
    grind
   .simp[ag.cat,ag,aR]
   .exact⟨by simp only;rw[w1.1,I],by simp only;omega,i,by simp only;omega,by simp only;omega,w3,g.symm⟩
   .simp only;omega
  .have g:=gr V;obtain⟨w1,w2⟩:=T E P.2.2 (P.1+1) h r.lim ab ab (by omega) (by rw[I];omega) q5
   obtain⟨w3,_⟩:=q7 _ w1 w2;refine aE j [(113,ae)] 200 rfl ?_ ?_
   .simp only[ag,bx,bR,aG,aF];and_intros <;> omega
   refine AK.cQ (ih (h-(P.1+1)) (by omega) P.2.2 (P.1+1) h r.lim (bc _) I (by omega) i (by omega) q5 (x:=(P.1:Int)+1) (by omega) rfl rfl rfl) [0] rfl ?_
   refine aE j [] 200 rfl ?_ (AK.aQ ⟨f,P.1,r.lim,decide (h-P.1≥(h-f) / 8),P.2.1,pdq ltInt P.2.2 (P.1+1) h r.lim ab ab⟩ rfl ?_ ?_ ?_ ?_)
   .trivial
   .simp only[ag.cat,ag,aG,aF];rw[decide_eq_decide];omega
   .simp[ag.cat,ag,aR]
   .exact⟨by simp only;rw[w1.1,I],by simp only;omega,by simp only;omega,by simp only;omega,by simp only;omega,w3,g.symm⟩
   .simp only;omega
end
section
open Go.Proofs
variable {X:Cx ah}
abbrev pf:dg:=kN aS (λp=>dS (iE p)) λ_=>[]
abbrev Ac(r:Option Bs):D:=.eN [.one (.c (.str (r.getD []))),.one (.c (.bool r.isSome))]
def Ed(c:dD X 165 pf)(b:Bs):Ev X 126 [dS b] [] (Ac (fa b)) []:=by
 refine Ev.bQ Tryz.func126 rfl λf=>?_
 have e:bD X [(163,Rj),(164,kN aS (λs=>dB (bL s)) λ_=>[]),(165,pf)]:=.cons t163 (.cons t164 (.cons c .nil))
 by_cases a:bL (strip b)=ab
 .by_cases d:iE (strip b)=b
  .refine aE e [(10,ae),(15,ae)] 100 rfl ?_ (AK.bo rfl ?_)
   .simp[ag,a,d]
   .simp[ag,ag.cat,fa,a,d]
  .refine aE e [(10,ae),(15,ab)] 100 rfl ?_ (AK.bo rfl ?_)
   .simp[ag,a,d]
   .simp[ag,ag.cat,fa,a,d]
 .refine aE e [(10,ab),(15,ab)] 100 rfl ?_ (AK.bo rfl ?_)
  .simp[ag,a]
  .simp[ag,ag.cat,fa,a]
def UK(a:dD X 165 pf):dD X 126 (kN aS (λb=>Ac (fa b)) λ_=>[]):=.oH λb _=>Ed a b
def wC{b p:Bs}(h:fa b=aa p):bL p=ab:=by
 unfold fa at h;split at h
 .rename_i a;cases h;exact(bO _ _▸a).1
 .cases h
abbrev Yb(x:cz):D:=S9.enc x
def Ks(c:dD X 165 pf)(x:cz) (k:Int)(e:cA k=ab):Ev X 110 [Yb x,dI k] [] (Ac (chunk k x)) []:=by
 refine Ev.bQ Tryz.func110 rfl λh=>?_
 have f:bD X [(126,kN aS (λb=>Ac (fa b)) λ_=>[]),(127,Di aI aS aI (λk p n=>dB (iX k p==n)) λk p _=>[cA k=ab,bL p=ab])]:=.cons (UK c) (.cons t127 .nil)
 cases a:fa x.2 with
 |none =>
  refine aE f [(16,ab),(23,ab)] 100 rfl ?_ (AK.bo rfl ?_)
  .simp[ag,a]
  .simp[ag,ag.cat,chunk,a]
 |some p =>
  have g:=wC a
  by_cases d:iX k p=x.1
  .refine aE f [(16,ae),(23,ae)] 100 rfl ?_ (AK.bo rfl ?_)
   .simp[ag,a,d,e,g]
   .simp[ag,ag.cat,chunk,a,d,e]
  .refine aE f [(16,ae),(23,ab)] 100 rfl ?_ (AK.bo rfl ?_)
   .simp[ag,a,d,e,g]
   .simp[ag,ag.cat,chunk,a,d,e]
def Kt(a:dD X 165 pf):dD X 110 (ow S9 aI (λx k=>Ac (chunk k x)) λ_ k=>[cA k=ab]):=.qG λx k h=>Ks a x k h
end
end Go.AM.R1
namespace Go.AM
section
open Go.Conc (G)
section
variable {P:aq}{X:Cx P}
def Yields{ι:Type}(X:Cx P)(d:Nat)(ds:List D)(σ:List aW)(res:Bool)(σ':ι->List aW):Prop :=
 ∀ s (vs:List ak) (l:Nat),cv σ s vs ds->aJ σ s->(∃ L,s.β[d]?=aa L/\L.v=.func (.yield l) #[] #[]) ->
  ∃ fn tmps assign body,(Instr.yield l vs.toArray).run P s.w=.ok (.round l fn tmps assign body) s.w/\(Instr.yield l vs.toArray).events P s.w #[]=#[⟨.obj l,ae,ae⟩] /\
  ∀ (S:au->St->Prop) (c:aO) (cs:List aO),(∀ i s',aJ (σ' i) s'->cw σ s (σ' i) s'->eZ X S (G (c.finish (.bool res)) cs) s') ->
   eZ X S (G (Frame.round l fn tmps assign body .normal) (c::cs)) s
def mz{w:az}{l:Nat}{r:Loop}(h:w.heap[l]?=aa (.loop r)):(Instr.getLoop l).run P w=.ok r w/\∀ es,(Instr.getLoop l).events P w es=es.push ⟨.obj l,ae,ae⟩:=by
 have c:(getObj l).run P w=.ok (.loop r) w:=by simp only[getObj,Sem.run,h]
 have d:∀ es,(getObj l).events P w es=es.push ⟨.obj l,ae,ae⟩:=λes=>by simp only[getObj,Sem.events,Sem.runT,h];rfl
 constructor
 .simp[Instr.getLoop,c]
 .intro es;simp[Instr.getLoop,c,d]
def o5{w:az}{l:Nat}{r r':Loop}(h:w.heap[l]?=aa (.loop r)):(setObj l (.loop r')).run P w=.ok () { w with heap:=w.heap.setIfInBounds l (.loop r') }/\∀ es,(setObj l (.loop r')).events P w es=es.push ⟨.obj l,ab,ae⟩:=by
 constructor
 .simp only[setObj,Sem.run,h]
 .intro es;simp only[setObj,Sem.events,Sem.runT,h];rfl
def GU{w:az}{l:Nat}{r:Loop}{args:Array ak}(h:w.heap[l]?=aa (.loop r))(d:args.size=r.params.size) :
  (Instr.yield l args).run P w=.ok (.round l r.fn ((r.params.zip args).foldl (λtmps (t,a)=>tmps.setIfInBounds t a) r.tmps) r.assign r.body) w/\(Instr.yield l args).events P w #[]=#[⟨.obj l,ae,ae⟩]:=by
 obtain⟨c,e⟩:=mz (P:=P) h
 constructor
 .simp[Instr.yield,c,d]
 .simp[Instr.yield,c,e,d]
def GV{w:az}{l:Nat}{r:Loop}(h:w.heap[l]?=aa (.loop r))(d:r.state=.ready) :
  (Instr.beginRound l).run P w=.ok () { w with heap:=w.heap.setIfInBounds l (.loop { r with state:=.busy }) }/\(Instr.beginRound l).events P w #[]=#[⟨.obj l,ae,ae⟩,⟨.obj l,ab,ae⟩]:=by
 obtain⟨c,g⟩:=mz (P:=P) h;obtain⟨e,f⟩:=o5 (P:=P) (r':={ r with state:=.busy }) h
 constructor
 .simp[Instr.beginRound,c,e,d]
 .simp[Instr.beginRound,c,g,e,f,d]
def zM{w:az}{l:Nat}{r:Loop}(h:w.heap[l]?=aa (.loop r))(j:Option Code) :
  (Instr.endRound l j).run P w=.ok (.bool j.isNone) { w with heap:=w.heap.setIfInBounds l (.loop { r with state:=if j.isNone then .ready else .done,pending:=j }) }/\(Instr.endRound l j).events P w #[]=#[⟨.obj l,ae,ae⟩,⟨.obj l,ab,ae⟩]:=by
 obtain⟨d,f⟩:=mz (P:=P) h;obtain⟨c,e⟩:=o5 (P:=P) (r':={ r with state:=if j.isNone then .ready else .done,pending:=j }) h
 constructor
 .simp only[Instr.endRound,bS,d,c,b7,cW]
 .simp only[Instr.endRound,aP,d,f,c,e,aU,Sem.events_pure];rfl
def BH{w:az}{l:Nat}{r:Loop}(h:w.heap[l]?=aa (.loop r))(d:r.state≠.busy) :
  (Instr.endLoop l).run P w=.ok r.pending { w with heap:=w.heap.setIfInBounds l (.loop { r with state:=.exhausted }) }/\(Instr.endLoop l).events P w #[]=#[⟨.obj l,ae,ae⟩,⟨.obj l,ab,ae⟩]:=by
 obtain⟨c,f⟩:=mz (P:=P) h;obtain⟨g,e⟩:=o5 (P:=P) (r':={ r with state:=.exhausted }) h;have i:(r.state==.busy)=ae:=by cases j:r.state <;> simp_all
 constructor
 .simp[Instr.endLoop,c,g,d]
 .simp[Instr.endLoop,c,f,e,d]
section steps
variable {b:aO}{a:Act}{k:List Item}{cs:List aO}{w:az}{main:Bool}
def BI{o:aw}{f:an}{xs:Array an}{c:Array ar}{l:Nat}(g:o.op=.call { callee:=.value f,args:=xs,argTypes:=c })(e:a.eval f=.func (.yield l) #[] #[]) :
  (ay a.eval o).run P w=(Instr.yield l (xs.toList.map a.eval).toArray).run P w/\(ay a.eval o).events P w #[]=(Instr.yield l (xs.toList.map a.eval).toArray).events P w #[]:=by
 have d:xs.map a.eval=(xs.toList.map a.eval).toArray:=by apply hO;simp
 constructor
 .simp[ay,g,resolve,e,Deferred.ofValue,invoke,d]
 .simp[ay,g,resolve,e,Deferred.ofValue,invoke,d]
def JR{ops:Array aw}{i:Nat}{rest:List Nat}{o:aw}{l:Nat}{fn:aV}{tmps:Array ak}{assign body:Code}{w':az}(j:ops[i]?=aa o)(m:bj o (yielded ops a.tmps)=ab)
  (g:b.kind≠.early) (f:(ay a.eval o).run P w=.ok (.round l fn tmps assign body) w') :
  aK P main (G (b.aT a (.inRegion ops (i::rest)::k)) cs) w=.go (G (Frame.round l fn tmps assign body .normal) (b.aT a (.inRegion ops (i::rest)::k)::cs)) w' (Go.Conc.listed P b.fn a o w):=by
 have e:(b.kind==CallKind.early)=ae:=by simpa using g
 rw[uZ j m (λc n=>by obtain⟨d,h⟩:=rv n f;cases h)]
 simp[stepG.apply,f,G,Frame.aT,e,GStep.after,Go.Conc.listed]
def JS{l:Nat}{r:Loop}(e:b.roundOf=aa l)(g:b.kind≠.early)(h:w.heap[l]?=aa (.loop r))(i:r.state=.ready) :
  aK P main (G (b.aT a (.beginRound::k)) cs) w=.go (G (b.aT a k) cs) { w with heap:=w.heap.setIfInBounds l (.loop { r with state:=.busy }) } (seen P b.fn #[⟨.obj l,ae,ae⟩,⟨.obj l,ab,ae⟩]):=by
 obtain⟨d,f⟩:=GV (P:=P) h i;have c:(b.kind==CallKind.early)=ae:=by simpa using g
 simp[G,aK,stepG.exec,stepG.apply,Frame.aT,e,c,d,f,GStep.after,Frame.finish]
def BJ{l:Nat}{r:Loop}{j:Option Code}{e:List Item}{c:aO}(f:b.roundOf=aa l)(g:b.kind=.normal)(h:w.heap[l]?=aa (.loop r))
  (m:(j=af/\e=[])∨(j=aa .ret/\∃ k1,e=.code .ret::k1)∨(∃ id k1,j=aa (.exit id)/\e=.code (.exit id)::k1/\exitTo id k1=af)) :
  aK P main (G (b.aT a e) (c::cs)) w=.go (G (c.finish (.bool j.isNone)) cs) { w with heap:=w.heap.setIfInBounds l (.loop { r with state:=if j.isNone then .ready else .done,pending:=j }) } (seen P b.fn #[⟨.obj l,ae,ae⟩,⟨.obj l,ab,ae⟩]):=by
 obtain⟨d,i⟩:=zM (P:=P) h j;rcases m with⟨rfl,rfl⟩|⟨rfl,k1,rfl⟩|⟨id,k1,rfl,rfl,n⟩
 .simp only[Option.isNone_none,cj] at d;simp[G,aK,stepG.exec,Frame.aT,f,d,i,GStep.after,doReturn,g]
 .simp only[Option.isNone_some,b5,jB] at d;simp[G,aK,stepG.exec,Frame.aT,f,d,i,GStep.after,doReturn,g]
 .simp only[Option.isNone_some,b5,jB] at d;simp[G,aK,stepG.exec,Frame.aT,f,d,i,GStep.after,doReturn,g,n]
def DW{l:Nat}{r:Loop}(h:w.heap[l]?=aa (.loop r))(e:r.state≠.busy) :
  aK P main (G (b.aT a (.endRangeFunc l::k)) cs) w=.go (G (b.aT a ((r.pending.map Item.code).toList++k)) cs) { w with heap:=w.heap.setIfInBounds l (.loop { r with state:=.exhausted }) } (seen P b.fn #[⟨.obj l,ae,ae⟩,⟨.obj l,ab,ae⟩]):=by
 obtain⟨d,c⟩:=BH (P:=P) h e;simp[G,aK,stepG.exec,Frame.aT,d,c,GStep.after]
def xH{fn:aV}{tmps:Array ak}{params:Array Tmp}{assign body:Code} :
  (Instr.enterLoop fn tmps params assign body af).run P w=.ok (w.heap.size+1,[{ target:=.collected w.heap.size,args:=#[] }]) { w with heap:=(w.heap.push (.deferred (aa []))).push (.loop { state:=.ready,pending:=af,fn,tmps,params,assign,body,defers:=w.heap.size }) } /\
  (Instr.enterLoop fn tmps params assign body af).events P w #[]=#[]:=by
 have c:∀ (o:Obj) (w:az),(newObj o).run P w=.ok w.heap.size { w with heap:=w.heap.push o }:=λo w=>by simp only[newObj,Sem.run]
 have d:∀ (o:Obj) (w:az) es,(newObj o).events P w es=es:=λo w es=>by simp only[newObj,Sem.events,Sem.runT]
 constructor
 .simp[Instr.enterLoop,c];rfl
 .simp[Instr.enterLoop,c,d]
def zN{f:an}{ps:Array Tmp}{assign body:Code}{F:aV}{fn:Func}{c:List ak}(q:b.roundOf=af)(s:b.kind≠.early)(l:P.funcs[F]?=aa fn)(j:(fn.name== "runtime.NumGoroutine")=ae)(g:fn.body.isNone=ae)
  (u:a.eval f=.func (.func F) #[] c.toArray) :
  aK P main (G (b.aT a (.code (.rangeFunc f ps assign body)::k)) cs) w =
   .go (G (Frame.enter P F (Value.func (.yield (w.heap.size+1)) #[] #[]::c).toArray .normal) (b.aT { a with defers:={ target:=.collected w.heap.size,args:=#[] }::a.defers } (.inRangeFunc (w.heap.size+1)::k)::cs))
    { w with heap:=(w.heap.push (.deferred (aa []))).push (.loop { state:=.ready,pending:=af,fn:=b.fn,tmps:=a.tmps,params:=ps,assign,body,defers:=w.heap.size }) } #[]:=by
 obtain⟨p,r⟩:=xH (P:=P) (w:=w) (fn:=b.fn) (tmps:=a.tmps) (params:=ps) (assign:=assign) (body:=body);have n:(b.kind==CallKind.early)=ae:=by simpa using s
 have i:fn.name≠ "runtime.NumGoroutine":=by simpa using j
 have h:fn.body≠af:=by intro e;rw[e] at g;cases g
 have o:∀ (d:List Deferred) (t:List Item) (m:FrameMode),({ fn:=b.fn,tmps:=a.tmps,todo:=t,defers:=d,mode:=m,kind:=b.kind,roundOf:=b.roundOf }:aO).eval f=.func (.func F) #[] c.toArray:=by
  intro d t m;rw[<-u];cases f <;> rfl
 simp only[G,aK,stepG.exec,Frame.aT,q] at o ⊢;simp[p,r,GStep.after,stepG.apply,resolve,o,Deferred.ofValue,invoke,callFunc,l,i,h,n,seen];rfl
end steps
end
section
variable {P:aq}{X:Cx P}
def aJ.zO{σ:List aW}{s:St}(hh:aJ σ s){b N:Nat}{a:Fr}{r:Loop}(c:σ[b]?=aa (.loop N a r)){l:Nat}(hl:∃ L,s.β[b]?=aa L/\L.v=.func (.yield l) #[] #[]) :
  ∃ tmps fn df,s.β[b]?=aa ⟨.func (.yield l) #[] #[],[l]⟩/\s.w.heap[l]?=aa (.loop { r with tmps:=tmps,fn:=fn,defers:=df })/\tmps.size=N/\(∀ t,c8 σ s (tmps.getD t aj) (look a t))/\(∀ o,s.M l o=af):=by
 obtain⟨L,h1,h2⟩:=hl;obtain⟨l',tmps,fn,df,h,d,f,e,g⟩:=hh.box b _ L c h1
 grind
def aJ.zP{σ:List aW}{s:St}(hh:aJ σ s){c N:Nat}{a:Fr}{r r':Loop}{B':aW}(z:σ[c]?=aa (.loop N a r)){l:Nat}{tmps:Array ak}{fn df:Nat}(y:s.β[c]?=aa ⟨.func (.yield l) #[] #[],[l]⟩)
  (D:s.w.heap[l]?=aa (.loop { r with tmps:=tmps,fn:=fn,defers:=df })) (C:tmps.size=N) (k:∀ t,c8 σ s (tmps.getD t aj) (look a t)) (q:∀ o,s.M l o=af) (d:B'=.dead∨B'=.loop N a r') :
  aJ (σ.set c B') { s with w:={ s.w with heap:=s.w.heap.setIfInBounds l (.loop { r' with tmps:=tmps,fn:=fn,defers:=df }) } }/\Step σ s (σ.set c B') { s with w:={ s.w with heap:=s.w.heap.setIfInBounds l (.loop { r' with tmps:=tmps,fn:=fn,defers:=df }) } }:=by
 have A:l<s.w.heap.size:=hh.lt _ (bM y) l (by simp)
 have u:∀ b,b≠l->(s.w.heap.setIfInBounds l (.loop { r' with tmps:=tmps,fn:=fn,defers:=df }))[b]?=s.w.heap[b]?:=λb hb=>by grind
 have f:s.β.set c ⟨.func (.yield l) #[] #[],[l]⟩=s.β:=by
  apply iK
  grind
 have x:c<σ.length:=(cg.1 z).1;have g:il (.loop N a r) ⟨.func (.yield l) #[] #[],[l]⟩ B' ⟨.func (.yield l) #[] #[],[l]⟩:=by rcases d with rfl|rfl <;> rfl
 have ex:Ext σ s (σ.set c B') { s with w:={ s.w with heap:=s.w.heap.setIfInBounds l (.loop { r' with tmps:=tmps,fn:=fn,defers:=df }) } }:=by
  refine⟨λ_ _ _ h=>h,λi B L m p=>?_⟩
  by_cases e:c=i
  .grind
  .exact⟨B,L,by rw[fE e];exact m,p,.refl _ _⟩
 have:=hh.im (M':=s.M) (w':={ s.w with heap:=s.w.heap.setIfInBounds l (.loop { r' with tmps:=tmps,fn:=fn,defers:=df }) }) (B':=B') (L':=⟨.func (.yield l) #[] #[],[l]⟩) z y g (by simp) (λb _ hb=>u b (by simpa using hb)) (λ_ _ _ _=>rfl) (λ_ _ _ h=>h)
  (λb o v n=>by
   have j:b≠l:=by rintro rfl;rw[q] at n;cases n
   rw[<-hh.mem b o v n];simp only[aZ];rw[u b j]) (λb hb=>by grind) rfl rfl rfl (by
   rcases d with rfl|rfl
   .trivial
   .refine⟨l,tmps,fn,df,rfl,?_,C,λt=>?_,q⟩
    .grind
    .have:=(k t).mono ex hh.len;rw[f];exact this)
 rw[f] at this;exact this
def AK.yield{ι:Type}{N:Nat}{Qf:Post}{K:List It}{φ:Fr}{σ:List aW}{σ':ι->List aW}{all rest:List aw}{o:aw}{y:an}{xs:Array an}{C:Array ar}{m:Nat}{ds:List D}{res:Bool}(V:Yields X m ds σ res σ')
  (hg:o.guard=af) (Y:gv N o.dst=ab) (I:o.op=.call { callee:=.value y,args:=xs,argTypes:=C }) {R:Nat} {B:Fr} {r:Loop} (p:σ[m]?=aa (.loop R B r)) (T:bX φ y=.e (.one (.ref m))) (h:xs.toList.map (bX φ)=ds)
  (k:∀ j,AK X N Qf (.ops all rest::K) .normal (lr o.dst (.e (.one (.c (.bool res)))) φ) (σ' j)):AK X N Qf (.ops all (o::rest)::K) .normal φ σ:=by
 intro s a f hh b kk cs S idx hb jE hQ;cases idx with
 |nil=>exact jE.elim
 |cons j idx =>
 refine .next rfl λi E=>?_
 have A:=X.iq E;have d:=hh.rely A;have n:=f.rely A hh;have G:=dK n y;rw[T] at G;obtain⟨_,L,F,x,_⟩:=(show gu _ i _ (.ref m) from G)
 obtain⟨l,tmps,fn,df,h3,h4,h5,h6,h7⟩:=d.box m _ L p F;subst h3;have v:cv σ i (xs.toList.map a.eval) ds:=by rw[<-h];exact nP (dK n) xs.toList
 obtain⟨U,u,assign,body,M,y2,W⟩:=V i (xs.toList.map a.eval) l v d ⟨_,F,rfl⟩;obtain⟨O,Q⟩:=BI (P:=P) (w:=i.w) (a:=a) I x;refine⟨_,i,_,JR jE.1 (dq hg) hb (O.trans M),⟨⟨σ,σ,d,d,.refl _ _⟩,eU.seen ?_⟩,W S _ _ λH s' ld st=>?_⟩
 .rw[Q,y2];exact .one (lO (L:=⟨.func (.yield l) #[] #[],[l]⟩) (bM F) (by simp))
 have g:=j8 (b:=b) (a:=a) (k:=kk) all.toArray j idx (.bool res);rw[jE.1] at g;simp only[nG] at g;rw[g];refine k H s' _ ?_ ld b kk cs S idx hb jE.2 λz σ2 s2 a2 q J h2 oz=>hQ z σ2 s2 a2 q J h2 ((A.stepW.trans st).trans oz)
 cases Z:o.dst with
 |none=>exact n.mono st d.len
 |some t=>exact(n.mono st d.len).put (ir Y t Z) (show c8 (σ' H) s' (.bool res) (.e (.one (.c (.bool res)))) from Rd.bool)
def qz:List Tmp->List D->Fr->Fr
 |t::ts,d::ds,φ=>qz ts ds ((t,d)::φ)
 |_,_,φ=>φ
def Nx(N:Nat):List Tmp->Bool
 |[]=>ab
 |t::ts=>match bq (t+1) N with|true=>Nx N ts|false=>ae
def FJ{N:Nat}{σ:List aW}{s:St}:∀ {ps:List Tmp}{ds:List D}{vs:List ak}{φ:Fr}{a:Act},cp N σ s φ a->cv σ s vs ds->Nx N ps=ab->cp N σ s (qz ps ds φ) { a with tmps:=(ps.zip vs).foldl (λtmps (t,v)=>tmps.setIfInBounds t v) a.tmps }
 |[],ds,vs,φ,a,h,_,_=>by simpa[qz] using h
 |_::_,[],[],φ,a,h,_,_=>by simpa[qz] using h
 |_::_,[],_::_,φ,a,h,b,_=>b.elim
 |_::_,_::_,[],φ,a,h,b,_=>b.elim
 |t::ts,d::ds,v::vs,φ,a,h,b,c=>by
  simp only[Nx] at c;split at c
  .rename_i e
   have:=FJ (h.put (d:=t) (c7 e) b.1) b.2 c;simpa[qz,Act.put] using this
  .cases c
def QM:Exit->Option (Option Code)
 |.normal=>aa af
 |.ret=>aa (aa .ret)
 |.exit id=>aa (aa (.exit id))
 |_=>af
def Yields.intro{ι:Type}{g N:Nat}{f:Fr}{r:Loop}{ds:List D}{σ:List aW}{σ':ι->List aW}{j:Option Code}(o:σ[g]?=aa (.loop N f r))(DS:r.state=.ready)(F:ds.length=r.params.size)(Y:Nx N r.params.toList=ab)
  (h:AW X N r.assign (λe A σ1=>e=.normal/\σ1[g]?=aa (.loop N f r)/\AW X N r.body (λe φ2 σ2=>QM e=aa j/\σ2[g]?=aa (.loop N f { r with state:=.busy }) /\
   ∃ i,GW (σ2.set g (.loop N f { r with state:=if j.isNone then .ready else .done,pending:=j })) (σ' i)) A (σ1.set g (.loop N f { r with state:=.busy }))) (qz r.params.toList ds f) σ):Yields X g ds σ j.isNone σ':=by
 intro s vs l H hh hl;obtain⟨tmps,fn,df,h1,h2,h3,h4,h5⟩:=hh.zO o hl;have U:vs.length=r.params.size:=by rw[<-F];exact(cv.get H).1
 obtain⟨y1,y2⟩:=GU (P:=P) (args:=vs.toArray) h2 (by simpa using U)
 refine⟨_,_,_,_,y1,y2,λS c cs hS=>?_⟩
 let b:aO:={ fn:=fn,tmps:=#[],todo:=[],defers:=[],mode:=.run,kind:=.normal,roundOf:=aa l }
 have hb:b.kind≠.early:=by simp[b]
 have hf:cp N σ s (qz r.params.toList ds f) { tmps:=(r.params.zip vs.toArray).foldl (λtmps (t,a)=>tmps.setIfInBounds t a) tmps,defers:=[] }:=by
  have:=FJ (a:={ tmps:=tmps,defers:=[] }) (φ:=f) ⟨h3,⟨[],av⟩,h4⟩ H Y;have e:(r.params.zip vs.toArray).foldl (λtmps (x:Tmp×ak)=>tmps.setIfInBounds x.1 x.2) tmps=(r.params.toList.zip vs).foldl (λtmps (x:Tmp×ak)=>tmps.setIfInBounds x.1 x.2) tmps:=by
   rw[<-Array.foldl_toList];simp
  grind
 show eZ X S (G (b.aT { tmps:=(r.params.zip vs.toArray).foldl (λtmps (t,a)=>tmps.setIfInBounds t a) tmps,defers:=[] } [.code r.assign,.beginRound,.code r.body]) (c::cs)) s
 refine h s _ hf hh b [.beginRound,.code r.body] (c::cs) S hb ?_;rintro e A σ1 s1 a1 ⟨rfl,p,q⟩ f1 B I;refine .next rfl λs2 n6=>?_
 have O:=X.iq n6;have k:=B.rely O;have f2:=f1.rely O B;have hlL:∃ L,s2.β[g]?=aa L/\L.v=.func (.yield l) #[] #[]:=by
  obtain⟨B',L',k1,V,Q⟩:=(I.trans O.stepW).box g _ _ o h1;rw[p] at k1;cases k1;exact⟨L',V,Q⟩
 obtain⟨R,fn2,Wc,g1,g2,g3,g4,g5⟩:=k.zO p hlL;have g6:=k.zP (r':={ r with state:=.busy }) p g1 g2 g3 g4 g5 (.inr rfl);have K:∀ {s:St} {σ:List aW} {L:Loc},s.β[g]?=aa L->L.bs=[l]->eU s #[⟨.obj l,ae,ae⟩,⟨.obj l,ab,ae⟩]:=λ{s σ L} hL hb =>
  .two (lO (bM hL) (by simp[hb])) (lO (bM hL) (by simp[hb]))
 refine⟨_,_,_,JS (l:=l) rfl hb g2 DS,⟨⟨_,_,k,g6.1,g6.2⟩,eU.seen (K (σ:=σ1) g1 rfl)⟩,?_⟩;have E:=g6.2.oo k;have JU:=g6.1;refine q _ a1 (f2.mono E k.len) JU b [] (c::cs) S hb ?_;rintro e φ3 T s3 a3 ⟨hj,u,ii,J⟩ f3 C Z;have stA:=((I.trans O.stepW).trans E).trans Z;have fin:∀ M m,b9 s3 m->((j=af/\M=[])∨(j=aa .ret/\∃ k1,M=.code .ret::k1)∨(∃ id k1,j=aa (.exit id)/\M=.code (.exit id)::k1/\exitTo id k1=af)) ->
   ∃ g' s' es,aK P X.main (G (b.aT a3 M) (c::cs)) m.w=.go g' s'.w es/\qu m s' es/\eZ X S g' s':=by
  intro M m d WV;have n:=C.rely d;have y:∃ L,m.β[g]?=aa L/\L.v=.func (.yield l) #[] #[]:=by
   obtain⟨B',L',k1,V,Q⟩:=(stA.trans d.stepW).box g _ _ o h1;rw[u] at k1;cases k1;exact⟨L',V,Q⟩
  obtain⟨W,fn5,df5,p1,p2,p3,p4,p5⟩:=n.zO u y;have z:=n.zP (r':={ r with state:=if j.isNone then .ready else .done,pending:=j }) u p1 p2 p3 p4 p5 (.inr rfl)
  obtain⟨p7,p8,_⟩:=J _ z.1;exact⟨_,_,_,BJ (l:=l) rfl rfl p2 WV,⟨⟨_,_,n,z.1,z.2⟩,eU.seen (K (σ:=T) p1 rfl)⟩,hS ii _ p7 (((stA.trans d.stepW).trans (z.2.oo n)).trans (p8.oo z.1))⟩
 cases e with
 |normal =>
  cases hj;exact .next rfl λm d=>fin [] m (X.iq d) (.inl ⟨rfl,rfl⟩)
 |ret =>
  cases hj;intro pre;exact .next rfl λm d=>fin _ m (X.iq d) (.inr (.inl ⟨rfl,pre,rfl⟩))
 |exit id =>
  cases hj;intro pre hp;refine .next rfl λm d=>fin _ m (X.iq d) (.inr (.inr ⟨id,_,rfl,rfl,?_⟩))
  have:=hp [];simpa[exitTo] using this
 |_=>cases hj
end
def qe{P:aq}(X:Cx P)(N:Nat)(c:Code)(Q:Post)(φ:Fr)(σ:List aW):Prop :=
 ∀ s a,cp N σ s φ a->aJ σ s->∀ (b:aO) (k:List Item) (cs:List aO) (S:au->St->Prop),b.kind≠.early->b.roundOf=af ->
  (∀ e d σ' s' a',Q e d σ'->cp N σ' s' d a'->aJ σ' s'->cw σ s σ' s'->ends X S b k cs e a' s')->eZ X S (G (b.aT a (.code c::k)) cs) s
section
variable {P:aq}{X:Cx P}{N:Nat}{Q:Post}{φ:Fr}{σ:List aW}
def AW.top{c:Code}(h:AW X N c Q φ σ):qe X N c Q φ σ:=λs a f hh b k cs S hb _ d=>h s a f hh b k cs S hb d
def qe.seq{x y:Code}(h:qe X N x (FK (qe X N y Q) Q) φ σ):qe X N (.seq x y) Q φ σ:=by
 intro s a j hh b k cs S hb MM hQ;refine .ctl hh rfl (λ_=>nQ) λi h1=>?_
 refine h i a (j.rely h1 hh) (hh.rely h1) b (.code y::k) cs S hb MM ?_;intro e l σ' s' a' q f g st;have c:=h1.stepW.trans st;cases e with
 |normal=>exact q s' a' f g b k cs S hb MM λe d σ2 s2 a2 q2 f2 h2 oz=>hQ e d σ2 s2 a2 q2 f2 h2 (c.trans oz)
 |_=>exact ends.cons (λ_ _=>rfl) (by simp) (hQ _ _ _ _ _ q f g c)
def qe.block{id:Nat}{c:Code}(h:qe X N c (zQ id Q) φ σ):qe X N (.block id c) Q φ σ:=by
 intro s a n hh b k cs S hb MM hQ;refine .ctl hh rfl (λ_=>ru) λm h1=>?_
 refine h m a (n.rely h1 hh) (hh.rely h1) b (.inBlock id::k) cs S hb MM ?_;intro e i σ' s' a' q g f st;have d:=h1.stepW.trans st;cases e with
 |normal =>
  exact .ctl f rfl (λ_=>qv) λs2 h2=>hQ .normal i σ' s2 a' q (g.rely h2 f) (f.rely h2) (d.trans h2.stepW)
 |exit IM =>
  simp only[zQ] at q;split at q
  .rename_i e
   subst e;intro pre hp;refine .ctl f rfl (λ_=>zl (k':=k) (by rw[hp];simp[exitTo])) λs2 h2=>?_
   exact hQ .normal i σ' s2 a' q (g.rely h2 f) (f.rely h2) (d.trans h2.stepW)
  .rename_i j
   intro pre hp;have:=hQ (.exit IM) i σ' s' a' q g f d (pre++[.inBlock id]) (λk'=>by
    rw[ij,hp];have:(id==IM)=ae:=by simp;exactλh=>j h.symm
    simp[exitTo,this])
   simpa using this
 |ret=>exact hQ _ _ _ _ _ q g f d
 |panic ch=>exact hQ _ _ _ _ _ q g f d
 |goto l=>exact hQ _ _ _ _ _ q g f d
 |outgrown=>exact hQ _ _ _ _ _ q g f d
def aJ.QN{s:St}(h:aJ σ s){o:Nat->Prop}(a:∀ b,o b->b<s.w.heap.size/\∀ L∈s.β,b∉L.bs):aJ σ { s with own:=o } :=
 ⟨h.mem,h.len,λl B L e d=>eJ.carry (σ:=σ) (s:=s) (σ':=σ) (s':={ s with own:=o }) ⟨λ_ _ _ h=>h,λ_ B L h c=>⟨B,L,h,c,.refl _ _⟩⟩ h.len (λ_ _=>⟨rfl,λ_=>rfl⟩) (h.box l B L e d),h.fT,h.lt,a⟩
def aJ.ix{s:St}(h:aJ σ s){r:Nat}{o:Nat->Prop}(n:s.own r)(m:∀ b,o b->s.own b)(j:¬o r)(f:∀ i,s.M r i=af)(k:s.w.heap[r]?=aa (.deferred (aa []))) :
  aJ (σ++[.rq]) { s with β:=s.β++[⟨.int .i64 r,[r]⟩],own:=o }/\eK s { s with β:=s.β++[⟨.int .i64 r,[r]⟩],own:=o }:=by
 obtain⟨g,t⟩:=h.own r n;have ex:Ext σ s (σ++[.rq]) { s with β:=s.β++[⟨.int .i64 r,[r]⟩],own:=o }:=by
  refine⟨λ_ _ _ h=>h,λl B L c a=>⟨B,L,?_,?_,.refl _ _⟩⟩
  .grind
  grind
 refine⟨⟨h.mem,by simp[h.len],?_,?_,?_,?_⟩,⟨rfl,λ_ _ _ h=>h,λ_ _ _=>rfl,h.mem,?_⟩⟩
 .intro l B L c a;rcases fS a with e|⟨hl,rfl⟩
  .have hl:l<σ.length:=by rw[<-h.len];grind
   rw[jf hl] at c;exact(h.box l B L c e).carry ex h.len λ_ _=>⟨rfl,λ_=>rfl⟩
  .rw[hl,h.len,gg (bc _)] at c;simp at c;subst c;exact⟨r,rfl,k,f⟩
 .intro l l' L L' a d b hb rl;rcases fS a with k1|⟨e1,rfl⟩ <;> rcases fS d with p|⟨e2,rfl⟩
  .exact h.fT l l' L L' k1 p b hb rl
  .grind
  .grind
  .rw[e1,e2]
 .intro L a b hb;simp only[fR,kW] at a;rcases a with a|rfl
  .exact h.lt L a b hb
  .simp at hb;subst hb;exact g
 .intro b hb;obtain⟨q,p2⟩:=h.own b (m b hb)
  grind
 grind
def JV:Option Code->Option Exit
 |none=>aa .normal
 |some .ret=>aa .ret
 |some (.exit id)=>aa (.exit id)
 |_=>af
def qe.rangeFunc{ι:Type}{f:an}{ps:Array Tmp}{assign body:Code}{F:aV}{capD:List D}{res:ι->D}{σ':ι->List aW}{r':ι->Loop}
  (Ds:∀ s a,cp N σ s φ a->aJ σ s->∃ n:List ak,a.eval f=.func (.func F) #[] n.toArray/\cv σ s n capD)
  (IX:cD X F (.e (.one (.ref σ.length))::capD) (σ++[.loop N φ { state:=.ready,pending:=af,fn:=0,tmps:=#[],params:=ps,assign:=assign,body:=body,defers:=0 }]) res σ')
  (hl:∀ i,(σ' i)[σ.length]?=aa (.loop N φ (r' i))/\(r' i).state≠.busy)
  (k:∀ i,∃ e,JV (r' i).pending=aa e/\Q e φ ((σ' i).set σ.length .dead++[.rq])):qe X N (.rangeFunc f ps assign body) Q φ σ:=by
 intro s a fr hh b kk cs S hb MM hQ;obtain⟨⟨fn,SW,W,H⟩,I⟩:=IX;refine .next rfl λd MI=>?_
 have hr:=X.iq MI;have j:=hh.rely hr;have f1:=fr.rely hr hh;obtain⟨n,hv,K⟩:=Ds d a f1 j;generalize A:d.w.heap.size=r;have u:=λmain=>zN (P:=P) (main:=main) (k:=kk) (cs:=cs) (ps:=ps) (assign:=assign) (body:=body) (b:=b) (w:=d.w) MM hb SW W H hv
 rw[A] at u
 let w1:az:={ d.w with heap:=d.w.heap.push (.deferred (aa [])) }
 let lo:Loop:={ state:=.ready,pending:=af,fn:=b.fn,tmps:=a.tmps,params:=ps,assign:=assign,body:=body,defers:=r }
 let w2:az:={ d.w with heap:=(d.w.heap.push (.deferred (aa []))).push (.loop lo) }
 have IG:w2.heap.size=r+2:=by simp[w2,A]
 have acx:w1.heap.size=r+1:=by simp[w1,A]
 have hk1:∀ b,b<d.w.heap.size->w1.heap[b]?=d.w.heap[b]?:=λb hb=>by
  grind
 have z:∀ b,b<w1.heap.size->w2.heap[b]?=w1.heap[b]?:=λb hb=>by
  grind
 have Z:∀ b,b<d.w.heap.size->w2.heap[b]?=d.w.heap[b]?:=λb hb=>by rw[z b (by omega),hk1 b hb]
 have XR:w2.heap[r]?=aa (.deferred (aa [])):=by
  grind
 have XS:w2.heap[r+1]?=aa (.loop lo):=by
  grind
 have nM:∀ b,d.w.heap.size<=b->∀ o,d.M b o=af:=λb hb o=>by
  cases p:d.M b o with
  |none=>rfl
  |some v=>have:=j.block p;omega
 let L1:Loc:=⟨.func (.yield (r+1)) #[] #[],[r+1]⟩
 let L2:Loc:=⟨.int .i64 r,[r]⟩
 let rr:Loop:={ state:=.ready,pending:=af,fn:=0,tmps:=#[],params:=ps,assign:=assign,body:=body,defers:=0 }
 obtain⟨g1,g2⟩:=j.grow (M':=d.M) (w':=w2) (by omega) Z (λ_ _ _=>rfl) (λb hb o v p=>by rw[nM b hb] at p;cases p) rfl rfl rfl
 have O:Ext σ d (σ++[.loop N φ rr]) ⟨d.β++[L1],d.M,w2,d.own⟩:=by
  refine⟨λ_ _ _ h=>h,λl B L hB m=>⟨B,L,?_,?_,.refl _ _⟩⟩
  .grind
  grind
 obtain⟨a1,a2⟩:=g1.gT (B:=.loop N φ rr) (L:=L1) g2 rfl j ⟨r+1,a.tmps,b.fn,r,rfl,XS,f1.size,λt=>(f1.slot t).mono O j.len,λo=>nM _ (by omega) o⟩ (λb hb=>by
  grind)
 have hD:=a1.QN (o:=λb=>d.own b∨b=r) (by
  rintro b (hb|rfl)
  .exact a1.own b hb
  .refine⟨by show b<w2.heap.size;omega,λL m=>?_⟩
   simp only[fR,kW] at m;rcases m with m|rfl
   .intro hc;have:=j.lt L m b hc;omega
   .simp[L1])
 have d1:=j.kz;obtain⟨e1,e2⟩:=d1.grow (M':=d.M) (w':=w1) (by omega) hk1 (λ_ _ _=>rfl) (λb hb o v p=>by rw[nM b hb] at p;cases p) rfl rfl rfl
 obtain⟨e3,e4⟩:=e1.gT (B:=.dead) (L:=L2) e2 rfl d1 av (λb hb=>by grind)
 obtain⟨e5,e6⟩:=e3.grow (M':=d.M) (w':=w2) (by show w1.heap.size<=_;omega) z (λ_ _ _=>rfl) (λb hb o v p=>by
  grind) rfl rfl rfl
 obtain⟨e7,e8⟩:=e5.gT (B:=.dead) (L:=L1) e6 rfl e3 av (λb hb=>by grind)
 have QO:eK ⟨d.β++[L2]++[L1],d.M,w2,d.own⟩ ⟨d.β++[L1],d.M,w2,λb=>d.own b∨b=r⟩:=by
  refine⟨rfl,λ_ _ _ h=>h,λ_ _ _=>rfl,a1.mem,?_⟩
  rintro b ((hb|rfl)|⟨L,m,hb⟩)
  .exact .inl hb
  .exact .inr ⟨L2,by simp,by simp[L2]⟩
  grind
 refine⟨_,⟨d.β++[L2]++[L1],d.M,w2,d.own⟩,_,u X.main,⟨⟨_,_,d1,e7,e4.trans e8⟩,.nil⟩,.ghost QO (I _ (Value.func (.yield (r+1)) #[] #[]::n) ?_ hD S _ λi SZ v s4 J mR Wh st4=>?_)⟩
 .refine⟨⟨λB q=>?_,L1,?_,rfl,rfl⟩,?_⟩
  .rw[gg (bc _)] at q;simp at q;subst q;rfl
  .show (d.β++[L1])[σ.length]?=_;rw[<-j.len,gg (bc _)];simp
  .exact K.mono (σ:=σ) (s:=d) (σ':=σ++[.loop N φ rr]) (s':=⟨d.β++[L1],d.M,w2,λb=>d.own b∨b=r⟩) ⟨O.mem,O.box⟩ j.len
 have V:(b.aT { a with defers:={ target:=.collected r,args:=#[] }::a.defers } (.inRangeFunc (r+1)::kk)).finish v=b.aT { a with defers:={ target:=.collected r,args:=#[] }::a.defers } (.endRangeFunc (r+1)::kk):=by simp[Frame.finish,Frame.aT]
 refine pI (cs:=cs) (c:=b.aT { a with defers:={ target:=.collected r,args:=#[] }::a.defers } (.inRangeFunc (r+1)::kk)) Wh J λs5 T=>?_
 rw[V];refine .next rfl λs6 XT=>?_
 have U:=X.iq XT;have y:=(Wh.rely T).rely U;have st6:=(st4.trans T.stepW).trans U.stepW;obtain⟨C,Wi⟩:=hl i;have hLl:∃ L,s6.β[σ.length]?=aa L/\L.v=.func (.yield (r+1)) #[] #[]:=by
  obtain⟨B',L',k1,k2,k3⟩:=st6.box σ.length (.loop N φ rr) L1 (show (σ++[aW.loop N φ rr])[σ.length]?=_ from List.getElem?_concat_length) (by
   show (d.β++[L1])[σ.length]?=_;rw[<-j.len,gg (bc _)];simp)
  rw[C] at k1;cases k1;exact⟨L',k2,k3⟩
 obtain⟨R,fn6,df6,p1,p2,p3,p4,p5⟩:=y.zO C hLl;obtain⟨q1,q2⟩:=y.zP (r':={ r' i with state:=.exhausted }) (B':=.dead) C p1 p2 p3 p4 p5 (.inl rfl);refine⟨_,_,_,DW p2 Wi,⟨⟨_,_,y,q1,q2⟩,eU.seen (.two (lO (bM p1) (by simp)) (lO (bM p1) (by simp)))⟩,?_⟩
 have g:=st6.trans (q2.oo y);generalize hs7:({ s6 with w:={ s6.w with heap:=s6.w.heap.setIfInBounds (r+1) (.loop { { r' i with state:=.exhausted } with tmps:=R,fn:=fn6,defers:=df6 }) } }:St)=s7 at q1 q2 g;have h7r:s7.own r:=by rw[g.own];exact .inr rfl
 have h7d:s7.w.heap[r]?=aa (.deferred (aa [])):=by rw[g.eB r (.inr rfl)];exact XR
 have h7M:∀ o,s7.M r o=af:=λo=>by
  rw[g.jk r (by show r<w2.heap.size;omega) (λL m=>(hD.own r (.inr rfl)).2 L m)]
  exact nM r (by omega) o
 obtain⟨t1,t2⟩:=q1.ix (r:=r) (o:=d.own) h7r (λb hb=>by rw[g.own];exact .inl hb) (λhc=>by have:=(j.own r hc).1;omega) h7M h7d
 refine .ghost t2 ?_;have E:cw σ d ((σ' i).set σ.length .dead++[.rq]) { s7 with β:=s7.β++[⟨.int .i64 r,[r]⟩],own:=d.own }:=by
  refine⟨?_,λb hb=>?_,λb o v p=>g.mem b o v p,λb hb hn o=>?_,λL m b hb=>?_,λl B L hB m=>?_,g.os,g.tape,g.output,rfl⟩
  .grind
  .show s7.w.heap[b]?=_;rw[g.eB b (.inl hb)];exact Z b (j.own b hb).1
  .show s7.M b o=_;rw[g.jk b (by show b<w2.heap.size;omega) (λL m=>?_)]
   grind
  .simp only[fR,kW] at m;rcases m with m|rfl
   .rcases g.uo L m b hb with h1|⟨L0,h1,h2⟩
    .grind
    grind
   .simp at hb;exact .inl (by omega)
  .have P8:=(cg.1 hB).1;have P9:=(cg.1 m).1;obtain⟨B',L',k1,k2,k3⟩:=g.box l B L (by grind) (by grind)
   grind
 have fF:cp N ((σ' i).set σ.length .dead++[.rq]) { s7 with β:=s7.β++[⟨.int .i64 r,[r]⟩],own:=d.own } φ { a with defers:={ target:=.collected r,args:=#[] }::a.defers }:=by
  have p:=f1.mono E j.len;obtain⟨ls,Y⟩:=f1.defers;refine⟨p.size,⟨((σ' i).set σ.length .dead).length::ls,⟨⟨?_,⟨.int .i64 r,[r]⟩,r,?_,rfl,rfl⟩,λhc=>?_,Y.mono E.ext⟩⟩,p.slot⟩
  .grind
  .show (s7.β++_)[_]?=_;rw[<-q1.len,gg (bc _)];simp
  .have h1:=Y.yh _ hc
   grind
 obtain⟨e,q,hq⟩:=k i;have x:=hQ e φ _ _ _ hq fF t1 (hr.stepW.trans E);revert q;show JV (r' i).pending=aa e->eZ X S (G (b.aT _ (((r' i).pending.map Item.code).toList++kk)) cs) _;intro q;cases hp:(r' i).pending with
 |none=>rw[hp] at q;cases q;exact x
 |some c =>
  rw[hp] at q;cases c <;> simp only[JV,reduceCtorEq,de] at q
  .subst q;exact x [] (λ_=>rfl)
  .subst q;exact x kk
def cp.callee{t:Nat}{F:aV}{cap:List C}(hl:look φ t=.e (.one (.c (.fn (.func F) [] cap)))):∀ s a,cp N σ s φ a->aJ σ s->∃ b:List ak,a.eval (.tmp t)=.func (.func F) #[] b.toArray/\cv σ s b (gj cap):=by
 intro s a f _;have h:=f.slot t;rw[hl] at h;have h:=fC h;show ∃ b:List ak,a.tmps.getD t aj=.func (.func F) #[] b.toArray/\_;generalize a.tmps.getD t aj=v at h;cases h with
 |fn fs cs hl A8 f1 f2 h1 h2 r1 r2 =>
  have d:fs=[]:=gf hl;subst d;exact⟨cs,rfl,lI (λj c hj=>⟨f2 j,h2 j (by grind),r2 j c hj⟩) A8⟩
def cD.DX{ι:Type}{f:aV}{fn:Func}{c:Code}{args:List D}{σ':ι->List aW}{res:ι->D}(m:P.funcs[f]?=aa fn)(d:(fn.name== "runtime.NumGoroutine")=ae)(hb:fn.body=aa c)(g:bq args.length fn.ntmps=ab)
  (h:Fits args σ->qe X fn.ntmps c (λe φ σ1=>∃ j,bZ fn σ.length (res j) (σ' j) e φ σ1) (hU 0 args) σ):cD X f args σ res σ':=by
 refine⟨⟨fn,m,d,by rw[hb];rfl⟩,λs0 vs hr hh=>?_⟩
 exact(cD.Pw m d hb (c7 g) λs a f l b k cs S o i n=>h ⟨s0,vs,hr,hh⟩ s a f l b k cs S o i n).2 s0 vs hr hh
def XU(fn:Func)(res:D)(σ':List aW):Post:=λe φ σ1 =>
 (e=.ret∨e=.normal)/\σ1=σ'/\mr σ'=ab/\∃ ds d ps,xz φ fn.results.toList=aa ds/\rH ds=aa d/\Bo d res=aa ps/\ag ps
def cD.n7{ι:Type}{f:aV}{fn:Func}{c:Code}{args:List D}{σ':ι->List aW}{res:ι->D}(o:P.funcs[f]?=aa fn)(k:(fn.name== "runtime.NumGoroutine")=ae)(hb:fn.body=aa c)(g:bq args.length fn.ntmps=ab)
  (h:AW X fn.ntmps c (λe φ σ1=>∃ j,XU fn (res j) (σ' j) e φ σ1) (hU 0 args) σ):cD X f args σ res σ':=by
 refine⟨⟨fn,o,k,by rw[hb];rfl⟩,λs vs hr hh S cs hS=>?_⟩
 obtain⟨hl,H⟩:=cv.get hr
 let b:aO:={ fn:=f,tmps:=#[],todo:=[],defers:=[],mode:=.run,kind:=.normal,roundOf:=af }
 have a:Frame.enter P f vs.toArray .normal=b.aT { tmps:=vs.toArray++Array.replicate (fn.ntmps-vs.toArray.size) aj,defers:=[] } [.code c]:=by
  simp[Frame.enter,Frame.aT,o,hb,b]
 rw[a];have g:=c7 g;refine h s { tmps:=vs.toArray++Array.replicate (fn.ntmps-vs.toArray.size) aj,defers:=[] } ⟨by simp;omega,⟨[],av⟩,λt=>?_⟩ hh b [] cs S (by simp[b]) ?_
 .rw[lN];simp only[gh,cj,ll];have:=H t;rcases cx t vs.length with u|C
  .have e:(vs.toArray++Array.replicate (fn.ntmps-vs.toArray.size) aj).getD t aj=(vs[t]?).getD aj:=by
    simp only[dn]
    grind
   rw[e];exact this
  .rw[qq (by omega)]
   trivial
 .rintro e z σ1 s1 a1 ⟨A,m,rfl,p,ds,d,ps,h1,h2,E,F⟩ J n st;have fin:∀ (fr:aO) s2,b9 s1 s2->fr.fn=f->fr.tmps=a1.tmps->fr.defers=a1.defers->fr.mode=.returning->fr.kind=.normal->eZ X S (G fr cs) s2:=by
   intro fr s2 n6 e1 e2 e3 e4 e5;have r:=J.rely n6 n;obtain⟨v,x,y,I⟩:=tH (P:=P) r h1 h2;obtain⟨ls,i⟩:=r.defers;have q:a1.defers=[]:=by
    cases ls with
    |nil=>cases B:a1.defers with
     |nil=>rfl
     |cons d ds=>rw[B] at i;exact i.elim
    |cons l ls=>exact absurd rfl (lD p _ (bM (i.yh l (by simp))))
   refine hS A fr v _ ⟨e1,e4,by rw[e3];exact q,e5,fn,by rw[e1];exact o,λw _=>?_⟩ (oU E F y) (n.rely n6) (st.trans n6.stepW)
   rw[e2];exact⟨x w,λe m=>by rw[I w #[]] at m;simp at m⟩
  rcases m with rfl|rfl
  .intro pre;exact .ctl n rfl (λ_=>zm rfl) λs2 n6=>fin _ s2 n6 rfl rfl (ik _) rfl rfl
  .exact .ctl n rfl (λ_=>zn rfl) λs2 n6=>fin _ s2 n6 rfl rfl (ik _) rfl rfl
end
end
end Go.AM
namespace Go.AM.R1
section
open Go.Proofs
variable {X:Cx ah}
def Rn(x:cz) (n:Int):Ev X 216 [Yb x,.e (.one (.c (.rp [.int .i64 n])))] [] (dB (x.1==n)) []:=by
 refine Ev.bQ Tryz.func216 rfl λa=>?_
 refine bm rfl av (AK.bo rfl ?_);simp[ag]
def Ro:dg:=λargs σ=>match args,σ with
 |[.e (.agg [.c (.int .i64 a0),.c (.str a1)]),.e (.one (.c (.rp [.int .i64 n])))],[]=>aa (dB (a0==n),[],[a1=a1])
 |_,_=>af
def t216:dD X 216 Ro:=by
 intro args σ res σ' obs h c;unfold Ro at h;split at h
 .rename_i b a n
  cases h;exact Rn (b,a) n
 .cases h
abbrev Ku(n:Int):D:=.e (.one (.c (.fn (.func 216) [] [.rp [.int .i64 n]])))
def Ad(l:List cz) (n:Int):Int:=match l.findIdx? (λx=>x.1==n) with|some i=>i|none=>-1
def NT{t:List cz}{n:Int}{i:Nat}(hi:i<t.length)(h:(t.getD i (0,[])).1=n)(a:∀ j,j<i->(t.getD j (0,[])).1≠n):Ad t n=i:=by
 have:t.findIdx? (λf=>f.1==n)=aa i:=by
  rw[vm];refine⟨hi,?_,λj b=>?_⟩
  .grind
  grind
 rw[Ad,this]
def G8{t:List cz}{n:Int}(a:∀ j,j<t.length->(t.getD j (0,[])).1≠n):Ad t n=-1:=by
 have:t.findIdx? (λf=>f.1==n)=af:=by
  rw[uI];intro f b;obtain⟨j,c,rfl⟩:=dX b
  grind
 rw[Ad,this]
def NU(t:List cz) (n:Int):Ev X 215 [dx.sl t,Ku n] [] (dI (Ad t n)) []:=by
 refine Ev.bQ Tryz.func215 rfl λe=>?_
 have d:=e.sl 0 rfl;have b:bD X [(216,Ro)]:=.cons t216 .nil;refine aE b [] 100 rfl av ?_;refine AK.jV (λi=>i<=t.length/\∀ j,j<i->(t.getD j (0,[])).1≠n) (λi:Nat=>[(0,dx.sl t),(1,Ku n),(7,dI t.length),(8,dI i)]) (λ_=>[]) (λi=>t.length-i) 0 rfl ?_ rfl av ⟨by omega,by omega⟩ ?_
 .simp[ag.cat,ag,aR.same]
 rintro i ⟨hi,a⟩
 by_cases h:i<t.length
 .by_cases c:(t.getD i (0,[])).1=n
  .refine aE b [(9,ab),(16,ab)] 100 rfl ?_ (AK.hY (bZ.zero rfl ?_))
   .simp only[ag,bt]
    grind
   .simp[ag,NT h c a]
  .refine aE b [(9,ab),(16,ae)] 100 rfl ?_ (AK.gm (i+1) rfl ?_ rfl av ?_ ?_)
   .simp only[ag,bt];exact⟨by simp only[bx];omega,av,dv.2 c,by omega,by omega,ck (by omega)⟩
   .simp[ag.cat,ag,aR.same]
   .grind
   .omega
 .refine aE b [(9,ae)] 100 rfl (by simp[ag];omega) (AK.leave rfl rfl ?_)
  refine aE b [] 100 rfl av (AK.bo rfl ?_);simp[ag,G8 (λj f=>a j (by omega))]
def Rp:dg:=λargs σ=>match args,σ with
 |[d,.e (.one (.c (.fn (.func 216) [] [.rp [.int .i64 n]])))],[]=>match lh 2 d with
  |none=>af
  |some (m,es)=>aa (dI (Ad (dx.list m es) n),[],[dx.fits m es])
 |_,_=>af
def t215:dD X 215 Rp:=by
 intro args σ res σ' obs h a;unfold Rp at h;split at h
 .rename_i d n
  split at h
  .cases h
  rename_i m es hd
  cases h;exact(NU _ n).args (λ_ vs=>cv.imp (λ_=>dx.kn hd a) (cv.imp (λ_ r=>r) (λ_ r=>r)) vs)
 .cases h
def Ee(t:List cz) (n:Int):(Ad t n=-1/\t.find? (λx=>x.1==n)=af)∨∃ i:Nat,i<t.length/\Ad t n=i/\t.find? (λx=>x.1==n)=aa (t.getD i (0,[])):=by
 unfold Ad;cases h:t.findIdx? (λx=>x.1==n) with
 |none =>
  grind
 |some i =>
  rw[vm] at h;obtain⟨hi,b,a⟩:=h;refine .inr ⟨i,hi,rfl,?_⟩;rw[List.find?_eq_some_iff_getElem]
  grind
def Ef(a:dD X 165 pf) (k:Int)(p:bw) (n:Int)(g:cA k=ab):Ev X 186 [dI k,vf p,dI n] [] (Ac (dW k p n)) []:=by
 refine Ev.bQ Tryz.func186 rfl λh=>?_
 have f:bD X [(215,Rp),(110,ow S9 aI (λx k=>Ac (chunk k x)) λ_ k=>[cA k=ab])]:=.cons t215 (.cons (Kt a) .nil)
 have d:dx.list p.2.length (dx.fn p.2)=p.2:=dx.list_fn _;refine aX [] 7 rfl av ?_;refine AK.freeze 5 1 rfl rfl rfl ?_;rcases Ee p.2 n with⟨b,c⟩|⟨i,hi,b,c⟩
 .refine aE f [(14,ab)] 100 rfl ?_ (AK.bo rfl ?_)
  .simp only[ag,d,b];exact⟨rfl,dx.aH _⟩
  .simp[ag.cat,ag,dW,c]
 .refine aE f [(14,ae)] 100 rfl ?_ (AK.bo rfl ?_)
  .simp only[ag,d,b];exact⟨g,by omega,by omega,dY (by omega),dx.aH _⟩
  .have e:dW k p n=chunk k (p.2.getD i (0,[])):=by simp only[dW,c]
   rw[e,d,b];simp only[bt];exact ag.cat.2 ⟨rfl,ag.cat.2 ⟨rfl,av⟩⟩
def Rq(a:dD X 165 pf):dD X 186 (Di aI (B7 dx) aI (λk p n=>Ac (dW k p n)) λk _ _=>[cA k=ab]):=.IN λk p n h=>Ef a k p n h
end
end Go.AM.R1
namespace Go.AM
section
open Go.Conc
def gw (s:St):Prop:=∀ b o v,s.M b o=aa v->s.w.cell? ⟨b,o,af⟩=aa v
def lL (c:Nat->Prop):Go.Loc->Prop
  | .cell a=>c a.block
  | .obj r=>c r
  | _=>False
structure Clear (c:Nat->Prop) (s:St):Prop where
  own:∀ b,c b->¬s.own b
  β:∀ b,c b->∀ L∈s.β,b∉L.bs
  M:∀ b,c b->∀ o,s.M b o=af
  lt:∀ b,c b->b<s.w.heap.size
section
variable {c:Nat->Prop} {s s':St}
def Clear.step {σ σ':List aW} (h:Clear c s) (st:Step σ s σ' s'):Clear c s':=by
  refine⟨λb hb=>by rw[st.own];exact h.own b hb,λb hb L d a=>?_,λb hb o=>by rw[st.jk b (h.lt b hb) (h.β b hb)];exact h.M b hb o,λb hb=>cC (h.lt b hb) st.size⟩
  rcases st.uo L d b a with h1|⟨e,f,h1⟩
  · exact absurd (h.lt b hb) (ky.2 h1)
  · exact h.β b hb e f h1
def Clear.ghost (h:Clear c s) (k:eK s s'):Clear c s':=by
  have hn:∀ b,c b->¬(s'.own b∨∃ L∈s'.β,b∈L.bs):=λb hb e=>by
    rcases k.blk b e with e|⟨L,a,e⟩
    · exact h.own b hb e
    · exact h.β b hb L a e
  exact⟨λb hb e=>hn b hb (.inl e),λb hb L a e=>hn b hb (.inr ⟨L,a,e⟩),λb hb o=>by rw[k.jk b (h.β b hb)];exact h.M b hb o,λb hb=>by rw[k.w];exact h.lt b hb⟩
def Clear.forget (h:Clear c s) (k:mS s s'):Clear c s':=by
  refine⟨λb hb=>by rw[k.own];exact h.own b hb,λb hb=>by rw[k.β];exact h.β b hb,λb hb o=>?_,λb hb=>by rw[k.w];exact h.lt b hb⟩
  cases e:s'.M b o with
  | none=>rfl
  | some v=>rw[<-k.less b o v e,h.M b hb o]
def Clear.at (h:Clear c s) (d:Nat):Clear c { s with w:=s.w.at d }:=⟨h.own,h.β,h.M,h.lt⟩
def gw.at (h:gw s) (d:Nat):gw { s with w:=s.w.at d }:=h
def gw.ghost (k:eK s s'):gw s':=λb o v a=>by rw[k.w];exact k.cell b o v a
def gw.forget (h:gw s) (k:mS s s'):gw s':=λb o v a=>by rw[k.w];exact h b o v (k.less b o v a)
def gw.lt (h:gw s) {b o:Nat} {v:ak} (a:s.M b o=aa v):b<s.w.heap.size:=by
  have:=h b o v a;rcases cx b s.w.heap.size with h1|h1
  · exact h1
  · simp[aZ,uK h1] at this
def b9.at (h:gw s) (d:Nat):b9 s { s with w:=s.w.at d }:=⟨rfl,rfl,rfl,bc _,λ_ _=>rfl,h,rfl,rfl,rfl⟩
def Qb {σ:List aW} {e:Event} (n:aJ σ s) (l:Clear c s) (h:oB s e) {B:Nat} (o:s.w.heap.size<=B):EvL (lL c) B e:=by
  obtain⟨k,wr,q⟩:=e;cases k with
  | cell a =>
    obtain⟨g,j,b⟩:=h;simp only at g j b;subst g;have key:¬c a.block/\a.block<s.w.heap.size:=by
      rcases b with b|⟨⟨L,i,b⟩,_⟩|⟨_,v,b⟩
      · exact b.elim
      · exact⟨λx=>l.β _ x L i b,n.lt L i _ b⟩
      · refine⟨λx=>?_,gw.lt n.mem b⟩
        rw[l.M _ x] at b;cases b
    exact evL_cell a wr key.1 (cC key.2 o)
  | obj r =>
    obtain⟨g,j⟩:=h;simp only at g j;subst g;obtain⟨L,i,b⟩:=j.resolve_left id;refine⟨λx d p=>?_,by simp,by simp,?_⟩
    · simp[aM,MemAct.touch?] at d
      subst d;exact absurd b (l.β _ p L i)
    · simp[aM,MemAct.low,Loc.low]
      exact cC (n.lt L i _ b) o
  | mark m =>
    simp only[oB] at h;rcases h with rfl|⟨f,rfl⟩
    · exact⟨λx d=>by simp[aM,MemAct.touch?] at d,by simp,by simp,by simp[aM,MemAct.low]⟩
    · exact⟨λx d=>by simp[aM,MemAct.touch?] at d,by simp,by simp,by simp[aM,MemAct.low]⟩
  | _=>exact h.elim
end
def ry (t:Trace):Prop:=∀ a,NoRelease a t
def ry.app {t:Trace} (h:ry t) {g:Nat} {fn:aV} {pos:String} {es:Array Event} (b:∀ e∈es,∀ a,e.loc≠.mark (.release a)):ry (t++MemOp.ofEvents g fn pos es) :=
  λa=>(h a).app λop iQ hx=>by
    obtain⟨e,h1,rfl⟩:=Go.Conc.mem_ofEvents iQ;exact b e h1 a (Go.ConcR.loc_of_ofEvent hx)
def Dt {s:St} {e:Event} (d:oB s e) (a:Addr):e.loc≠.mark (.release a):=by
  intro b;obtain⟨loc,wr,g⟩:=e;simp only at b;subst b;rcases d with h|⟨f,h⟩ <;> cases h
def vo {e:Event} (d:e.mute=ab) (a:Addr):e.loc≠.mark (.release a):=by
  intro b;obtain⟨loc,wr,f⟩:=e;simp only at b;subst b;simp[Event.mute] at d
def To (P:aq) (g:au) (s:St) (T:au->St->Prop):Prop :=
  ∀ (c:Nat->Prop) (e:Array au) (sl:Option (Nat×Nat)) (t:Trace) (q:Nat->Nat),gw s->e[0]?=aa g->Leavers P t e q->Past (lL c) s.w.heap.size t->Clear c s->ry t ->
    ∃ (N:Nat) (b:Nat->Prop) (a:Array au) (g':au) (s':St) (f:Option (Nat×Nat)) (d:Trace) (h:Nat->Nat),
      runNT P N (crowd e s.w sl) t=(.next (crowd a s'.w f),d)/\gw s'/\a[0]?=aa g'/\Leavers P d a h/\Past (lL b) s'.w.heap.size d/\Clear b s'/\ry d/\T g' s'
def Cx.beside (P:aq):Cx P:={ main:=ab,rely:=λs s'=>b9 s s'/\∃ d,s'={ s with w:=s.w.at d },xw:=To P,iq:=λh=>h.1,Bc:=True }
instance (P:aq):(Cx.beside P).jH:=⟨av⟩
def runNT_add {P:aq}:∀ (N M:Nat) {m a:Machine} {t b:Trace},runNT P N m t=(.next a,b)->runNT P (N+M) m t=runNT P M a b
  | 0,M,m,a,t,b,h=>by simp[runNT] at h;obtain⟨rfl,rfl⟩:=h;simp
  | N+1,M,m,a,t,b,h=>by
    rw[show N+1+M=(N+M)+1 by omega]
    simp only[runNT] at h ⊢;cases d:stepT P m with
    | mk r ops =>
      rw[d] at h;cases r with
      | next m1=>exact runNT_add N M h
      | ended o w=>simp at h
def eZ.beside {P:aq} {S:au->St->Prop} {g:au} {s:St} (h:eZ (Cx.beside P) S g s):To P g s S:=by
  induction h with
  | stop h=>intro c b sl t q C r o u v hn;exact⟨0,c,b,_,_,sl,t,q,rfl,C,r,o,u,v,hn,h⟩
  | ghost hg _ I =>
    intro c b sl t q C r o u v hn;have:=I c b sl t q (.ghost hg) r o (by rw[hg.w];exact u) (v.ghost hg) hn
    rwa [hg.w] at this
  | forget _ hg _ I =>
    intro c b sl t q C r o u v hn;have:=I c b sl t q (C.forget hg) r o (by rw[hg.w];exact u) (v.forget hg) hn
    rwa [hg.w] at this
  | xw hj _ I =>
    intro c b sl t q C r o u v hn;obtain⟨N,l,f,g',s',m,E,J,h1,h2,h3,h4,h5,h6,h6n,h7⟩:=hj c b sl t q C r o u v hn;obtain⟨M,Sh2,gs2,g2,s2,sl2,t2,q2,k1,U⟩:=I g' s' h7 l f m E J h2 h3 h4 h5 h6 h6n;exact⟨N+M,Sh2,gs2,g2,s2,sl2,t2,q2,by rw[runNT_add N M h1];exact k1,U⟩
  | @step g s ng ns ne hr h1 h2 _ I =>
    intro c b sl t q;have key:∀ (n:Nat) (b:Array au) (d:Nat) (sl:Option (Nat×Nat)) (t:Trace) (q:Nat->Nat),Go.ConcN.sumTo b.size q<=n->gw s->b[0]?=aa g->Leavers P t b q->Past (lL c) s.w.heap.size t->Clear c s->ry t ->
        ∃ (N:Nat) (l:Nat->Prop) (f:Array au) (g':au) (s':St) (m:Option (Nat×Nat)) (E:Trace) (J:Nat->Nat),
          runNT P N (crowd b (s.w.at d) sl) t=(.next (crowd f s'.w m),E)/\gw s'/\f[0]?=aa g'/\Leavers P E f J/\Past (lL l) s'.w.heap.size E/\Clear l s'/\ry E/\S g' s':=by
      intro n
      induction n with
      | zero=>?_
      | succ n ihn=>?_
      all_goals
        intro b d sl t q hn C r o u v H;have haw:∀ g∈b,awake g:=by
          intro x hx;obtain⟨i,hi,rfl⟩:=Array.mem_iff_getElem.1 hx;rcases oN i with rfl|A
          · have:b[0]=g:=by grind
            rw[this];exact awake_of (.inl hr)
          · exact awake_of ((o.old i _ A (fQ hi)).status.elim .inl λx=>.inr (.inr x))
        obtain⟨i,x,d2,m,hi,hg,O⟩:=crowd_pick (P:=P) (w:=s.w.at d) (sl:=sl) haw ⟨0,g,r,hr⟩;rw[show (s.w.at d).at d2=s.w.at d2 from rfl] at O
        rcases oN i with rfl|A
        · obtain rfl:x=g:=by grind
          have D:(Cx.beside P).rely s { s with w:=s.w.at d2 }:=⟨b9.at C d2,d2,rfl⟩;have hgo:=h1 _ D;obtain⟨⟨σ,σ',hh,ld,st⟩,Z⟩:=h2 _ D;have p:=runT_crowd_go (P:=P) (sl:=m) (i:=0) hi (show aK P (0==0) x (s.w.at d2)=_ from hgo)
          have R:((b.map (woken P x (ng { s with w:=s.w.at d2 }) (ns { s with w:=s.w.at d2 }).w)).setIfInBounds 0 (ng { s with w:=s.w.at d2 })).size=b.size:=by simp
          have F:0<b.size:=(ig.1 r).1;have V:Clear c { s with w:=s.w.at d2 }:=v.at d2;obtain⟨N,l,f,g',s',B,E,J,k1,U⟩:=I _ D c ((b.map (woken P x (ng { s with w:=s.w.at d2 }) (ns { s with w:=s.w.at d2 }).w)).setIfInBounds 0 (ng { s with w:=s.w.at d2 })) m
            (t++MemOp.ofEvents 0 x.frame.fn x.frame.place (ne { s with w:=s.w.at d2 })) q ld.mem (by simp[F])
            ⟨λj y hj hy=>by
              have K:0≠j:=by omega
              rw[qo K,Array.getElem?_map] at hy;obtain⟨z,hz,rfl⟩:=py.1 hy;have Q:=o.old j z hj hz;rw[woken_quitsD Q,Deaf_other t (by omega) _ (λop iQ=>by obtain⟨e,_,rfl⟩:=Go.Conc.mem_ofEvents iQ;rfl)]
              exact Q,λj hj=>by
              rw[Deaf_other t (g':=0) (by simp at hj;omega) _ (λop iQ=>by obtain⟨e,_,rfl⟩:=Go.Conc.mem_ofEvents iQ;rfl)]
              exact o.above j (by simpa using hj)⟩
            ((u.mono st.size).own λe T=>Qb hh V (Z e T) st.size) (V.step st) (H.app λe T a=>Dt (Z e T) a)
          exact⟨N+1,l,f,g',s',B,E,J,by simp only[runNT,O,p];exact k1,U⟩
        · have Q:=o.old i x A hi
          have WM:(i==0)=ae:=by simp;omega
          have F:i<b.size:=(ig.1 hi).1;cases L:q i with
          | zero=>rw[L] at Q;rw[Q.1] at hg;cases hg
          | succ k =>
            rw[L] at Q;rcases Q with⟨hf,_⟩|⟨_,g',es,W,Y,hq'⟩
            · rw[hf] at hg;cases hg
            have abf:Go.ConcN.sumTo b.size (Go.ConcN.upd q i k)+(k+1)=Go.ConcN.sumTo b.size q+k:=by
              have:=Go.ConcN.sumTo_upd q k id F;simpa[L] using this
            first
            | (exfalso;omega)
            | (have p:=runT_crowd_go (P:=P) (sl:=m) (i:=i) hi (by rw[WM];exact Y (s.w.at d2))
               have R:((b.map (woken P x g' (s.w.at d2))).setIfInBounds i g').size=b.size:=by simp
               obtain⟨N,l,f,g2,s',B,E,J,k1,U⟩:=ihn ((b.map (woken P x g' (s.w.at d2))).setIfInBounds i g') d2 m (t++MemOp.ofEvents i x.frame.fn x.frame.place es) (Go.ConcN.upd q i k) (by rw[R];omega) C
                (by
                  have K:i≠0:=by omega
                  rw[qo K,Array.getElem?_map,r];simp[woken_run hr])
                ⟨λj y hj hy=>by
                  by_cases G:i=j
                  · subst G
                    rw[sI (by simpa using F)] at hy
                    obtain rfl:=ra hy;rw[Go.ConcN.upd_same,Deaf_own];exact hq'
                  · rw[qo G,Array.getElem?_map] at hy
                    obtain⟨z,hz,rfl⟩:=py.1 hy;have X:=o.old j z hj hz;rw[woken_quitsD X,Go.ConcN.upd_ne q k (mi G),Deaf_other t G _ (λop iQ=>by obtain⟨e,_,rfl⟩:=Go.Conc.mem_ofEvents iQ;rfl)]
                    exact X,λj hj=>by
                  rw[Deaf_other t (g':=i) (by simp at hj;omega) _ (λop iQ=>by obtain⟨e,_,rfl⟩:=Go.Conc.mem_ofEvents iQ;rfl)]
                  exact o.above j (by simpa using hj)⟩
                (u.mute (by omega) W) v (H.app λe T a=>vo (W e T) a)
               exact⟨N+1,l,f,g2,s',B,E,J,by simp only[runNT,O,p];exact k1,U⟩)
    intro C r o u v H;have:=key _ b s.w.drawn sl t q (bc _) C r o u v H
    rwa [show s.w.at s.w.drawn=s.w from rfl] at this
inductive Rk where
 |leaf
 |node (f:St->Rk)
def Rk.lt:Rk->Rk->Prop
 |_,.leaf=>False
 |x,.node f=>∃ s,x=f s∨Rk.lt x (f s)
def Rk.acc:∀ r:Rk,Acc Rk.lt r
 |.leaf=>⟨_,λ_ h=>h.elim⟩
 |.node f=>⟨_,λ_ ⟨s,e⟩=>e.elim (λe=>e▸Rk.acc (f s)) λh=>(Rk.acc (f s)).inv h⟩
def Rk.nat:Nat->Rk
 |0=>.leaf
 |n+1=>.node λ_=>Rk.nat n
def Rk.DQ(n:Nat)(s:St):Rk.lt (Rk.nat n) (Rk.nat (n+1)):=⟨s,.inl rfl⟩
def Vec(j:Nat)(a D:Nat->Rk):Prop:=∃ i,i<j/\Rk.lt (a i) (D i)/\∀ k,k≠i->a k=D k
def JF:∀ j,WellFounded (Vec j)
 |0=>⟨λ_=>⟨_,λ_ ⟨i,h,_⟩=>absurd h (jh i)⟩⟩
 |j+1=>by
  have m:=JF j;have key:∀ a:Rk,∀ D:Nat->Rk,D j=a->Acc (Vec (j+1)) D:=by
   intro a
   induction Rk.acc a with
   |intro a _ k =>
    intro D
    induction m.apply D with
    |intro D _ d =>
     intro g;refine⟨_,λl h=>?_⟩
     obtain⟨i,hi,b,f⟩:=h;rcases cx i j with e|e
     .exact d l ⟨i,e,b,f⟩ (by rw[f j (by omega),g])
     grind
  exact⟨λD=>key _ D rfl⟩
section
variable {P:aq}
def kl(X:Cx P)(E:St->St->Array Event->Prop)(S:au->St->Prop):Rk->au->St->Prop
 |.leaf,g,s=>S g s
 |.node f,g,s=>S g s∨(∃ s',(eK s s'∨(X.Bc/\mS s s'))/\kl X E S (f s) g s') ∨
   (g.status=.running/\∀ a,X.rely s a->∃ g' s' es,aK P X.main g a.w=.go g' s'.w es/\(qu a s' es∨E a s' es)/\kl X E S (f a) g' s')
variable {X:Cx P}{E:St->St->Array Event->Prop}{S c:au->St->Prop}
def eb(X:Cx P)(E:St->St->Array Event->Prop)(S:au->St->Prop)(g:au)(s:St):Prop:=∃ r,kl X E S r g s
def eb.ghost{g:au}{s s':St}(h:eK s s')(k:eb X E S g s'):eb X E S g s:=by
 obtain⟨r,k⟩:=k;exact⟨.node λ_=>r,.inr (.inl ⟨s',.inl h,k⟩)⟩
def eb.forget{g:au}{s s':St}(hl:X.Bc)(h:mS s s')(k:eb X E S g s'):eb X E S g s:=by
 obtain⟨r,k⟩:=k;exact⟨.node λ_=>r,.inr (.inl ⟨s',.inr ⟨hl,h⟩,k⟩)⟩
def eb.step{g:au}{s:St}(e:g.status=.running)(h:∀ a,X.rely s a->∃ g' s' es,aK P X.main g a.w=.go g' s'.w es/\(qu a s' es∨E a s' es)/\eb X E S g' s'):eb X E S g s:=by
 classical
 have hh:∀ a,∃ r:Rk,X.rely s a->∃ g' s' es,aK P X.main g a.w=.go g' s'.w es/\(qu a s' es∨E a s' es)/\kl X E S r g' s':=by
  intro a
  by_cases b:X.rely s a
  .obtain⟨g',s',es,h1,h2,r,d⟩:=h a b;exact⟨r,λ_=>⟨g',s',es,h1,h2,d⟩⟩
  .exact⟨.leaf,λh=>absurd h b⟩
 exact⟨.node λa=>Classical.choose (hh a),.inr (.inr ⟨e,λa b=>Classical.choose_spec (hh a) b⟩)⟩
def eb.bind{g:au}{s:St}(h:eb X E S g s)(k:∀ g s,S g s->eb X E c g s):eb X E c g s:=by
 obtain⟨r,h⟩:=h
 induction r generalizing g s with
 |leaf=>exact k g s h
 |node f a =>
  rcases h with h|⟨s',h1,h2⟩|⟨b,h⟩
  .exact k g s h
  .rcases h1 with h1|⟨hl,h1⟩
   .exact .ghost h1 (a _ h2)
   .exact .forget hl h1 (a _ h2)
  .exact .step b λe d=>by
    grind
def eZ.toE{g:au}{s:St}(hj:∀ g s T,¬X.xw g s T)(h:eZ X S g s):eb X E S g s:=by
 induction h with
 |stop h=>exact⟨.leaf,h⟩
 |step ng ns ne hr h1 h2 _ a=>exact .step hr λd b=>⟨_,_,_,h1 d b,.inl (h2 d b),a d b⟩
 |ghost hg _ a=>exact .ghost hg a
 |forget hl hg _ a=>exact .forget hl hg a
 |xw hjj _ _=>exact absurd hjj (hj _ _ _)
def kl.norm(I:St->Prop)(m:∀ s s',eK s s'->I s->I s')(l:X.Bc->∀ s s',mS s s'->I s->I s'):∀ {r:Rk}{g:au}{s:St},kl X E S r g s->I s ->
  (∃ s',I s'/\S g s')∨(g.status=.running/\∃ s',I s'/\∀ a,X.rely s' a->∃ g' s2 es r',aK P X.main g a.w=.go g' s2.w es/\(qu a s2 es∨E a s2 es)/\kl X E S r' g' s2/\Rk.lt r' r)
 |.leaf,_,s,h,hi=>.inl ⟨s,hi,h⟩
 |.node f,g,s,h,hi=>by
  rcases h with h|⟨s',h1,h2⟩|⟨p,h⟩
  .exact .inl ⟨s,hi,h⟩
  .have d:I s':=h1.elim (λx=>m s s' x hi) λx=>l x.1 s s' x.2 hi
   rcases kl.norm I m l h2 d with k|⟨k,s2,n,q⟩
   .exact .inl k
   .refine .inr ⟨k,s2,n,λa i=>?_⟩
    obtain⟨g',e,es,r',k1,j,b,o⟩:=q a i;exact⟨g',e,es,r',k1,j,b,s,.inr o⟩
  .refine .inr ⟨p,s,hi,λa i=>?_⟩
   obtain⟨g',e,es,k1,j,b⟩:=h a i;exact⟨g',e,es,f a,k1,j,b,a,.inl rfl⟩
def eb.goes{R:az->az->Prop}{D:az->az->Array Event->Prop}{Stop:au->az->Prop}(I:St->Prop)(j:∀ s a,I s->X.rely s a->I a)(e:∀ s a,I s->X.rely s a->R s.w a.w)
  (i:∀ s es,I s->∀ w',D s.w w' es->w'=s.w/\(qu s s es∨E s s es)) (m:∀ s,I s->X.rely s s) (k:∀ g s,I s->Stop g s.w->eb X E S g s) :
  ∀ (n:Nat) (g:au) (s:St),I s->Goes P X.main R D Stop n g s.w->eb X E S g s
 |0,g,s,hi,h=>k g s hi (h s.w (e s s hi (m s hi)))
 |n+1,g,s,hi,h=>by
  rcases h with h|⟨o,h⟩
  .grind
  .refine .step o λa l=>?_
   have h1:=h a.w (e s a hi l);have d:=j s a hi l;cases b:aK P X.main g a.w with
   |go g' w' es =>
    rw[b,goes_go] at h1;obtain⟨q,p⟩:=h1;obtain⟨rfl,f⟩:=i a es d w' q;exact⟨g',a,es,rfl,f,eb.goes I j e i m k n g' a d p⟩
   |_=>rw[b] at h1;exact h1.elim
end
def b9.ghost{s s':St}{w:az}(h:b9 s { s with w:=w })(k:eK s s'):b9 s' { s' with w:=w }:=by
 refine⟨rfl,rfl,rfl,by rw[k.w];exact h.size,λb hb=>by rw[k.w];exact h.eB b (k.blk b hb),λb o v d=>?_,by rw[k.w];exact h.os,by rw[k.w];exact h.tape,by rw[k.w];exact h.output⟩
 have f:=k.cell b o v d
 by_cases hb:∃ L∈s.β,b∈L.bs
 .have:=h.eB b (.inr hb);simp only[aZ] at f ⊢
  grind
 .have:s.M b o=aa v:=by
   rw[<-k.jk b (λL e a=>hb ⟨L,e,a⟩)];exact d
  exact h.mem b o v this
def b9.forget{s s':St}{w:az}(h:b9 s { s with w:=w })(k:mS s s'):b9 s' { s' with w:=w } :=
 ⟨rfl,rfl,rfl,by rw[k.w];exact h.size,λb hb=>by rw[k.w];exact h.eB b (by rw[<-k.own,<-k.β];exact hb),λb o v a=>h.mem b o v (k.less b o v a),by rw[k.w];exact h.os,by rw[k.w];exact h.tape,by rw[k.w];exact h.output⟩
def b9.vU{s:St}(h:gw s):b9 s s:=⟨rfl,rfl,rfl,bc _,λ_ _=>rfl,h,rfl,rfl,rfl⟩
def b9.trans'{s:St}{w:az}(h:b9 s { s with w:=w }):b9 { s with w:=w } { s with w:=w }:=b9.vU h.mem
def b9.trans{s a s2:St}(h:b9 s a)(k:b9 a s2):b9 s s2 :=
 ⟨k.β.trans h.β,k.M.trans h.M,k.own.trans h.own,ez h.size k.size,λb hb=>by rw[k.eB b (by rw[h.own,h.β];exact hb),h.eB b hb],λb o v d=>k.mem b o v (by rw[h.M];exact d),k.os.trans h.os,k.tape.trans h.tape,k.output.trans h.output⟩
end
section
open Go.Conc
open Go.ConcN (fork_knows RelBy)
open Go.ConcR (stA smA)
def lQ:Go.Loc->Option Nat
 |.cell a=>aa a.block
 |.obj r=>aa r
 |_=>af
def BA{l:Go.Loc}(h:l.isMemory=ab):∃ b,lQ l=aa b:=by
 cases l <;> simp[Go.Loc.isMemory] at h <;> exact⟨_,rfl⟩
def GM{x:MemAct}{a:Touch}{B b:Nat}(h:x.touch?=aa a)(g:x.low B)(c:lQ a.loc=aa b):b<B:=by
 cases x with
 |access e =>
  simp[MemAct.touch?] at h;subst h;simp only at c;obtain⟨loc,wr,i⟩:=e;cases loc <;> simp[lQ] at c <;> subst c <;> exact g
 |mark m =>
  cases m <;> simp[MemAct.touch?] at h <;> subst h <;> simp[lQ] at c <;> subst c <;> exact g
 |_=>simp[MemAct.touch?] at h
structure Lay where
 Sh:Nat->Prop
 T0:Nat
 Wg:Nat
 C:Nat
 base:Nat
 kc:Nat
def rW(Y:Lay)(d:Nat->Nat)(a:Touch):Prop :=
 (∃ ad,a.loc=.cell ad/\ad.block=Y.Wg/\a.kind≠.plain)∨(∃ b,lQ a.loc=aa b/\d b=0/\b≠Y.Wg/\b≠Y.C/\¬Y.Sh b/\a.kind=.plain)
def qj(Y:Lay)(d:Nat->Nat)(f:Mem)(x:Nat)(a:Touch):Prop :=
 (∃ ad,a.loc=.cell ad/\ad.block=Y.Wg/\a.kind=.atomic) ∨
 (a.kind=.plain/\((∃ b,lQ a.loc=aa b/\d b=Y.base+x)∨(∃ o,a.loc=.cell ⟨Y.C,o,af⟩/\Y.kc*x<=o/\o<Y.kc*x+Y.kc)∨(a.write=ae/\∃ b o v,a.loc=.cell ⟨b,o,af⟩/\f b o=aa v)))
structure TL (Y:Lay)(d:Nat->Nat)(f:Nat->Mem)(t:Trace)(j B:Nat):Prop where
 base:1<=Y.base
 IJ:d Y.Wg=0
 hC:d Y.C=0
 ne:Y.C≠Y.Wg
 Pq:¬Y.Sh Y.Wg
 QD:¬Y.Sh Y.C
 IK:∀ b,Y.Sh b->d b=0
 ms:∀ x,x<j->∀ b o v,f x b o=aa v->d b=0/\b≠Y.C/\b≠Y.Wg/\¬Y.Sh b
 T0:Y.T0<=t.size
 nr:∀ said,¬Race said t
 seen:∀ op∈t,op.act.low B
 old:∀ i a,i<Y.T0->touchAt t i=aa a->a.loc.isMemory=ab->Knows t 0 i∨(lL Y.Sh a.loc/\a.kind=.atomic)
 QE:∀ x,x<j->∀ i a,i<Y.T0->touchAt t i=aa a->a.loc.isMemory=ab->Knows t (Y.base+x) i∨(lL Y.Sh a.loc/\a.kind=.atomic)
 GN:∀ i a b,i<Y.T0->touchAt t i=aa a->lQ a.loc=aa b->d b=0
 new:∀ i a,Y.T0<=i->touchAt t i=aa a->a.loc.isMemory=ab->(t.g? i=aa 0/\rW Y d a)∨(∃ x,x<j/\t.g? i=aa (Y.base+x)/\qj Y d (f x) x a)
 mw:∀ x,x<j->∀ i a,Y.T0<=i->touchAt t i=aa a->t.g? i=aa 0->a.write=ab->∀ b o v,a.loc=.cell ⟨b,o,af⟩->f x b o=aa v->Knows t (Y.base+x) i
 over:∀ i g,i<Y.T0->t.g? i=aa g->g≠0->t.counts i->∃ k,t.g? k=aa 0/\HappensBefore t i k
section
variable {Y:Lay}{d hm':Nat->Nat}{f:Nat->Mem}{t u:Trace}{j B B':Nat}
def vb{i:Nat}{a:Touch}{g:Nat}(h:touchAt t i=aa a)(c:t.g? i=aa g):Knows t g i:=by
 obtain⟨x,b,_⟩:=touch_of h;have:x.g=g:=by simpa[Trace.g?,b] using c
 rw[<-this];exact knows_own b
def TL.low(h:TL Y d f t j B){i:Nat}{a:Touch}{b:Nat}(g:touchAt t i=aa a)(hb:lQ a.loc=aa b):b<B:=by
 obtain⟨x,e,c⟩:=touch_of g;exact GM c (h.seen x (uL e)) hb
def TL.sT(h:TL Y d f t j B)(hh:∀ b,b<B->hm' b=d b)(s:B<=B')(q:Y.Wg<B)(hC:Y.C<B)(r:∀ b,Y.Sh b->b<B)(p:∀ x,x<j->∀ b o v,f x b o=aa v->b<B):TL Y hm' f t j B':=by
 have e:∀ i a,touchAt t i=aa a->rW Y d a->rW Y hm' a:=λi a c h1=>by
  rcases h1 with h1|⟨b,h1,h2,n⟩
  .exact .inl h1
  .exact .inr ⟨b,h1,by rw[hh b (h.low c h1)];exact h2,n⟩
 have g:∀ x i a,touchAt t i=aa a->qj Y d (f x) x a->qj Y hm' (f x) x a:=λx i a c h1=>by
  rcases h1 with h1|⟨m,⟨b,h1,h2⟩|h1⟩
  .exact .inl h1
  .exact .inr ⟨m,.inl ⟨b,h1,by rw[hh b (h.low c h1)];exact h2⟩⟩
  .exact .inr ⟨m,.inr h1⟩
 refine⟨h.base,by rw[hh _ q];exact h.IJ,by rw[hh _ hC];exact h.hC,h.ne,h.Pq,h.QD,λb hb=>by rw[hh b (r b hb)];exact h.IK b hb,λx k b o v l=>by rw[hh b (p x k b o v l)];exact h.ms x k b o v l,
  h.T0,h.nr,λop iQ=>MemAct.low_mono s (h.seen op iQ),h.old,h.QE,λi a b hi c hb=>by rw[hh b (h.low c hb)];exact h.GN i a b hi c hb,λi a hi c d=>?_,h.mw,h.over⟩
 rcases h.new i a hi c d with⟨h1,h2⟩|⟨x,h1,h2,n⟩
 .exact .inl ⟨h1,e i a c h2⟩
 grind
def TL.Nq(h:TL Y d f t j B):Y.T0<=(t++u).size:=ez h.T0 (by simp)
def kB{i:Nat}(h:i<t.size):(t++u).g? i=t.g? i:=by simp[Trace.g?,getElem?_append_old h]
def TL.rX(h:TL Y d f t j B)(u:Trace):∀ i g,i<Y.T0->(t++u).g? i=aa g->g≠0->(t++u).counts i->∃ k,(t++u).g? k=aa 0/\HappensBefore (t++u) i k:=by
 intro i g hi hg Dg hc;have a:=cC hi h.T0;rw[kB a] at hg;obtain⟨k,c,hb⟩:=h.over i g hi hg Dg ((counts_old a).1 hc);have b:k<t.size:=by
  unfold Trace.g? at c
  grind
 exact⟨k,by rw[kB b];exact c,hb_app u hb⟩
def BC{a:Nat->Prop}{l:Go.Loc}{b:Nat}(h:lL a l)(c:lQ l=aa b):a b:=by
 cases l <;> simp[lQ] at c <;> subst c <;> exact h
def TL.apart(h:TL Y d f t j B){x:Nat}(r:x<j){a b:Touch}{said:Bool}(m:rW Y d b)(n:qj Y d (f x) x a)(hl:a.loc=b.loc)(D:a.kind=.plain∨b.kind=.plain∨(said=ab/\a.kind=.said/\b.kind=.said))
  (F:b.kind=.plain->b.write=ab->∀ l o v,b.loc=.cell ⟨l,o,af⟩->f x l o≠aa v) (s:a.write=ab∨b.write=ab):False:=by
 have w:=h.base;rcases n with⟨ad,e1,e2,e3⟩|⟨y,⟨c,e1,e2⟩|⟨o,e1,_⟩|⟨e1,l,o,v,e2,e3⟩⟩
 .rcases m with⟨k,e,g,i⟩|⟨c,e,g,i,_⟩
  .grind
  .rw[<-hl,e1] at e;simp only[lQ,de] at e;exact i (e.symm.trans e2)
 .rcases m with⟨k,e,g,i⟩|⟨q,e,g,i,_⟩
  .rw[hl,e] at e1;simp only[lQ,de] at e1;rw[<-e1,g,h.IJ] at e2;omega
  grind
 .rcases m with⟨k,e,g,i⟩|⟨q,e,g,i,p,_⟩
  .rw[<-hl,e1] at e;cases e;exact h.ne g
  .rw[<-hl,e1] at e;simp only[lQ,de] at e;exact p e.symm
 .obtain⟨C,G,z,A⟩:=h.ms x r l o v e3;rcases m with⟨k,e,g,i⟩|⟨q,e,g,i,p,_,E⟩
  .grind
  grind
def TL.app0(h:TL Y d f t j B)(F:∀ op∈u,op.g=0)(hl:∀ op∈u,op.act.low B)(E:∀ op∈u,∀ a,op.act.touch?=aa a->a.loc.isMemory=ab->rW Y d a)
  (M:∀ op∈u,∀ a,op.act.touch?=aa a->a.kind=.plain->a.write=ab->∀ x,x<j->∀ b o v,a.loc=.cell ⟨b,o,af⟩->f x b o≠aa v):TL Y d f (t++u) j B:=by
 have k:∀ {i:Nat} {a:Touch},touchAt (t++u) i=aa a->(i<t.size/\touchAt t i=aa a)∨(t.size<=i/\(t++u).g? i=aa 0/\∃ op∈u,op.act.touch?=aa a):=by
  intro i a e;obtain⟨x,p,s⟩:=touch_of e;rcases getElem?_append_cases p with⟨hi,C⟩|⟨hi,w⟩
  .exact .inl ⟨hi,by rw[touchAt_of C];exact s⟩
  .exact .inr ⟨hi,by simp[Trace.g?,p,F x w],x,w,s⟩
 refine⟨h.base,h.IJ,h.hC,h.ne,h.Pq,h.QD,h.IK,h.ms,h.Nq,λsaid=>?_,seen_app h.seen hl,λi a hi e d=>?_,λx p i a hi e d=>?_,λi a b hi e hb=>?_,λi a hi e d=>?_,λx p i a hi e y A b o v n G=>?_,h.rX u⟩
 .refine noRace_append (h.nr said) F λi a e op iQ b hb hc=>?_
  have z:b.loc.isMemory=ab:=by rw[<-hc.1];exact hc.2.1
  have H:=E op iQ b hb z;rcases cx i Y.T0 with hi|hi
  .rcases h.old i a hi e hc.2.1 with K|⟨N,J⟩
   .exact K
   .exfalso;obtain⟨c,l⟩:=BA hc.2.1;have r:=BC N l;rcases H with⟨ad,e1,e2,e3⟩|⟨I,e1,e2,e3,P,O,L⟩
    .rw[hc.1,e1] at l;simp only[lQ,de] at l;rw[<-l,e2] at r;exact h.Pq r
    .rw[hc.1,e1] at l
     grind
  .rcases h.new i a hi e hc.2.1 with⟨y,_⟩|⟨x,p,y,D⟩
   .exact vb e y
   .exact(h.apart p H D hc.1 hc.2.2.2 (λh1 h2=>M op iQ b hb h1 h2 x p) hc.2.2.1).elim
 .have m:touchAt t i=aa a:=by rw[<-touchAt_old (u:=u) (cC hi h.T0)];exact e
  exact(h.old i a hi m d).imp (·.app u) id
 .have m:touchAt t i=aa a:=by rw[<-touchAt_old (u:=u) (cC hi h.T0)];exact e
  exact(h.QE x p i a hi m d).imp (·.app u) id
 .have m:touchAt t i=aa a:=by rw[<-touchAt_old (u:=u) (cC hi h.T0)];exact e
  exact h.GN i a b hi m hb
 .rcases k e with⟨h1,h2⟩|⟨_,h2,op,iQ,q⟩
  .rw[kB h1];exact h.new i a hi h2 d
  grind
 .rcases k e with⟨h1,h2⟩|⟨_,h2,op,iQ,q⟩
  .rw[kB h1] at y;exact(h.mw x p i a hi h2 y A b o v n G).app u
  .exfalso;rcases E op iQ a q (by rw[n];rfl) with⟨ad,e1,e2,e3⟩|⟨I,_,_,_,_,_,L⟩
   .rw[n] at e1;cases e1;exact(h.ms x p b o v G).2.2.1 e2
   grind
def TL.appW(h:TL Y d f t j B){x:Nat}(D:x<j)(Z:∀ op∈u,op.g=Y.base+x)(hl:∀ op∈u,op.act.low B)(ht:∀ op∈u,∀ a,op.act.touch?=aa a->a.loc.isMemory=ab->qj Y d (f x) x a):TL Y d f (t++u) j B:=by
 have Z0:=h.base;have r:∀ {i:Nat} {a:Touch},touchAt (t++u) i=aa a->(i<t.size/\touchAt t i=aa a)∨(t.size<=i/\(t++u).g? i=aa (Y.base+x)/\∃ op∈u,op.act.touch?=aa a):=by
  intro i a q;obtain⟨y,A,M⟩:=touch_of q;rcases getElem?_append_cases A with⟨hi,V⟩|⟨hi,I⟩
  .exact .inl ⟨hi,by rw[touchAt_of V];exact M⟩
  .exact .inr ⟨hi,by simp[Trace.g?,A,Z y I],y,I,M⟩
 refine⟨h.base,h.IJ,h.hC,h.ne,h.Pq,h.QD,h.IK,h.ms,h.Nq,λsaid=>?_,seen_app h.seen hl,λi a hi q d=>?_,λy A i a hi q d=>?_,λi a b hi q hb=>?_,λi a hi q d=>?_,λy A i a hi q F C b o v L T=>?_,h.rX u⟩
 .refine noRace_append (h.nr said) Z λi a q op iQ b hb hc=>?_
  have N:b.loc.isMemory=ab:=by rw[<-hc.1];exact hc.2.1
  have G:=ht op iQ b hb N;obtain⟨c,l⟩:=BA hc.2.1;rcases cx i Y.T0 with hi|hi
  .rcases h.QE x D i a hi q hc.2.1 with J|⟨hs,hka⟩
   .exact J
   .exfalso;have n:=BC hs l;rw[hc.1] at l;rcases G with⟨ad,e1,e2,e3⟩|⟨e0,⟨c',e1,e2⟩|⟨o,e1,_⟩|⟨e1,p,o,v,e2,e3⟩⟩
    .rw[e1] at l;simp only[lQ,de] at l;rw[<-l,e2] at n;exact h.Pq n
    .rw[e1] at l;simp only[de] at l;rw[<-l] at n;rw[h.IK _ n] at e2;omega
    .rw[e1] at l;simp only[lQ,de] at l;rw[<-l] at n;exact h.QD n
    .rw[e2] at l;simp only[lQ,de] at l;rw[<-l] at n;exact(h.ms x D p o v e3).2.2.2 n
  .rcases h.new i a hi q hc.2.1 with⟨F,O⟩|⟨y,A,F,U⟩
   ·
    by_cases K:a.write=ab/\∃ p o v,a.loc=.cell ⟨p,o,af⟩/\f x p o=aa v
    .obtain⟨h1,p,o,v,h2,W⟩:=K;exact h.mw x D i a hi q F h1 p o v h2 W
    .exfalso;refine h.apart (said:=said) D O G hc.1.symm ?_ (λ_ X p o v k T=>K ⟨X,p,o,v,k,T⟩) hc.2.2.1.symm
     rcases hc.2.2.2 with J|J|⟨h1,h2,W⟩
     .exact .inr (.inl J)
     .exact .inl J
     .exact .inr (.inr ⟨h1,W,h2⟩)
   .by_cases H:y=x
    .subst H;exact vb q F
    .exfalso;obtain⟨k,_,C,z⟩:=hc;rcases U with⟨ad,e1,e2,e3⟩|⟨e0,⟨c1,e1,e2⟩|⟨o,e1,e1l,e1u⟩|⟨e1,p,o,v,e2,e3⟩⟩
     .rcases G with⟨E,e,m,s⟩|⟨S,⟨c2,e,m⟩|⟨o,e,_⟩|⟨e,p,o,v,m,s⟩⟩
      .rw[e3,s] at z;simp at z
      .rw[<-k,e1] at e;simp only[lQ,de] at e;rw[<-e,e2,h.IJ] at m;omega
      .rw[<-k,e1] at e;cases e;exact h.ne e2
      .rw[<-k,e1] at m;cases m;exact(h.ms x D p o v s).2.2.1 e2
     .rcases G with⟨E,e,m,s⟩|⟨S,⟨c2,e,m⟩|⟨o,e,_⟩|⟨e,p,o,v,m,s⟩⟩
      .rw[k,e] at e1;simp only[lQ,de] at e1;rw[<-e1,m,h.IJ] at e2;omega
      .grind
      .rw[k,e] at e1;simp only[lQ,de] at e1;rw[<-e1,h.hC] at e2;omega
      .rw[k,m] at e1;simp only[lQ,de] at e1;rw[<-e1,(h.ms x D p o v s).1] at e2;omega
     .rcases G with⟨E,e,m,s⟩|⟨S,⟨c2,e,m⟩|⟨P,e,R,Q⟩|⟨e,p,P,v,m,s⟩⟩
      .rw[<-k,e1] at e;cases e;exact h.ne m
      .rw[<-k,e1] at e;simp only[lQ,de] at e;rw[<-e,h.hC] at m;omega
      .rw[<-k,e1] at e;cases e;rcases Nat.lt_or_gt_of_ne H with h1|h1
       .have:=uO Y.kc (show y+1<=x from h1)
        grind
       .have:=uO Y.kc (show x+1<=y from h1)
        grind
      .rw[<-k,e1] at m;cases m;exact(h.ms x D _ _ v s).2.1 rfl
     .rcases G with⟨E,e,m,s⟩|⟨S,⟨c2,e,m⟩|⟨P,e,R,Q⟩|⟨e,b2,P,v',m,s⟩⟩
      .rw[<-k,e2] at e;cases e;exact(h.ms y A p o v e3).2.2.1 m
      .rw[<-k,e2] at e;simp only[lQ,de] at e;rw[<-e,(h.ms y A p o v e3).1] at m;omega
      .rw[<-k,e2] at e;cases e;exact(h.ms y A _ _ v e3).2.1 rfl
      .rw[e1,e] at C;simp at C
 .have w:touchAt t i=aa a:=by rw[<-touchAt_old (u:=u) (cC hi h.T0)];exact q
  exact(h.old i a hi w d).imp (·.app u) id
 .have w:touchAt t i=aa a:=by rw[<-touchAt_old (u:=u) (cC hi h.T0)];exact q
  exact(h.QE y A i a hi w d).imp (·.app u) id
 .have w:touchAt t i=aa a:=by rw[<-touchAt_old (u:=u) (cC hi h.T0)];exact q
  exact h.GN i a b hi w hb
 .rcases r q with⟨h1,h2⟩|⟨_,h2,op,iQ,ab9⟩
  .rw[kB h1];exact h.new i a hi h2 d
  grind
 .rcases r q with⟨h1,h2⟩|⟨_,h2,_⟩
  .rw[kB h1] at F;exact(h.mw y A i a hi h2 F C b o v L T).app u
  grind
def TL.mute(h:TL Y d f t j B){g:Nat}(r:∀ op∈u,op.g=g)(hl:∀ op∈u,op.act.low B)(hn:∀ op∈u,op.act.touch?=af):TL Y d f (t++u) j B:=by
 have old:∀ {i:Nat} {a:Touch},touchAt (t++u) i=aa a->i<t.size/\touchAt t i=aa a:=by
  intro i a c;obtain⟨y,w,e⟩:=touch_of c;rcases getElem?_append_cases w with⟨hi,p⟩|⟨hi,l⟩
  .exact⟨hi,by rw[touchAt_of p];exact e⟩
  .rw[hn y l] at e;cases e
 refine⟨h.base,h.IJ,h.hC,h.ne,h.Pq,h.QD,h.IK,h.ms,h.Nq,λsaid=>noRace_append (h.nr said) r λi a _ op iQ b hb _=>(by rw[hn op iQ] at hb;cases hb),seen_app h.seen hl,λi a hi c d=>(h.old i a hi (old c).2 d).imp (·.app u) id,
  λx m i a hi c d=>(h.QE x m i a hi (old c).2 d).imp (·.app u) id,λi a b hi c hb=>h.GN i a b hi (old c).2 hb,λi a hi c d=>?_,λx m i a hi c q n b o v k s=>?_,h.rX u⟩
 .rw[kB (old c).1];exact h.new i a hi (old c).2 d
 .rw[kB (old c).1] at q;exact(h.mw x m i a hi (old c).2 q n b o v k s).app u
def TL.fork(h:TL Y d f t j B){x y:MemOp}(l:x.g=0/\x.act=.go (Y.base+j))(m:y.g=Y.base+j/\y.act=.start)(H:Deaf t 0=0)(G:Deaf t (Y.base+j)=0)
  (I:∀ b o v,f j b o=aa v->d b=0/\b≠Y.C/\b≠Y.Wg/\¬Y.Sh b):TL Y d f (t++#[x,y]) (j+1) B:=by
 have D:∀ op∈#[x,y],op.act.touch?=af:=by
  intro op iQ;simp only[List.mem_toArray,eY,qY,or_false] at iQ;rcases iQ with rfl|rfl
  .rw[l.2];rfl
  .rw[m.2];rfl
 have p:∀ op∈#[x,y],op.act.low B:=by
  intro op iQ;simp only[List.mem_toArray,eY,qY,or_false] at iQ;rcases iQ with rfl|rfl
  .rw[l.2];trivial
  .rw[m.2];trivial
 have old:∀ {i:Nat} {a:Touch},touchAt (t++#[x,y]) i=aa a->i<t.size/\touchAt t i=aa a:=by
  intro i a c;obtain⟨z,q,k⟩:=touch_of c;rcases getElem?_append_cases q with⟨hi,F⟩|⟨_,r⟩
  .exact⟨hi,by rw[touchAt_of F];exact k⟩
  .rw[D z r] at k;cases k
 have E:∀ z,z<j+1->∀ b o v,f z b o=aa v->d b=0/\b≠Y.C/\b≠Y.Wg/\¬Y.Sh b:=λz q b o v s=>by
  rcases cx z j with h1|h1
  .exact h.ms z h1 b o v s
  grind
 refine⟨h.base,h.IJ,h.hC,h.ne,h.Pq,h.QD,h.IK,E,h.Nq,λsaid=>?_,seen_app h.seen p,λi a hi c d=>(h.old i a hi (old c).2 d).imp (·.app _) id,
  λz q i a hi c d=>?_,λi a b hi c hb=>h.GN i a b hi (old c).2 hb,λi a hi c d=>?_,λz q i a hi c w A b o v n s=>?_,h.rX _⟩
 .have e:t++#[x,y]=(t++#[x])++#[y]:=by apply hO;simp
  rw[e];refine noRace_append (g:=Y.base+j) (noRace_append (g:=0) (h.nr said) (λop iQ=>by simp at iQ;rw[iQ];exact l.1) (λi a _ op iQ b hb _=>?_)) (λop iQ=>by simp at iQ;rw[iQ];exact m.1) (λi a _ op iQ b hb _=>?_)
  .grind
  grind
 .rcases cx z j with h1|h1
  .exact(h.QE z h1 i a hi (old c).2 d).imp (·.app _) id
  .obtain rfl:z=j:=by omega
   exact(h.old i a hi (old c).2 d).imp (fork_knows l m H G) id
 .rw[kB (old c).1];rcases h.new i a hi (old c).2 d with h1|⟨z,h1,h2⟩
  .exact .inl h1
  .exact .inr ⟨z,by omega,h2⟩
 .rw[kB (old c).1] at w;rcases cx z j with h1|h1
  .exact(h.mw z h1 i a hi (old c).2 w A b o v n s).app _
  .obtain rfl:z=j:=by omega
   exact fork_knows l m H G (vb (old c).2 w)
def TL.Xv(h:TL Y d f t j B)(I:Deaf t 0=0)(hn:NoRelease (stA Y.Wg) t){q:Nat}(N:t.act? q=aa (.mark (.acquire (stA Y.Wg))))(y:t.g? q=aa 0)(A:t.heard q)
  (L:∀ x,x<j->∃ r,RelBy (stA Y.Wg) t (Y.base+x) r/\r<q):Past (lL λb=>Y.Sh b∨b=Y.Wg) B t:=by
 have m:∀ x,x<j->∀ i,t.g? i=aa (Y.base+x)->t.counts i->HappensBefore t i q:=by
  intro x w i s v;obtain⟨r,c,C⟩:=L x w;have e:HappensBefore t r q:=.single (.inr ⟨.marked C (.inr c.act) N (λk _ _=>hn k),c.heard,A⟩)
  have O:i<=r:=Nat.le_of_not_lt λn=>c.after i n s v
  rcases cx i r with n|M
  .exact .trans (.single (.inl ⟨n,_,s,c.g⟩)) e
  grind
 have o:∀ {l:Go.Loc},lL Y.Sh l->lL (λb=>Y.Sh b∨b=Y.Wg) l:=λ{l} hl=>by cases l <;> first|exact .inl hl|exact hl
 refine⟨h.nr,λi a p d=>?_,λi g s F v=>?_,I,h.seen⟩
 .rcases cx i Y.T0 with hi|hi
  .exact(h.old i a hi p d).imp id λ⟨h1,h2⟩=>⟨o h1,h2⟩
  .rcases h.new i a hi p d with⟨h1,_⟩|⟨x,w,s,G⟩
   .exact .inl (vb p h1)
   .rcases G with⟨ad,e1,e2,e3⟩|⟨H,_⟩
    .exact .inr ⟨by rw[e1];exact .inr e2,e3⟩
    .left
     have v:t.counts i:=⟨a,p,d,.inl (by rw[H];simp)⟩
     obtain⟨z,K,E⟩:=py.1 y;exact⟨q,z,K,E,.inr (m x w i s v)⟩
 .rcases cx i Y.T0 with hi|hi
  .exact h.over i g hi s F v
  .obtain⟨a,p,d,J⟩:=v;rcases h.new i a hi p d with⟨h1,_⟩|⟨x,w,D,G⟩
   .grind
   .exact⟨q,y,m x w i D ⟨a,p,d,J⟩⟩
def TL.start{Y:Lay}{t:Trace}{B:Nat}{f:Nat->Mem}(e:Past (lL Y.Sh) B t)(o:Y.T0=t.size)(hb:1<=Y.base)(b:Y.C≠Y.Wg)(h:¬Y.Sh Y.Wg)(k:¬Y.Sh Y.C):TL Y (λ_=>0) f t 0 B :=
 ⟨hb,rfl,rfl,b,h,k,λ_ _=>rfl,λx c=>absurd c (jh x),by omega,e.clean,e.seen,λi a _ l d=>e.known i a l d,λx c=>absurd c (jh x),λ_ _ _ _ _ _=>rfl,
  λi a hi l _=>by
   obtain⟨x,c,_⟩:=touch_of l
   grind,λx c=>absurd c (jh x),λi g _ m b n=>e.over i g m b n⟩
end
end
section
open Go.Conc
open Go.ConcN (WD CTag Mode Vc Ssum pend phi cnt WgLive PayAt Has RW DWs WSit RelBy sumTo upd upd_same upd_ne AtR0 get_map_set get_map_set_same norel_of Deaf_still)
open Go.ConcR (KK WgAt stA smA rd wr mk Payload g_of_ofEvents)
def Cx.work(P:aq):Cx P:={ main:=ae,rely:=b9,xw:=λ_ _ _=>False,iq:=id,Bc:=True }
def Cx.lead(P:aq)(ty:ar)(Wg:Nat):Cx P:={ main:=ab,rely:=λs s'=>b9 s s'/\(WgLive ty Wg s.w->WgLive ty Wg s'.w),xw:=λ_ _ _=>False,iq:=λh=>h.1,Bc:=False }
instance (P:aq):(Cx.work P).jH:=⟨av⟩
def E0:St->St->Array Event->Prop:=λ_ _ _=>False
def Es(Wg:Nat):St->St->Array Event->Prop:=λs s' es=>s'=s/\∃ a:Addr,a.block=Wg/\(es=#[mk (.read a)]∨es=#[mk (.write a)])
def Pr:Nat->Go.Loc->Prop:=λ_ _=>False
variable [Payload]
structure T5 (C N lo k:Nat)(vs:Nat->ak)(w w':az):Prop where
 tape:w'.tape=w.tape
 os:w'.os=w.os
 output:w'.output=w.output
 size:w'.heap.size=w.heap.size
 block:∀ b,b≠C->w'.heap[b]?=w.heap[b]?
 pay:PayAt C N w'
 out:∀ o,(o<lo∨lo+k<=o)->w'.cell? ⟨C,o,af⟩=w.cell? ⟨C,o,af⟩
 new:∀ i,i<k->w'.cell? ⟨C,lo+i,af⟩=aa (vs i)
section
variable (P:aq)(ty:ar)(Y:Lay)(N:Nat)(val:Nat->Nat->ak)
def JG(x:Nat)(g:au)(s:St):Prop :=
 g.status=.running/\∀ w1,b9 s { s with w:=w1 }->PayAt Y.C N w1->WgLive ty Y.Wg w1 ->
  ∃ g' w2 es,aK P ae g w1=.go g' w2 es/\T5 Y.C N (Y.kc*x) Y.kc (val x) w1 w2/\(∀ e∈es,∃ o,e=⟨.cell ⟨Y.C,o,af⟩,ab,ae⟩/\Y.kc*x<=o/\o<Y.kc*x+Y.kc) /\
   ∃ m,Goes P ae (RW ty Y.Wg Y.C N 0 (Y.kc*x)) Go.ConcR.DC0 (AtR0 P ty Y.Wg Y.C N 0 (Y.kc*x+1) (val x 0)) m g' w2
end
structure lR (l:Nat->Nat)(t:Mem)(g:Nat)(s:St):Prop where
 blk:∀ b,(s.own b∨∃ L∈s.β,b∈L.bs)->l b=g/\b<s.w.heap.size
 M:∀ b o v,s.M b o=aa v->(l b=g∨t b o=aa v)/\b<s.w.heap.size
structure jL (Y:Lay)(l:Nat->Nat)(E:Nat->Mem)(j:Nat)(s:St):Prop where
 blk:∀ b,(s.own b∨∃ L∈s.β,b∈L.bs)->l b=0/\b≠Y.C/\b≠Y.Wg/\¬Y.Sh b/\b<s.w.heap.size
 M:∀ b o v,s.M b o=aa v->l b=0/\b≠Y.C/\b≠Y.Wg/\¬Y.Sh b/\b<s.w.heap.size
 ms:∀ x,x<j->∀ b o v,E x b o=aa v->s.M b o=aa v
structure GO (Y:Lay)(l:Nat->Nat)(t:Mem)(y:Nat)(w w':az):Prop where
 size:w.heap.size<=w'.heap.size
 blk:∀ b,b<w.heap.size->l b=Y.base+y->w'.heap[b]?=w.heap[b]?
 cell:∀ b o v,t b o=aa v->w.cell? ⟨b,o,af⟩=aa v->w'.cell? ⟨b,o,af⟩=aa v
 pay:∀ o,Y.kc*y<=o->o<Y.kc*y+Y.kc->w'.cell? ⟨Y.C,o,af⟩=w.cell? ⟨Y.C,o,af⟩
 os:w'.os=w.os
 tape:w'.tape=w.tape
 output:w'.output=w.output
omit [Payload] in
def GO.refl(Y:Lay)(l:Nat->Nat)(t:Mem)(y:Nat)(w:az):GO Y l t y w w:=⟨bc _,λ_ _ _=>rfl,λ_ _ _ _ h=>h,λ_ _ _=>rfl,rfl,rfl,rfl⟩
omit [Payload] in
def GO.at(Y:Lay)(l:Nat->Nat)(t:Mem)(y:Nat)(w:az)(d:Nat):GO Y l t y w (w.at d):=⟨bc _,λ_ _ _=>rfl,λ_ _ _ _ h=>h,λ_ _ _=>rfl,rfl,rfl,rfl⟩
structure DR (Y:Lay)(l:Nat->Nat)(w w':az):Prop where
 size:w.heap.size<=w'.heap.size
 blk:∀ b,b<w.heap.size->l b=0->b≠Y.C->b≠Y.Wg->w'.heap[b]?=w.heap[b]?
 os:w'.os=w.os
 tape:w'.tape=w.tape
 output:w'.output=w.output
omit [Payload] in
def jM{w w':az}{b:Nat}(h:w'.heap[b]?=w.heap[b]?)(o:Nat):w'.cell? ⟨b,o,af⟩=w.cell? ⟨b,o,af⟩:=by simp[aZ,h]
omit [Payload] in
def b9.more{s:St}{w w':az}(h:b9 s { s with w:=w })(z:w.heap.size<=w'.heap.size)(f:∀ b,(s.own b∨∃ L∈s.β,b∈L.bs)->w'.heap[b]?=w.heap[b]?)
  (X:∀ b o v,s.M b o=aa v->w.cell? ⟨b,o,af⟩=aa v->w'.cell? ⟨b,o,af⟩=aa v) (c:w'.os=w.os) (p:w'.tape=w.tape) (u:w'.output=w.output):b9 s { s with w:=w' } :=
 ⟨rfl,rfl,rfl,ez h.size z,λb S=>by show w'.heap[b]?=_;rw[f b S];exact h.eB b S,λb o v q=>X b o v q (h.mem b o v q),c.trans h.os,p.trans h.tape,u.trans h.output⟩
section
variable {Y:Lay}{l hm':Nat->Nat}{E:Nat->Mem}{j y:Nat}{s:St}{w w':az}
omit [Payload] in
def lR.JH(n:lR l (E y) (Y.base+y) s)(h:b9 s { s with w:=w })(k:GO Y l (E y) y w w'):b9 s { s with w:=w' }:=by
 have z:=h.size;refine h.more k.size (λb f=>?_) (λb o v q T=>?_) k.os k.tape k.output
 .obtain⟨c,p⟩:=n.blk b f;exact k.blk b (cC p z) c
 .obtain⟨c,p⟩:=n.M b o v q;rcases c with c|c
  .rw[jM (k.blk b (cC p z) c) o];exact T
  .exact k.cell b o v c T
omit [Payload] in
def lR.sT{t:Mem}{g:Nat}(n:lR l t g s)(h:s.w.heap.size<=w.heap.size)(Z:∀ b,b<w.heap.size->hm' b=l b):lR hm' t g s :=
 ⟨λb f=>let ⟨c,p⟩:=n.blk b f;⟨by grind,p⟩,λb o v q=>let ⟨c,p⟩:=n.M b o v q;⟨by grind,p⟩⟩
omit [Payload] in
def jL.JH(n:jL Y l E j s)(h:b9 s { s with w:=w })(k:DR Y l w w'):b9 s { s with w:=w' }:=by
 have z:=h.size;refine h.more k.size (λb f=>?_) (λb o v q T=>?_) k.os k.tape k.output
 .obtain⟨c,p,u,H,D⟩:=n.blk b f;exact k.blk b (cC D z) c p u
 .obtain⟨c,p,u,H,D⟩:=n.M b o v q;rw[jM (k.blk b (cC D z) c p u) o];exact T
omit [Payload] in
def jL.sT(n:jL Y l E j s)(h:s.w.heap.size<=w.heap.size)(Z:∀ b,b<w.heap.size->hm' b=l b):jL Y hm' E j s :=
 ⟨λb f=>let ⟨c,p,u,H,D⟩:=n.blk b f;⟨by grind,p,u,H,D⟩,
  λb o v q=>let ⟨c,p,u,H,D⟩:=n.M b o v q;⟨by grind,p,u,H,D⟩,n.ms⟩
omit [Payload] in
def lR.rely{t:Mem}{g:Nat}(n:lR l t g s)(h:s.w.heap.size<=w.heap.size):lR l t g { s with w:=w } :=
 ⟨λb f=>let ⟨c,p⟩:=n.blk b f;⟨c,cC p h⟩,λb o v q=>let ⟨c,p⟩:=n.M b o v q;⟨c,cC p h⟩⟩
omit [Payload] in
def jL.rely(n:jL Y l E j s)(h:s.w.heap.size<=w.heap.size):jL Y l E j { s with w:=w } :=
 ⟨λb f=>let ⟨c,p,u,H,D⟩:=n.blk b f;⟨c,p,u,H,cC D h⟩,λb o v q=>let ⟨c,p,u,H,D⟩:=n.M b o v q;⟨c,p,u,H,cC D h⟩,n.ms⟩
omit [Payload] in
def lR.ghost{t:Mem}{g:Nat}{s':St}(n:lR l t g s)(k:eK s s'):lR l t g s':=by
 refine⟨λb f=>by rw[k.w];exact n.blk b (k.blk b f),λb o v q=>?_⟩
 rw[k.w]
 by_cases f:∃ L∈s.β,b∈L.bs
 .obtain⟨c,p⟩:=n.blk b (.inr f);exact⟨.inl c,p⟩
 .exact n.M b o v (by rw[<-k.jk b (λL F A=>f ⟨L,F,A⟩)];exact q)
omit [Payload] in
def lR.forget{t:Mem}{g:Nat}{s':St}(n:lR l t g s)(k:mS s s'):lR l t g s' :=
 ⟨λb f=>by rw[k.w];exact n.blk b (by rw[<-k.own,<-k.β];exact f),λb o v q=>by rw[k.w];exact n.M b o v (k.less b o v q)⟩
omit [Payload] in
def jL.ghost{s':St}(n:jL Y l E j s)(k:eK s s'):jL Y l E j s':=by
 refine⟨λb f=>by rw[k.w];exact n.blk b (k.blk b f),λb o v q=>?_,λx U b o v q=>k.mem _ _ _ (n.ms x U b o v q)⟩
 rw[k.w]
 by_cases f:∃ L∈s.β,b∈L.bs
 .exact n.blk b (.inr f)
 .exact n.M b o v (by rw[<-k.jk b (λL F A=>f ⟨L,F,A⟩)];exact q)
def nk(l:Nat->Nat)(B g:Nat):Nat->Nat:=λb=>if b<B then l b else g
omit [Payload] in
def eP{l:Nat->Nat}{B g b:Nat}(h:b<B):nk l B g b=l b:=by simp[nk,h]
omit [Payload] in
def sU{l:Nat->Nat}{B g b:Nat}(h:B<=b):nk l B g b=g:=by simp[nk,ky.2 h]
omit [Payload] in
def lR.step{t:Mem}{g:Nat}{s':St}{σ σ':List aW}(n:lR l t g s)(G:aJ σ' s')(st:Step σ s σ' s'):lR (nk l s.w.heap.size g) t g s':=by
 refine⟨λb f=>?_,λb o v q=>?_⟩
 .rcases f with f|⟨L,F,f⟩
  .rw[st.own] at f;obtain⟨c,p⟩:=n.blk b (.inl f);exact⟨by rw[eP p];exact c,cC p st.size⟩
  .have r:=G.lt L F b f;rcases st.uo L F b f with c|⟨V,K,c⟩
   .exact⟨sU c,r⟩
   .obtain⟨k1,J⟩:=n.blk b (.inr ⟨V,K,c⟩);exact⟨by rw[eP J];exact k1,r⟩
 .have r:=gw.lt G.mem q;rcases cx b s.w.heap.size with c|c
  .rw[eP c]
   by_cases f:∃ L∈s.β,b∈L.bs
   .exact⟨.inl (n.blk b (.inr f)).1,r⟩
   .rw[st.jk b c (λL F A=>f ⟨L,F,A⟩)] at q
    exact⟨(n.M b o v q).1,r⟩
  .exact⟨.inl (sU c),r⟩
omit [Payload] in
def jL.step{s':St}{σ σ':List aW}(n:jL Y l E j s)(G:aJ σ' s')(st:Step σ s σ' s')(hW:Y.Wg<s.w.heap.size)(hC:Y.C<s.w.heap.size)(W:∀ b,Y.Sh b->b<s.w.heap.size):jL Y (nk l s.w.heap.size 0) E j s':=by
 have I:∀ b,s.w.heap.size<=b->b<s'.w.heap.size->nk l s.w.heap.size 0 b=0/\b≠Y.C/\b≠Y.Wg/\¬Y.Sh b/\b<s'.w.heap.size:=λb c p =>
  ⟨sU c,by omega,by omega,λh=>by have:=W b h;omega,p⟩
 refine⟨λb f=>?_,λb o v q=>?_,λx U b o v q=>st.mem _ _ _ (n.ms x U b o v q)⟩
 .rcases f with f|⟨L,F,f⟩
  .rw[st.own] at f;obtain⟨c,p,u,H,D⟩:=n.blk b (.inl f);exact⟨by rw[eP D];exact c,p,u,H,cC D st.size⟩
  .have r:=G.lt L F b f;rcases st.uo L F b f with c|⟨V,K,c⟩
   .exact I b c r
   .obtain⟨k1,J,O,R,Q⟩:=n.blk b (.inr ⟨V,K,c⟩);exact⟨by rw[eP Q];exact k1,J,O,R,r⟩
 .have r:=gw.lt G.mem q;rcases cx b s.w.heap.size with c|c
  .by_cases f:∃ L∈s.β,b∈L.bs
   .obtain⟨k1,J,O,R,Q⟩:=n.blk b (.inr f);exact⟨by rw[eP Q];exact k1,J,O,R,r⟩
   .rw[st.jk b c (λL F A=>f ⟨L,F,A⟩)] at q
    obtain⟨k1,J,O,R,Q⟩:=n.M b o v q;exact⟨by rw[eP Q];exact k1,J,O,R,r⟩
  .exact I b c r
end
end
section
open Go.Conc
open Go.ConcN (WD CTag Mode Vc Ssum pend phi cnt WgLive PayAt Has RW DWs WSit RelBy sumTo upd upd_same upd_ne AtR0 get_map_set get_map_set_same norel_of Deaf_still)
open Go.ConcR (KK WgAt stA smA rd wr mk Payload g_of_ofEvents)
variable [Payload]
section
variable (P:aq)(ty:ar)(Y:Lay)(N:Nat)(val:Nat->Nat->ak)(l:Nat->Nat)(c:Nat->Mem)
inductive WS (x:Nat):Nat->Nat->Rk->Nat->au->az->Prop
 |am {r:Rk} {g:au} {s:St} {w:az}:kl (Cx.work P) E0 (JG P ty Y N val x) r g s->b9 s { s with w:=w }->lR l (c x) (Y.base+x) s->WS x 1 7 r 0 g w
 |rel {m:Nat} {g:au} {w:az}:Goes P ae (RW ty Y.Wg Y.C N 0 (Y.kc*x)) Go.ConcR.DC0 (AtR0 P ty Y.Wg Y.C N 0 (Y.kc*x+1) (val x 0)) m g w->WS x 0 7 (Rk.nat m) 0 g w
 |tail {st m d:Nat} {g:au} {w:az}:st<=6->WSit P ty Y.Wg Y.C N Pr Pr 0 (Y.kc*x+1) (val x 0) st m d g w->WS x 0 st (Rk.nat m) d g w
structure Com (j:Nat)(n:Array au)(w:az)(t:Trace)(D:Nat->WD)(A:Nat->Nat)(K:Nat->Rk)(p:Nat):Prop where
 size:n.size=Y.base+j
 lv:∀ i g,0<i->i<Y.base->n[i]?=aa g->∃ m,K i=Rk.nat m/\QuitsD P m (Deaf t i) g
 above:∀ i,Y.base+j<=i->Deaf t i=0
 wk:∀ x,x<j->∃ g,n[Y.base+x]?=aa g/\WS P ty Y N val l c x (A x) (D x).stage (K (Y.base+x)) (D x).deaf g w
 tl:TL Y l c t j w.heap.size
 norel:ry t
 deaf0:Deaf t 0=p
 deafW:∀ x,x<j->Deaf t (Y.base+x)=(D x).deaf
 rel:∀ x,x<j->(D x).stage<=6->∃ r,RelBy (stA Y.Wg) t (Y.base+x) r
 xG:∀ x,x<j->A x=0->∀ i,1<=i->i<Y.kc->w.cell? ⟨Y.C,Y.kc*x+i,af⟩=aa (val x i)
 BD:∀ x,x<j->(D x).stage<=6->Has Y.C (Y.kc*x) (val x 0) w
 pay:PayAt Y.C N w
 live:WgLive ty Y.Wg w
 zI:Y.Wg<w.heap.size
 BE:Y.C<w.heap.size
 ML:∀ b,Y.Sh b->b<w.heap.size
 kc:0<Y.kc
 Nr:∀ y,y<j->∀ b o v,c y b o=aa v->b<w.heap.size
end
section
variable {P:aq}{ty:ar}{Y:Lay}{N:Nat}{val:Nat->Nat->ak}{l hm':Nat->Nat}{c:Nat->Mem}{j x:Nat}{n:Array au}{w w':az}{t:Trace}{D:Nat->WD}{A:Nat->Nat}{K:Nat->Rk}{p:Nat}
def RW.JH(k:GO Y l (c x) x w w')(hl:WgLive ty Y.Wg w')(a:PayAt Y.C N w')(d:0<Y.kc):RW ty Y.Wg Y.C N 0 (Y.kc*x+1-1) w w' :=
 ⟨λb hb=>absurd hb (jh b),λ_=>hl,λ_=>a,k.pay _ (bc _) (by simp;omega)⟩
def WS.JH{a st d:Nat}{r:Rk}{g:au}(h:WS P ty Y N val l c x a st r d g w)(k:GO Y l (c x) x w w')(hl:WgLive ty Y.Wg w')(e:PayAt Y.C N w')(i:0<Y.kc)(hh:∀ b,b<w.heap.size->hm' b=l b) :
  WS P ty Y N val hm' c x a st r d g w':=by
 cases h with
 |am h1 h2 h3=>exact .am h1 (h3.JH h2 k) (h3.sT h2.size hh)
 |rel h1=>exact .rel (Goes.rely (λ_ _ _ h1 h2=>h1.trans h2) h1 (RW.JH k hl e i))
 |tail h0 h1=>exact .tail h0 (h1.rely (RW.JH k hl e i))
omit [Payload] in
def kl.run{X:Cx P}{E:St->St->Array Event->Prop}{S:au->St->Prop}(q:∀ g s,S g s->g.status=.running):∀ {r:Rk}{g:au}{s:St},kl X E S r g s->g.status=.running
 |.leaf,_,_,h=>q _ _ h
 |.node f,g,s,h=>by
  rcases h with h|⟨s',_,h⟩|⟨h,_⟩
  .exact q _ _ h
  .exact kl.run q (r:=f s) h
  .exact h
def WS.status{a st d:Nat}{r:Rk}{g:au}(h:WS P ty Y N val l c x a st r d g w):g.status=.running∨g.status=.finished:=by
 cases h with
 |am h1 _ _=>exact .inl (h1.run λg s h=>h.1)
 |rel h1=>exact .inl (Goes.running (λ_ _ x=>x.1) w (Go.ConcN.RW.refl w) h1)
 |tail _ h1=>exact h1.status
def WS.woken{a st d:Nat}{r:Rk}{g:au}(h:WS P ty Y N val l c x a st r d g w)(b e:au)(w':az):woken P b e w' g=g:=by
 unfold Go.Conc.woken;split
 .exact again_running _ h.status
 .rfl
def Com.at(h:Com P ty Y N val l c j n w t D A K p)(d:Nat):Com P ty Y N val l c j n (w.at d) t D A K p :=
 ⟨h.size,h.lv,h.above,λx a=>let ⟨g,h1,h2⟩:=h.wk x a;⟨g,h1,h2.JH (.at ..) h.live h.pay h.kc λ_ _=>rfl⟩,h.tl,h.norel,h.deaf0,h.deafW,h.rel,h.xG,h.BD,h.pay,h.live,h.zI,h.BE,h.ML,h.kc,h.Nr⟩
def Com.stepW(h:Com P ty Y N val l c j n w t D A K p)(hx:x<j){g g':au}{fn:aV}{pos:String}{es:Array Event}{a' qd d':Nat}{r':Rk}
  (hh:∀ b,b<w.heap.size->hm' b=l b) (u:w.heap.size<=w'.heap.size) (F:∀ y,y<j->y≠x->GO Y l (c y) y w w')
  (Xw:WS P ty Y N val hm' c x a' qd r' d' g' w') (T:∀ e∈es,(aM e).low w'.heap.size) (T6:∀ e∈es,∀ a,(aM e).touch?=aa a->a.loc.isMemory=ab->qj Y hm' (c x) x a)
  (V:∀ e∈es,∀ a,e.loc≠.mark (.release a)) (J:deafBehind (D x).deaf es=d')
  (R:qd<=6->∃ r,RelBy (stA Y.Wg) (t++MemOp.ofEvents (Y.base+x) fn pos es) (Y.base+x) r)
  (h1:a'=0->∀ i,1<=i->i<Y.kc->w'.cell? ⟨Y.C,Y.kc*x+i,af⟩=aa (val x i)) (h0:qd<=6->Has Y.C (Y.kc*x) (val x 0) w') (I:PayAt Y.C N w') (B:WgLive ty Y.Wg w') :
  Com P ty Y N val hm' c j ((n.map (woken P g g' w')).setIfInBounds (Y.base+x) g') w' (t++MemOp.ofEvents (Y.base+x) fn pos es) (upd D x ⟨qd,0,d'⟩) (upd A x a') (upd K (Y.base+x) r') p:=by
 have hb:=h.tl.base;have G:∀ y,y≠x->Y.base+x≠Y.base+y:=λy d e=>d (by omega)
 have Z:∀ i H,0<i->i<Y.base->((n.map (Go.Conc.woken P g g' w')).setIfInBounds (Y.base+x) g')[i]?=aa H->n[i]?=aa H:=by
  intro i H hi Ps FE;rw[get_map_set _ _ _ _ (by omega)] at FE
  obtain⟨z,hz,rfl⟩:=py.1 FE;obtain⟨m,_,hq⟩:=h.lv i z hi Ps hz;rw[woken_quitsD hq];exact hz
 refine⟨by simp[h.size],λi H hi Ps FE=>?_,λi hi=>?_,λy d=>?_,?_,h.norel.app V,by rw[Deaf_other t (by omega) _ g_of_ofEvents,h.deaf0],λy d=>?_,λy d k=>?_,λy d L i M O=>?_,λy d k=>?_,I,B,cC h.zI u,cC h.BE u,λb hb=>cC (h.ML b hb) u,h.kc,λy d b o v hv=>cC (h.Nr y d b o v hv) u⟩
 .obtain⟨m,T7,S4⟩:=h.lv i H hi Ps (Z i H hi Ps FE);refine⟨m,by rw[upd_ne K _ (by omega)];exact T7,?_⟩
  rw[Deaf_other t (by omega) _ g_of_ofEvents];exact S4
 .rw[Deaf_other t (by omega) _ g_of_ofEvents];exact h.above i hi
 .by_cases e:y=x
  .subst e;exact⟨g',get_map_set_same _ _ _ (by rw[h.size];omega),by rw[upd_same,upd_same,upd_same];exact Xw⟩
  .obtain⟨H,FE,Q⟩:=h.wk y d;refine⟨H,by rw[get_map_set _ _ _ _ (G y e),FE,j4,Q.woken],?_⟩
   rw[upd_ne A _ e,upd_ne D _ e,upd_ne K _ (G y e).symm];exact Q.JH (F y d e) B I h.kc hh
 .refine(h.tl.sT hh u h.zI h.BE h.ML λy d b o v hv=>?_).appW hx (λop iQ=>by obtain⟨e,_,rfl⟩:=Go.Conc.mem_ofEvents iQ;rfl) (λop iQ=>?_) (λop iQ a L U=>?_)
  .exact h.Nr y d b o v hv
  .obtain⟨e,W,rfl⟩:=Go.Conc.mem_ofEvents iQ;exact T e W
  .obtain⟨e,W,rfl⟩:=Go.Conc.mem_ofEvents iQ;exact T6 e W a L U
 .by_cases e:y=x
  .subst e;rw[Deaf_own,h.deafW y d,upd_same];exact J
  .rw[Deaf_other t (G y e) _ g_of_ofEvents,h.deafW y d,upd_ne D _ e]
 .by_cases e:y=x
  .subst e;rw[upd_same] at k;exact R k
  .rw[upd_ne D _ e] at k;obtain⟨r,hr⟩:=h.rel y d k;exact⟨r,hr.appOther g_of_ofEvents (G y e)⟩
 .by_cases e:y=x
  .subst e;rw[upd_same] at L;exact h1 L i M O
  .rw[upd_ne A _ e] at L;rw[(F y d e).pay _ (by omega) (by omega)]
   exact h.xG y d L i M O
 .by_cases e:y=x
  .subst e;rw[upd_same] at k;exact h0 k
  .rw[upd_ne D _ e] at k;have:=h.BD y d k;have hk:=h.kc;simp only[Has] at this ⊢;rw[(F y d e).pay _ (by omega) (by omega)]
   exact this
def Com.step0(h:Com P ty Y N val l c j n w t D A K p){g g':au}{fn:aV}{pos:String}{es:Array Event}
  (hh:∀ b,b<w.heap.size->hm' b=l b) (k:w.heap.size<=w'.heap.size) (B:∀ y,y<j->GO Y l (c y) y w w')
  (M:∀ e∈es,(aM e).low w'.heap.size) (V:∀ e∈es,∀ a,(aM e).touch?=aa a->a.loc.isMemory=ab->rW Y hm' a)
  (U:∀ e∈es,∀ a,(aM e).touch?=aa a->a.kind=.plain->a.write=ab->∀ x,x<j->∀ b o v,a.loc=.cell ⟨b,o,af⟩->c x b o≠aa v)
  (R:∀ e∈es,∀ a,e.loc≠.mark (.release a)) (F:PayAt Y.C N w') (u:WgLive ty Y.Wg w') :
  Com P ty Y N val hm' c j ((n.map (woken P g g' w')).setIfInBounds 0 g') w' (t++MemOp.ofEvents 0 fn pos es) D A K (deafBehind p es):=by
 have hb:=h.tl.base;have hk:=h.kc;refine⟨by simp[h.size],λi Z hi Ps FE=>?_,λi hi=>?_,λy d=>?_,?_,h.norel.app R,by rw[Deaf_own,h.deaf0],λy d=>by rw[Deaf_other t (by omega) _ g_of_ofEvents,h.deafW y d],λy d G=>?_,λy d I i Q T=>?_,λy d G=>?_,F,u,cC h.zI k,cC h.BE k,λb hb=>cC (h.ML b hb) k,h.kc,λy d b o v hv=>cC (h.Nr y d b o v hv) k⟩
 .rw[get_map_set _ _ _ _ (by omega)] at FE
  obtain⟨z,hz,rfl⟩:=py.1 FE;obtain⟨m,W,L⟩:=h.lv i z hi Ps hz;exact⟨m,W,by rw[woken_quitsD L,Deaf_other t (by omega) _ g_of_ofEvents];exact L⟩
 .rw[Deaf_other t (by omega) _ g_of_ofEvents];exact h.above i hi
 .obtain⟨Z,FE,J⟩:=h.wk y d;exact⟨Z,by rw[get_map_set _ _ _ _ (by omega),FE,j4,J.woken],J.JH (B y d) u F h.kc hh⟩
 .refine(h.tl.sT hh k h.zI h.BE h.ML h.Nr).app0 (λop iQ=>by obtain⟨e,_,rfl⟩:=Go.Conc.mem_ofEvents iQ;rfl) (λop iQ=>?_) (λop iQ a I O=>?_) (λop iQ a I=>?_)
  .obtain⟨e,H,rfl⟩:=Go.Conc.mem_ofEvents iQ;exact M e H
  .obtain⟨e,H,rfl⟩:=Go.Conc.mem_ofEvents iQ;exact V e H a I O
  .obtain⟨e,H,rfl⟩:=Go.Conc.mem_ofEvents iQ;exact U e H a I
 .obtain⟨r,hr⟩:=h.rel y d G;exact⟨r,hr.appOther g_of_ofEvents (by omega)⟩
 .rw[(B y d).pay _ (by omega) (by omega)]
  exact h.xG y d I i Q T
 .have:=h.BD y d G;simp only[Has] at this ⊢;rw[(B y d).pay _ (by omega) (by omega)]
  exact this
def Com.leave(h:Com P ty Y N val l c j n w t D A K p){i m:Nat}(hi:0<i)(R:i<Y.base){g g':au}{fn:aV}{pos:String}{es:Array Event}
  (d:∀ e∈es,e.mute=ab) (M:QuitsD P m (deafBehind (Deaf t i) es) g') :
  Com P ty Y N val l c j ((n.map (woken P g g' w)).setIfInBounds i g') w (t++MemOp.ofEvents i fn pos es) D A (upd K i (Rk.nat m)) p:=by
 have hb:=h.tl.base;have H:∀ e∈es,∀ a,e.loc≠.mark (.release a):=λe u a=>vo (d e u) a
 refine⟨by simp[h.size],λk J G I b=>?_,λk G=>?_,λy v=>?_,?_,h.norel.app H,by rw[Deaf_other t (by omega) _ g_of_ofEvents,h.deaf0],λy v=>by rw[Deaf_other t (by omega) _ g_of_ofEvents,h.deafW y v],λy v F=>?_,h.xG,h.BD,h.pay,h.live,h.zI,h.BE,h.ML,h.kc,h.Nr⟩
 .by_cases e:k=i
  .subst e;rw[get_map_set_same _ _ _ (by rw[h.size];omega)] at b
   cases b;exact⟨m,by rw[upd_same],by rw[Deaf_own];exact M⟩
  .rw[get_map_set _ _ _ _ (mi e)] at b;obtain⟨z,L,rfl⟩:=py.1 b;obtain⟨O,C,o⟩:=h.lv k z G I L;exact⟨O,by rw[upd_ne K _ e];exact C,by rw[woken_quitsD o,Deaf_other t (mi e) _ g_of_ofEvents];exact o⟩
 .rw[Deaf_other t (by omega) _ g_of_ofEvents];exact h.above k G
 .obtain⟨J,b,B⟩:=h.wk y v;exact⟨J,by rw[get_map_set _ _ _ _ (by omega),b,j4,B.woken],by rw[upd_ne K _ (by omega)];exact B⟩
 .exact h.tl.mute (g:=i) (λop iQ=>by obtain⟨e,_,rfl⟩:=Go.Conc.mem_ofEvents iQ;rfl) (λop iQ=>by obtain⟨e,u,rfl⟩:=Go.Conc.mem_ofEvents iQ;exact low_mute (d e u) _) (λop iQ=>by obtain⟨e,u,rfl⟩:=Go.Conc.mem_ofEvents iQ;exact touch_mute (d e u))
 .obtain⟨r,Q⟩:=h.rel y v F;exact⟨r,Q.appOther g_of_ofEvents (by omega)⟩
def Com.spawn(h:Com P ty Y N val l c j n w t D A K 0){a' child:au}{x y:MemOp}{r:Rk}{s:St}(M:x.g=0/\x.act=.go (Y.base+j))(Q:y.g=Y.base+j/\y.act=.start)
  (L:∀ b o v,c j b o=aa v->l b=0/\b≠Y.C/\b≠Y.Wg/\¬Y.Sh b/\b<w.heap.size)
  (R:kl (Cx.work P) E0 (JG P ty Y N val j) r child s) (G:b9 s { s with w:=w }) (O:lR l (c j) (Y.base+j) s) :
  Com P ty Y N val l c (j+1) ((n.setIfInBounds 0 a').push child) w (t++#[x,y]) (upd D j ⟨7,0,0⟩) (upd A j 1) (upd K (Y.base+j) r) 0:=by
 have hb:=h.tl.base;have J:∀ op∈#[x,y],op=x∨op=y:=by intro op iQ;simpa using iQ
 have d:∀ op∈#[x,y],op.act≠.mark .disable/\op.act≠.mark .enable:=by
  grind
 have k:∀ i,0<i->i<Y.base+j->((n.setIfInBounds 0 a').push child)[i]?=n[i]?:=λi hi ur=>by
  rw[Array.getElem?_push_lt (by simp[h.size];omega),<-fQ,qo (by omega)]
 refine⟨by simp[h.size];omega,λi g hi Ps hg=>?_,λi hi=>?_,λz u=>?_,h.tl.fork M Q h.deaf0 (h.above _ (bc _)) λb o v F=>let ⟨h1,h2,T,I,_⟩:=L b o v F;⟨h1,h2,T,I⟩,λad=>(h.norel ad).app λop iQ=>?_,by rw[Deaf_still t 0 _ d,h.deaf0],λz u=>?_,λz u e=>?_,λz u B=>?_,λz u e=>?_,h.pay,h.live,h.zI,h.BE,h.ML,h.kc,λz u b o v F=>?_⟩
 .rw[k i hi (by omega)] at hg
  obtain⟨m,h1,h2⟩:=h.lv i g hi Ps hg;exact⟨m,by rw[upd_ne K _ (by omega)];exact h1,by rw[Deaf_still t _ _ d];exact h2⟩
 .rw[Deaf_still t _ _ d];exact h.above i (by omega)
 .rcases cx z j with ur|a
  .obtain⟨g,hg,H⟩:=h.wk z ur;exact⟨g,by grind,by rw[upd_ne D _ (by omega),upd_ne A _ (by omega),upd_ne K _ (by omega)];exact H⟩
  .obtain rfl:z=j:=by omega
   refine⟨child,?_,by rw[upd_same,upd_same,upd_same];exact .am R G O⟩
   rw[show Y.base+z=(n.setIfInBounds 0 a').size by simp[h.size],Array.getElem?_push_size]
 .grind
 .rw[Deaf_still t _ _ d];rcases cx z j with ur|a
  .rw[h.deafW z ur,upd_ne D _ (by omega)]
  .obtain rfl:z=j:=by omega
   rw[upd_same];exact h.above _ (bc _)
 .rcases cx z j with ur|a
  .rw[upd_ne D _ (by omega)] at e
   obtain⟨r,G⟩:=h.rel z ur e;refine⟨r,G.appNot λop iQ=>?_⟩
   grind
  .obtain rfl:z=j:=by omega
   rw[upd_same] at e;simp at e
 .rcases cx z j with ur|a
  .rw[upd_ne A _ (by omega)] at B
   exact h.xG z ur B
  .obtain rfl:z=j:=by omega
   rw[upd_same] at B;simp at B
 .rcases cx z j with ur|a
  .rw[upd_ne D _ (by omega)] at e
   exact h.BD z ur e
  .obtain rfl:z=j:=by omega
   rw[upd_same] at e;simp at e
 .rcases cx z j with ur|a
  .exact h.Nr z ur b o v F
  grind
end
end
section
open Go.Conc
open Go.ConcN (WD CTag Mode Vc Ssum pend phi cnt WgLive PayAt Has RW DWs WSit RelBy sumTo upd upd_same upd_ne AtR0)
open Go.ConcR (KK WgAt stA smA rd wr mk Payload g_of_ofEvents again_blocked)
variable [Payload]
section
variable (P:aq)(ty:ar)(Y:Lay)(N:Nat)(val:Nat->Nat->ak)(n:Nat)(T l:au->St->Prop)
def AtAcq(g:au)(s:St):Prop:=g.status=.running/\∃ g',(∀ w,aK P ab g w=.go g' w #[mk (.acquire (stA Y.Wg))])/\∀ c,(Cx.lead P ty Y.Wg).rely s c->T g' c
def AtKe(g:au)(s:St):Prop:=g.status=.running/\∃ g',(∀ w,aK P ab g w=.go g' w #[mk .enable])/\∀ c,(Cx.lead P ty Y.Wg).rely s c->(eb (Cx.lead P ty Y.Wg) (Es Y.Wg)) (AtAcq P ty Y T) g' c
def AtW4(g:au)(s:St):Prop:=g.status=.running/\∀ c,(Cx.lead P ty Y.Wg).rely s c->WgAt ty Y.Wg c.w 0 0->∃ g',aK P ab g c.w=.go g' c.w #[rd (stA Y.Wg)]/\(eb (Cx.lead P ty Y.Wg) (Es Y.Wg)) (AtKe P ty Y T) g' c
def AtW3(g:au)(s:St):Prop:=g.status=.running/\g.offers=af/\∀ c,(Cx.lead P ty Y.Wg).rely s c ->
 ((∃ st,WgAt ty Y.Wg c.w st 0)->aK P ab g c.w=.go { g with status:=.blocked } c.w #[]) /\
 (WgAt ty Y.Wg c.w 0 1->∃ g',aK P ab g c.w=.go g' (c.w.setCell (smA Y.Wg) (.int .u32 0)) (semEvents (smA Y.Wg))/\(eb (Cx.lead P ty Y.Wg) (Es Y.Wg)) (AtW4 P ty Y T) g' { c with w:=c.w.setCell (smA Y.Wg) (.int .u32 0) })
def AtW2(vs:Nat)(g:au)(s:St):Prop:=g.status=.running/\∀ c,(Cx.lead P ty Y.Wg).rely s c->∀ v:Nat,v<2147483648->WgAt ty Y.Wg c.w (v*KK) 0 ->
 (v=vs->∃ g',aK P ab g c.w=.go g' (c.w.setCell (stA Y.Wg) (.int .u64 (v*KK+1))) #[rd (stA Y.Wg),wr (stA Y.Wg)]/\(eb (Cx.lead P ty Y.Wg) (Es Y.Wg)) (AtW3 P ty Y T) g' { c with w:=c.w.setCell (stA Y.Wg) (.int .u64 (v*KK+1)) }) /\
 (v≠vs->∃ g',aK P ab g c.w=.go g' c.w #[rd (stA Y.Wg)]/\l g' c)
def AtW1(g:au)(s:St):Prop:=g.status=.running/\∀ c,(Cx.lead P ty Y.Wg).rely s c->∀ v:Nat,v<2147483648->WgAt ty Y.Wg c.w (v*KK) 0 ->
 ∃ g',aK P ab g c.w=.go g' c.w #[rd (stA Y.Wg)]/\(v=0->(eb (Cx.lead P ty Y.Wg) (Es Y.Wg)) (AtKe P ty Y T) g' c)/\(v≠0->(eb (Cx.lead P ty Y.Wg) (Es Y.Wg)) (AtW2 P ty Y T l v) g' c)
def AtKd(g:au)(s:St):Prop:=g.status=.running/\∃ g',(∀ w,aK P ab g w=.go g' w #[mk .disable])/\∀ c,(Cx.lead P ty Y.Wg).rely s c->l g' c
def St.child(s:St):St:={ β:=[],M:=s.M,w:=s.w,own:=λ_=>False }
def AtGo(j:Nat)(Next:au->St->Prop)(g:au)(s:St):Prop:=g.status=.running/\∀ c,(Cx.lead P ty Y.Wg).rely s c ->
 ∃ g' child,aK P ab g c.w=.spawn g' child c.w #[]/\child.status=.running/\eb (Cx.work P) E0 (JG P ty Y N val j) child c.child/\Next g' c
def AtKeS(j:Nat)(Next:au->St->Prop)(g:au)(s:St):Prop:=g.status=.running/\∃ g',(∀ w,aK P ab g w=.go g' w #[mk .enable])/\∀ c,(Cx.lead P ty Y.Wg).rely s c->(eb (Cx.lead P ty Y.Wg) (Es Y.Wg)) (AtGo P ty Y N val j Next) g' c
def AtA1(j:Nat)(Next:au->St->Prop)(g:au)(s:St):Prop:=g.status=.running/\∀ c,(Cx.lead P ty Y.Wg).rely s c->∀ v:Nat,v<2147483647->WgAt ty Y.Wg c.w (v*KK) 0 ->
 ∃ g',aK P ab g c.w=.go g' (c.w.setCell (stA Y.Wg) (.int .u64 ((v+1)*KK))) #[rd (stA Y.Wg),wr (stA Y.Wg)]/\(eb (Cx.lead P ty Y.Wg) (Es Y.Wg)) (AtKeS P ty Y N val j Next) g' { c with w:=c.w.setCell (stA Y.Wg) (.int .u64 ((v+1)*KK)) }
def AtKdS(j:Nat)(Next:au->St->Prop)(g:au)(s:St):Prop:=g.status=.running/\∃ g',(∀ w,aK P ab g w=.go g' w #[mk .disable])/\∀ c,(Cx.lead P ty Y.Wg).rely s c->(eb (Cx.lead P ty Y.Wg) (Es Y.Wg)) (AtA1 P ty Y N val j Next) g' c
def Spawns:Nat->au->St->Prop
 |0,g,s=>(eb (Cx.lead P ty Y.Wg) (Es Y.Wg)) (AtKd P ty Y l) g s
 |r+1,g,s=>(eb (Cx.lead P ty Y.Wg) (Es Y.Wg)) (AtKdS P ty Y N val (n-(r+1)) (Spawns r)) g s
def Rk.lift:Rk->Rk
 |.leaf=>.node λ_=>.leaf
 |.node f=>.node λs=>Rk.lift (f s)
omit [Payload] in
def Rk.FF:∀ {x r:Rk},Rk.lt x r->Rk.lt x.lift r.lift
 |_,.leaf,h=>h.elim
 |_,.node _,⟨s,h⟩=>⟨s,h.elim (λe=>.inl (by rw[e])) λh=>.inr (Rk.FF h)⟩
omit [Payload] in
def Rk.JI(s:St):∀ r:Rk,∃ x,Rk.lt x r.lift
 |.leaf=>⟨.leaf,s,.inl rfl⟩
 |.node f=>⟨(f s).lift,s,.inl rfl⟩
inductive CS:CTag->Nat->Rk->Nat->au->St->Prop
 |skd {r:Nat} {rk:Rk} {g:au} {s:St}:r<n->(kl (Cx.lead P ty Y.Wg) (Es Y.Wg)) (AtKdS P ty Y N val (n-(r+1)) (Spawns P ty Y N val n l r)) rk g s->CS (.sp r 5) (n-(r+1)) rk 0 g s
 |sa1 {r:Nat} {rk:Rk} {g:au} {s:St}:r<n->(kl (Cx.lead P ty Y.Wg) (Es Y.Wg)) (AtA1 P ty Y N val (n-(r+1)) (Spawns P ty Y N val n l r)) rk g s->CS (.sp r 4) (n-(r+1)) rk 1 g s
 |ske {r:Nat} {rk:Rk} {g:au} {s:St}:r<n->(kl (Cx.lead P ty Y.Wg) (Es Y.Wg)) (AtKeS P ty Y N val (n-(r+1)) (Spawns P ty Y N val n l r)) rk g s->CS (.sp r 3) (n-(r+1)) rk 1 g s
 |sgo {r:Nat} {rk:Rk} {g:au} {s:St}:r<n->(kl (Cx.lead P ty Y.Wg) (Es Y.Wg)) (AtGo P ty Y N val (n-(r+1)) (Spawns P ty Y N val n l r)) rk g s->CS (.sp r 2) (n-(r+1)) rk 0 g s
 |kd {rk:Rk} {g:au} {s:St}:(kl (Cx.lead P ty Y.Wg) (Es Y.Wg)) (AtKd P ty Y l) rk g s->CS .kd n rk 0 g s
 |w1 {rk:Rk} {g:au} {s:St}:(kl (Cx.lead P ty Y.Wg) (Es Y.Wg)) (AtW1 P ty Y T l) rk g s->CS .w1 n rk 1 g s
 |w2 {vs:Nat} {rk:Rk} {g:au} {s:St}:(kl (Cx.lead P ty Y.Wg) (Es Y.Wg)) (AtW2 P ty Y T l vs) rk g s->CS (.w2 vs) n rk 1 g s
 |w3 {rk:Rk} {g:au} {s:St}:(kl (Cx.lead P ty Y.Wg) (Es Y.Wg)) (AtW3 P ty Y T) rk g s->CS .w3 n rk.lift 1 g s
 |blk {rk:Rk} {g:au} {s:St}:AtW3 P ty Y T g s->CS .blk n rk 1 { g with status:=.blocked } s
 |w4 {rk:Rk} {g:au} {s:St}:(kl (Cx.lead P ty Y.Wg) (Es Y.Wg)) (AtW4 P ty Y T) rk g s->CS .w4 n rk 1 g s
 |ke {rk:Rk} {g:au} {s:St}:(kl (Cx.lead P ty Y.Wg) (Es Y.Wg)) (AtKe P ty Y T) rk g s->CS .ke n rk 1 g s
 |acq {rk:Rk} {g:au} {s:St}:(kl (Cx.lead P ty Y.Wg) (Es Y.Wg)) (AtAcq P ty Y T) rk g s->CS .acq n rk 0 g s
structure Fin (p:Nat->Nat)(o:Nat->Mem)(m:Machine)(t:Trace):Prop where
 out:∃ (gs:Array au) (w:az) (sl:Option (Nat×Nat)) (a:au) (s:St) (q:Nat->Nat),m=crowd gs w sl/\gs[0]?=aa a/\gs.size=Y.base+n/\T a { s with w:=w }/\b9 s { s with w:=w }/\jL Y p o n s /\
  Leavers P t gs q/\Past (lL λb=>Y.Sh b∨b=Y.Wg) w.heap.size t/\ry t/\PayAt Y.C N w/\(∀ x,x<n->∀ i,i<Y.kc->w.cell? ⟨Y.C,Y.kc*x+i,af⟩=aa (val x i))/\Y.C<w.heap.size/\Y.Wg<w.heap.size/\∀ b,Y.Sh b->b<w.heap.size
abbrev Mu:=Nat×((Nat->Rk)×Rk)
def FG(M:Nat):Mu->Mu->Prop:=Prod.Lex (· < ·) (Prod.Lex (Vec M) Rk.lt)
omit [Payload] in
def QF(M:Nat):WellFounded (FG M):=(Prod.lex Nat.lt_wfRel ⟨_,(Prod.lex ⟨Vec M,JF M⟩ ⟨Rk.lt,⟨Rk.acc⟩⟩).wf⟩).wf
structure sV (μ:Mu)(gs:Array au)(w:az)(t:Trace)(p:Nat->Nat)(o:Nat->Mem)(j:Nat)(D:Nat->WD)(A:Nat->Nat)(K:Nat->Rk)(d0:Nat)(tag:CTag)(rk:Rk)(a:au)(s:St) (st sm:Int):Prop where
 a0:gs[0]?=aa a
 cs:CS P ty Y N val n T l tag j rk d0 a s
 rely:b9 s { s with w:=w }
 lead:jL Y p o j s
 fZ:Com P ty Y N val p o j gs w t D A K d0
 wg:WgAt ty Y.Wg w st sm
 mode:Go.ConcN.Mode j D tag st sm
 mu:μ=(phi n (Vc j D) tag+Ssum j D+sumTo j A,(K,rk))
def Inv(k:Mu)(m:Machine)(t:Trace):Prop :=
 ∃ (b:Array au) (w:az) (sl:Option (Nat×Nat)) (p:Nat->Nat) (o:Nat->Mem) (j:Nat) (D:Nat->WD) (A:Nat->Nat) (K:Nat->Rk) (i:Nat) (tag:CTag) (rk:Rk) (a:au) (s:St) (st sm:Int),
  m=crowd b w sl/\sV P ty Y N val n T l k b w t p o j D A K i tag rk a s st sm
end
section
variable {P:aq}{ty:ar}{Y:Lay}{N:Nat}{val:Nat->Nat->ak}{n:Nat}{T l:au->St->Prop}{p hm':Nat->Nat}{o:Nat->Mem}{j:Nat}{tag:CTag}{rk:Rk}{d:Nat}{a:au}{s:St}{w w':az}
omit [Payload] in
def fK{s:St}(h:b9 s { s with w:=w })(B:WgLive ty Y.Wg w):(Cx.lead P ty Y.Wg).rely s { s with w:=w }:=⟨h,λ_=>B⟩
omit [Payload] in
def AtW3.rely{g:au}{c:St}(h:AtW3 P ty Y T g s)(z:(Cx.lead P ty Y.Wg).rely s c):AtW3 P ty Y T g c :=
 ⟨h.1,h.2.1,λs2 u=>h.2.2 s2 ⟨z.1.trans u.1,λx=>u.2 (z.2 x)⟩⟩
def CS.status(h:CS P ty Y N val n T l tag j rk d a s):(a.status=.running/\tag≠.blk)∨(a.status=.blocked/\tag=.blk):=by
 cases h with
 |skd _ h=>exact .inl ⟨h.run λ_ _ x=>x.1,by simp⟩
 |sa1 _ h=>exact .inl ⟨h.run λ_ _ x=>x.1,by simp⟩
 |ske _ h=>exact .inl ⟨h.run λ_ _ x=>x.1,by simp⟩
 |sgo _ h=>exact .inl ⟨h.run λ_ _ x=>x.1,by simp⟩
 |kd h=>exact .inl ⟨h.run λ_ _ x=>x.1,by simp⟩
 |w1 h=>exact .inl ⟨h.run λ_ _ x=>x.1,by simp⟩
 |w2 h=>exact .inl ⟨h.run λ_ _ x=>x.1,by simp⟩
 |w3 h=>exact .inl ⟨h.run λ_ _ x=>x.1,by simp⟩
 |blk h=>exact .inr ⟨rfl,rfl⟩
 |w4 h=>exact .inl ⟨h.run λ_ _ x=>x.1,by simp⟩
 |ke h=>exact .inl ⟨h.run λ_ _ x=>x.1,by simp⟩
 |acq h=>exact .inl ⟨h.run λ_ _ x=>x.1,by simp⟩
def CS.wokenBy(h:CS P ty Y N val n T l tag j rk d a s)(g g':au)(w':az) :
  ∃ tag' rk',CS P ty Y N val n T l tag' j rk' d (woken P g g' w' a) s/\(tag'=tag∨(tag=.blk/\tag'=.w3))/\(mayWake P g=ab->g'.status=.running->tag'≠.blk):=by
 unfold Go.Conc.woken;split
 .rcases h.status with⟨i,b⟩|⟨_,rfl⟩
  .exact⟨tag,rk,by rw[again_running _ (.inl i)];exact h,.inl rfl,λ_ _=>b⟩
  .cases h with
   |blk hb=>exact⟨.w3,Rk.lift .leaf,by rw[again_blocked hb.1 hb.2.1];exact .w3 (show kl _ _ _ .leaf _ _ from hb),.inr ⟨rfl,rfl⟩,λ_ _=>by simp⟩
 grind
def kK{μ:Mu}{gs:Array au}{sl:Option (Nat×Nat)}{t:Trace}{D:Nat->WD}{A:Nat->Nat}{K:Nat->Rk}{st sm:Int}(I:sV P ty Y N val n T l μ gs w t p o j D A K d tag rk a s st sm)
  {x:Nat} (W:x<j) {g g':au} {es:Array Event} {a' s' d':Nat} {r':Rk} {F G:Int} (hg:gs[Y.base+x]?=aa g) (hgo:aK P ae g w=.go g' w' es)
  (hh:∀ b,b<w.heap.size->hm' b=p b) (Z:w.heap.size<=w'.heap.size) (L:∀ y,y<j->y≠x->GO Y p (o y) y w w') (J:DR Y p w w')
  (Xw:WS P ty Y N val hm' o x a' s' r' d' g' w') (V:∀ e∈es,(aM e).low w'.heap.size) (T6:∀ e∈es,∀ a,(aM e).touch?=aa a->a.loc.isMemory=ab->qj Y hm' (o x) x a)
  (T8:∀ e∈es,∀ a,e.loc≠.mark (.release a)) (E:deafBehind (D x).deaf es=d')
  (S:s'<=6->∃ r,RelBy (stA Y.Wg) (t++MemOp.ofEvents (Y.base+x) g.frame.fn g.frame.place es) (Y.base+x) r)
  (h1:a'=0->∀ i,1<=i->i<Y.kc->w'.cell? ⟨Y.C,Y.kc*x+i,af⟩=aa (val x i)) (h0:s'<=6->Has Y.C (Y.kc*x) (val x 0) w') (Q:PayAt Y.C N w') (O:WgAt ty Y.Wg w' F G)
  (H:∀ tag',(tag'=tag∨(tag=.blk/\tag'=.w3))->(mayWake P g=ab->g'.status=.running->tag'≠.blk)->Go.ConcN.Mode j (upd D x ⟨s',0,d'⟩) tag' F G)
  (X:(s'+a'<(D x).stage+A x/\cnt ⟨s',0,d'⟩<=cnt (D x))∨(s'=(D x).stage/\a'=A x/\Rk.lt r' (K (Y.base+x)))) (hjn:Y.base+j<=Y.base+n) :
  ∃ m ops μ',runT P (crowd gs w sl) (Y.base+x)=(.next m,ops)/\FG (Y.base+n) μ' μ/\Inv P ty Y N val n T l μ' m (t++ops):=by
 have hb:=I.fZ.tl.base;obtain⟨tag',rk',U,q,Xx⟩:=I.cs.wokenBy g g' w';have WM:(Y.base+x==0)=ae:=by simp;omega
 have R:=runT_crowd_go (P:=P) (sl:=sl) (i:=Y.base+x) hg (by rw[WM];exact hgo)
 have e1:=Go.ConcN.sumTo_upd D (⟨s',0,d'⟩:WD) cnt W;have e2:=Go.ConcN.sumTo_upd D (⟨s',0,d'⟩:WD) WD.stage W;have e3:sumTo j (upd A x a')+A x=sumTo j A+a':=Go.ConcN.sumTo_upd A a' id W;refine⟨_,_,(phi n (Vc j (upd D x ⟨s',0,d'⟩)) tag'+Ssum j (upd D x ⟨s',0,d'⟩)+sumTo j (upd A x a'),(upd K (Y.base+x) r',rk')),R,?_,
  _,w',sl,hm',o,j,_,_,_,d,tag',rk',woken P g g' w' a,s,F,G,rfl,⟨by rw[Go.ConcN.get_map_set _ _ _ _ (by omega),I.a0];rfl,U,I.lead.JH I.rely J,I.lead.sT I.rely.size hh,
   I.fZ.stepW W hh Z L Xw V T6 T8 E S h1 h0 Q ⟨_,_,O⟩,O,H tag' q Xx,rfl⟩⟩
 rw[I.mu,Go.ConcN.phi_retag n _ q];simp only[Vc,Ssum] at *;rcases X with⟨q1,q2⟩|⟨q1,q2,q3⟩
 .refine Prod.Lex.left _ _ ?_;have:=Go.ConcN.phi_mono n (v':=sumTo j λa=>cnt (upd D x ⟨s',0,d'⟩ a)) (v:=sumTo j λa=>cnt (D a)) (by omega) tag
  omega
 .have ec:cnt (⟨s',0,d'⟩:WD)=cnt (D x):=by simp only[cnt,q1]
  have ev:(sumTo j λa=>cnt (upd D x ⟨s',0,d'⟩ a))=sumTo j λa=>cnt (D a):=by omega
  have es':(sumTo j λa=>(upd D x ⟨s',0,d'⟩ a).stage)=sumTo j λa=>(D a).stage:=by omega
  have ea:sumTo j (upd A x a')=sumTo j A:=by omega
  rw[ev,es',ea];exact Prod.Lex.right _ (Prod.Lex.left _ _ ⟨Y.base+x,by omega,by rw[upd_same];exact q3,λk hk=>upd_ne K _ hk⟩)
end
end
section
open Go.Conc
open Go.ConcN (WD CTag Vc Ssum pend phi cnt WgLive PayAt Has RW DWs WSit RelBy sumTo upd upd_same upd_ne AtR0 isW3 isOpen OpenSt deafBehind_idle bk_cell okW_none Vc_upd Vc_le le_sumTo others_uncounted)
open Go.ConcR (KK WgAt stA smA rd wr mk Payload g_of_ofEvents Bk bk_of_mute ofEvent_loc_mark ofEvent_cell)
variable [Payload]
section
variable {P:aq}{ty:ar}{Y:Lay}{N:Nat}{val:Nat->Nat->ak}{n:Nat}{T G:au->St->Prop}{F hm':Nat->Nat}{O:Nat->Mem}{j:Nat}{tag:CTag}{rk:Rk}{d:Nat}{a:au}{s:St}{w w':az}
omit [Payload] in
def GO.wg(h:Aside Y.Wg w w')(z:F Y.Wg=0)(k:1<=Y.base)(hM:∀ b o v,O j b o=aa v->b≠Y.Wg)(hC:Y.C≠Y.Wg):GO Y F (O j) j w w' :=
 ⟨by rw[h.size];exact bc _,λb _ Z=>h.block b (λe=>by rw[e,z] at Z;omega),λb o v J V=>by rw[jM (h.block b (hM b o v J))];exact V,λo _ _=>jM (h.block _ hC) o,h.os,h.tape,h.output⟩
omit [Payload] in
def DR.wg(h:Aside Y.Wg w w'):DR Y F w w':=⟨by rw[h.size];exact bc _,λb _ _ _ E=>h.block b E,h.os,h.tape,h.output⟩
omit [Payload] in
def DR.refl(w:az):DR Y F w w:=⟨bc _,λ_ _ _ _ _=>rfl,rfl,rfl,rfl⟩
omit [Payload] in
def JJ{B:Nat}{es:Array Event}(h:∀ e∈es,Bk Y.Wg e)(z:Y.Wg<B):∀ e∈es,(aM e).low B:=by
 intro e c;rcases h e c with p|p|⟨ad,wr,rfl,H⟩
 .rw[ofEvent_loc_mark p];trivial
 .rw[ofEvent_loc_mark p];trivial
 .rw[ofEvent_cell];show ad.block<B;rw[H];exact z
omit [Payload] in
def Ns{x:Nat}{es:Array Event}(h:∀ e∈es,Bk Y.Wg e):∀ e∈es,∀ a,(aM e).touch?=aa a->a.loc.isMemory=ab->qj Y F (O x) x a:=by
 intro e c b k _;rcases h e c with p|p|⟨ad,wr,rfl,H⟩
 .rw[ofEvent_loc_mark p] at k;cases k
 .rw[ofEvent_loc_mark p] at k;cases k
 .rw[ofEvent_cell] at k;simp only[MemAct.touch?,de] at k;subst k;exact .inl ⟨ad,rfl,H,rfl⟩
omit [Payload] in
def BF{es:Array Event}(h:∀ e∈es,Bk Y.Wg e):∀ e∈es,∀ a,e.loc≠.mark (.release a):=by
 intro e c a R;rcases h e c with p|p|⟨ad,wr,rfl,_⟩
 .rw[p] at R;cases R
 .rw[p] at R;cases R
 .cases R
omit [Payload] in
def Nt{x:Nat}{σ σ':List aW}{s2:St}{es:Array Event}(U:lR F (O x) (Y.base+x) s)(W:aJ σ s)(S:eU s es)(st:Step σ s σ' s2) :
  (∀ e∈es,(aM e).low s2.w.heap.size)/\(∀ e∈es,∀ a,(aM e).touch?=aa a->a.loc.isMemory=ab->qj Y (nk F s.w.heap.size (Y.base+x)) (O x) x a) /\
  (∀ e∈es,e.loc≠.mark .disable/\e.loc≠.mark .enable)/\∀ e∈es,∀ a,e.loc≠.mark (.release a):=by
 have key:∀ e∈es,(aM e).low s2.w.heap.size/\(∀ a,(aM e).touch?=aa a->a.loc.isMemory=ab->qj Y (nk F s.w.heap.size (Y.base+x)) (O x) x a)/\(e.loc≠.mark .disable/\e.loc≠.mark .enable)/\∀ a,e.loc≠.mark (.release a):=by
  intro e c;have h:=S e c;obtain⟨loc,wr,sy⟩:=e;cases loc with
  |cell ad =>
   obtain⟨p,E,u⟩:=h;simp only at p E u;subst p;have l:ad.block<s.w.heap.size:=by
    rcases u with u|⟨⟨L,Q,u⟩,_⟩|⟨_,v,u⟩
    .exact u.elim
    .exact W.lt L Q _ u
    .exact gw.lt W.mem u
   refine⟨by rw[ofEvent_cell];exact cC l st.size,λb k _=>?_,⟨by simp,by simp⟩,by simp⟩
   rw[ofEvent_cell] at k;simp only[MemAct.touch?,de] at k;subst k;refine .inr ⟨rfl,?_⟩;rcases u with u|⟨⟨L,Q,u⟩,_⟩|⟨h4,v,u⟩
   .exact u.elim
   .exact .inl ⟨ad.block,rfl,by rw[eP l];exact(U.blk _ (.inr ⟨L,Q,u⟩)).1⟩
   .rcases(U.M _ _ _ u).1 with X|X
    .exact .inl ⟨ad.block,rfl,by rw[eP l];exact X⟩
    .refine .inr (.inr ⟨h4,ad.block,ad.off,v,?_,X⟩);obtain⟨b,o,sp⟩:=ad
     grind
  |obj r =>
   obtain⟨p,E⟩:=h;simp only at p E;subst p;obtain⟨L,Q,u⟩:=E.resolve_left id;have l:=W.lt L Q _ u;refine⟨?_,λb k _=>?_,⟨by simp,by simp⟩,by simp⟩
   .simp[aM,MemAct.low,Loc.low];exact cC l st.size
   .simp[aM,MemAct.touch?] at k;subst k;exact .inr ⟨rfl,.inl ⟨r,rfl,by rw[eP l];exact(U.blk _ (.inr ⟨L,Q,u⟩)).1⟩⟩
  |mark m =>
   simp only[oB] at h;rcases h with rfl|⟨f,rfl⟩
   .exact⟨by simp[aM,MemAct.low],λb k=>by simp[aM,MemAct.touch?] at k,⟨by simp,by simp⟩,by simp⟩
   .exact⟨by simp[aM,MemAct.low],λb k=>by simp[aM,MemAct.touch?] at k,⟨by simp,by simp⟩,by simp⟩
  |_=>exact h.elim
 grind
def stepWorker{μ:Mu}{gs:Array au}{sl:Option (Nat×Nat)}{t:Trace}{D:Nat->WD}{A:Nat->Nat}{K:Nat->Rk}{st sm:Int}(I:sV P ty Y N val n T G μ gs w t F O j D A K d tag rk a s st sm)(hn:n<2147483648)(hj:j<=n)
  (hpd:j+pend tag<=n) {x:Nat} (hx:x<j) {g:au} (hg:gs[Y.base+x]?=aa g) (rD:g.status=.running) :
  ∃ m₁ ops μ',runT P (crowd gs w sl) (Y.base+x)=(.next m₁,ops)/\FG (Y.base+n) μ' μ/\Inv P ty Y N val n T G μ' m₁ (t++ops):=by
 have JK:=I.fZ.tl.base;obtain⟨g₁,Z1,hs⟩:=I.fZ.wk x hx;obtain rfl:g=g₁:=by grind
 generalize DS:(D x).stage=sg at hs;generalize Xz:K (Y.base+x)=r at hs;generalize S5:(D x).deaf=dd at hs;generalize hA:A x=ax at hs;have Z2:Deaf t (Y.base+x)=dd:=by rw[I.fZ.deafW x hx,S5]
 have hVj:=Vc_le j D;have same:∀ m' FH,Go.ConcN.Mode j (upd D x ⟨sg,m',FH⟩) tag st sm:=λm' FH=>by have:=I.mode.same (i:=x) m' FH;rwa [DS] at this
 cases hs with
 |@am r g s0 w p E u =>
  rcases p.norm (λs0=>b9 s0 { s0 with w:=w }/\lR F (O x) (Y.base+x) s0) (λs0 s' T9 hi=>⟨hi.1.ghost T9,hi.2.ghost T9⟩) (λ_ s0 s' T9 hi=>⟨hi.1.forget T9,hi.2.forget T9⟩) ⟨E,u⟩ with⟨s',⟨k1,k2⟩,lS⟩|⟨_,s',⟨k1,k2⟩,lT⟩
  ·
   obtain⟨g',w2,es,hgo,z,XA,m,hk⟩:=lS.2 w k1 I.fZ.pay I.fZ.live;have Z3:=I.fZ.kc;refine kK I hx hg hgo (hm':=F) (λ_ _=>rfl) (by rw[z.size];exact bc _) (λy hy Z4=>⟨by rw[z.size];exact bc _,λb _ k=>z.block b (λe=>by rw[e,I.fZ.tl.hC] at k;omega),λb o v J V=>?_,λo Z5 Z6=>z.out o ?_,z.os,z.tape,z.output⟩)
    ⟨by rw[z.size];exact bc _,λb _ _ E _=>z.block b E,z.os,z.tape,z.output⟩ (.rel hk) (λe c=>?_) (λe c b k _=>?_) (λe c=>?_) ?_ (λh=>absurd h (by decide)) (λ_ i _ hi=>z.new i hi) (λh=>absurd h (by decide)) z.pay
    (I.wg.of_block (z.block _ (mi I.fZ.tl.ne))) (λ_ ht _=>(same _ _).retag ht) (.inl ⟨by omega,by simp[cnt,DS]⟩) (by omega)
   .rw[jM (z.block b (I.fZ.tl.ms y hy b o v J).2.1)];exact V
   .rcases Nat.lt_or_gt_of_ne Z4 with h|h
    .have:=uO Y.kc (show y+1<=x from h)
     grind
    .have:=uO Y.kc (show x+1<=y from h)
     grind
   .obtain⟨o,rfl,_⟩:=XA e c;rw[ofEvent_cell];show Y.C<_;rw[z.size];exact I.fZ.BE
   .obtain⟨o,rfl,Z5,Z6⟩:=XA e c;rw[ofEvent_cell] at k;simp only[MemAct.touch?,de] at k;subst k;exact .inr ⟨rfl,.inr (.inl ⟨o,rfl,Z5,Z6⟩)⟩
   .grind
   .rw[S5];exact deafBehind_idle (λe c=>by grind) 0
  ·
   obtain⟨g',s2,es,r',hgo,XB,QG,l⟩:=lT _ k1;obtain⟨⟨σ,σ',W,ld,IL⟩,S⟩:=XB.resolve_right id;have k3:lR F (O x) (Y.base+x) { s' with w:=w }:=k2.rely k1.size;obtain⟨e1,e2,e3,e4⟩:=Nt k3 W S IL;have vV:∀ b,b<w.heap.size->F b≠Y.base+x->s2.w.heap[b]?=w.heap[b]?:=λb k Dg=>IL.eB b k λL Q P7=>Dg (k3.blk b (.inr ⟨L,Q,P7⟩)).1
   refine kK I hx hg hgo (hm':=nk F w.heap.size (Y.base+x)) (λb k=>eP k) IL.size (λy hy Z4=>⟨IL.size,λb k hby=>vV b k (by omega),λb o v J V=>?_,λo _ _=>jM (vV _ I.fZ.BE (by rw[I.fZ.tl.hC];omega)) o,IL.os,IL.tape,IL.output⟩)
    ⟨IL.size,λb k h0 _ _=>vV b k (by omega),IL.os,IL.tape,IL.output⟩ (.am QG (b9.vU ld.mem) (k3.step ld IL)) e1 e2 e4 (by rw[S5];exact deafBehind_idle e3 0) (λh=>absurd h (by decide)) (λh=>absurd h (by decide)) (λh=>absurd h (by decide)) ?_
    (I.wg.of_block (vV _ I.fZ.zI (by rw[I.fZ.tl.IJ];omega))) (λ_ ht _=>(same _ _).retag ht) (.inr ⟨DS.symm,hA.symm,by rw[Xz];exact l⟩) (by omega)
   .rw[jM (vV b (I.fZ.Nr y hy b o v J) (by rw[(I.fZ.tl.ms y hy b o v J).1];omega))];exact V
   .obtain⟨cs,c1,c2⟩:=I.fZ.pay;exact⟨cs,(vV _ I.fZ.BE (by rw[I.fZ.tl.hC];omega)).trans c1,c2⟩
 |@rel m g w h =>
  rcases Goes.cases h with lS|⟨m',rfl,lT⟩
  ·
   obtain⟨_,XC,g',hgo,m₂,hk⟩:=lS w (Go.ConcN.RW.refl w);refine kK I hx hg hgo (hm':=F) (λ_ _=>rfl) (bc _) (λy _ _=>.refl ..) (.refl w) (.tail (by decide) (.k1 hk)) (λe c=>?_) (λe c b k _=>?_) (λe c=>?_) (by rw[S5];rfl) (λ_=>⟨t.size,RelBy.new Z2 _ _⟩) (λ_=>I.fZ.xG x hx hA) (λ_=>by simpa using XC) I.fZ.pay I.wg
    (λ_ ht _=>(I.mode.counted hx (by omega) (.inl rfl) _ _).retag ht) (.inl ⟨by omega,by simp[cnt,DS]⟩) (by omega)
   .simp at c;subst c;exact I.fZ.zI
   .simp at c;subst c;simp[mk,aM,MemAct.touch?] at k
   .simp at c;subst c;simp[mk]
  .obtain⟨g',w',es,hgo,⟨rfl,rfl⟩,DT⟩:=lT w (Go.ConcN.RW.refl w);exact kK I hx hg hgo (hm':=F) (λ_ _=>rfl) (bc _) (λy _ _=>.refl ..) (.refl w') (.rel DT) (by simp) (by simp) (by simp) (by rw[S5];rfl) (λh=>absurd h (by decide)) (λ_=>I.fZ.xG x hx hA) (λh=>absurd h (by decide)) I.fZ.pay I.wg (λ_ ht _=>(same _ _).retag ht)
    (.inr ⟨DS.symm,hA.symm,by rw[Xz];exact Rk.DQ _ s⟩) (by omega)
 |@tail sg m dd g w h6 h =>
  have Pt:∀ {g':au} {w':az} {es:Array Event} {s' m' FH:Nat} {qd GP:Int},aK P ae g w=.go g' w' es->Aside Y.Wg w w'->WgAt ty Y.Wg w' qd GP->(∀ e∈es,Bk Y.Wg e) ->
    (∀ jx e,es[jx]?=aa e->(aM e).touch?=af∨0<deafBehind dd (es.extract 0 jx))->s'<=6->WSit P ty Y.Wg Y.C N Pr Pr 0 (Y.kc*x+1) (val x 0) s' m' FH g' w'->deafBehind dd es=FH ->
    (∀ tag',(tag'=tag∨(tag=.blk/\tag'=.w3))->(mayWake P g=ab->g'.status=.running->tag'≠.blk)->Go.ConcN.Mode j (upd D x ⟨s',0,FH⟩) tag' qd GP)->((s'<sg/\cnt ⟨s',0,FH⟩<=cnt (D x))∨(s'=sg/\m'+1=m)) ->
    ∃ m₁ ops μ',runT P (crowd gs w sl) (Y.base+x)=(.next m₁,ops)/\FG (Y.base+n) μ' μ/\Inv P ty Y N val n T G μ' m₁ (t++ops):=by
   intro g' w' es s' m' FH qd GP hgo DU JL GQ hd XD Ua XE vW l;obtain⟨cs,XF,XG⟩:=I.fZ.pay;refine kK I hx hg hgo (hm':=F) (λ_ _=>rfl) (by rw[DU.size];exact bc _) (λy hy _=>.wg DU I.fZ.tl.IJ JK (λb o v J=>(I.fZ.tl.ms y hy b o v J).2.2.1) I.fZ.tl.ne) (.wg DU) (.tail XD Ua) (JJ GQ (by rw[DU.size];exact I.fZ.zI)) (Ns GQ) (BF GQ) (by rw[S5];exact XE)
    (λ_=>let ⟨r,hr⟩:=I.fZ.rel x hx (by omega);⟨r,hr.book Z2 _ _ GQ hd⟩) (λ_ i hi1 Dp=>(jM (DU.block _ I.fZ.tl.ne) _).trans (I.fZ.xG x hx hA i hi1 Dp)) (λ_=>(jM (DU.block _ I.fZ.tl.ne) _).trans (I.fZ.BD x hx (by omega))) ⟨cs,(DU.block _ I.fZ.tl.ne).trans XF,XG⟩ JL vW
    (l.imp (λh=>⟨by omega,h.2⟩) λh=>⟨by omega,hA.symm,by rw[Xz,<-h.2];exact Rk.DQ _ s⟩) (by omega)
  have book:∀ {g':au} {w':az} {es:Array Event} {s' m' FH:Nat} {qd GP:Int},aK P ae g w=.go g' w' es->Aside Y.Wg w w'->WgAt ty Y.Wg w' qd GP->(∀ e∈es,Bk Y.Wg e) ->
    (∀ jx e,es[jx]?=aa e->(aM e).touch?=af∨0<deafBehind dd (es.extract 0 jx))->s'<=6->WSit P ty Y.Wg Y.C N Pr Pr 0 (Y.kc*x+1) (val x 0) s' m' FH g' w'->deafBehind dd es=FH ->
    Go.ConcN.Mode j (upd D x ⟨s',0,FH⟩) tag qd GP->((s'<sg/\cnt ⟨s',0,FH⟩<=cnt (D x))∨(s'=sg/\m'+1=m)) ->
    ∃ m₁ ops μ',runT P (crowd gs w sl) (Y.base+x)=(.next m₁,ops)/\FG (Y.base+n) μ' μ/\Inv P ty Y N val n T G μ' m₁ (t++ops) :=
   λhgo DU JL GQ hd XD Ua XE vW l=>Pt hgo DU JL GQ hd XD Ua XE (λ_ ht _=>vW.retag ht) l
  have idle:∀ {g':au} {m':Nat},aK P ae g w=.go g' w #[]->WSit P ty Y.Wg Y.C N Pr Pr 0 (Y.kc*x+1) (val x 0) sg m' dd g' w->m'+1=m ->
    ∃ m₁ ops μ',runT P (crowd gs w sl) (Y.base+x)=(.next m₁,ops)/\FG (Y.base+n) μ' μ/\Inv P ty Y N val n T G μ' m₁ (t++ops):=by
   intro g' m' hgo Ua F;exact book hgo (.refl Y.Wg w) I.wg (by simp) (by simp) h6 Ua rfl (same _ _) (.inr ⟨rfl,F⟩)
  cases h with
  |r0 h=>omega
  |k1 h =>
   rcases Goes.cases h with lS|⟨m',rfl,lT⟩
   .obtain⟨_,g',hgo,m₂,hk⟩:=lS w (Go.ConcN.RW.refl w);exact book hgo (.refl Y.Wg w) I.wg (by intro e c;simp at c;subst c;exact .inl rfl) (by intro jx e c;exact .inl (by have:=uL c;simp at this;subst this;rfl)) (by decide) (.d1 hk) rfl (I.mode.counted hx (by omega) (.inr rfl) _ _) (.inl ⟨by omega,by simp[cnt,DS]⟩)
   .obtain⟨g',w',es,hgo,⟨rfl,rfl⟩,DT⟩:=lT w (Go.ConcN.RW.refl w);exact idle hgo (.k1 DT) rfl
  |d1 h =>
   rcases Goes.cases h with lS|⟨m',rfl,lT⟩
   .obtain⟨_,Jr⟩:=lS w (Go.ConcN.RW.refl w);have vc:=I.wg;have JM:=I.mode;have V6:cnt (D x)=1:=by simp[cnt,DS]
    have hV1:1<=Vc j D:=by have:=le_sumTo (f:=λx=>cnt (D x)) hx;simp only[Vc];omega
    have bk2:∀ e∈#[rd (stA Y.Wg),wr (stA Y.Wg)],Bk Y.Wg e:=by intro e c;simp at c;rcases c with rfl|rfl <;> exact bk_cell _ _ rfl
    have Wc:∀ jx e,(#[rd (stA Y.Wg),wr (stA Y.Wg)]:Array Event)[jx]?=aa e->(aM e).touch?=af∨0<deafBehind 1 ((#[rd (stA Y.Wg),wr (stA Y.Wg)]:Array Event).extract 0 jx):=by
     intro jx e c
     match jx,c with
     |0,_=>exact .inr (by simp[deafBehind])
     |1,_=>exact .inr (by simp[deafBehind,rd])
     |jx+2,c=>simp at c
    have Z7:∀ q,cnt (⟨1,q,1⟩:WD)=0:=λ_=>rfl
    have dz:∀ q,OpenSt j D->OpenSt j (upd D x ⟨1,q,1⟩):=λq h a H=>by
     by_cases e:a=x
     .subst e;rw[upd_same];simp
     .rw[upd_ne D _ e];exact h a H
    generalize ace:st=Ub at JM vc;generalize acf:sm=sm0 at JM vc;cases JM with
    |opn p E u =>
     obtain⟨v,J⟩:∃ v,Vc j D+pend tag=v+1:=⟨Vc j D+pend tag-1,by omega⟩
     rw[J] at vc;have Qh:WgAt ty Y.Wg w (((v:Nat)+1)*KK+((0:Nat):Int)) 0:=by simpa using vc
     obtain⟨g',hgo,_,hq⟩:=Jr v 0 (by omega) (by omega) Qh
     obtain⟨q,hq⟩:=hq (by omega)
     have SQ:Vc j (upd D x ⟨1,0,1⟩)+pend tag=v:=by have:=Vc_upd D (⟨1,0,1⟩:WD) hx;have:=Z7 0;omega
     refine book hgo (aside_setCell w (stA Y.Wg) _) (vc.setSt _) bk2 Wc (by decide) (.quit hq) rfl ?_ (.inl ⟨by omega,by simp[cnt]⟩)
     have e:((v:Nat):Int)*KK+((0:Nat):Int)=((Vc j (upd D x ⟨1,0,1⟩)+pend tag:Nat):Int)*KK:=by rw[SQ];simp
     rw[e];exact .opn p (dz 0 E) (λvs ev=>by have:=u vs ev;omega)
    |reg p E u =>
     obtain⟨v,J⟩:∃ v,Vc j D=v+1:=⟨Vc j D-1,by omega⟩
     rw[J] at vc;have hp:pend tag=0:=by cases tag <;> first|rfl|exact p.elim
     have Qh:WgAt ty Y.Wg w (((v:Nat)+1)*KK+((1:Nat):Int)) 0:=by simpa using vc
     obtain⟨g',hgo,R,hq⟩:=Jr v 1 (by omega) (by omega) Qh
     by_cases TK:v=0
     .subst TK;obtain⟨m₂,hk⟩:=R ⟨rfl,rfl⟩;refine book hgo (aside_setCell w (stA Y.Wg) _) (vc.setSt _) bk2 Wc (by decide) (.d2 hk) rfl ?_ (.inl ⟨by omega,by simp[cnt]⟩)
      have zt:∀ a,a<j->a≠x->(D a).stage=1:=λa H e=>by
       have c0:=others_uncounted hx J V6 a H e;have:=E a H;simp only[cnt] at c0;split at c0 <;> omega
      have:=Go.ConcN.Mode.last (j:=j) (D:=upd D x ⟨4,0,1⟩) (tag:=tag) x p hx (by rw[upd_same];simp) (λa H e=>by rw[upd_ne D _ e];exact zt a H e)
      rw[upd_same] at this;simpa using this
     .obtain⟨q,hq⟩:=hq (by omega)
      have SQ:Vc j (upd D x ⟨1,0,1⟩)=v:=by have:=Vc_upd D (⟨1,0,1⟩:WD) hx;have:=Z7 0;omega
      refine book hgo (aside_setCell w (stA Y.Wg) _) (vc.setSt _) bk2 Wc (by decide) (.quit hq) rfl ?_ (.inl ⟨by omega,by simp[cnt]⟩)
      have e:((v:Nat):Int)*KK+((1:Nat):Int)=((Vc j (upd D x ⟨1,0,1⟩):Nat):Int)*KK+1:=by rw[SQ];simp
      rw[e];exact .reg p (dz 0 E) (by omega)
    |last L _ E u h4 =>
     grind
    |sema E=>have:=E x hx;omega
    |fin _ E=>have:=E x hx;omega
   .obtain⟨g',w',es,hgo,⟨rfl,rfl⟩,DT⟩:=lT w (Go.ConcN.RW.refl w);exact idle hgo (.d1 DT) rfl
  |d2 h =>
   rcases Goes.cases h with lS|⟨m',rfl,lT⟩
   .obtain⟨_,QH⟩:=lS w (Go.ConcN.RW.refl w);obtain⟨Uc,zt,e1,e2⟩:=I.mode.isLast hx (by omega)
    have vc:=I.wg;rw[e1,e2,DS] at vc;obtain⟨g',hgo,m₂,hk⟩:=QH (by simpa using vc)
    refine book hgo (.refl Y.Wg w) vc (by intro e c;simp at c;subst c;exact bk_cell _ _ rfl) (by intro jx e c;match jx,c with|0,_=>exact .inr (by simp[deafBehind])|jx+1,c=>simp at c) (by decide) (.d3 hk) rfl ?_ (.inl ⟨by omega,by simp[cnt]⟩)
    have:=Go.ConcN.Mode.last (j:=j) (D:=upd D x ⟨3,0,1⟩) (tag:=tag) x Uc hx (by rw[upd_same];simp) (λa H e=>by rw[upd_ne D _ e];exact zt a H e)
    rw[upd_same] at this;simpa using this
   .obtain⟨g',w',es,hgo,⟨rfl,rfl⟩,DT⟩:=lT w (Go.ConcN.RW.refl w);exact idle hgo (.d2 DT) rfl
  |d3 h =>
   rcases Goes.cases h with lS|⟨m',rfl,lT⟩
   .obtain⟨_,QH⟩:=lS w (Go.ConcN.RW.refl w);obtain⟨Uc,zt,e1,e2⟩:=I.mode.isLast hx (by omega)
    have vc:=I.wg;rw[e1,e2,DS] at vc;obtain⟨g',hgo,m₂,hk⟩:=QH (by simpa using vc)
    refine book hgo (aside_setCell w (stA Y.Wg) _) (vc.setSt 0) (by intro e c;simp at c;subst c;exact bk_cell _ _ rfl) (by intro jx e c;match jx,c with|0,_=>exact .inr (by simp[deafBehind])|jx+1,c=>simp at c) (by decide) (.d4 hk) rfl ?_ (.inl ⟨by omega,by simp[cnt]⟩)
    have:=Go.ConcN.Mode.last (j:=j) (D:=upd D x ⟨2,0,1⟩) (tag:=tag) x Uc hx (by rw[upd_same];simp) (λa H e=>by rw[upd_ne D _ e];exact zt a H e)
    rw[upd_same] at this;simpa using this
   .obtain⟨g',w',es,hgo,⟨rfl,rfl⟩,DT⟩:=lT w (Go.ConcN.RW.refl w);exact idle hgo (.d3 DT) rfl
  |d4 h =>
   rcases Goes.cases h with lS|⟨m',rfl,lT⟩
   .obtain⟨_,hmw,QH⟩:=lS w (Go.ConcN.RW.refl w);obtain⟨Uc,zt,e1,e2⟩:=I.mode.isLast hx (by omega)
    have vc:=I.wg;rw[e1,e2,DS] at vc;obtain⟨g',hgo,q,hq⟩:=QH (by simpa using vc)
    have vX:g'.status=.running:=by
     cases q with
     |zero=>exact absurd hq.2 (by decide)
     |succ q=>exact hq.elim (λx=>absurd x.2 (by decide)) (λx=>x.1)
    refine Pt hgo (aside_setCell w (smA Y.Wg) _) (vc.setSm 1) (es:=semEvents (smA Y.Wg)) ?_ ?_ (by decide) (.quit hq) (by simp[deafBehind,semEvents]) ?_ (.inl ⟨by omega,by simp[cnt]⟩)
    .intro e c;simp[semEvents] at c;rcases c with rfl|rfl|rfl|rfl
     .exact .inl rfl
     .exact bk_cell _ _ rfl
     .exact bk_cell _ _ rfl
     .exact .inr (.inl rfl)
    .intro jx e c
     match jx,c with
     |0,c=>simp[semEvents] at c;subst c;exact .inl rfl
     |1,_=>exact .inr (by simp[deafBehind,semEvents])
     |2,_=>exact .inr (by simp[deafBehind,semEvents])
     |3,c=>simp[semEvents] at c;subst c;exact .inl rfl
     |jx+4,c=>simp[semEvents] at c
    .intro tag' ht U;have hnb:=U hmw vX;have e3:tag'=.w3:=by
      rcases ht with rfl|⟨_,rfl⟩
      .cases tag' <;> first|rfl|exact Uc.elim|exact absurd rfl hnb
      .rfl
     subst e3;simp only[cj];exact .sema λa H=>by
      by_cases e:a=x
      .subst e;rw[upd_same]
      .rw[upd_ne D _ e];exact zt a H e
   .obtain⟨g',w',es,hgo,⟨rfl,rfl⟩,DT⟩:=lT w (Go.ConcN.RW.refl w);exact idle hgo (.d4 DT) rfl
  |quit h =>
   cases m with
   |zero=>rw[h.1] at rD;cases rD
   |succ q =>
    rcases h with⟨hf,_⟩|⟨_,g',es,Pu,lT,hq⟩
    .rw[hf] at rD;cases rD
    .have GQ:∀ e∈es,Bk Y.Wg e:=λe c=>bk_of_mute (Pu e c)
     have ZW:∀ jx e,es[jx]?=aa e->(aM e).touch?=af∨0<deafBehind dd (es.extract 0 jx):=λjx e c=>.inl (touch_mute (Pu e (uL c)))
     exact book (lT w) (.refl Y.Wg w) I.wg GQ ZW (by decide) (.quit hq) rfl (same _ _) (.inr ⟨rfl,rfl⟩)
end
end
section
open Go.Conc
open Go.ConcN (WD CTag Vc Ssum pend phi cnt WgLive PayAt Has RW DWs WSit RelBy sumTo upd upd_same upd_ne AtR0 isW3 isOpen OpenSt deafBehind_idle bk_cell okW_none Vc_upd Vc_le le_sumTo others_uncounted sumTo_upd_out bk_dis bk_en bk_rd bk_rw bk_sem allQuit_of exists_counted)
open Go.ConcR (KK WgAt stA smA rd wr mk Payload g_of_ofEvents Bk bk_of_mute ofEvent_loc_mark ofEvent_cell ofEvent_mk)
variable [Payload]
section
variable {P:aq}{ty:ar}{Y:Lay}{N:Nat}{val:Nat->Nat->ak}{n:Nat}{T k:au->St->Prop}{p hm':Nat->Nat}{z H:Nat->Mem}{j:Nat}{tag:CTag}{rk:Rk}{d:Nat}{a:au}{s:St}{w w':az}
 {U:Mu} {Q:Array au} {sl:Option (Nat×Nat)} {t:Trace} {D:Nat->WD} {A:Nat->Nat} {K:Nat->Rk} {st sm:Int}
omit [Payload] in
def TL.congr{B:Nat}(h:TL Y p z t j B)(e:∀ y,y<j->H y=z y):TL Y p H t j B :=
 ⟨h.base,h.IJ,h.hC,h.ne,h.Pq,h.QD,h.IK,λx G=>by rw[e x G];exact h.ms x G,h.T0,h.nr,h.seen,h.old,h.QE,h.GN,λi a hi ha p=>(h.new i a hi ha p).imp id λ⟨x,G,u,E⟩=>⟨x,G,u,by rw[e x G];exact E⟩,
  λx G=>by rw[e x G];exact h.mw x G,h.over⟩
def WS.congr{x a st d:Nat}{r:Rk}{g:au}(h:WS P ty Y N val p z x a st r d g w)(e:H x=z x):WS P ty Y N val p H x a st r d g w:=by
 cases h with
 |am u E J=>exact .am u E (by rw[e];exact J)
 |rel u=>exact .rel u
 |tail h0 u=>exact .tail h0 u
def Com.congr{q:Nat}(h:Com P ty Y N val p z j Q w t D A K q)(e:∀ y,y<j->H y=z y):Com P ty Y N val p H j Q w t D A K q :=
 ⟨h.size,h.lv,h.above,λx G=>let ⟨g,u,E⟩:=h.wk x G;⟨g,u,E.congr (e x G)⟩,h.tl.congr e,h.norel,h.deaf0,h.deafW,h.rel,h.xG,h.BD,h.pay,h.live,h.zI,h.BE,h.ML,h.kc,λy I=>by rw[e y I];exact h.Nr y I⟩
omit [Payload] in
def Nu{σ σ':List aW}{s2:St}{es:Array Event}(hw:jL Y p z j s)(hh:aJ σ s)(R:eU s es)(st:Step σ s σ' s2) :
  (∀ e∈es,(aM e).low s2.w.heap.size)/\(∀ e∈es,∀ a,(aM e).touch?=aa a->a.loc.isMemory=ab->rW Y (nk p s.w.heap.size 0) a) /\
  (∀ e∈es,∀ a,(aM e).touch?=aa a->a.kind=.plain->a.write=ab->∀ x,x<j->∀ b o v,a.loc=.cell ⟨b,o,af⟩->z x b o≠aa v) /\
  (∀ e∈es,e.loc≠.mark .disable/\e.loc≠.mark .enable)/\∀ e∈es,∀ a,e.loc≠.mark (.release a):=by
 have key:∀ e∈es,(aM e).low s2.w.heap.size/\(∀ a,(aM e).touch?=aa a->a.loc.isMemory=ab->rW Y (nk p s.w.heap.size 0) a) /\
   (∀ a,(aM e).touch?=aa a->a.kind=.plain->a.write=ab->∀ x,x<j->∀ b o v,a.loc=.cell ⟨b,o,af⟩->z x b o≠aa v)/\(e.loc≠.mark .disable/\e.loc≠.mark .enable)/\∀ a,e.loc≠.mark (.release a):=by
  intro e F;have h:=R e F;obtain⟨loc,wr,sy⟩:=e;cases loc with
  |cell ad =>
   obtain⟨u,E,J⟩:=h;simp only at u E J;subst u;have l:ad.block<s.w.heap.size/\p ad.block=0/\ad.block≠Y.C/\ad.block≠Y.Wg/\¬Y.Sh ad.block:=by
    rcases J with J|⟨⟨L,V,J⟩,_⟩|⟨_,v,J⟩
    .exact J.elim
    .obtain⟨k1,W,O,Z,S⟩:=hw.blk _ (.inr ⟨L,V,J⟩);exact⟨S,k1,W,O,Z⟩
    .obtain⟨k1,W,O,Z,S⟩:=hw.M _ _ _ J;exact⟨S,k1,W,O,Z⟩
   refine⟨by rw[ofEvent_cell];exact cC l.1 st.size,λb c _=>?_,λb c _ hbw x G b' o v hl X=>?_,⟨by simp,by simp⟩,by simp⟩
   .rw[ofEvent_cell] at c;simp only[MemAct.touch?,de] at c;subst c;exact .inr ⟨ad.block,rfl,by rw[eP l.1];exact l.2.1,l.2.2.2.1,l.2.2.1,l.2.2.2.2,rfl⟩
   .rw[ofEvent_cell] at c;simp only[MemAct.touch?,de] at c;subst c;simp only at hbw hl;have hM:=hw.ms x G b' o v X
    grind
  |obj r =>
   obtain⟨u,E⟩:=h;simp only at u E;subst u;obtain⟨L,V,J⟩:=E.resolve_left id;obtain⟨k1,W,O,Z,S⟩:=hw.blk _ (.inr ⟨L,V,J⟩);refine⟨?_,λb c _=>?_,λb c _ _ x _ b' o v hl=>?_,⟨by simp,by simp⟩,by simp⟩
   .simp[aM,MemAct.low,Loc.low];exact cC S st.size
   .simp[aM,MemAct.touch?] at c;subst c;exact .inr ⟨r,rfl,by rw[eP S];exact k1,O,W,Z,rfl⟩
   .simp[aM,MemAct.touch?] at c;subst c;cases hl
  |mark m =>
   simp only[oB] at h;rcases h with rfl|⟨f,rfl⟩
   .exact⟨by simp[aM,MemAct.low],λb c=>by simp[aM,MemAct.touch?] at c,λb c=>by simp[aM,MemAct.touch?] at c,⟨by simp,by simp⟩,by simp⟩
   .exact⟨by simp[aM,MemAct.low],λb c=>by simp[aM,MemAct.touch?] at c,λb c=>by simp[aM,MemAct.touch?] at c,⟨by simp,by simp⟩,by simp⟩
  |_=>exact h.elim
 grind
def sW(I:sV P ty Y N val n T k U Q w t p z j D A K d tag rk a s st sm){a':au}{es:Array Event}{tag':CTag}{rk':Rk}{qd GP:Int}{s':St}(hgo:aK P ab a w=.go a' w' es)
  (hh:∀ b,b<w.heap.size->hm' b=p b) (IG:w.heap.size<=w'.heap.size) (XH:∀ y,y<j->GO Y p (z y) y w w')
  (XI:∀ e∈es,(aM e).low w'.heap.size) (htm:∀ e∈es,∀ a,(aM e).touch?=aa a->a.loc.isMemory=ab->rW Y hm' a)
  (T6:∀ e∈es,∀ a,(aM e).touch?=aa a->a.kind=.plain->a.write=ab->∀ x,x<j->∀ b o v,a.loc=.cell ⟨b,o,af⟩->z x b o≠aa v)
  (T8:∀ e∈es,∀ a,e.loc≠.mark (.release a)) (JN:PayAt Y.C N w') (vc:WgAt ty Y.Wg w' qd GP)
  (GR:CS P ty Y N val n T k tag' j rk' (deafBehind d es) a' s') (Ud:b9 s' { s' with w:=w' }) (g:jL Y hm' z j s') (q:Go.ConcN.Mode j D tag' qd GP)
  (l:phi n (Vc j D) tag'<phi n (Vc j D) tag∨(phi n (Vc j D) tag'=phi n (Vc j D) tag/\Rk.lt rk' rk)) :
  ∃ m₁ ops μ',runT P (crowd Q w sl) 0=(.next m₁,ops)/\FG (Y.base+n) μ' U/\Inv P ty Y N val n T k μ' m₁ (t++ops):=by
 have c:=I.fZ.tl.base;have rD:=runT_crowd_go (P:=P) (sl:=sl) (i:=0) I.a0 (by simpa using hgo)
 refine⟨_,_,(phi n (Vc j D) tag'+Ssum j D+sumTo j A,(K,rk')),rD,?_,_,w',sl,hm',z,j,D,A,K,deafBehind d es,tag',rk',a',s',qd,GP,rfl,
  ⟨Go.ConcN.get_map_set_same _ _ _ (by rw[I.fZ.size];omega),GR,Ud,g,I.fZ.step0 hh IG XH XI htm T6 T8 JN ⟨_,_,vc⟩,vc,q,rfl⟩⟩
 rw[I.mu];rcases l with h|⟨u,E⟩
 .exact Prod.Lex.left _ _ (by omega)
 .rw[u];exact Prod.Lex.right _ (Prod.Lex.right _ E)
def iv(I:sV P ty Y N val n T k U Q w t p z j D A K d tag rk a s st sm){a':au}{es:Array Event}{rk':Rk}{s1 s':St}(u:b9 s1 { s1 with w:=w })(q:jL Y p z j s1)(hgo:aK P ab a w=.go a' s'.w es)
  (XB:qu { s1 with w:=w } s' es∨Es Y.Wg { s1 with w:=w } s' es) (GR:CS P ty Y N val n T k tag j rk' d a' s') (l:Rk.lt rk' rk) :
  ∃ m₁ ops μ',runT P (crowd Q w sl) 0=(.next m₁,ops)/\FG (Y.base+n) μ' U/\Inv P ty Y N val n T k μ' m₁ (t++ops):=by
 rcases XB with⟨⟨σ,σ',hh,ld,g⟩,R⟩|⟨rfl,ad,Z8,XA⟩
 .have O:jL Y p z j { s1 with w:=w }:=q.rely u.size;obtain⟨e1,e2,e3,e4,e5⟩:=Nu O hh R g;have vV:∀ b,b<w.heap.size->(p b≠0∨b=Y.C∨b=Y.Wg)->s'.w.heap[b]?=w.heap[b]?:=λb c Dg=>g.eB b c λL V P7=>by
   obtain⟨q1,q2,q3,_⟩:=O.blk b (.inr ⟨L,V,P7⟩)
   grind
  have JK:=I.fZ.tl.base;refine sW I hgo (hm':=nk p w.heap.size 0) (λb c=>eP c) g.size (λy hy=>⟨g.size,λb c hby=>vV b c (.inl (by omega)),λb o v X _=>ld.mem b o v (g.mem _ _ _ (q.ms y hy b o v X)),λo _ _=>jM (vV _ I.fZ.BE (.inr (.inl rfl))) o,g.os,g.tape,g.output⟩) e1 e2 e3 e5 ?_
   (I.wg.of_block (vV _ I.fZ.zI (.inr (.inr rfl)))) (s':=s') (tag':=tag) (rk':=rk') (by rw[deafBehind_idle e4];exact GR) (b9.vU ld.mem) (O.step ld g I.fZ.zI I.fZ.BE I.fZ.ML) I.mode (.inr ⟨rfl,l⟩)
  obtain⟨cs,c1,c2⟩:=I.fZ.pay;exact⟨cs,(vV _ I.fZ.BE (.inr (.inl rfl))).trans c1,c2⟩
 .have S6:∀ e∈es,e=mk (.read ad)∨e=mk (.write ad):=by
   grind
  refine sW I hgo (hm':=p) (λb c=>rfl) (bc _) (λy hy=>.refl ..) (λe F=>?_) (λe F b c _=>?_) (λe F b c hk=>?_) (λe F=>?_) I.fZ.pay I.wg (s':={ s1 with w:=w }) (tag':=tag) (rk':=rk') ?_ (u.trans' ) (q.rely u.size) I.mode (.inr ⟨rfl,l⟩)
  .have hW:=I.fZ.zI;rcases S6 e F with rfl|rfl <;> (rw[ofEvent_mk];show ad.block<_;rw[Z8];exact hW)
  .rcases S6 e F with rfl|rfl <;> (rw[ofEvent_mk] at c;simp[MemAct.touch?] at c;subst c;exact .inl ⟨ad,rfl,Z8,by simp⟩)
  .rcases S6 e F with rfl|rfl <;> (rw[ofEvent_mk] at c;simp[MemAct.touch?] at c;subst c;cases hk)
  .rcases S6 e F with rfl|rfl <;> simp[mk]
  .rw[deafBehind_idle (λe F=>by rcases S6 e F with rfl|rfl <;> simp[mk])];exact GR
def gk(I:sV P ty Y N val n T k U Q w t p z j D A K d tag rk a s st sm){a':au}{es:Array Event}{tag':CTag}{rk':Rk}{qd GP:Int}{s1:St}(u:b9 s1 { s1 with w:=w })(g:jL Y p z j s1)
  (hgo:aK P ab a w=.go a' w' es) (DU:Aside Y.Wg w w') (JL:WgAt ty Y.Wg w' qd GP) (GQ:∀ e∈es,Bk Y.Wg e) (GR:CS P ty Y N val n T k tag' j rk' (deafBehind d es) a' { s1 with w:=w' }) (vW:Go.ConcN.Mode j D tag' qd GP)
  (l:phi n (Vc j D) tag'<phi n (Vc j D) tag∨(phi n (Vc j D) tag'=phi n (Vc j D) tag/\Rk.lt rk' rk)) :
  ∃ m₁ ops μ',runT P (crowd Q w sl) 0=(.next m₁,ops)/\FG (Y.base+n) μ' U/\Inv P ty Y N val n T k μ' m₁ (t++ops):=by
 obtain⟨cs,V6,SP⟩:=I.fZ.pay;have E:b9 s1 { s1 with w:=w' }:=g.JH u (DR.wg DU);refine sW I hgo (hm':=p) (λb c=>rfl) (by rw[DU.size];exact bc _) (λy hy=>.wg DU I.fZ.tl.IJ I.fZ.tl.base (λb o v X=>(I.fZ.tl.ms y hy b o v X).2.2.1) I.fZ.tl.ne) (JJ GQ (by rw[DU.size];exact I.fZ.zI)) (λe F b c p=>?_) (λe F b c hk=>?_) (BF GQ)
  ⟨cs,(DU.block _ I.fZ.tl.ne).trans V6,SP⟩ JL GR E.trans' (g.rely E.size) vW l
 .rcases GQ e F with q|q|⟨ad,wr,rfl,ha⟩
  .rw[ofEvent_loc_mark q] at c;cases c
  .rw[ofEvent_loc_mark q] at c;cases c
  .rw[ofEvent_cell] at c;simp only[MemAct.touch?,de] at c;subst c;exact .inl ⟨ad,rfl,ha,by simp⟩
 .rcases GQ e F with q|q|⟨ad,wr,rfl,ha⟩
  .rw[ofEvent_loc_mark q] at c;cases c
  .rw[ofEvent_loc_mark q] at c;cases c
  .rw[ofEvent_cell] at c;simp only[MemAct.touch?,de] at c;subst c;cases hk
end
section
variable {P:aq}{ty:ar}{Y:Lay}{N:Nat}{val:Nat->Nat->ak}{n:Nat}{T f:au->St->Prop}{p hm':Nat->Nat}{u k:Nat->Mem}{j:Nat}{tag:CTag}{rk:Rk}{d:Nat}{a:au}{s:St}{w w':az}
 {E:Mu} {B:Array au} {sl:Option (Nat×Nat)} {t:Trace} {D:Nat->WD} {A:Nat->Nat} {K:Nat->Rk} {st F:Int}
def CS.bound(h:CS P ty Y N val n T f tag j rk d a s):j+pend tag<=n:=by
 cases h <;> simp only[pend] <;> (try simp) <;> omega
omit [Payload] in
def iw{S:au->St->Prop}(h:kl (Cx.lead P ty Y.Wg) (Es Y.Wg) S rk a s)(l:b9 s { s with w:=w })(G:jL Y p u j s)(live:WgLive ty Y.Wg w) :
  (∃ s',b9 s' { s' with w:=w }/\jL Y p u j s'/\S a s')∨∃ s',b9 s' { s' with w:=w }/\jL Y p u j s'/\∃ g' s2 es r',aK P ab a w=.go g' s2.w es/\(qu { s' with w:=w } s2 es∨Es Y.Wg { s' with w:=w } s2 es)/\kl (Cx.lead P ty Y.Wg) (Es Y.Wg) S r' g' s2/\Rk.lt r' rk:=by
 rcases h.norm (λs0=>b9 s0 { s0 with w:=w }/\jL Y p u j s0) (λs0 s' C hi=>⟨hi.1.ghost C,hi.2.ghost C⟩) (λH=>False.elim H) ⟨l,G⟩ with⟨s',⟨k1,c⟩,z⟩|⟨_,s',⟨k1,c⟩,z⟩
 .exact .inl ⟨s',k1,c,z⟩
 .exact .inr ⟨s',k1,c,z _ ⟨k1,λ_=>live⟩⟩
def WS.quits{x a st d:Nat}{r:Rk}{g:au}(h:WS P ty Y N val p u x a st r d g w)(b:st=1):∃ m,QuitsD P m d g:=by
 cases h with
 |am _ _ _=>cases b
 |rel _=>cases b
 |tail _ h=>exact⟨_,h.quits b⟩
def WS.small{x a st d:Nat}{r:Rk}{g:au}(h:WS P ty Y N val p u x a st r d g w)(b:st=1):a=0:=by
 cases h with
 |am _ _ _=>cases b
 |rel _=>rfl
 |tail _ h=>rfl
def JO(I:sV P ty Y N val n T f E B w t p u j D A K d tag rk a s st F)(hn:n<2147483648)(Wd:∀ g s,f g s->eb (Cx.lead P ty Y.Wg) (Es Y.Wg) (AtW1 P ty Y T f) g s)(rD:a.status=.running) :
  ∃ W ops,runT P (crowd B w sl) 0=(.next W,ops)/\((∃ hm' k,Fin P Y N val n T hm' k W (t++ops))∨∃ μ',FG (Y.base+n) μ' E/\Inv P ty Y N val n T f μ' W (t++ops)):=by
 have hVj:=Vc_le j D;have JK:=I.fZ.tl.base;have live:=I.fZ.live;have fin:∀ {X:Prop},(∃ W ops μ',runT P (crowd B w sl) 0=(.next W,ops)/\FG (Y.base+n) μ' E/\Inv P ty Y N val n T f μ' W (t++ops)) ->
   ∃ W ops,runT P (crowd B w sl) 0=(.next W,ops)/\((∃ hm' k,Fin P Y N val n T hm' k W (t++ops))∨∃ μ',FG (Y.base+n) μ' E/\Inv P ty Y N val n T f μ' W (t++ops)) :=
  λ{_} ⟨W,ops,μ',l,h2,h3⟩=>⟨W,ops,l,.inr ⟨μ',h2,h3⟩⟩
 have hbound:=I.cs.bound;have cs:=I.cs;have Q:=I.wg;have O:=I.mode;cases cs with
 |@skd r rk g s hr h =>
  rcases iw h I.rely I.lead live with⟨s',k1,c,_,g',J,R⟩|⟨s',k1,c,g',s2,es,r',J,V,R,U⟩
  .obtain⟨r2,R⟩:=R { s' with w:=w } (fK k1 live);exact fin (X:=True) (gk I k1 c (J w) (.refl Y.Wg w) Q bk_dis (.sa1 hr R) (O.reopen av av rfl (by simp)) (.inl (by simp only[phi];omega)))
  .exact fin (X:=True) (iv I k1 c J V (.skd hr R) U)
 |@sa1 r rk g s hr h =>
  rcases iw h I.rely I.lead live with⟨s',k1,c,_,Z⟩|⟨s',k1,c,g',s2,es,r',J,V,R,U⟩
  .obtain⟨ho,e1,e2,_⟩:=O.open_inv av;rw[e1,e2] at Q;obtain⟨a',J,r2,R⟩:=Z { s' with w:=w } (fK k1 live) (Vc (n-(r+1)) D) (by omega) (by simpa[pend] using Q)
   refine fin (X:=True) (gk I k1 c J (aside_setCell w (stA Y.Wg) _) (Q.setSt _) bk_rw (.ske hr R) ?_ (.inl (by simp only[phi];omega)))
   have e:(((Vc (n-(r+1)) D:Nat):Int)+1)*KK=((Vc (n-(r+1)) D+pend (.sp r 3):Nat):Int)*KK:=by simp[pend]
   rw[e];exact .opn av ho (by simp)
  .exact fin (X:=True) (iv I k1 c J V (.sa1 hr R) U)
 |@ske r rk g s hr h =>
  rcases iw h I.rely I.lead live with⟨s',k1,c,_,g',J,R⟩|⟨s',k1,c,g',s2,es,r',J,V,R,U⟩
  .obtain⟨r2,R⟩:=R { s' with w:=w } (fK k1 live);exact fin (X:=True) (gk I k1 c (J w) (.refl Y.Wg w) Q bk_en (.sgo hr R) (O.reopen av av rfl (by simp)) (.inl (by simp only[phi];omega)))
  .exact fin (X:=True) (iv I k1 c J V (.ske hr R) U)
 |@sgo r rk g s hr h =>
  rcases iw h I.rely I.lead live with⟨s',k1,c,_,Z⟩|⟨s',k1,c,g',s2,es,r',J,V,R,U⟩
  .obtain⟨a',child,hsp,_,⟨rc,Xx⟩,Fv⟩:=Z { s' with w:=w } (fK k1 live);obtain⟨ho,e1,e2,_⟩:=O.open_inv av;rw[e1,e2] at Q;have vX:=runT_crowd_spawn (P:=P) (sl:=sl) (i:=0) I.a0 (by simpa using hsp)
   rw[I.fZ.size] at vX;have z:jL Y p u (n-(r+1)) { s' with w:=w }:=c.rely k1.size
   let k:=upd u (n-(r+1)) s'.M
   have Z9:∀ y,y<n-(r+1)->k y=u y:=λy hy=>upd_ne u _ (by omega)
   have XJ:k (n-(r+1))=s'.M:=upd_same u _ _;have QI:b9 (St.child { s' with w:=w }) { St.child { s' with w:=w } with w:=w }:=b9.vU k1.mem;have Ue:lR p (k (n-(r+1))) (Y.base+(n-(r+1))) (St.child { s' with w:=w }):=by
    refine⟨λb hb=>?_,λb o v hv=>⟨.inr (by rw[XJ];exact hv),(z.M b o v hv).2.2.2.2⟩⟩
    rcases hb with hb|⟨L,hL,_⟩
    .exact hb.elim
    .simp[St.child] at hL
   have FI:=(I.fZ.congr Z9).spawn (a':=a') (x:={ g:=0,fn:=a.frame.fn,pos:=a.frame.place,act:=.go (Y.base+(n-(r+1))) }) (y:={ g:=Y.base+(n-(r+1)),fn:=child.frame.fn,pos:=a.frame.place,act:=.start }) ⟨rfl,rfl⟩ ⟨rfl,rfl⟩
    (λb o v hv=>by rw[XJ] at hv;exact z.M b o v hv) Xx QI Ue
   have eV:Vc (n-(r+1)+1) (upd D (n-(r+1)) ⟨7,0,0⟩)=Vc (n-(r+1)) D+1:=by
    simp only[Vc,sumTo,upd_same];rw[sumTo_upd_out D _ cnt (bc _)];rfl
   have eS:Ssum (n-(r+1)+1) (upd D (n-(r+1)) ⟨7,0,0⟩)=Ssum (n-(r+1)) D+7:=by
    simp only[Ssum,sumTo,upd_same];rw[sumTo_upd_out D _ WD.stage (bc _)]
   have eA:sumTo (n-(r+1)+1) (upd A (n-(r+1)) 1)=sumTo (n-(r+1)) A+1:=by
    have:sumTo (n-(r+1)) (upd A (n-(r+1)) 1)=sumTo (n-(r+1)) A:=sumTo_upd_out A 1 id (i:=n-(r+1)) (j:=n-(r+1)) (bc _);show sumTo (n-(r+1)) (upd A (n-(r+1)) 1)+upd A (n-(r+1)) 1 (n-(r+1))=_;rw[upd_same];exact di (·+1) this
   have Na:OpenSt (n-(r+1)+1) (upd D (n-(r+1)) ⟨7,0,0⟩):=λi hi=>by
    by_cases e:i=n-(r+1)
    .subst e;rw[upd_same];simp
    .rw[upd_ne D _ e];exact ho i (by omega)
   have XK:((B.setIfInBounds 0 a').push child)[0]?=aa a':=by
    have h0:0<B.size:=by rw[I.fZ.size];omega
    grind
   have zJ:jL Y p k (n-(r+1)+1) { s' with w:=w }:=⟨z.blk,z.M,λy hy b o v hv=>by
    rcases cx y (n-(r+1)) with l|l
    .rw[Z9 y l] at hv;exact z.ms y l b o v hv
    .obtain rfl:y=n-(r+1):=by omega
     rw[XJ] at hv;exact hv⟩
   have ej:n-(r+1)+1=n-r:=by omega
   rw[ej] at FI eV eS eA Na zJ;have XL:∀ tag',pend tag'=0->((Vc (n-(r+1)) D+pend (.sp r 2):Nat):Int)*KK=((Vc (n-r) (upd D (n-(r+1)) ⟨7,0,0⟩)+pend tag':Nat):Int)*KK:=λtag' hp=>by rw[eV,hp];simp[pend]
   cases r with
   |zero =>
    obtain⟨r3,R⟩:=Fv;simp only[ll] at FI eV eS eA Na XL zJ;refine⟨_,_,vX,.inr ⟨(phi n (Vc n (upd D (n-(0+1)) ⟨7,0,0⟩)) .kd+Ssum n (upd D (n-(0+1)) ⟨7,0,0⟩)+sumTo n (upd A (n-(0+1)) 1),(upd K (Y.base+(n-(0+1))) rc,r3)),by rw[I.mu];exact Prod.Lex.left _ _ (by simp only[phi];omega),
     _,w,sl,p,k,n,_,_,_,0,.kd,r3,a',{ s' with w:=w },_,_,rfl,⟨XK,.kd R,k1.trans',zJ,FI,Q,?_,rfl⟩⟩⟩
    rw[XL .kd rfl];exact .opn av Na (by simp)
   |succ r' =>
    obtain⟨r3,R⟩:=Fv;refine⟨_,_,vX,.inr ⟨(phi n (Vc (n-(r'+1)) (upd D (n-(r'+1+1)) ⟨7,0,0⟩)) (.sp r' 5)+Ssum (n-(r'+1)) (upd D (n-(r'+1+1)) ⟨7,0,0⟩)+sumTo (n-(r'+1)) (upd A (n-(r'+1+1)) 1),(upd K (Y.base+(n-(r'+1+1))) rc,r3)),by rw[I.mu];exact Prod.Lex.left _ _ (by simp only[phi];omega),
     _,w,sl,p,k,n-(r'+1),_,_,_,0,.sp r' 5,r3,a',{ s' with w:=w },_,_,rfl,⟨XK,.skd (by omega) R,k1.trans',zJ,FI,Q,?_,rfl⟩⟩⟩
    rw[XL (.sp r' 5) rfl];exact .opn av Na (by simp)
  .exact fin (X:=True) (iv I k1 c J V (.sgo hr R) U)
 |kd h =>
  rcases iw h I.rely I.lead live with⟨s',k1,c,_,g',J,R⟩|⟨s',k1,c,g',s2,es,r',J,V,R,U⟩
  .obtain⟨r2,R⟩:=Wd _ _ (R { s' with w:=w } (fK k1 live));exact fin (X:=True) (gk I k1 c (J w) (.refl Y.Wg w) Q bk_dis (.w1 R) (O.reopen av av rfl (by simp)) (.inl (by simp only[phi];omega)))
  .exact fin (X:=True) (iv I k1 c J V (.kd R) U)
 |w1 h =>
  rcases iw h I.rely I.lead live with⟨s',k1,c,_,Z⟩|⟨s',k1,c,g',s2,es,r',J,V,R,U⟩
  .obtain⟨ho,e1,e2,_⟩:=O.open_inv av;rw[e1,e2] at Q;have hV:=Vc_le n D;obtain⟨a',J,h0,Dg⟩:=Z { s' with w:=w } (fK k1 live) (Vc n D) (by omega) (by simpa[pend] using Q)
   by_cases hv:Vc n D=0
   .obtain⟨r2,R⟩:=h0 hv;refine fin (X:=True) (gk I k1 c J (.refl Y.Wg w) Q bk_rd (.ke R) ?_ (.inl (by simp only[phi];omega)))
    have e:((Vc n D+pend .w1:Nat):Int)*KK=0:=by rw[hv];simp[pend]
    rw[e];exact .fin av (allQuit_of ho hv)
   .obtain⟨r2,R⟩:=Dg hv;refine fin (X:=True) (gk I k1 c J (.refl Y.Wg w) Q bk_rd (.w2 R) ?_ (.inl (by simp only[phi];omega)))
    have:=O.reopen (tag':=.w2 (Vc n D)) av av rfl (λvs e=>by cases e;omega)
    rwa [e1,e2] at this
  .exact fin (X:=True) (iv I k1 c J V (.w1 R) U)
 |@w2 vs rk g s h =>
  rcases iw h I.rely I.lead live with⟨s',k1,c,_,Z⟩|⟨s',k1,c,g',s2,es,r',J,V,R,U⟩
  .obtain⟨ho,e1,e2,We⟩:=O.open_inv av;rw[e1,e2] at Q;obtain⟨hle,l⟩:=We vs rfl;obtain⟨XM,Uf⟩:=Z { s' with w:=w } (fK k1 live) (Vc n D) (by omega) (by simpa[pend] using Q)
   by_cases e:Vc n D=vs
   .obtain⟨a',J,r2,R⟩:=XM e;exact fin (X:=True) (gk I k1 c J (aside_setCell w (stA Y.Wg) _) (Q.setSt _) bk_rw (.w3 R) (.reg av ho (by omega)) (.inl (by simp only[phi];omega)))
   .obtain⟨a',J,R⟩:=Uf e;obtain⟨r2,R⟩:=Wd _ _ R;refine fin (X:=True) (gk I k1 c J (.refl Y.Wg w) Q bk_rd (.w1 R) ?_ (.inl (by simp only[phi];omega)))
    have:=O.reopen (tag':=.w1) av av rfl (by simp)
    rwa [e1,e2] at this
  .exact fin (X:=True) (iv I k1 c J V (.w2 R) U)
 |@w3 rk g s h =>
  rcases iw h I.rely I.lead live with⟨s',k1,c,lS⟩|⟨s',k1,c,g',s2,es,r',J,V,R,U⟩
  .obtain⟨_,TM,Z⟩:=lS;obtain⟨Nv,Ug⟩:=Z { s' with w:=w } (fK k1 live);obtain⟨x,hx⟩:=Rk.JI s rk;have Uh:AtW3 P ty Y T a { s' with w:=w }:=AtW3.rely ⟨rD,TM,Z⟩ (fK k1 live);generalize st=Ub at O Q;generalize F=sm0 at O Q;cases O with
   |opn l _ _=>exact l.elim
   |reg l h2 h3=>exact fin (X:=True) (gk I k1 c (Nv ⟨_,Q⟩) (.refl Y.Wg w) Q (by simp) (.blk (rk:=x) Uh) (.reg av h2 h3) (.inr ⟨rfl,hx⟩))
   |last L l h2 h3 h4=>exact fin (X:=True) (gk I k1 c (Nv ⟨_,Q⟩) (.refl Y.Wg w) Q (by simp) (.blk (rk:=x) Uh) (.last L av h2 h3 h4) (.inr ⟨rfl,hx⟩))
   |sema h2 =>
    obtain⟨a',J,r2,R⟩:=Ug Q;exact fin (X:=True) (gk I k1 c J (aside_setCell w (smA Y.Wg) _) (Q.setSm 0) bk_sem (.w4 R) (.fin av h2) (.inl (by simp only[phi];omega)))
   |fin l _=>exact l.elim
  .exact fin (X:=True) (iv I k1 c J V (.w3 R) (Rk.FF U))
 |blk h=>simp at rD
 |w4 h =>
  rcases iw h I.rely I.lead live with⟨s',k1,c,_,Z⟩|⟨s',k1,c,g',s2,es,r',J,V,R,U⟩
  .obtain⟨hq,e1,e2⟩:=O.fin_inv av;rw[e1,e2] at Q;obtain⟨a',J,r2,R⟩:=Z { s' with w:=w } (fK k1 live) Q;exact fin (X:=True) (gk I k1 c J (.refl Y.Wg w) Q bk_rd (.ke R) (.fin av hq) (.inl (by simp only[phi];omega)))
  .exact fin (X:=True) (iv I k1 c J V (.w4 R) U)
 |ke h =>
  rcases iw h I.rely I.lead live with⟨s',k1,c,_,g',J,R⟩|⟨s',k1,c,g',s2,es,r',J,V,R,U⟩
  .obtain⟨r2,R⟩:=R { s' with w:=w } (fK k1 live);obtain⟨hq,e1,e2⟩:=O.fin_inv av;rw[e1,e2] at Q;exact fin (X:=True) (gk I k1 c (J w) (.refl Y.Wg w) Q bk_en (.acq R) (.fin av hq) (.inl (by simp only[phi];omega)))
  .exact fin (X:=True) (iv I k1 c J V (.ke R) U)
 |acq h =>
  rcases iw h I.rely I.lead live with⟨s',k1,c,_,a',J,R⟩|⟨s',k1,c,g',s2,es,r',J,V,R,U⟩
  .obtain⟨hq,e1,e2⟩:=O.fin_inv av;have vX:=runT_crowd_go (P:=P) (sl:=sl) (i:=0) I.a0 (by simpa using J w)
   have ev:MemOp.ofEvents 0 a.frame.fn a.frame.place #[mk (.acquire (stA Y.Wg))]=#[{ g:=0,fn:=a.frame.fn,pos:=a.frame.place,act:=.mark (.acquire (stA Y.Wg)) }]:=by rw[ofEvents_eq];simp[ofEvent_mk]
   have vY:=I.fZ.step0 (g:=a) (g':=a') (fn:=a.frame.fn) (pos:=a.frame.place) (es:=#[mk (.acquire (stA Y.Wg))]) (hm':=p) (w':=w) (λ_ _=>rfl) (bc _) (λy _=>.refl ..) (by simp;exact I.fZ.zI) (by intro e he b hb;simp at he;subst he;simp[mk,aM,MemAct.touch?] at hb) (by intro e he b hb;simp at he;subst he;simp[mk,aM,MemAct.touch?] at hb) (by intro e he;simp at he;subst he;simp[mk]) I.fZ.pay live
   have hd0:deafBehind 0 #[mk (.acquire (stA Y.Wg))]=0:=rfl;have hy:(t++#[({ g:=0,fn:=a.frame.fn,pos:=a.frame.place,act:=.mark (.acquire (stA Y.Wg)) }:MemOp)])[t.size]?=aa { g:=0,fn:=a.frame.fn,pos:=a.frame.place,act:=.mark (.acquire (stA Y.Wg)) }:=by simp
   have Ui:=vY.tl.Xv (by rw[vY.deaf0];rfl) (vY.norel _) (q:=t.size) (by rw[ev,act?_of hy]) (by rw[ev];simp[Trace.g?]) (by rw[ev];exact⟨0,by simp[Trace.g?],by rw[deaf_old (bc _)];exact I.fZ.deaf0⟩) (λx hx=>by
    obtain⟨r,hr⟩:=I.fZ.rel x hx (by rw[hq x hx];omega)
    exact⟨r,hr.appOther g_of_ofEvents (by omega),lt_of_act? hr.act⟩)
   have GA:∃ q,Leavers P (t++MemOp.ofEvents 0 a.frame.fn a.frame.place #[mk (.acquire (stA Y.Wg))]) ((B.map (woken P a a' w)).setIfInBounds 0 a') q:=by
    have each:∀ i,∃ m,∀ g,0<i->((B.map (woken P a a' w)).setIfInBounds 0 a')[i]?=aa g->QuitsD P m (Deaf (t++MemOp.ofEvents 0 a.frame.fn a.frame.place #[mk (.acquire (stA Y.Wg))]) i) g:=by
     intro i;cases Ph:((B.map (woken P a a' w)).setIfInBounds 0 a')[i]? with
     |none=>exact⟨0,λg _ C=>by cases C⟩
     |some g =>
      rcases oN i with e|QJ
      .exact⟨0,λg' h=>by omega⟩
      .rcases cx i Y.base with U|Pb
       .obtain⟨m,_,S4⟩:=vY.lv i g QJ U Ph;exact⟨m,λg' _ DT=>by cases DT;exact S4⟩
       .obtain⟨x,rfl⟩:∃ x,i=Y.base+x:=⟨i-Y.base,by omega⟩
        have hx:x<n:=by
         have:=(ig.1 Ph).1;rw[vY.size] at this;omega
        obtain⟨g0,FE,XN⟩:=vY.wk x hx;rw[Ph] at FE;cases FE;obtain⟨m,S4⟩:=XN.quits (hq x hx);refine⟨m,λg' _ DT=>?_⟩
        cases DT;rw[vY.deafW x hx];exact S4
    exact⟨λi=>Classical.choose (each i),λi g hi C=>Classical.choose_spec (each i) g hi C,λi hi=>vY.above i (by rw[vY.size] at hi;exact hi)⟩
   obtain⟨q,GA⟩:=GA;refine⟨_,_,vX,.inl ⟨p,u,⟨_,w,sl,a',s',q,rfl,Go.ConcN.get_map_set_same _ _ _ (by rw[I.fZ.size];omega),vY.size,R { s' with w:=w } (fK k1 live),k1,c,GA,Ui,vY.norel,I.fZ.pay,λx hx i hi=>?_,I.fZ.BE,I.fZ.zI,I.fZ.ML⟩⟩⟩
   obtain⟨g0,_,XN⟩:=I.fZ.wk x hx;rcases oN i with e|QJ
   .subst e;exact I.fZ.BD x hx (by rw[hq x hx];omega)
   .exact I.fZ.xG x hx (XN.small (hq x hx)) i QJ hi
  .exact fin (X:=True) (iv I k1 c J V (.acq R) U)
end
end
section
open Go.Conc
open Go.ConcN (WD CTag Vc Ssum pend phi cnt WgLive PayAt Has WSit RelBy sumTo upd upd_same upd_ne exists_counted)
open Go.ConcR (KK WgAt stA smA Payload)
variable [Payload]
section
variable {P:aq}{ty:ar}{Y:Lay}{N:Nat}{val:Nat->Nat->ak}{n:Nat}{T c:au->St->Prop}{p:Nat->Nat}{u:Nat->Mem}{j:Nat}{tag:CTag}{rk:Rk}{d:Nat}{a:au}{s:St}{w:az}
 {f:Mu} {l:Array au} {sl:Option (Nat×Nat)} {t:Trace} {D:Nat->WD} {A:Nat->Nat} {K:Nat->Rk} {st y:Int}
def WS.running_of{x a st d:Nat}{r:Rk}{g:au}(h:WS P ty Y N val p u x a st r d g w)(b:st≠1):g.status=.running:=by
 cases h with
 |am h1 _ _=>exact h1.run λ_ _ x=>x.1
 |rel h1=>exact Goes.running (λ_ _ x=>x.1) w (Go.ConcN.RW.refl w) h1
 |tail _ h1=>exact h1.running_of b
def someone_runs(I:sV P ty Y N val n T c f l w t p u j D A K d tag rk a s st y):∃ (i:Nat)(g:au),l[i]?=aa g/\g.status=.running:=by
 rcases I.cs.status with⟨e,_⟩|⟨_,rfl⟩
 .exact⟨0,a,I.a0,e⟩
 .have b:=I.mode;cases b with
  |opn h1 _ _=>exact h1.elim
  |reg _ _ k =>
   obtain⟨i,hi,o⟩:=exists_counted k;obtain⟨g,h,e⟩:=I.fZ.wk i hi;exact⟨_,g,h,e.running_of (by omega)⟩
  |last L _ m k _ =>
   obtain⟨g,h,e⟩:=I.fZ.wk L m;exact⟨_,g,h,e.running_of (by omega)⟩
  |fin h1 _=>exact h1.elim
def all_awake(I:sV P ty Y N val n T c f l w t p u j D A K d tag rk a s st y):∀ g∈l,awake g:=by
 intro g v B;obtain⟨i,hi⟩:=Array.mem_iff_getElem?.1 v;rcases oN i with rfl|b
 .rw[I.a0] at hi;cases hi;rcases I.cs.status with⟨k,_⟩|⟨k,_⟩ <;> rw[k] <;> simp
 .rcases cx i Y.base with o|z
  .obtain⟨m,_,r⟩:=I.fZ.lv i g b o hi;rcases r.status with h|h <;> rw[h] <;> simp
  .obtain⟨x,rfl⟩:∃ x,i=Y.base+x:=⟨i-Y.base,by omega⟩
   have q:x<j:=by
    have:=(ig.1 hi).1;rw[I.fZ.size] at this;omega
   obtain⟨g',e,k⟩:=I.fZ.wk x q;rw[hi] at e;cases e;rcases k.status with h|h <;> rw[h] <;> simp
def sV.at(I:sV P ty Y N val n T c f l w t p u j D A K d tag rk a s st y)(b:Nat):sV P ty Y N val n T c f l (w.at b) t p u j D A K d tag rk a s st y :=
 ⟨I.a0,I.cs,I.rely.more (bc _) (λ_ _=>rfl) (λ_ _ _ _ h=>h) rfl rfl rfl,I.lead,I.fZ.at b,I.wg,I.mode,I.mu⟩
def DV(I:sV P ty Y N val n T c f l w t p u j D A K d tag rk a s st y){i:Nat}(hi:0<i)(v:i<Y.base){g:au}(F:l[i]?=aa g)(b:g.status=.running) :
  ∃ h ops μ',runT P (crowd l w sl) i=(.next h,ops)/\FG (Y.base+n) μ' f/\Inv P ty Y N val n T c μ' h (t++ops):=by
 obtain⟨m,G,E⟩:=I.fZ.lv i g hi v F;cases m with
 |zero=>rw[E.1] at b;cases b
 |succ m =>
  rcases E with⟨J,_⟩|⟨_,g',es,B,r,C⟩
  .rw[J] at b;cases b
  .have z:(i==0)=ae:=by simp;omega
   have q:=runT_crowd_go (P:=P) (sl:=sl) (i:=i) F (by rw[z];exact r w)
   obtain⟨tag',rk',x,o,H⟩:=I.cs.wokenBy g g' w;have e:Go.ConcN.Mode j D tag' st y:=I.mode.retag o;refine⟨_,_,(phi n (Vc j D) tag'+Ssum j D+sumTo j A,(upd K i (Rk.nat m),rk')),q,?_,_,w,sl,p,u,j,D,A,_,d,tag',rk',woken P g g' w a,s,st,y,rfl,
    ⟨by rw[Go.ConcN.get_map_set _ _ _ _ (by omega),I.a0];rfl,x,I.rely,I.lead,I.fZ.leave hi v B C,I.wg,e,rfl⟩⟩
   rw[I.mu,Go.ConcN.phi_retag n _ o];exact Prod.Lex.right _ (Prod.Lex.left _ _ ⟨i,by omega,by rw[upd_same,G];exact Rk.DQ _ s,λk L=>upd_ne K _ L⟩)
def JP(E:n<2147483648)(C:∀ g s,c g s->eb (Cx.lead P ty Y.Wg) (Es Y.Wg) (AtW1 P ty Y T c) g s){m:Machine}(h:Inv P ty Y N val n T c f m t) :
  ∃ b ops,stepT P m=(.next b,ops)/\((∃ hm' Nw,Fin P Y N val n T hm' Nw b (t++ops))∨∃ k,FG (Y.base+n) k f/\Inv P ty Y N val n T c k b (t++ops)):=by
 obtain⟨l,w,sl,p,u,j,D,A,K,Q,tag,rk,a,s,st,y,rfl,I⟩:=h;obtain⟨i,g,L,o,v,e,q⟩:=crowd_pick (P:=P) (w:=w) (sl:=sl) (all_awake I) (someone_runs I);rw[q];have B:=I.at L;have H:j<=n:=by have:=I.cs.bound;omega
 rcases oN i with rfl|r
 .rw[I.a0] at v;cases v;exact JO (sl:=o) B E C e
 .rcases cx i Y.base with z|M
  .obtain⟨b,ops,k,G,J,O⟩:=DV (sl:=o) B r z v e
   grind
  .obtain⟨x,rfl⟩:∃ x,i=Y.base+x:=⟨i-Y.base,by omega⟩
   have F:x<j:=by
    have:=(ig.1 v).1;rw[I.fZ.size] at this;omega
   obtain⟨b,ops,k,G,J,O⟩:=stepWorker (sl:=o) B E H I.cs.bound F v e
   grind
def GS(x:n<2147483648)(q:∀ g s,c g s->eb (Cx.lead P ty Y.Wg) (Es Y.Wg) (AtW1 P ty Y T c) g s):∀ (f:Mu)(m:Machine)(t:Trace),Inv P ty Y N val n T c f m t ->
  ∃ M i k hm' Nw,runNT P M m t=(.next i,k)/\Fin P Y N val n T hm' Nw i k:=by
 intro f
 induction (QF (Y.base+n)).apply f with
 |intro f _ B =>
  intro m t h;obtain⟨b,ops,r,e⟩:=JP x q h;rcases e with⟨hm',Nw,e⟩|⟨o,e,z⟩
  .exact⟨1,b,t++ops,hm',Nw,by simp[runNT,r],e⟩
  .obtain⟨M,i,k,hm',Nw,k1,v⟩:=B o e b (t++ops) z;exact⟨M+1,i,k,hm',Nw,by simp only[runNT,r];exact k1,v⟩
def To.fork{g:au}{s s0:St}{T':au->St->Prop}(kc:Nat)(Z3:0<kc)(Wg C:Nat)(hn:n<2147483648)(Dg:C≠Wg)(hg:eK s s0)(rD:g.status=.running)
  (hC:∃ L∈s.β,C∈L.bs) (hW:∃ L∈s.β,Wg∈L.bs) (E:∀ b,(s.own b∨∃ L∈s.β,b∈L.bs)->b<s.w.heap.size)
  (h0:∀ b,(b=C∨b=Wg)->¬s0.own b/\(∀ L∈s0.β,b∉L.bs)/\∀ o,s0.M b o=af) (S:WgAt ty Wg s.w 0 0) (JN:PayAt C N s.w)
  (h:∀ Y:Lay,Y.Wg=Wg->Y.C=C->Y.kc=kc->∃ T c,(∀ g s,c g s->eb (Cx.lead P ty Y.Wg) (Es Y.Wg) (AtW1 P ty Y T c) g s)/\Spawns P ty Y N val n c n g s0 /\
   ∀ g' s',T g' s'->gw s'->PayAt C N s'.w->(∀ x,x<n->∀ i,i<kc->s'.w.cell? ⟨C,kc*x+i,af⟩=aa (val x i))->C<s'.w.heap.size->(∀ b,(b=C∨b=Wg)->¬s'.own b/\(∀ L∈s'.β,b∉L.bs)/\∀ o,s'.M b o=af) ->
    ∃ s2,T' g' s2/\s2.w=s'.w/\gw s2/\∀ Sh:Nat->Prop,Clear Sh s'->¬Sh C->Clear Sh s2):To P g s T':=by
 intro Sh l sl t q p ha I hP hc T8;have X:¬Sh C:=λhs=>let ⟨L,I,hb⟩:=hC;hc.β C hs L I hb
 have XO:¬Sh Wg:=λhs=>let ⟨L,I,hb⟩:=hW;hc.β Wg hs L I hb
 have W:=E C (.inr hC);have XP:=E Wg (.inr hW);have V:1<=l.size:=(ig.1 ha).1
 let Y:Lay:={ Sh:=Sh,T0:=t.size,Wg:=Wg,C:=C,base:=l.size,kc:=kc }
 obtain⟨T,c,Wd,z,XQ⟩:=h Y rfl rfl rfl;have R:=hc.ghost hg;have Z:gw s0:=.ghost hg;have F:jL Y (λ_=>0) (λ_ _ _=>af) 0 s0:=by
  refine⟨λb hb=>⟨rfl,λe=>?_,λe=>?_,λe=>?_,by rw[hg.w];exact E b (hg.blk b hb)⟩,λb o v hv=>⟨rfl,λe=>?_,λe=>?_,λe=>?_,gw.lt Z hv⟩,λx m=>absurd m (jh x)⟩
  .grind
  .grind
  .rcases hb with hb|⟨L,I,hb⟩
   .exact R.own b e hb
   .exact R.β b e L I hb
  .grind
  .grind
  .rw[R.M b e o] at hv;cases hv
 have O:Com P ty Y N val (λ_=>0) (λ_ _ _=>af) 0 l s.w t (λ_=>⟨0,0,0⟩) (λ_=>0) (λi=>Rk.nat (q i)) 0 :=
  ⟨rfl,λi g hi _ Ph=>⟨q i,rfl,I.old i g hi Ph⟩,I.above,λx m=>absurd m (jh x),TL.start hP rfl V Dg XO X,T8,hP.hears,λx m=>absurd m (jh x),λx m=>absurd m (jh x),λx m=>absurd m (jh x),λx m=>absurd m (jh x),
   JN,⟨_,_,S⟩,XP,W,hc.lt,Z3,λx m=>absurd m (jh x)⟩
 have Q:b9 s0 { s0 with w:=s.w }:=by
  have:=b9.vU Z;rw[<-hg.w];exact this
 have G:∃ f,Inv P ty Y N val n T c f (crowd l s.w sl) t:=by
  cases n with
  |zero =>
   obtain⟨r,z⟩:=z;exact⟨_,l,s.w,sl,_,_,0,_,_,_,0,.kd,r,g,s0,_,_,rfl,⟨ha,.kd z,Q,F,O,S,by have:=Go.ConcN.Mode.opn (j:=0) (D:=λ_=>(⟨0,0,0⟩:WD)) (tag:=.kd) av (λi hi=>absurd hi (jh i)) (by simp);simpa[Vc,sumTo,pend] using this,rfl⟩⟩
  |succ n =>
   obtain⟨r,z⟩:=z;have Wf:CS P ty Y N val (n+1) T c (.sp n 5) (n+1-(n+1)) r 0 g s0:=.skd (Nat.lt_succ_self n) z;rw[pG] at Wf;exact⟨_,l,s.w,sl,_,_,0,_,_,_,0,.sp n 5,r,g,s0,_,_,rfl,⟨ha,Wf,Q,F,O,S,by have:=Go.ConcN.Mode.opn (j:=0) (D:=λ_=>(⟨0,0,0⟩:WD)) (tag:=.sp n 5) av (λi hi=>absurd hi (jh i)) (by simp);simpa[Vc,sumTo,pend] using this,rfl⟩⟩
 obtain⟨f,G⟩:=G;obtain⟨M,m',t',hm',Nw,aaa,⟨gs',w',sl',a',H,q',rfl,XK,_,hT,MI,QK,ga,hP',acn,hp',J,hlC,hlW,hlS⟩⟩:=GS hn Wd f _ _ G;have U:jL Y hm' Nw n { H with w:=w' }:=QK.rely MI.size;have B:∀ b,(b=C∨b=Wg∨Sh b)->¬H.own b/\(∀ L∈H.β,b∉L.bs)/\∀ o,H.M b o=af:=by
  intro b hb;have key:∀ x,(hm' x=0/\x≠Y.C/\x≠Y.Wg/\¬Y.Sh x/\x<w'.heap.size)->x≠b:=by
   grind
  refine⟨λho=>key b (U.blk b (.inl ho)) rfl,λL I P7=>key b (U.blk b (.inr ⟨L,I,P7⟩)) rfl,λo=>?_⟩
  cases hM:H.M b o with
  |none=>rfl
  |some v=>exact absurd rfl (key b (U.M b o v hM))
 obtain⟨s2,hT2,We,S4,SP⟩:=XQ a' { H with w:=w' } hT (λb o v hv=>MI.mem b o v hv) hp' J hlC (λb hb=>B b (hb.elim .inl λe=>.inr (.inl e)))
 have Ds:Clear (λb=>Sh b∨b=Wg) { H with w:=w' }:=by
  have k:∀ b,(Sh b∨b=Wg)->¬H.own b/\(∀ L∈H.β,b∉L.bs)/\∀ o,H.M b o=af:=λb hb=>B b (hb.elim (λe=>.inr (.inr e)) λe=>.inr (.inl e))
  exact⟨λb hb=>(k b hb).1,λb hb=>(k b hb).2.1,λb hb=>(k b hb).2.2,λb hb=>hb.elim (hlS b) λe=>by rw[e];exact hlW⟩
 grind
end
end
section
open Go.Conc Go.RowKit Go.Conc.Lib Go.ConcR.Gen
open Go.ConcN (WgLive)
open Go.ConcR (KK WgAt stA smA rd wr mk DC0)
variable {L:WgLink}
section
variable (P:aq)(R:az->az->Prop)(L:WgLink)(Wg:Nat)(a:au)
def X7(g:au)(_:az):Prop:=g.status=.running/\∃ g',(∀ w,aK P ab g w=.go g' w #[mk .enable])/\∀ w1,WgLive L.tWg Wg w1->∃ m,Goes P ab R DC0 (λg _=>g=a) m g' w1
def GRd(g:au)(_:az):Prop:=g.status=.running/\∃ g' ad,ad.block=Wg/\(∀ w,aK P ab g w=.go g' w #[mk (.read ad)])/\∀ w1,WgLive L.tWg Wg w1->∃ m,Goes P ab R DC0 (X7 P R L Wg a) m g' w1
def GA1(g:au)(w:az):Prop:=g.status=.running/\∀ v:Nat,v<2147483647->WgAt L.tWg Wg w (v*KK) 0 ->
 ∃ g',aK P ab g w=.go g' (w.setCell (stA Wg) (.int .u64 ((v+1)*KK))) #[rd (stA Wg),wr (stA Wg)]/\∃ m,Goes P ab R DC0 (λg w=>GRd P R L Wg a g w∨X7 P R L Wg a g w) m g' (w.setCell (stA Wg) (.int .u64 ((v+1)*KK)))
def GKd(g:au)(_:az):Prop:=g.status=.running/\∃ g',(∀ w,aK P ab g w=.go g' w #[mk .disable])/\∀ w1,WgLive L.tWg Wg w1->∃ m,Goes P ab R DC0 (GA1 P R L Wg a) m g' w1
end
set_option maxRecDepth 100000 in
def NL{P:aq}(H:WgLib P L){R:az->az->Prop}{Wg:Nat}(c:∀ {w w1},WgLive L.tWg Wg w->R w w1->WgLive L.tWg Wg w1){b₀:aO}{a₀:Act}{ops₀:Array aw}{i₀:Nat}{rest₀:List Nat}{k₀:List Item}{cs:List aO}
  (w:az) (b:WgLive L.tWg Wg w) :
  Goes P ab R DC0 (GKd P R L Wg (G (b₀.at (a₀.put ((ops₀[i₀]?).bind (·.dst)) (.tuple #[])) (.inRegion ops₀ rest₀::k₀)) cs)) 12
   (G ((base L.add).at ⟨#[.pointer (aa ⟨Wg,0,af⟩),.int .i64 1,aj,aj,aj,aj,aj,aj,aj,aj,aj,aj,aj,aj,aj,aj,aj,aj,aj,aj,aj,aj,aj,aj,aj,aj,aj,aj,aj,aj,aj,aj,aj,aj,aj,aj,aj,aj,aj,aj,aj,aj,aj,aj,aj,aj,aj,aj,aj,aj,aj,aj,aj,aj,aj,aj,aj,aj,aj,aj,aj,aj,aj,aj,aj,aj,aj,aj,aj,aj,aj,aj,aj,aj,aj,aj,aj,aj,aj,aj,aj,aj,aj,aj,aj,aj,aj,aj,aj,aj,aj,aj,aj,aj,aj,aj,aj,aj,aj,aj,aj,aj,aj,aj,aj,aj,aj,aj,aj,aj,aj,aj,aj,aj,aj,aj,aj],[]⟩ [.code (body_add L)]) (b₀.at a₀ (.inRegion ops₀ (i₀::rest₀)::k₀)::cs)) w:=by
 lib_facts
 simp only[body_add,addFn,fG]
 repeat (u_c aD c b)
 u_cond ab c b
 repeat (u_c aD c b)
 u_reg c b
 u_op c b
 u_op c b
 u_c aC c b
 repeat (u_c aD c b)
 u_cond ae c b
 u_c stepG_skip c b
 repeat (u_c aD c b)
 u_reg c b
 refine Goes.stop (λm f=>?_)
 refine⟨rfl,_,λw=>stepG_mark0 .disable (by simp) rfl rfl (by k_ne) rfl H.f_disable (x_disable_n L) (x_disable_b L) (x_disable_x L) (x_disable_f L),λw b=>?_⟩
 clear f;refine⟨40,?_⟩
 walk_nrm
 u_c aC c b
 repeat (u_c aD c b)
 u_reg c b
 u_defer c b
 u_c aC c b
 repeat (u_c aD c b)
 u_reg c b
 u_op c b
 u_c aC c b
 repeat (u_c aD c b)
 u_reg c b
 u_bub c b
 u_c aC c b
 repeat (u_c aD c b)
 u_cond ae c b
 u_c stepG_skip c b
 repeat (u_c aD c b)
 u_reg c b
 u_op c b
 u_op c b
 u_op c b
 u_op c b
 u_op c b
 u_op c b
 u_call H.f_uAdd (nm_uAdd L) uAddFn c b
 repeat (u_c aD c b)
 u_reg c b
 u_op c b
 u_c aC c b
 repeat (u_c aD c b)
 u_reg c b
 u_op c b
 u_op c b
 u_op c b
 u_op c b
 refine Goes.stop (λi e=>?_)
 replace b:=c b e
 clear e;refine⟨rfl,λv s j=>?_⟩
 have l:KK=4294967296:=rfl;have o:IntKind.u64.wrap ((v:Int)*KK+4294967296)=((v:Int)+1)*KK:=by rw[IntKind.wrap_u64];simp only[l];omega
 refine⟨_,(stepG_add_atomic rfl rfl (by k_ne) rfl H.f_addU64 (x_addU64_n L) (x_addU64_b L) (x_addU64_x L) .u64 (x_addU64_f L) rfl rfl j.cellSt (j.thaw 0)).trans (by rw[o];rfl),110,?_⟩
 replace b:WgLive L.tWg Wg (i.setCell (stA Wg) (.int .u64 (((v:Int)+1)*KK))):=⟨_,_,j.setSt _⟩
 clear j
 walk_nrm
 u_op c b
 u_c aC c b
 u_c stepG_ret' c b
 u_leave1 H.f_uAdd c b
 u_op c b
 u_c aC c b
 have u:bits .and .u64 (((v:Int)+1)*4294967296) 2147483648=0:=by
  have:=Go.ConcN.st_flag (v+1) 0 (by omega) (by omega)
  simpa using this
 have r:bits .and .u64 (((v:Int)+1)*4294967296) 2147483647=0:=by
  have:=Go.ConcN.st_waiters (v+1) 0 (by omega) (by omega)
  simpa using this
 have q:((v:Int)+1+2147483648) % 4294967296-2147483648=(v:Int)+1:=by omega
 have t:¬((v:Int)+1<0):=by omega
 have x:(0:Int)<(v:Int)+1:=by omega
 repeat (u_c aD c b)
 u_reg c b
 u_op c b
 u_op c b
 u_op c b
 u_op c b
 u_skip c b
 u_skip c b
 u_op c b
 u_c aC c b
 repeat (u_c aD c b)
 u_cond ae c b
 u_c stepG_skip c b
 repeat (u_c aD c b)
 u_reg c b
 u_op c b
 u_op c b
 u_op c b
 u_op c b
 u_c aC c b
 repeat (u_c aD c b)
 u_reg c b
 u_op c b
 u_op c b
 u_op c b
 u_op c b
 u_c aC c b
 by_cases k:(v:Int)+1=1
 .repeat (u_c aD c b)
  u_reg c b
  u_op c b
  u_op c b
  u_op c b
  u_op c b
  u_op c b
  u_op c b
  u_op c b
  u_op c b
  u_op c b
  u_op c b
  u_c aC c b
  repeat (u_c aD c b)
  u_cond ab c b
  repeat (u_c aD c b)
  u_reg c b
  u_op c b
  u_op c b
  u_op c b
  u_conv H.underlying_tPU32 H.room_tU32 (Go.ConcN.Gen.WgLive.cell1 b).choose_spec c b
  refine Goes.stop (λn g=>.inl ?_)
  clear g;refine⟨rfl,_,⟨Wg,1,af⟩,rfl,λw=>stepG_markAt .read (by simp) rfl rfl (by k_ne) rfl H.f_raceRead (x_raceRead_n L) (x_raceRead_b L) (x_raceRead_x L) (x_raceRead_f L) (ad:=⟨Wg,1,af⟩) (by simp[Act.eval]),λw b=>⟨50,?_⟩⟩
  walk_nrm
  u_c aC c b
  repeat (u_c aD c b)
  u_reg c b
  u_op c b
  u_op c b
  u_c aC c b
  repeat (u_c aD c b)
  u_cond ae c b
  u_c stepG_skip c b
  repeat (u_c aD c b)
  u_reg c b
  u_op c b
  u_op c b
  u_op c b
  u_skip c b
  u_skip c b
  u_op c b
  u_op c b
  u_skip c b
  u_skip c b
  u_skip c b
  u_skip c b
  u_op c b
  u_c aC c b
  repeat (u_c aD c b)
  u_cond ae c b
  u_c stepG_skip c b
  repeat (u_c aD c b)
  u_reg c b
  u_op c b
  u_op c b
  u_op c b
  u_skip c b
  u_skip c b
  u_op c b
  u_c aC c b
  repeat (u_c aD c b)
  u_cond ab c b
  u_c stepG_ret' c b
  refine Goes.stop (λh d=>?_)
  clear d;refine⟨rfl,_,λw=>stepG_unwind_entry (v:=.tuple #[]) (evs:=#[mk .enable]) rfl H.f_enable (x_enable_n L) (x_enable_b L) (x_enable_x L) (x_enable_f L) (by simp[Extern.Race.none_]) (by simp[mk]) (by simp[mk]),λw b=>⟨1,?_⟩⟩
  u_leave0 H.f_add c b
  exact Goes.stop λ_ _=>rfl
 .have p:((v:Int)+1==1)=ae:=by simpa using k
  repeat (u_c aD c b)
  u_reg c b
  u_op c b
  u_op c b
  u_op c b
  u_op c b
  u_op c b
  u_op c b
  u_op c b
  u_op c b
  u_op c b
  u_op c b
  u_c aC c b
  repeat (u_c aD c b)
  u_cond ae c b
  u_c stepG_skip c b
  repeat (u_c aD c b)
  u_reg c b
  u_op c b
  u_op c b
  u_c aC c b
  repeat (u_c aD c b)
  u_cond ae c b
  u_c stepG_skip c b
  repeat (u_c aD c b)
  u_reg c b
  u_op c b
  u_op c b
  u_op c b
  u_skip c b
  u_skip c b
  u_op c b
  u_op c b
  u_skip c b
  u_skip c b
  u_skip c b
  u_skip c b
  u_op c b
  u_c aC c b
  repeat (u_c aD c b)
  u_cond ae c b
  u_c stepG_skip c b
  repeat (u_c aD c b)
  u_reg c b
  u_op c b
  u_op c b
  u_op c b
  u_skip c b
  u_skip c b
  u_op c b
  u_c aC c b
  repeat (u_c aD c b)
  u_cond ab c b
  u_c stepG_ret' c b
  refine Goes.stop (λh d=>.inr ?_)
  clear d;refine⟨rfl,_,λw=>stepG_unwind_entry (v:=.tuple #[]) (evs:=#[mk .enable]) rfl H.f_enable (x_enable_n L) (x_enable_b L) (x_enable_x L) (x_enable_f L) (by simp[Extern.Race.none_]) (by simp[mk]) (by simp[mk]),λw b=>⟨1,?_⟩⟩
  u_leave0 H.f_add c b
  exact Goes.stop λ_ _=>rfl
end
section
open Go.Conc Go.RowKit Go.Conc.Lib Go.ConcR.Gen
open Go.ConcN (WgLive)
open Go.ConcR (KK WgAt stA smA rd wr mk DC0)
section
variable (P:aq)(R:az->az->Prop)(L:WgLink)(Wg:Nat)(a:au)(b:au->Prop)
def UA(g:au)(_:az):Prop:=g.status=.running/\∃ g',(∀ w,aK P ab g w=.go g' w #[mk (.acquire (stA Wg))])/\∀ w1,WgLive L.tWg Wg w1->∃ m,Goes P ab R DC0 (λg _=>g=a) m g' w1
def X8(g:au)(_:az):Prop:=g.status=.running/\∃ g',(∀ w,aK P ab g w=.go g' w #[mk .enable])/\∀ w1,WgLive L.tWg Wg w1->∃ m,Goes P ab R DC0 (UA P R L Wg a) m g' w1
def HW4(g:au)(w:az):Prop:=g.status=.running/\(WgAt L.tWg Wg w 0 0->∃ g',aK P ab g w=.go g' w #[rd (stA Wg)]/\∃ m,Goes P ab R DC0 (X8 P R L Wg a) m g' w)
def HW3(g:au)(w:az):Prop:=g.status=.running/\g.offers=af/\((∃ st,WgAt L.tWg Wg w st 0)->aK P ab g w=.go { g with status:=.blocked } w #[]) /\
 (WgAt L.tWg Wg w 0 1->∃ g',aK P ab g w=.go g' (w.setCell (smA Wg) (.int .u32 0)) (semEvents (smA Wg))/\∃ m,Goes P ab R DC0 (HW4 P R L Wg a) m g' (w.setCell (smA Wg) (.int .u32 0)))
def HWr(g:au)(_:az):Prop:=g.status=.running/\∃ g' ad,ad.block=Wg/\(∀ w,aK P ab g w=.go g' w #[mk (.write ad)])/\∀ w1,WgLive L.tWg Wg w1->∃ m,Goes P ab R DC0 (HW3 P R L Wg a) m g' w1
def HW2(vs:Nat)(g:au)(w:az):Prop:=g.status=.running/\∀ v:Nat,v<2147483648->WgAt L.tWg Wg w (v*KK) 0 ->
 (v=vs->∃ g',aK P ab g w=.go g' (w.setCell (stA Wg) (.int .u64 (v*KK+1))) #[rd (stA Wg),wr (stA Wg)]/\∃ m,Goes P ab R DC0 (HWr P R L Wg a) m g' (w.setCell (stA Wg) (.int .u64 (v*KK+1)))) /\
 (v≠vs->∃ g',aK P ab g w=.go g' w #[rd (stA Wg)]/\∃ m,Goes P ab R DC0 (λg _=>b g) m g' w)
def HW1(g:au)(w:az):Prop:=g.status=.running/\∀ v:Nat,v<2147483648->WgAt L.tWg Wg w (v*KK) 0 ->
 ∃ g',aK P ab g w=.go g' w #[rd (stA Wg)]/\(v=0->∃ m,Goes P ab R DC0 (X8 P R L Wg a) m g' w)/\(v≠0->∃ m,Goes P ab R DC0 (HW2 P R L Wg a b v) m g' w)
def HKd(g:au)(_:az):Prop:=g.status=.running/\∃ g',(∀ w,aK P ab g w=.go g' w #[mk .disable])/\∀ w1,WgLive L.tWg Wg w1->∃ m,Goes P ab R DC0 (λg _=>b g) m g' w1
end
def Rc(L:WgLink)(Wg:Nat)(c:aO)(cs:List aO)(g:au):Prop :=
 ∃ T:Array ak,g=G ((base L.wait).at ⟨T,[]⟩ [.code (L7 L),.inLoop (L7 L),.inBlock 0]) (c::cs)/\T.size=84/\T[0]?=aa (.pointer (aa ⟨Wg,0,af⟩))
set_option maxRecDepth 100000 in
def D8{L:WgLink}{P:aq}(H:WgLib P L){R:az->az->Prop}{Wg:Nat}(b:∀ {w w1},WgLive L.tWg Wg w->R w w1->WgLive L.tWg Wg w1){c:aO}{cs:List aO}(w:az)(a:WgLive L.tWg Wg w) :
  Goes P ab R DC0 (HKd P R L Wg (Rc L Wg c cs)) 6 (G ((base L.wait).at ⟨#[.pointer (aa ⟨Wg,0,af⟩),aj,aj,aj,aj,aj,aj,aj,aj,aj,aj,aj,aj,aj,aj,aj,aj,aj,aj,aj,aj,aj,aj,aj,aj,aj,aj,aj,aj,aj,aj,aj,aj,aj,aj,aj,aj,aj,aj,aj,aj,aj,aj,aj,aj,aj,aj,aj,aj,aj,aj,aj,aj,aj,aj,aj,aj,aj,aj,aj,aj,aj,aj,aj,aj,aj,aj,aj,aj,aj,aj,aj,aj,aj,aj,aj,aj,aj,aj,aj,aj,aj,aj,aj],[]⟩ [.code (body_wait L)]) (c::cs)) w:=by
 lib_facts
 unfold Rc;simp only[L7,body_wait,waitFn,fG]
 repeat (u_c aD b a)
 u_cond ab b a
 repeat (u_c aD b a)
 u_reg b a
 refine Goes.stop (λe d=>?_)
 clear d;refine⟨rfl,_,λw=>stepG_mark0 .disable (by simp) rfl rfl (by k_ne) rfl H.f_disable (x_disable_n L) (x_disable_b L) (x_disable_x L) (x_disable_f L),λw a=>⟨6,?_⟩⟩
 walk_nrm
 u_c aC b a
 repeat (u_c aD b a)
 u_c stepG_block b a
 u_c stepG_loop b a
 exact Goes.stop λ_ _=>⟨_,rfl,rfl,rfl⟩
end
section
open Go.Conc Go.RowKit Go.Conc.Lib Go.ConcR.Gen
open Go.ConcN (WgLive)
open Go.ConcN.Gen
open Go.ConcR (KK WgAt stA smA rd wr mk DC0)
set_option maxRecDepth 100000 in
def D7{L:WgLink}{P:aq}(H:WgLib P L){R:az->az->Prop}{Wg:Nat}(b:∀ {w w1},WgLive L.tWg Wg w->R w w1->WgLive L.tWg Wg w1){b₀:aO}{a₀:Act}{ops₀:Array aw}{i₀:Nat}{rest₀:List Nat}{k₀:List Item}{cs:List aO}
  (g:au) (hg:Rc L Wg (b₀.at a₀ (.inRegion ops₀ (i₀::rest₀)::k₀)) cs g) (w:az) (a:WgLive L.tWg Wg w) :
  ∃ m,Goes P ab R DC0 (HW1 P R L Wg (G (b₀.at (a₀.put ((ops₀[i₀]?).bind (·.dst)) (.tuple #[])) (.inRegion ops₀ rest₀::k₀)) cs) (Rc L Wg (b₀.at a₀ (.inRegion ops₀ (i₀::rest₀)::k₀)) cs)) m g w:=by
 lib_facts
 obtain⟨T,rfl,p,t⟩:=hg;obtain⟨v0,v1,v2,v3,v4,v5,v6,v7,v8,v9,v10,v11,v12,v13,v14,J,v16,v17,F,y,v20,v21,B,v23,v24,v25,v26,Y,E,X,v30,v31,v32,x,v34,v35,v36,v37,v38,C,N,M,z,v43,v44,D,Q,v47,v48,W,v50,v51,v52,v53,v54,v55,v56,v57,K,v59,v60,v61,v62,v63,v64,O,u,v67,v68,U,A,v71,Z,v73,V,v75,v76,v77,I,v79,v80,v81,v82,v83,rfl⟩:=array84 T p;simp only[iH,kV,de] at t;subst t;refine⟨30,?_⟩;unfold Rc;simp only[L7,body_wait,waitFn,fG]
 u_c stepG_block b a
 repeat (u_c aD b a)
 u_reg b a
 u_op b a
 u_op b a
 u_op b a
 u_call H.f_uLoad (nm_uLoad L) uLoadFn b a
 repeat (u_c aD b a)
 u_reg b a
 u_op b a
 u_c aC b a
 repeat (u_c aD b a)
 u_reg b a
 u_op b a
 u_op b a
 u_op b a
 refine Goes.stop (λo j=>?_)
 replace a:=b a j
 clear j;refine⟨rfl,λv hv d=>?_⟩
 rcases oN v with rfl|hvp
 .replace d:WgAt L.tWg Wg o 0 0:=by simpa using d
  refine⟨_,stepG_load_atomic (v:=0) rfl rfl (by k_ne) rfl H.f_loadU64 (x_loadU64_n L) (x_loadU64_b L) (x_loadU64_x L) .u64 (x_loadU64_f L) rfl d.cellSt,λ_=>⟨80,?_⟩,λh=>absurd rfl h⟩
  clear d
  walk_nrm
  u_op b a
  u_c aC b a
  u_c stepG_ret' b a
  u_leave1 H.f_uLoad b a
  u_op b a
  u_c aC b a
  repeat (u_c aD b a)
  u_reg b a
  u_op b a
  u_op b a
  u_op b a
  u_op b a
  u_c aC b a
  repeat (u_c aD b a)
  u_reg b a
  u_op b a
  u_op b a
  u_op b a
  u_op b a
  u_c aC b a
  repeat (u_c aD b a)
  u_reg b a
  u_op b a
  u_op b a
  u_c aC b a
  repeat (u_c aD b a)
  u_cond ab b a
  repeat (u_c aD b a)
  u_cond ab b a
  repeat (u_c aD b a)
  u_reg b a
  refine Goes.stop (λf c=>?_)
  clear c;refine⟨rfl,_,λw=>stepG_mark0 .enable (by simp) rfl rfl (by k_ne) rfl H.f_enable (x_enable_n L) (x_enable_b L) (x_enable_x L) (x_enable_f L),λw a=>⟨20,?_⟩⟩
  walk_nrm
  u_c aC b a
  repeat (u_c aD b a)
  u_reg b a
  u_op b a
  u_conv H.underlying_tWgP H.room_tWg (Go.ConcN.Gen.WgLive.cell0 a).choose_spec b a
  refine Goes.stop (λf c=>?_)
  clear c;refine⟨rfl,_,λw=>stepG_markAt .acquire (by simp) rfl rfl (by k_ne) rfl H.f_acquire (x_acquire_n L) (x_acquire_b L) (x_acquire_x L) (x_acquire_f L) (by simp[Act.eval,stA]),λw a=>⟨40,?_⟩⟩
  walk_nrm
  u_c aC b a
  repeat (u_c aD b a)
  u_reg b a
  u_op b a
  u_op b a
  u_op b a
  u_op b a
  u_op b a
  u_op b a
  u_op b a
  u_op b a
  u_skip b a
  u_skip b a
  u_op b a
  u_c aC b a
  repeat (u_c aD b a)
  u_cond ae b a
  u_c stepG_skip b a
  u_c stepG_ret' b a
  u_leave0 H.f_wait b a
  exact Goes.stop λ_ _=>rfl
 .obtain⟨S,l⟩:∃ S:Int,(v:Int)*KK=S:=⟨_,rfl⟩;have a1:S / 4294967296=(v:Int):=by rw[<-l];simp only[KK];omega
  have b1:bits .and .u64 S 2147483648=0:=by rw[<-l];have:=Go.ConcN.st_flag v 0 (by omega) (by omega);simpa[KK] using this
  have b2:bits .and .u64 S 2147483647=0:=by rw[<-l];have:=Go.ConcN.st_waiters v 0 (by omega) (by omega);simpa[KK] using this
  have c1:IntKind.i32.wrap (v:Int)=(v:Int):=by rw[IntKind.wrap_i32];omega
  have w1:IntKind.u64.wrap (S+1)=S+1:=by rw[IntKind.wrap_u64,<-l];simp only[KK];omega
  have q3:decide ((v:Int)<0)=ae:=dY (by omega)
  have q4:decide (0<(v:Int))=ab:=ck (by omega)
  have q5:((v:Int)==0)=ae:=by simp;omega
  have q6:decide ((v:Int)=0)=ae:=dY (by omega)
  rw[l] at d;refine⟨_,stepG_load_atomic (v:=S) rfl rfl (by k_ne) rfl H.f_loadU64 (x_loadU64_n L) (x_loadU64_b L) (x_loadU64_x L) .u64 (x_loadU64_f L) rfl d.cellSt,λh0=>absurd h0 (by omega),λ_=>⟨80,?_⟩⟩
  clear d
  walk_nrm
  u_op b a
  u_c aC b a
  u_c stepG_ret' b a
  u_leave1 H.f_uLoad b a
  u_op b a
  u_c aC b a
  repeat (u_c aD b a)
  u_reg b a
  u_op b a
  u_op b a
  u_op b a
  u_op b a
  u_c aC b a
  repeat (u_c aD b a)
  u_reg b a
  u_op b a
  u_op b a
  u_op b a
  u_op b a
  u_c aC b a
  repeat (u_c aD b a)
  u_reg b a
  u_op b a
  u_op b a
  u_c aC b a
  repeat (u_c aD b a)
  u_cnd ae b a
  u_c stepG_skip b a
  repeat (u_c aD b a)
  u_reg b a
  u_op b a
  u_op b a
  u_op b a
  u_op b a
  u_op b a
  u_op b a
  u_call H.f_uCas (nm_uCas L) uCasFn b a
  repeat (u_c aD b a)
  u_reg b a
  u_op b a
  u_c aC b a
  repeat (u_c aD b a)
  u_reg b a
  u_op b a
  u_op b a
  u_op b a
  u_op b a
  u_op b a
  refine Goes.stop (λf c=>?_)
  replace a:=b a c
  clear c;refine⟨rfl,λv' SQ d=>⟨λe=>?_,λe=>?_⟩⟩
  .subst e;rw[l] at d ⊢;refine⟨_,(stepG_cas_hit (v:=S) (n:=S+1) rfl rfl (by k_ne) rfl H.f_casU64 (x_casU64_n L) (x_casU64_b L) (x_casU64_x L) .u64 (x_casU64_f L) rfl rfl rfl d.cellSt (d.thaw 0)).trans (by rfl),90,?_⟩
   replace a:WgLive L.tWg Wg (f.setCell (stA Wg) (.int .u64 (S+1))):=⟨_,_,d.setSt _⟩
   clear d
   walk_nrm
   u_op b a
   u_c aC b a
   u_c stepG_ret' b a
   u_leave1 H.f_uCas b a
   u_c aC b a
   repeat (u_c aD b a)
   u_cond ab b a
   repeat (u_c aD b a)
   u_reg b a
   u_op b a
   u_op b a
   u_op b a
   u_op b a
   u_c aC b a
   repeat (u_c aD b a)
   u_cond ab b a
   repeat (u_c aD b a)
   u_reg b a
   u_op b a
   u_op b a
   u_op b a
   u_conv H.underlying_tPU32 H.room_tU32 (Go.ConcN.Gen.WgLive.cell1 a).choose_spec b a
   refine Goes.stop (λf c=>?_)
   clear c;refine⟨rfl,_,⟨Wg,1,af⟩,rfl,λw=>stepG_markAt .write (by simp) rfl rfl (by k_ne) rfl H.f_raceWrite (x_raceWrite_n L) (x_raceWrite_b L) (x_raceWrite_x L) (x_raceWrite_f L) (ad:=⟨Wg,1,af⟩) (by simp[Act.eval]),λw a=>⟨60,?_⟩⟩
   walk_nrm
   u_c aC b a
   repeat (u_c aD b a)
   u_reg b a
   u_op b a
   u_c aC b a
   repeat (u_c aD b a)
   u_reg b a
   u_op b a
   u_op b a
   u_op b a
   u_op b a
   u_skip b a
   u_op b a
   u_c aC b a
   repeat (u_c aD b a)
   u_cond ae b a
   u_c stepG_skip b a
   repeat (u_c aD b a)
   u_reg b a
   u_op b a
   u_op b a
   u_op b a
   u_op b a
   refine Goes.stop (λq i=>?_)
   replace a:=b a i
   clear i;refine⟨rfl,rfl,λ⟨st,d⟩=>stepG_semacquire_wait rfl rfl rfl H.f_semacquire (x_semacquire_n L) (x_semacquire_b L) (x_semacquire_x L) (x_semacquire_f L) (by simp[Act.eval,smA]) d.cellSm,λr=>?_⟩
   refine⟨_,(stepG_semacquire (n:=1) rfl rfl (by k_ne) rfl H.f_semacquire (x_semacquire_n L) (x_semacquire_b L) (x_semacquire_x L) (x_semacquire_f L) (by simp[Act.eval,smA]) r.cellSm (by k_ne) (r.thaw 1)).trans (by rfl),40,?_⟩
   replace a:WgLive L.tWg Wg (q.setCell (smA Wg) (.int .u32 0)):=⟨_,_,r.setSm 0⟩
   clear r
   walk_nrm
   u_c aC b a
   repeat (u_c aD b a)
   u_reg b a
   u_op b a
   u_op b a
   u_op b a
   u_call H.f_uLoad (nm_uLoad L) uLoadFn b a
   repeat (u_c aD b a)
   u_reg b a
   u_op b a
   u_c aC b a
   repeat (u_c aD b a)
   u_reg b a
   u_op b a
   u_op b a
   u_op b a
   refine Goes.stop (λs k=>?_)
   replace a:=b a k
   clear k;refine⟨rfl,λd=>⟨_,stepG_load_atomic (v:=0) rfl rfl (by k_ne) rfl H.f_loadU64 (x_loadU64_n L) (x_loadU64_b L) (x_loadU64_x L) .u64 (x_loadU64_f L) rfl d.cellSt,40,?_⟩⟩
   clear d
   walk_nrm
   u_op b a
   u_c aC b a
   u_c stepG_ret' b a
   u_leave1 H.f_uLoad b a
   u_op b a
   u_op b a
   u_c aC b a
   repeat (u_c aD b a)
   u_cond ab b a
   repeat (u_c aD b a)
   u_reg b a
   refine Goes.stop (λf c=>?_)
   clear c;refine⟨rfl,_,λw=>stepG_mark0 .enable (by simp) rfl rfl (by k_ne) rfl H.f_enable (x_enable_n L) (x_enable_b L) (x_enable_x L) (x_enable_f L),λw a=>⟨20,?_⟩⟩
   walk_nrm
   u_c aC b a
   repeat (u_c aD b a)
   u_reg b a
   u_op b a
   u_conv H.underlying_tWgP H.room_tWg (Go.ConcN.Gen.WgLive.cell0 a).choose_spec b a
   refine Goes.stop (λf c=>?_)
   clear c;refine⟨rfl,_,λw=>stepG_markAt .acquire (by simp) rfl rfl (by k_ne) rfl H.f_acquire (x_acquire_n L) (x_acquire_b L) (x_acquire_x L) (x_acquire_f L) (by simp[Act.eval,stA]),λw a=>⟨40,?_⟩⟩
   walk_nrm
   u_c aC b a
   repeat (u_c aD b a)
   u_reg b a
   u_op b a
   u_c aC b a
   repeat (u_c aD b a)
   u_cond ae b a
   u_c stepG_skip b a
   u_c stepG_ret' b a
   u_leave0 H.f_wait b a
   exact Goes.stop λ_ _=>rfl
  .refine⟨_,stepG_cas_miss (v:=(v':Int)*KK) (old:=S) (n:=S+1) rfl rfl (by k_ne) rfl H.f_casU64 (x_casU64_n L) (x_casU64_b L) (x_casU64_x L) .u64 (x_casU64_f L) rfl rfl rfl d.cellSt (d.thaw 0) (by rw[<-l];simp only[KK];omega),30,?_⟩
   clear d
   walk_nrm
   u_op b a
   u_c aC b a
   u_c stepG_ret' b a
   u_leave1 H.f_uCas b a
   u_c aC b a
   repeat (u_c aD b a)
   u_cond ae b a
   u_c stepG_skip b a
   u_c stepG_inBlock b a
   u_c stepG_inLoop b a
   exact Goes.stop λ_ _=>⟨_,rfl,by simp,by simp⟩
end
section
open Go.Conc Go.Conc.Lib
open Go.ConcN (WgLive)
open Go.ConcR (KK WgAt stA smA rd wr mk DC0 Payload)
def fg(ty:ar)(Wg:Nat)(w w1:az):Prop:=WgLive ty Wg w->WgLive ty Wg w1
def fg.refl{ty:ar}{Wg:Nat}(w:az):fg ty Wg w w:=id
def fg.trans{ty:ar}{Wg:Nat}{a b c:az}(h:fg ty Wg a b)(k:fg ty Wg b c):fg ty Wg a c:=λx=>k (h x)
def xJ(R:az->az->Prop)(Stop:au->az->Prop)(g:au)(w:az):Prop:=∀ w1,R w w1->Stop g w1
def Goes.all{P:aq}{main:Bool}{R:az->az->Prop}{D:az->az->Array Event->Prop}{Stop:au->az->Prop}(k:∀ a b c,R a b->R b c->R a c) :
  ∀ {n:Nat} {g:au} {w:az},Goes P main R D Stop n g w->Goes P main R D (xJ R Stop) n g w
 |0,g,w,h=>λw1 l w2 p=>h w2 (k _ _ _ l p)
 |n+1,g,w,h=>by
  rcases h with h|⟨d,h⟩
  .exact .inl λw1 l w2 p=>h w2 (k _ _ _ l p)
  .refine .inr ⟨d,λw1 l=>?_⟩
   have p:=h w1 l;cases j:aK P main g w1 with
   |go g' w' es =>
    rw[j,goes_go] at p;rw[goes_go];exact⟨p.1,Goes.all k p.2⟩
   |_=>rw[j] at p;exact p.elim
structure Apart (Wg:Nat)(F:St->Prop):Prop where
 rely:∀ s s',F s->b9 s s'->F s'
 heap:∀ s,F s->∃ σ,aJ σ s
 free:∀ s,F s->¬s.own Wg/\(∀ L∈s.β,Wg∉L.bs)/\∀ o,s.M Wg o=af
section
variable {P:aq}{L:WgLink}{Wg:Nat}{F:St->Prop}
def yt(ty:ar)(Wg:Nat)(F:St->Prop)(s:St):Prop:=F s/\WgLive ty Wg s.w
def Apart.PD(A:Apart Wg F){s:St}(h:F s):gw s:=(A.heap s h).choose_spec.mem
def Apart.set(A:Apart Wg F){s:St}(h:F s)(a:Addr)(x:a.block=Wg)(v:ak):b9 s { s with w:=s.w.setCell a v }:=by
 obtain⟨l,p,y⟩:=A.free s h;have k:∀ b,b≠Wg->(s.w.setCell a v).heap[b]?=s.w.heap[b]?:=λb hb=>by
  have:=(aside_setCell s.w a v).block b (by rw[x];exact hb)
  exact this
 refine⟨rfl,rfl,rfl,Nat.le_of_eq (aside_setCell s.w a v).size.symm,λb hb=>k b ?_,λb o u j=>?_,(aside_setCell s.w a v).os,(aside_setCell s.w a v).tape,(aside_setCell s.w a v).output⟩
 .grind
 .have C:b≠Wg:=by rintro rfl;rw[y] at j;cases j
  show (s.w.setCell a v).cell? _=_;rw[jM (k b C) o];exact A.PD h b o u j
def Apart.next(A:Apart Wg F){ty:ar}{s i:St}(h:yt ty Wg F s)(r:(Cx.lead P ty Wg).rely s i):yt ty Wg F i:=⟨A.rely s i h.1 r.1,r.2 h.2⟩
def Apart.here(A:Apart Wg F){ty:ar}{s:St}(h:yt ty Wg F s):(Cx.lead P ty Wg).rely s s:=⟨b9.vU (A.PD h.1),id⟩
def Apart.goes(A:Apart Wg F){ty:ar}{S:au->St->Prop}{Stop:au->az->Prop}(k:∀ g s,yt ty Wg F s->xJ (fg ty Wg) Stop g s.w->eb (Cx.lead P ty Wg) (Es Wg) S g s){n:Nat}{g:au}{s:St}
  (d:yt ty Wg F s) (h:Goes P ab (fg ty Wg) DC0 Stop n g s.w):eb (Cx.lead P ty Wg) (Es Wg) S g s:=by
 refine eb.goes (X:=Cx.lead P ty Wg) (R:=fg ty Wg) (D:=DC0) (Stop:=xJ (fg ty Wg) Stop) (yt ty Wg F) (λs i hi f=>A.next hi f) (λs i _ f=>f.2) ?_ (λs hi=>A.here hi) k n g s d (Goes.all (λ_ _ _ l p=>l.trans p) h)
 rintro s es hi w' ⟨rfl,rfl⟩;exact⟨rfl,.inl (.quiet (A.heap s hi.1).choose_spec)⟩
end
set_option maxRecDepth 100000 in
def D6{P:aq}{L:WgLink}(H:WgLib P L){Wg:Nat}:Frame.enter P L.add #[.pointer (aa ⟨Wg,0,af⟩),.int .i64 1] .normal=(base L.add).at ⟨#[.pointer (aa ⟨Wg,0,af⟩),.int .i64 1,aj,aj,aj,aj,aj,aj,aj,aj,aj,aj,aj,aj,aj,aj,aj,aj,aj,aj,aj,aj,aj,aj,aj,aj,aj,aj,aj,aj,aj,aj,aj,aj,aj,aj,aj,aj,aj,aj,aj,aj,aj,aj,aj,aj,aj,aj,aj,aj,aj,aj,aj,aj,aj,aj,aj,aj,aj,aj,aj,aj,aj,aj,aj,aj,aj,aj,aj,aj,aj,aj,aj,aj,aj,aj,aj,aj,aj,aj,aj,aj,aj,aj,aj,aj,aj,aj,aj,aj,aj,aj,aj,aj,aj,aj,aj,aj,aj,aj,aj,aj,aj,aj,aj,aj,aj,aj,aj,aj,aj,aj,aj,aj,aj,aj,aj],[]⟩ [.code (Go.ConcR.Gen.body_add L)] :=
 (enter_at (c:=Go.ConcR.Gen.body_add L) _ H.f_add (by kernel_rfl)).trans (by kernel_rfl)
set_option maxRecDepth 100000 in
def BW{P:aq}{L:WgLink}(H:WgLib P L){Wg:Nat}:Frame.enter P L.wait #[.pointer (aa ⟨Wg,0,af⟩)] .normal=(base L.wait).at ⟨#[.pointer (aa ⟨Wg,0,af⟩),aj,aj,aj,aj,aj,aj,aj,aj,aj,aj,aj,aj,aj,aj,aj,aj,aj,aj,aj,aj,aj,aj,aj,aj,aj,aj,aj,aj,aj,aj,aj,aj,aj,aj,aj,aj,aj,aj,aj,aj,aj,aj,aj,aj,aj,aj,aj,aj,aj,aj,aj,aj,aj,aj,aj,aj,aj,aj,aj,aj,aj,aj,aj,aj,aj,aj,aj,aj,aj,aj,aj,aj,aj,aj,aj,aj,aj,aj,aj,aj,aj,aj,aj],[]⟩ [.code (Go.ConcR.Gen.body_wait L)] :=
 (enter_at (c:=Go.ConcR.Gen.body_wait L) _ H.f_wait (by kernel_rfl)).trans (by kernel_rfl)
section
variable [Payload] {P:aq}{L:WgLink}{Y:Lay}{F:St->Prop}{N n:Nat}{val:Nat->Nat->ak}
def X6(H:WgLib P L)(A:Apart Y.Wg F){j:Nat}{Next:au->St->Prop}{b₀:aO}{a₀:Act}{ops₀:Array aw}{i₀:Nat}{rest₀:List Nat}{k₀:List Item}{cs:List aO}
  (b:∀ s,yt L.tWg Y.Wg F s->eb (Cx.lead P L.tWg Y.Wg) (Es Y.Wg) (AtGo P L.tWg Y N val j Next) (G (b₀.at (a₀.put ((ops₀[i₀]?).bind (·.dst)) (.tuple #[])) (.inRegion ops₀ rest₀::k₀)) cs) s)
  {s:St} (d:yt L.tWg Y.Wg F s) :
  eb (Cx.lead P L.tWg Y.Wg) (Es Y.Wg) (AtKdS P L.tWg Y N val j Next) (G (Frame.enter P L.add #[.pointer (aa ⟨Y.Wg,0,af⟩),.int .i64 1] .normal) (b₀.at a₀ (.inRegion ops₀ (i₀::rest₀)::k₀)::cs)) s:=by
 have z:∀ g s,yt L.tWg Y.Wg F s->X7 P (fg L.tWg Y.Wg) L Y.Wg (G (b₀.at (a₀.put ((ops₀[i₀]?).bind (·.dst)) (.tuple #[])) (.inRegion ops₀ rest₀::k₀)) cs) g s.w->eb (Cx.lead P L.tWg Y.Wg) (Es Y.Wg) (AtKeS P L.tWg Y N val j Next) g s:=by
  rintro g s d ⟨l,g',p,y⟩;refine⟨.leaf,l,g',p,λi f=>?_⟩
  have a:=A.next d f;obtain⟨m,q⟩:=y i.w a.2;exact A.goes (λg s d h=>by obtain rfl:=h s.w (.refl _);exact b s d) a q
 have o:∀ g s,yt L.tWg Y.Wg F s->xJ (fg L.tWg Y.Wg) (GA1 P (fg L.tWg Y.Wg) L Y.Wg (G (b₀.at (a₀.put ((ops₀[i₀]?).bind (·.dst)) (.tuple #[])) (.inRegion ops₀ rest₀::k₀)) cs)) g s.w->eb (Cx.lead P L.tWg Y.Wg) (Es Y.Wg) (AtA1 P L.tWg Y N val j Next) g s:=by
  rintro g s d h;refine⟨.leaf,(h s.w (.refl _)).1,λi f v I t=>?_⟩
  have a:=A.next d f;obtain⟨g',l,m,q⟩:=(h i.w f.2).2 v I t;have k:yt L.tWg Y.Wg F { i with w:=i.w.setCell (stA Y.Wg) (.int .u64 ((v+1)*KK)) }:=⟨A.rely _ _ a.1 (A.set a.1 _ rfl _),⟨_,_,t.setSt _⟩⟩;refine⟨g',l,A.goes (λg s d h=>?_) k q⟩
  rcases h s.w (.refl _) with h|h
  .obtain⟨l,g',ad,p,y,h4⟩:=h;refine .step l λi f=>⟨g',i,_,y i.w,.inr ⟨rfl,ad,p,.inl rfl⟩,?_⟩
   have a:=A.next d f;obtain⟨m,q⟩:=h4 i.w a.2;exact A.goes (λg s d h=>z g s d (h s.w (.refl _))) a q
  .exact z g s d h
 have t:=NL (P:=P) (L:=L) H (R:=fg L.tWg Y.Wg) (Wg:=Y.Wg) (λh r=>r h) (b₀:=b₀) (a₀:=a₀) (ops₀:=ops₀) (i₀:=i₀) (rest₀:=rest₀) (k₀:=k₀) (cs:=cs) s.w d.2
 rw[D6 H];refine A.goes (λg s d h=>?_) d t
 obtain⟨l,g',p,y⟩:=h s.w (.refl _);refine⟨.leaf,l,g',p,λi f=>?_⟩
 have a:=A.next d f;obtain⟨m,q⟩:=y i.w a.2;exact A.goes o a q
section
variable (P L Y F)
def TW(B g:au)(s:St):Prop:=yt L.tWg Y.Wg F s/\∃ m,Goes P ab (fg L.tWg Y.Wg) DC0 (λg _=>g=B) m g s.w
def FU(c:aO)(cs:List aO)(g:au)(s:St):Prop:=yt L.tWg Y.Wg F s/\∃ m,Goes P ab (fg L.tWg Y.Wg) DC0 (λg _=>Rc L Y.Wg c cs g) m g s.w
end
variable {b₀:aO}{a₀:Act}{ops₀:Array aw}{i₀:Nat}{rest₀:List Nat}{k₀:List Item}{cs:List aO}
omit [Payload] in
def Uz(H:WgLib P L)(A:Apart Y.Wg F){T J:au->St->Prop}(K:∀ g s,TW P L Y F (G (b₀.at (a₀.put ((ops₀[i₀]?).bind (·.dst)) (.tuple #[])) (.inRegion ops₀ rest₀::k₀)) cs) g s->T g s)
  (E:∀ g s,FU P L Y F (b₀.at a₀ (.inRegion ops₀ (i₀::rest₀)::k₀)) cs g s->J g s) {g:au} {s:St} (h:FU P L Y F (b₀.at a₀ (.inRegion ops₀ (i₀::rest₀)::k₀)) cs g s) :
  eb (Cx.lead P L.tWg Y.Wg) (Es Y.Wg) (AtW1 P L.tWg Y T J) g s:=by
 generalize hc:b₀.at a₀ (.inRegion ops₀ (i₀::rest₀)::k₀)=c at *;generalize W:G (b₀.at (a₀.put ((ops₀[i₀]?).bind (·.dst)) (.tuple #[])) (.inRegion ops₀ rest₀::k₀)) cs=B at K;have O:∀ g s,yt L.tWg Y.Wg F s->xJ (fg L.tWg Y.Wg) (UA P (fg L.tWg Y.Wg) L Y.Wg B) g s.w->eb (Cx.lead P L.tWg Y.Wg) (Es Y.Wg) (AtAcq P L.tWg Y T) g s:=by
  intro g s d h;obtain⟨l,g',p,y⟩:=h s.w (.refl _);exact⟨.leaf,l,g',p,λi f=>K _ _ ⟨A.next d f,y i.w (A.next d f).2⟩⟩
 have z:∀ g s,yt L.tWg Y.Wg F s->xJ (fg L.tWg Y.Wg) (X8 P (fg L.tWg Y.Wg) L Y.Wg B) g s.w->eb (Cx.lead P L.tWg Y.Wg) (Es Y.Wg) (AtKe P L.tWg Y T) g s:=by
  intro g s d h;obtain⟨l,g',p,y⟩:=h s.w (.refl _);refine⟨.leaf,l,g',p,λi f=>?_⟩
  obtain⟨m,q⟩:=y i.w (A.next d f).2;exact A.goes O (A.next d f) q
 have U:∀ g s,yt L.tWg Y.Wg F s->xJ (fg L.tWg Y.Wg) (HW4 P (fg L.tWg Y.Wg) L Y.Wg B) g s.w->eb (Cx.lead P L.tWg Y.Wg) (Es Y.Wg) (AtW4 P L.tWg Y T) g s:=by
  intro g s d h;refine⟨.leaf,(h s.w (.refl _)).1,λi f t=>?_⟩
  obtain⟨g',l,m,q⟩:=(h i.w f.2).2 t;exact⟨g',l,A.goes z (A.next d f) q⟩
 have Z:∀ g s,yt L.tWg Y.Wg F s->xJ (fg L.tWg Y.Wg) (HW3 P (fg L.tWg Y.Wg) L Y.Wg B) g s.w->eb (Cx.lead P L.tWg Y.Wg) (Es Y.Wg) (AtW3 P L.tWg Y T) g s:=by
  intro g s d h;refine⟨.leaf,(h s.w (.refl _)).1,(h s.w (.refl _)).2.1,λi f=>⟨(h i.w f.2).2.2.1,λt=>?_⟩⟩
  obtain⟨g',l,m,q⟩:=(h i.w f.2).2.2.2 t;exact⟨g',l,A.goes U (s:={ i with w:=i.w.setCell (smA Y.Wg) (.int .u32 0) }) ⟨A.rely _ _ (A.next d f).1 (A.set (A.next d f).1 _ rfl _),⟨_,_,t.setSm 0⟩⟩ q⟩
 have V:∀ g s,yt L.tWg Y.Wg F s->xJ (fg L.tWg Y.Wg) (HWr P (fg L.tWg Y.Wg) L Y.Wg B) g s.w->eb (Cx.lead P L.tWg Y.Wg) (Es Y.Wg) (AtW3 P L.tWg Y T) g s:=by
  intro g s d h;obtain⟨l,g',ad,p,y,h4⟩:=h s.w (.refl _);refine .step l λi f=>⟨g',i,_,y i.w,.inr ⟨rfl,ad,p,.inr rfl⟩,?_⟩
  obtain⟨m,q⟩:=h4 i.w (A.next d f).2;exact A.goes Z (A.next d f) q
 have Q:∀ (v:Nat) g s,yt L.tWg Y.Wg F s->xJ (fg L.tWg Y.Wg) (HW2 P (fg L.tWg Y.Wg) L Y.Wg B (Rc L Y.Wg c cs) v) g s.w->eb (Cx.lead P L.tWg Y.Wg) (Es Y.Wg) (AtW2 P L.tWg Y T J v) g s:=by
  intro vs g s d h;refine⟨.leaf,(h s.w (.refl _)).1,λi f v I t=>⟨λe=>?_,λe=>?_⟩⟩
  .obtain⟨g',l,m,q⟩:=((h i.w f.2).2 v I t).1 e;exact⟨g',l,A.goes V (s:={ i with w:=i.w.setCell (stA Y.Wg) (.int .u64 (v*KK+1)) }) ⟨A.rely _ _ (A.next d f).1 (A.set (A.next d f).1 _ rfl _),⟨_,_,t.setSt _⟩⟩ q⟩
  .obtain⟨g',l,m,q⟩:=((h i.w f.2).2 v I t).2 e;exact⟨g',l,E _ _ ⟨A.next d f,m,q⟩⟩
 obtain⟨d,m,q⟩:=h;refine A.goes (λg s d h=>?_) d q
 obtain⟨m,t⟩:=D7 (P:=P) (L:=L) H (R:=fg L.tWg Y.Wg) (Wg:=Y.Wg) (λh r=>r h) (b₀:=b₀) (a₀:=a₀) (ops₀:=ops₀) (i₀:=i₀) (rest₀:=rest₀) (k₀:=k₀) (cs:=cs) g (by rw[hc];exact h s.w (.refl _)) s.w d.2
 rw[hc,W] at t;refine A.goes (λg s d h=>?_) d t
 refine⟨.leaf,(h s.w (.refl _)).1,λi f v I t=>?_⟩
 obtain⟨g',l,p,y⟩:=(h i.w f.2).2 v I t;refine⟨g',l,λh0=>?_,λC=>?_⟩
 .obtain⟨m,q⟩:=p h0;exact A.goes z (A.next d f) q
 .obtain⟨m,q⟩:=y C;exact A.goes (Q v) (A.next d f) q
omit [Payload] in
def UB(H:WgLib P L)(A:Apart Y.Wg F){c:aO}{J:au->St->Prop}(E:∀ g s,FU P L Y F c cs g s->J g s){s:St}(d:yt L.tWg Y.Wg F s) :
  eb (Cx.lead P L.tWg Y.Wg) (Es Y.Wg) (AtKd P L.tWg Y J) (G (Frame.enter P L.wait #[.pointer (aa ⟨Y.Wg,0,af⟩)] .normal) (c::cs)) s:=by
 have t:=D8 (P:=P) (L:=L) H (R:=fg L.tWg Y.Wg) (Wg:=Y.Wg) (λh r=>r h) (c:=c) (cs:=cs) s.w d.2
 rw[BW H];refine A.goes (λg s d h=>?_) d t
 obtain⟨l,g',p,y⟩:=h s.w (.refl _);exact⟨.leaf,l,g',p,λi f=>E _ _ ⟨A.next d f,y i.w (A.next d f).2⟩⟩
end
end
end Go.AM
namespace Go.AM.R1
section
open Go.Proofs Go.Conc.Lib
def PI:WgLink:={ add:=139,done:=141,wait:=143,relMerge:=173,disable:=174,enable:=175,inBubble:=176,associate:=177,fatal:=178,uOr:=179,uAdd:=180,raceRead:=181,uLoad:=182,uStore:=183,disassociate:=184,semrelease:=185,acquire:=187,isAssociated:=188,uCas:=189,raceWrite:=190,semacquire:=191,orU64:=211,addU64:=212,loadU64:=213,storeU64:=214,casU64:=217,tWgP:=222,tUP:=224,tAssoc:=226,tWg:=190,tAU:=188,tU64:=181,tUint:=154,tU32:=179,tPU32:=230,tPAU:=259,tPU64:=261,tNoCopy:=184,tANoCopy:=185,tAlign64:=186 }
def Cd:WgLib ah PI where
 f_add:=Tryz.func139.trans (di aa (by kernel_rfl))
 f_done:=Tryz.func141.trans (di aa (by kernel_rfl))
 f_wait:=Tryz.func143.trans (di aa (by kernel_rfl))
 f_relMerge:=Tryz.func173.trans (di aa (by kernel_rfl))
 f_disable:=Tryz.func174.trans (di aa (by kernel_rfl))
 f_enable:=Tryz.func175.trans (di aa (by kernel_rfl))
 f_inBubble:=Tryz.func176.trans (di aa (by kernel_rfl))
 f_associate:=Tryz.func177.trans (di aa (by kernel_rfl))
 f_fatal:=Tryz.func178.trans (di aa (by kernel_rfl))
 f_uOr:=Tryz.func179.trans (di aa (by kernel_rfl))
 f_uAdd:=Tryz.func180.trans (di aa (by kernel_rfl))
 f_raceRead:=Tryz.func181.trans (di aa (by kernel_rfl))
 f_uLoad:=Tryz.func182.trans (di aa (by kernel_rfl))
 f_uStore:=Tryz.func183.trans (di aa (by kernel_rfl))
 f_disassociate:=Tryz.func184.trans (di aa (by kernel_rfl))
 f_semrelease:=Tryz.func185.trans (di aa (by kernel_rfl))
 f_acquire:=Tryz.func187.trans (di aa (by kernel_rfl))
 f_isAssociated:=Tryz.func188.trans (di aa (by kernel_rfl))
 f_uCas:=Tryz.func189.trans (di aa (by kernel_rfl))
 f_raceWrite:=Tryz.func190.trans (di aa (by kernel_rfl))
 f_semacquire:=Tryz.func191.trans (di aa (by kernel_rfl))
 f_orU64:=Tryz.func211.trans (di aa (by kernel_rfl))
 f_addU64:=Tryz.func212.trans (di aa (by kernel_rfl))
 f_loadU64:=Tryz.func213.trans (di aa (by kernel_rfl))
 f_storeU64:=Tryz.func214.trans (di aa (by kernel_rfl))
 f_casU64:=Tryz.func217.trans (di aa (by kernel_rfl))
 underlying_tWgP:=Tryz.underlying222
 runUnderlying_tWgP:=Tryz.runUnderlying222
 sizeOf_tWgP:=Tryz.sizeOf222
 isAgg_tWgP:=Tryz.isAgg222
 zeroValue_tWgP:=Tryz.zeroValue222
 underlying_tUP:=Tryz.underlying224
 runUnderlying_tUP:=Tryz.runUnderlying224
 sizeOf_tUP:=Tryz.sizeOf224
 isAgg_tUP:=Tryz.isAgg224
 zeroValue_tUP:=Tryz.zeroValue224
 underlying_tI32:=Tryz.underlying226
 runUnderlying_tI32:=Tryz.runUnderlying226
 sizeOf_tI32:=Tryz.sizeOf226
 isAgg_tI32:=Tryz.isAgg226
 zeroValue_tI32:=Tryz.zeroValue226
 underlying_tWg:=Tryz.underlying190
 runUnderlying_tWg:=Tryz.runUnderlying190
 sizeOf_tWg:=Tryz.sizeOf190
 isAgg_tWg:=Tryz.isAgg190
 zeroValue_tWg:=Tryz.zeroValue190
 underlying_tAU:=Tryz.underlying188
 runUnderlying_tAU:=Tryz.runUnderlying188
 sizeOf_tAU:=Tryz.sizeOf188
 isAgg_tAU:=Tryz.isAgg188
 zeroValue_tAU:=Tryz.zeroValue188
 underlying_tU64:=Tryz.underlying181
 runUnderlying_tU64:=Tryz.runUnderlying181
 sizeOf_tU64:=Tryz.sizeOf181
 isAgg_tU64:=Tryz.isAgg181
 zeroValue_tU64:=Tryz.zeroValue181
 underlying_tSh:=Tryz.underlying154
 runUnderlying_tSh:=Tryz.runUnderlying154
 sizeOf_tSh:=Tryz.sizeOf154
 isAgg_tSh:=Tryz.isAgg154
 zeroValue_tSh:=Tryz.zeroValue154
 underlying_tU32:=Tryz.underlying179
 runUnderlying_tU32:=Tryz.runUnderlying179
 sizeOf_tU32:=Tryz.sizeOf179
 isAgg_tU32:=Tryz.isAgg179
 zeroValue_tU32:=Tryz.zeroValue179
 underlying_tPU32:=Tryz.underlying230
 runUnderlying_tPU32:=Tryz.runUnderlying230
 sizeOf_tPU32:=Tryz.sizeOf230
 isAgg_tPU32:=Tryz.isAgg230
 zeroValue_tPU32:=Tryz.zeroValue230
 underlying_tPAU:=Tryz.underlying259
 runUnderlying_tPAU:=Tryz.runUnderlying259
 sizeOf_tPAU:=Tryz.sizeOf259
 isAgg_tPAU:=Tryz.isAgg259
 zeroValue_tPAU:=Tryz.zeroValue259
 underlying_tPU64:=Tryz.underlying261
 runUnderlying_tPU64:=Tryz.runUnderlying261
 sizeOf_tPU64:=Tryz.sizeOf261
 isAgg_tPU64:=Tryz.isAgg261
 zeroValue_tPU64:=Tryz.zeroValue261
 underlying_t0:=Tryz.underlying0
 runUnderlying_t0:=Tryz.runUnderlying0
 sizeOf_t0:=Tryz.sizeOf0
 isAgg_t0:=Tryz.isAgg0
 zeroValue_t0:=Tryz.zeroValue0
 underlying_t3:=Tryz.underlying3
 runUnderlying_t3:=Tryz.runUnderlying3
 sizeOf_t3:=Tryz.sizeOf3
 isAgg_t3:=Tryz.isAgg3
 zeroValue_t3:=Tryz.zeroValue3
 underlying_t4:=Tryz.underlying4
 runUnderlying_t4:=Tryz.runUnderlying4
 sizeOf_t4:=Tryz.sizeOf4
 isAgg_t4:=Tryz.isAgg4
 zeroValue_t4:=Tryz.zeroValue4
 underlying_t9:=Tryz.underlying9
 runUnderlying_t9:=Tryz.runUnderlying9
 sizeOf_t9:=Tryz.sizeOf9
 isAgg_t9:=Tryz.isAgg9
 zeroValue_t9:=Tryz.zeroValue9
 underlying_t20:=Tryz.underlying20
 runUnderlying_t20:=Tryz.runUnderlying20
 sizeOf_t20:=Tryz.sizeOf20
 isAgg_t20:=Tryz.isAgg20
 zeroValue_t20:=Tryz.zeroValue20
 underlying_t21:=Tryz.underlying21
 runUnderlying_t21:=Tryz.runUnderlying21
 sizeOf_t21:=Tryz.sizeOf21
 isAgg_t21:=Tryz.isAgg21
 zeroValue_t21:=Tryz.zeroValue21
 room_tWg:=by kernel_rfl
 room_tU32:=by kernel_rfl
end
end Go.AM.R1
namespace Go.AM
section
open Go.Conc (G)
structure Kf {P:aq}(X:Cx P)(N:Nat)(ops:Array aw)(φ:Fr)(σ:List aW)(x:Nat->D)(c:Nat->Fr)(idx:Nat->Option Nat)(last:Nat):Prop where
 back:∀ i o,ops[i]?=aa o->∀ e∈o.after,cZ e=ab->e.on<i
 Jl:∀ i o d,ops[i]?=aa o->o.dst=aa d->idx d=aa i/\d<N
 xA:∀ d i,idx d=aa i->∃ o,ops[i]?=aa o/\o.dst=aa d
 one:∀ i o,ops[i]?=aa o->i≠last->OA X N ops.toList o (c i) σ (x i) σ
 SZ:∀ i o,ops[i]?=aa o->i≠last->∀ t σ s v,c8 σ s v (match idx t with|some j=>(if ∃ e∈o.after,cZ e=ab/\e.on=j then x j else .any)|none=>look φ t)->c8 σ s v (look (c i) t)
 Wk:∀ o,ops[last]?=aa o->∀ j,j<ops.size->j≠last->∃ e∈o.after,cZ e=ab/\e.on=j
 has:last<ops.size
section
variable {P:aq}{X:Cx P}{N:Nat}{ops:Array aw}{φ:Fr}{σ:List aW}{x:Nat->D}{c:Nat->Fr}{idx:Nat->Option Nat}{last:Nat}
def BR{a t:Nat}{L:Array Bool}(h:∀ i,i<ops.size->L.getD i ab=ab):Region.linearise.go .any ops a t L []=[]:=by
 cases a with
 |zero=>exact vK t L
 |succ n =>
  have b:ba .any ops L=[]:=by
   cases b:ba .any ops L with
   |nil=>rfl
   |cons y g =>
    have d:y∈ba .any ops L:=by rw[b];simp
    obtain⟨o,e,f,_⟩:=mem_ready.1 d
    grind
  rw[oX,b];rfl
def Kf.arr(h:Kf X N ops φ σ x c idx last){SS:au->St->Prop}{b:aO}{kk:List Item}{cs:List aO}(hb:b.kind≠.early){s0:St}
  (hQ:∀ s a,a.tmps.size=N->(∀ t,c8 σ s (a.tmps.getD t aj) (match idx t with|some j=>if j=last then .any else x j|none=>look φ t))->a.defers=[]->aJ σ s->cw σ s0 σ s->eZ X SS (G (b.aT a (.inRegion ops [last]::kk)) cs) s) :
  ∀ (g:Nat) (L:Array Bool),L.size=ops.size->(L.toList.filter (λb=>!b)).length<=g->¬L.getD last ae=ab ->
   (∀ i o,ops[i]?=aa o->L.getD i ae=ab->∀ e∈o.after,cZ e=ab->L.getD e.on ae=ab) ->
   ∀ (s:St) (a:Act),IH N σ s (fY φ x idx L) a->a.defers=[]->aJ σ s->cw σ s0 σ s ->
   ∀ t,eZ X SS (G (b.aT a (.inRegion ops (Region.linearise.go .any ops g t L [])::kk)) cs) s:=by
 intro g
 induction g with
 |zero =>
  intro L hs hf n Z s a k R hh st t;exfalso;have S:L[last]'(by have:=h.has;omega)∈L.toList:=by simp
  have I:=h.has;cases hb:L[last]'(by omega) with
  |true=>exact n (by simp[dn,fQ (by omega:last<L.size),hb])
  |false =>
   have:L[last]'(by omega)∈L.toList.filter (λb=>!b):=md.2 ⟨S,by simp[hb]⟩
   grind
 |succ g ih =>
  intro L hs hf n Z s a k R hh st t;rw[oX];cases w:(ba .any ops L)[t % (ba .any ops L).length]? with
  |none =>
   exfalso;have hr:ba .any ops L=[]:=by
    cases hr:ba .any ops L with
    |nil=>rfl
    |cons y ys =>
     rw[hr] at w;have I:t % (y::ys).length<(y::ys).length:=hJ _ (by simp)
     grind
   have K:∀ i,i<ops.size->L.getD i ae=ab:=by
    intro i
    induction i using Nat.strongRecOn with
    |_ i W2 =>
     intro hi;cases hb:L.getD i ae with
     |true=>rfl
     |false =>
      have S:i∈ba .any ops L:=mem_ready.2 ⟨ops[i],fQ hi,by
       grind,λe J q=>by
       have:=h.back i _ (fQ hi) e J q;exact W2 _ this (by omega)⟩
      rw[hr] at S;simp at S
   exact n (K last h.has)
  |some i =>
   have hi:=bM w;obtain⟨o,A,ZR,Q⟩:=mem_ready.1 hi;have I:i<ops.size:=(ig.1 A).1;have O:¬L.getD i ae=ab:=by
    grind
   by_cases C:i=last
   .subst C;have z:Region.linearise.go .any ops g (t / (ba .any ops L).length) (L.setIfInBounds i ab) []=[]:=by
     refine BR λj hj=>?_
     have hj2:(L.setIfInBounds i ab).getD j ae=ab:=by
      rw[ew (by omega)]
      by_cases e:j=i
      .exact .inl e
      .obtain⟨ed,J,q,rfl⟩:=h.Wk o A j hj e;exact .inr (Q ed J q)
     grind
    simp only[z];refine hQ s a k.size (λt=>?_) R hh st
    have:=k.slot t;unfold fY at this;cases f:idx t with
    |none=>simpa[f] using this
    |some j =>
     simp only[f] at this ⊢;obtain⟨oj,B,_⟩:=h.xA _ _ f
     by_cases e:j=i
     .rw[bg e];trivial
     .rw[aY e];obtain⟨ed,J,q,rfl⟩:=h.Wk o A j (ig.1 B).1 e
      grind
   have u:(L.setIfInBounds i ab).size=ops.size:=by simp[hs]
   have r:((L.setIfInBounds i ab).toList.filter (λb=>!b)).length<=g:=by
    have h1:L.toList[i]?=aa ae:=by
     rw[uM,fQ (by omega:i<L.size)]
     simpa[dn,fQ (by omega:i<L.size)] using O
    have:=count_set h1;rw[uH];omega
   have M:∀ j V,ops[j]?=aa V->(L.setIfInBounds i ab).getD j ae=ab->∀ e∈V.after,cZ e=ab->(L.setIfInBounds i ab).getD e.on ae=ab:=by
    intro j V Na hj e J hb;rw[ew (by omega)] at hj ⊢
    grind
   have p:¬(L.setIfInBounds i ab).getD last ae=ab:=by
    rw[ew (by omega)]
    grind
   have T:cp N σ s (c i) a:=k.Jk λt σ s v F=>h.SZ i o A C t σ s v (by
    unfold fY at F;cases f:idx t with
    |none=>simpa[f] using F
    |some j =>
     simp only[f] at F ⊢;split
     .grind
     .trivial)
   have H:∀ (s':St) (v:ak),cw σ s σ s'->c8 σ s' v (x i)->IH N σ s' (fY φ x idx (L.setIfInBounds i ab)) (a.put o.dst v):=by
    intro s' v m F;cases R:o.dst with
    |none =>
     refine⟨k.size,k.defers.imp λ_ h1=>h1.mono m.ext,λt=>?_⟩
     have l:=(k.slot t).mono m.ext hh.len;simp only[Act.put];unfold fY at l ⊢;cases f:idx t with
     |none=>simpa[f] using l
     |some j =>
      simp only[f] at l ⊢;obtain⟨oj,B,TQ⟩:=h.xA _ _ f;have E:j≠i:=by grind
      have:((L.setIfInBounds i ab).getD j ae=ab)↔L.getD j ae=ab:=by rw[ew (by omega)];simp[E]
      simp only[this];exact l
    |some d =>
     obtain⟨W,U⟩:=h.Jl i o d A R;refine⟨by simp[Act.put,k.size],k.defers.imp λ_ h1=>h1.mono m.ext,λt=>?_⟩
     simp only[Act.put]
     by_cases e:d=t
     .subst e;have Y:d<a.tmps.size:=by rw[k.size];exact U
      simp only[dn,sI Y,fG];unfold fY;simp only[W];rw[bg ((ew (by omega)).2 (.inl rfl))]
      exact F
     .have l:=(k.slot t).mono m.ext hh.len;simp only[dn] at l ⊢;rw[qo e];unfold fY at l ⊢;cases f:idx t with
      |none=>simpa[f] using l
      |some j =>
       simp only[f] at l ⊢;obtain⟨oj,B,TQ⟩:=h.xA _ _ f;have E:j≠i:=by grind
       have:((L.setIfInBounds i ab).getD j ae=ab)↔L.getD j ae=ab:=by rw[ew (by omega)];simp[E]
       simp only[this];exact l
   have:=h.one i o A C s a T hh b kk cs SS i (Region.linearise.go .any ops g (t / (ba .any ops L).length) (L.setIfInBounds i ab) []) hb (by simpa using A)
   simp only[oM] at this;exact this λv s' F ld m=>ih _ u r p M s' _ (H _ _ m F) (by cases o.dst <;> exact R) ld (st.trans m) _
def Kf.region(h:Kf X N ops φ σ x c idx last)(v:P.follows Departure.mixedOrders=ab){r:au->St->Prop}{b:aO}{kk:List Item}{cs:List aO}(hb:b.kind≠.early){s0:St}{a0:Act}{id:Nat}
  (z:cp N σ s0 φ a0) (p:a0.defers=[]) (m:aJ σ s0)
  (u:∀ s a,a.tmps.size=N->(∀ t,c8 σ s (a.tmps.getD t aj) (match idx t with|some j=>if j=last then .any else x j|none=>look φ t))->a.defers=[]->aJ σ s->cw σ s0 σ s->eZ X r (G (b.aT a (.inRegion ops [last]::kk)) cs) s) :
  eZ X r (G (b.aT a0 (.code (.region id ops ab)::kk)) cs) s0:=by
 refine .next rfl λg f=>?_
 have f:=X.iq f;have e:=m.rely f;have l:=z.rely f m;have k:Step σ g σ { g with w:={ g.w with drawn:=g.w.drawn+1 } }:=Step.same rfl rfl rfl rfl;have n:aJ σ { g with w:={ g.w with drawn:=g.w.drawn+1 } }:=e.same rfl;have q:=f.stepW.trans (k.oo e);refine⟨_,{ g with w:={ g.w with drawn:=g.w.drawn+1 } },#[],lK,⟨⟨σ,σ,e,n,k⟩,.nil⟩,?_⟩;simp only[Region.schedule,v,Bool.true_or,cj];refine h.arr hb (s0:=s0) u ops.size _ (by simp) (by simp) ?_ ?_ _ a0 ?_ p n q _
 .simp[dn,mM];split <;> simp
 .intro i o A hi;simp[dn,mM] at hi;split at hi <;> simp at hi
 .have d:=l.mono (k.oo e) e.len;refine⟨d.size,d.defers,λt=>?_⟩
  unfold fY;cases y:idx t with
  |none=>exact d.slot t
  |some j =>
   simp only;rw[aY]
   .exact d.slot t
   .simp[dn,mM];split <;> simp
end
end
section
open Go.Conc Go.RowKit Go.Conc.Lib Go.ConcR.Gen
open Go.ConcN (WgLive Has RW DWs AtR0 EvW)
open Go.ConcN.Gen
open Go.ConcR (KK WgAt stA smA rd wr mk DC0 Payload)
section
variable {P:aq}{R:az->az->Prop}{D:az->az->Array Event->Prop}{Stop A:au->az->Prop}
def Goes.never(b:∀ w,R w w)(f:∀ g w,Stop g w->∃ g' e,aK P ae g w=.go g' w #[e])(d:∀ n g w,A g w->¬Goes P ae R D Stop n g w) :
  ∀ (m n:Nat) (g:au) (w:az),Goes P ae R DC0 A m g w->¬Goes P ae R D Stop n g w
 |0,n,g,w,h,k=>d n g w (h w (b w)) k
 |m+1,n,g,w,h,k=>by
  rcases h with h|⟨_,h⟩
  .exact d n g w (h w (b w)) k
  .have h1:=h w (b w);cases a:aK P ae g w with
   |go g' w' es =>
    rw[a,goes_go] at h1;obtain⟨⟨rfl,rfl⟩,h2⟩:=h1;have no:¬Stop g w':=λi=>by
     obtain⟨g2,e,j⟩:=f g w' i;rw[j] at a;simp at a
    cases n with
    |zero=>exact no (k w' (b w'))
    |succ n =>
     rcases k with k|⟨_,k⟩
     .exact no (k w' (b w'))
     .have k1:=k w' (b w');rw[a,goes_go] at k1;exact Goes.never b f d m n g' w' h2 k1.2
   |_=>rw[a] at h1;exact h1.elim
def Goes.meet(d:∀ w,R w w)(i:∀ g w,Stop g w->∃ g' e,aK P ae g w=.go g' w #[e])(b:∀ n g w,A g w->Goes P ae R D Stop n g w->∀ w1,R w w1->Stop g w1) :
  ∀ (m n:Nat) (g:au) (w:az),Goes P ae R DC0 A m g w->Goes P ae R D Stop n g w->Goes P ae R DC0 Stop m g w
 |0,n,g,w,h,k=>b n g w (h w (d w)) k
 |m+1,n,g,w,h,k=>by
  rcases h with h|⟨f,h⟩
  .exact .inl (b n g w (h w (d w)) k)
  .refine .inr ⟨f,λw1 hr=>?_⟩
   have h1:=h w1 hr;cases a:aK P ae g w1 with
   |go g' w' es =>
    rw[a,goes_go] at h1;rw[goes_go];obtain⟨⟨rfl,rfl⟩,h2⟩:=h1;have no:¬Stop g w':=λf=>by
     obtain⟨g2,e,j⟩:=i g w' f;rw[j] at a;simp at a
    refine⟨⟨rfl,rfl⟩,?_⟩;cases n with
    |zero=>exact absurd (k w' hr) no
    |succ n =>
     rcases k with k|⟨_,k⟩
     .exact absurd (k w' hr) no
     .have k1:=k w' hr;rw[a,goes_go] at k1;exact Goes.meet d i b m n g' w' h2 k1.2
   |_=>rw[a] at h1;exact h1.elim
end
variable [Payload] {L:WgLink}{P:aq}{Wg C n Low x:Nat}{val:ak}{c:aO}{cs:List aO}
def StK(P:aq)(g:au)(_:az):Prop:=∃ g3,∀ w,aK P ae g w=.go g3 w #[mk .disable]
def StR(P:aq)(L:WgLink)(Wg C n Low x:Nat)(val:ak)(g:au)(w:az):Prop :=
 (WgLive L.tWg Wg w/\Has C (x-1) val w)/\∃ g2,(∀ w,aK P ae g w=.go g2 w #[mk (.releaseMerge (stA Wg))])/\∀ w,WgLive L.tWg Wg w/\Has C (x-1) val w->∃ m,Goes P ae (RW L.tWg Wg C n Low (x-1)) DC0 (StK P) m g2 w
set_option maxRecDepth 100000 in
def MG(H:WgLib P L)(w:az)(a:WgLive L.tWg Wg w/\Has C (x-1) val w) :
  Goes P ae (RW L.tWg Wg C n Low (x-1)) DC0 (StR P L Wg C n Low x val) 23 (G ((baseD L.done).at ⟨#[.pointer (aa ⟨Wg,0,af⟩),aj,aj,aj],[]⟩ [.code (body_done L)]) (c::cs)) w:=by
 lib_facts
 simp only[body_done,body_add,doneFn,addFn,fG]
 u_reg kn_rely a
 u_op kn_rely a
 u_in kn_rely a
 refine goes_call rfl rfl (by k_ne) rfl H.f_add (nm_add L) rfl ⟨by u_nil,?_⟩
 walk_nrmf addFn
 repeat (u_c aD kn_rely a)
 u_cond ab kn_rely a
 repeat (u_c aD kn_rely a)
 u_reg kn_rely a
 u_op kn_rely a
 u_op kn_rely a
 u_c aC kn_rely a
 repeat (u_c aD kn_rely a)
 u_cond ab kn_rely a
 u_reg kn_rely a
 u_op kn_rely a
 u_conv H.underlying_tWgP H.room_tWg (Go.ConcN.Gen.WgLive.cell0 a.1).choose_spec kn_rely a
 refine Goes.stop (λd b=>?_)
 replace a:=kn_rely a b
 clear b;refine⟨a,_,λw=>stepG_markAt .releaseMerge (by simp) rfl rfl (by k_ne) rfl H.f_relMerge (x_relMerge_n L) (x_relMerge_b L) (x_relMerge_x L) (x_relMerge_f L) (by simp[Act.eval,stA]),λw a=>⟨10,?_⟩⟩
 walk_nrm
 u_c aC kn_rely a
 repeat (u_c aD kn_rely a)
 u_reg kn_rely a
 exact Goes.stop λd b=>⟨_,λw=>stepG_mark0 .disable (by simp) rfl rfl (by k_ne) rfl H.f_disable (x_disable_n L) (x_disable_b L) (x_disable_x L) (x_disable_f L)⟩
def UP(H:WgLib P L){B:Nat}(i:c.mode=.returning)(z:QuitsD P B 0 (G c cs))(w:az)(d:WgLive L.tWg Wg w/\Has C (x-1) val w) :
  Goes P ae (RW L.tWg Wg C n Low (x-1)) DC0 (AtR0 P L.tWg Wg C n Low x val) 23 (G ((baseD L.done).at ⟨#[.pointer (aa ⟨Wg,0,af⟩),aj,aj,aj],[]⟩ [.code (body_done L)]) (c::cs)) w:=by
 have v:=doneN (Own:=λ_ _=>False) (Rd:=λ_ _=>False) (Low:=Low) (n:=n) H i z w d
 have o:∀ g w,AtR0 P L.tWg Wg C n Low x val g w->∃ g' e,aK P ae g w=.go g' w #[e]:=λg w h=>by
  obtain⟨_,_,g',f,_⟩:=h;exact⟨g',_,f⟩
 have s:(mk (.releaseMerge (stA Wg)):Event)≠mk .disable:=by simp[mk]
 refine Goes.meet (λw=>.refl w) o ?_ _ _ _ _ (MG H w d) v
 intro j g w h k w1 hr;obtain⟨d,g2,f,t⟩:=h;have a:AtR0 P L.tWg Wg C n Low x val g w1∨∃ r,Goes P ae (RW L.tWg Wg C n Low (x-1)) (DWs Wg (λ_ _=>False) (λ_ _=>False) C n x) (AtR0 P L.tWg Wg C n Low x val) r g2 w1:=by
  cases j with
  |zero=>exact .inl (k w1 hr)
  |succ j =>
   rcases k with k|⟨_,k⟩
   .exact .inl (k w1 hr)
   .have k1:=k w1 hr;rw[f w1,goes_go] at k1;exact .inr ⟨j,k1.2⟩
 rcases a with h|⟨r,h⟩
 .exact h
 .exfalso;obtain⟨m,u⟩:=t w1 (kn_rely d hr);refine Goes.never (λw=>.refl w) o ?_ _ _ _ _ u h
  rintro p g4 w4 ⟨g5,q⟩ k;have b:∀ w,¬AtR0 P L.tWg Wg C n Low x val g4 w:=λw y=>by
   obtain⟨_,_,g6,l,_⟩:=y;rw[q w] at l;simp[mk] at l
  cases p with
  |zero=>exact b w4 (k w4 (.refl w4))
  |succ p =>
   rcases k with k|⟨_,k⟩
   .exact b w4 (k w4 (.refl w4))
   .have k1:=k w4 (.refl w4);rw[q w4,goes_go] at k1;have:=(k1.1.2 _ (Array.mem_singleton.2 rfl)).2.1;exact this rfl
end
end Go.AM
namespace Go.AM.R1
section
open Go.Proofs Go.Conc Go.Conc.Lib
open Go.ConcN (WgLive PayAt Has RW AtR0)
open Go.ConcR (KK WgAt stA smA rd wr mk Payload DC0)
instance pay:Payload:=⟨193⟩
def lY(f:Int):dg:=λargs σ=>match args,σ with
 |[.e (.one (.c (.int .i64 k))),g,.e (.one (.c (.int .i64 n)))],[]=>match lh 2 g with
  |none=>af
  |some (d,b)=>aa (Wm (du k (cP.list d b) n),[],[cP.fits d b,k=f])
 |_,_=>af
noncomputable def PK:Code:=(Tryz.f140.body).getD .skip
noncomputable def KB:Array aw:=match PK with|.seq (.region _ o _) _=>o|_=>#[]
noncomputable def KC:Array aw:=match PK with|.seq _ (.region _ o _)=>o|_=>#[]
def KD:Tryz.f140.body=aa (.seq (.region 0 KB ae) (.region 1 KC ab)):=by kernel_rfl
def oW(d:Option Nat)(op:Op)(ty:ar)(b:Array Edge):aw:={ dst:=d,op:=op,type:=ty,pos:= "l12_snap.go:82",after:=b,guard:=af }
def uB:List aw:=[oW (aa 6) (.load 182 (.tmp 4)) 182 #[],oW (aa 7) (.load 3 (.tmp 5)) 3 #[],oW (aa 8) (.load 3 (.tmp 1)) 3 #[],oW (aa 9) (.load 23 (.tmp 2)) 23 #[],oW (aa 10) (.load 3 (.tmp 3)) 3 #[],
 oW (aa 11) (.call { callee:=.value (.func 142),args:=#[.tmp 8,.tmp 9,.tmp 10],argTypes:=#[3,23,3] }) 193 #[⟨2,.data⟩,⟨3,.data⟩,⟨4,.data⟩],
 oW (aa 12) (.indexAddr 182 (.tmp 6) (.tmp 7)) 0 #[⟨0,.data⟩,⟨1,.data⟩,⟨0,.phase⟩,⟨1,.phase⟩,⟨2,.phase⟩,⟨3,.phase⟩,⟨4,.phase⟩,⟨5,.phase⟩],
 oW af (.store 193 (.tmp 12) (.tmp 11)) 0 #[⟨6,.data⟩,⟨5,.data⟩,⟨5,.chain⟩,⟨0,.phase⟩,⟨1,.phase⟩,⟨2,.phase⟩,⟨3,.phase⟩,⟨4,.phase⟩,⟨5,.phase⟩]]
def N2:KC=uB.toArray:=by kernel_rfl
def oc{i:Nat}{o:aw}(h:uB[i]?=aa o):i<8:=(cg.1 h).1
section
variable (k:Int)(ps:List bw) (a:Int)(n x C:Nat)
def UN(b:ak):Fr:=[(0,.e (.one (.v b))),(1,.e (.one (.c (.rp [.int .i64 k])))),(2,.e (.one (.c (.rp [.sl ae 2 ps.length (cP.fn ps)])))),(3,.e (.one (.c (.rp [.int .i64 a])))),(4,.e (.one (.c (.rp [.val (.slice (aa ⟨C,0,af⟩) n n)])))),(5,.e (.one (.c (.rp [.int .i64 x]))))]
def xW:Nat->D
 |0=>.e (.one (.v (.slice (aa ⟨C,0,af⟩) n n)))
 |1=>dI x
 |2=>dI k
 |3=>cP.sl ps
 |4=>dI a
 |5=>Wm (du k ps a)
 |6=>.e (.one (.v (.pointer (aa ⟨C,x*2,af⟩))))
 |_=>.any
def Em:Nat->Option Nat
 |6=>aa 0|7=>aa 1|8=>aa 2|9=>aa 3|10=>aa 4|11=>aa 5|12=>aa 6|_=>af
def frW(b:ak):Nat->Fr
 |5=>[(8,dI k),(9,cP.sl ps),(10,dI a)]
 |6=>[(6,.e (.one (.v (.slice (aa ⟨C,0,af⟩) n n)))),(7,dI x)]
 |_=>UN k ps a n x C b
end
def N3{X:Cx ah}{n x C:Nat}(g:x<n):OA X 13 uB (oW (aa 12) (.indexAddr 182 (.tmp 6) (.tmp 7)) 0 #[⟨0,.data⟩,⟨1,.data⟩,⟨0,.phase⟩,⟨1,.phase⟩,⟨2,.phase⟩,⟨3,.phase⟩,⟨4,.phase⟩,⟨5,.phase⟩]) [(6,.e (.one (.v (.slice (aa ⟨C,0,af⟩) n n)))),(7,dI x)] [] (.e (.one (.v (.pointer (aa ⟨C,x*2,af⟩))))) []:=by
 refine .lF (λ_ _ _ _=>dq rfl) (bF.quiet λs ρ l h=>?_)
 have c:=h (.tmp 6);have d:=h (.tmp 7);have i:bX [(6,D.e (.one (.v (.slice (aa ⟨C,0,af⟩) n n)))),(7,dI x)] (.tmp 6)=.e (.one (.v (.slice (aa ⟨C,0,af⟩) n n))):=rfl;have j:bX [(6,D.e (.one (.v (.slice (aa ⟨C,0,af⟩) n n)))),(7,dI x)] (.tmp 7)=dI x:=rfl;rw[i] at c;rw[j] at d;have c:=Rd.fX c;have d:=fC d;generalize b:ρ (.tmp 7)=vy at d;cases d;have f:=(tok 182 i182 rfl).run_underlying (w:=s.w);refine⟨.pointer (aa ⟨C,x*2,af⟩),?_,Rd.val rfl,?_⟩
 .simp[ay,oW,c,b,Instr.indexAt,asIntOf,f,i182,(tok 193 i193 rfl).run_sizeOf,i193,c9,g]
 .simp[ay,oW,c,b,Instr.indexAt,asIntOf,f,i182,c9,g]
def UO{X:Cx ah}{k:Int}(p:dD X 142 (lY k))(ps:List bw) (a:Int)(n x C:Nat)(r:x<n)(l:ak) :
  Kf X 13 uB.toArray (UN k ps a n x C l) [] (xW k ps a n x C) (frW k ps a n x C l) Em 7:=by
 have q:bD X [(142,lY k)]:=bD.cons p bD.nil;have f:∀ (i:Nat) (o:aw) (φ:Fr) (d:D) (obs:List Prop),uB[i]?=aa o->Fw tt [(142,lY k)] [] uB φ [] o=aa (d,af,obs)->ag obs->OA X 13 uB o φ [] d [] :=
  λi o φ d obs _ h b=>fW tok q h b
 refine⟨?_,?_,?_,?_,?_,?_,by decide⟩
 .intro i o b e m _;simp only[iH] at b;have hi:=oc b
  match i,hi with
  |0,_|1,_|2,_|3,_|4,_|5,_|6,_|7,_ =>
   cases b;simp[oW] at m
   try (rcases m with rfl|rfl|rfl|rfl|rfl|rfl|rfl|rfl|rfl <;> decide)
   try (rcases m with rfl|rfl|rfl <;> decide)
 .intro i o d b w;simp only[iH] at b;have hi:=oc b
  match i,hi with
  |0,_|1,_|2,_|3,_|4,_|5,_|6,_|7,_ =>
   cases b;cases w
   try exact⟨rfl,by decide⟩
 .intro d i h;unfold Em at h;split at h <;> cases h <;> exact⟨_,rfl,rfl⟩
 .intro i o b c;simp only[iH] at b;have hi:=oc b
  match i,hi with
  |0,_=>cases b;exact f 0 _ _ _ _ rfl rfl av
  |1,_=>cases b;exact f 1 _ _ _ _ rfl rfl av
  |2,_=>cases b;exact f 2 _ _ _ _ rfl rfl av
  |3,_=>cases b;exact f 3 _ _ _ _ rfl rfl av
  |4,_=>cases b;exact f 4 _ _ _ _ rfl rfl av
  |5,_ =>
   cases b;have:=f 5 _ (frW k ps a n x C l 5) _ _ rfl rfl (by simp[ag,cP.aH])
   rw[cP.list_fn] at this;exact this
  |6,_=>cases b;exact N3 r
  |7,_=>exact absurd rfl c
 .intro i o b c t σ s v g;simp only[iH] at b;have hi:=oc b
  match i,hi with
  |0,_|1,_|2,_|3,_|4,_ =>
   match t with
   |0|1|2|3|4|5=>exact g
   |t+6=>trivial
  |5,_ =>
   cases b
   match t with
   |8=>exact(show c8 σ s v (xW k ps a n x C 2) from by simpa[Em,oW,cZ,Region.binds] using g)
   |9=>exact(show c8 σ s v (xW k ps a n x C 3) from by simpa[Em,oW,cZ,Region.binds] using g)
   |10=>exact(show c8 σ s v (xW k ps a n x C 4) from by simpa[Em,oW,cZ,Region.binds] using g)
   |0|1|2|3|4|5|6|7=>trivial
   |t+11=>trivial
  |6,_ =>
   cases b
   match t with
   |6=>exact(show c8 σ s v (xW k ps a n x C 0) from by simpa[Em,oW,cZ,Region.binds] using g)
   |7=>exact(show c8 σ s v (xW k ps a n x C 1) from by simpa[Em,oW,cZ,Region.binds] using g)
   |0|1|2|3|4|5=>trivial
   |t+8=>trivial
  |7,_=>exact absurd rfl c
 .intro o b j u c;simp only[iH] at b;cases b
  match j,u with
  |0,_=>exact⟨⟨0,.phase⟩,by simp[oW],rfl,rfl⟩
  |1,_=>exact⟨⟨1,.phase⟩,by simp[oW],rfl,rfl⟩
  |2,_=>exact⟨⟨2,.phase⟩,by simp[oW],rfl,rfl⟩
  |3,_=>exact⟨⟨3,.phase⟩,by simp[oW],rfl,rfl⟩
  |4,_=>exact⟨⟨4,.phase⟩,by simp[oW],rfl,rfl⟩
  |5,_=>exact⟨⟨5,.phase⟩,by simp[oW],rfl,rfl⟩
  |6,_=>exact⟨⟨6,.data⟩,by simp[oW],rfl,rfl⟩
  |7,_=>exact absurd rfl c
noncomputable def uC:aO:={ (default:aO) with fn:=Tryz.prog.funcs.size,defers:=[],mode:=.panicking [goexitEntry] }
def wE(vs:Array ak):Deferred:={ target:=.fn (.func 140) vs,args:=#[] }
def Hi(v0 v1 v2 v3 v4 v5:ak)(w:az):aK ah ae (born ah (wE #[v0,v1,v2,v3,v4,v5])) w =
  .go (G ((baseD 140).at ⟨#[v0,v1,v2,v3,v4,v5,aj,aj,aj,aj,aj,aj,aj],[]⟩ [.code (.seq (.region 0 KB ae) (.region 1 KC ab))]) [uC]) w #[]:=by
 have c:=KD;have d:Tryz.f140.ntmps=13:=by kernel_rfl
 have b:¬Tryz.f140.name= "runtime.NumGoroutine":=by
  have:(Tryz.f140.name== "runtime.NumGoroutine")=ae:=by kernel_rfl
  simpa using this
 simp[born,wE,aK,unwind,callDeferred,invoke,callFunc,Tryz.func140,c,d,b,seen,GStep.after,G,Frame.enter,Frame.at,baseD,uC]
end
section
open Go.Proofs
variable {X:Cx ah}
abbrev pk(ps:List bw)(i:Nat):bw:=ps.getD i (0,[])
def Kv{k n:Int}{ps:List bw}{i:Nat}{r:Bs}(hi:i<ps.length)(h:dW k (pk ps i) n=aa r)(a:∀ j,j<i->dW k (pk ps j) n=af):du k ps n=aa r:=by
 unfold du
 induction ps generalizing i with
 |nil=>simp at hi
 |cons p ps ih =>
  cases i with
  |zero=>grind
  |succ i =>
   have b:=a 0 (by omega)
   grind
def Eg{k n:Int}{ps:List bw}(a:∀ j,j<ps.length->dW k (pk ps j) n=af):du k ps n=af:=by
 unfold du;rw[List.findSome?_eq_none_iff];intro p b;obtain⟨j,c,rfl⟩:=dX b
 grind
def Bp.V5{P:aq}{φ:Fr}{σ:List aW}{T:List (Nat×TI)}(i:db P T){fn:Func}{c:Nat}{res:D}{σ':List aW}(ks:List Nat){ps:List Prop}(h:M8 T fn.results.toList ks φ res=aa ps)(g:ag ps)(f:kA ks σ=aa σ')(a:ki σ'=ab)(hn:dM ks=ab)(e:∀ j,j<c->ks[j]?=aa j) :
  Bp P fn c res σ' .ret φ σ:=by
 refine⟨.inl rfl,ks,?_⟩;unfold M8 at h;split at h
 .rename_i ds TO
  split at h
  .rename_i d k
   split at h
   .rename_i b
    exact⟨d,ps,Bn.V5 i TO k,h,g,b,f,a,hn,e⟩
   .cases h
  .cases h
 .cases h
def iY{a:List Nat}:∀ j,j<0->a[j]?=aa j:=λ_ h=>absurd h (jh _)
def Kw(b:dD X 165 pf) (k:Int)(ps:List bw) (n:Int)(g:cA k=ab):Ev X 142 [dI k,cP.sl ps,dI n] [] (Wm (du k ps n)) []:=by
 refine Ev.gy Tryz.func142 rfl rfl rfl λm=>?_
 have l:=m.sl 1 rfl;have d:bD X [(186,Di aI (B7 dx) aI (λk p n=>Ac (dW k p n)) λk _ _=>[cA k=ab])]:=.cons (Rq b) .nil
 refine aE d [] 100 rfl av ?_;refine AK.bJ 1 (λi=>i<=ps.length/\∀ j,j<i->dW k (pk ps j) n=af) (λi:Nat=>[(0,dI k),(2,dI n),(6,.e (.one (.ptr 0 0))),(11,cP.sl ps),(12,dI ps.length),(13,dI i)]) (λ_=>[.cells 193 [.c (.str []),.c (.bool ae)]]) (λi=>ps.length-i) 0 rfl ?_ rfl ?_ rfl ⟨by omega,by omega⟩ ?_
 .simp[ag.cat,ag,aR.same]
 .simp[ag.cat,ag]
 rintro i ⟨hi,a⟩
 by_cases h:i<ps.length
 .cases f:dW k (pk ps i) n with
  |some r =>
   refine aE d [(14,ab),(24,ab)] 100 rfl ?_ (AK.freeze 6 0 rfl rfl rfl (AK.ee ?_))
   .simp only[ag,bt,dx.list_fn];refine⟨?_,dx.aH _,g,by omega,by omega,ck (by omega)⟩
    grind
   .refine Bp.V5 tok [] rfl ?_ rfl rfl rfl iY;rw[Kv h f a];simp only[bt,dx.list_fn];have e:dW k ((ps.getD i cP.bC).1,(ps.getD i cP.bC).2) n=aa r:=f;rw[e];simp[ag.cat,ag]
  |none =>
   refine aE d [(14,ab),(24,ae)] 100 rfl ?_ (AK.aQ (i+1) rfl ?_ ?_ ?_ ?_)
   .simp only[ag,bt,dx.list_fn];refine⟨by simp only[bx];omega,?_,dx.aH _,g,by omega,by omega,ck (by omega)⟩
    grind
   .simp[ag.cat,ag,aR.same]
   .simp[ag.cat,ag]
   .grind
   grind
 .refine aE d [(14,ae)] 100 rfl (by simp[ag];omega) (AK.leaveD rfl rfl ?_)
  refine aE d [] 100 rfl av ?_;refine AK.freeze 6 0 rfl rfl rfl ?_;refine AK.mW tok [] rfl ?_ rfl rfl rfl iY;rw[Eg λj o=>a j (by omega)]
  simp[ag.cat,ag]
def Rr(a:dD X 165 pf){k:Int}(c:cA k=ab):dD X 142 (lY k):=by
 intro args σ res σ' obs h e;unfold lY at h;split at h
 .rename_i k1 da n
  split at h
  .cases h
  .rename_i f g d
   cases h;obtain⟨b,rfl⟩:=e;exact(Kw a _ _ n c).args λs vs=>cv.imp (λ_ r=>r) (cv.imp (λ_ r=>cP.kn d b r) (cv.imp (λ_ r=>r) (λ_ r=>r))) vs
 .cases h
def G6:dg:=λargs σ=>match args,σ with
 |[.e (.one (.c (.str [46]))),.e (.one (.c (.int .i64 c)))],[]=>aa (dS (List.replicate c.toNat 46),[],[0<=c/\c<=3])
 |_,_=>af
def t209:dD X 209 (kN aI (λn=>dI (cB n.toNat)) λn=>[0<=n/\n<=4000000]):=.oH λn h=>by
 have a:0<=n/\n<=4000000:=h;obtain⟨m,rfl⟩:∃ m:Nat,n=m:=⟨n.toNat,by omega⟩
 exact B5 (X:=X) m (by omega)
def Kx{n:Nat}(b:1<=n)(a:n<=8):n<=cB n/\cB n<=n+3:=by
 unfold cB;split
 .omega
 .split
  .omega
  .split <;> omega
def Ky(b:dD X 208 G6)(p:Bs):Ev X 165 [dS p] [] (dS (iE p)) []:=by
 refine Ev.bQ Tryz.func165 rfl λe=>?_
 have d:bD X [(164,kN aS (λs=>dB (bL s)) λ_=>[]),(209,kN aI (λn=>dI (cB n.toNat)) λn=>[0<=n/\n<=4000000]),(208,G6)]:=.cons t164 (.cons t209 (.cons b .nil))
 by_cases a:bL p=ab
 .have c:=a;simp only[bL,bO,bd] at c;have f:=Kx c.1.1 c.1.2;refine aE d [(5,ae)] 100 rfl ?_ (AK.bo rfl ?_)
  .simp[ag,a,bx];omega
  .simp[ag,ag.cat,iE,a]
 .refine aE d [(5,ab)] 100 rfl ?_ (AK.bo rfl ?_)
  .simp[ag,a]
  .simp[ag,ag.cat,iE,a]
def UG(a:dD X 208 G6):dD X 165 pf:=.oH λp _=>Ky a p
def NV:Ev X 208 [dS [46],dI 0] [] (dS []) []:=by
 refine Ev.bQ Tryz.func208 rfl λa=>?_
 refine aX [(12,ab)] 100 rfl ?_ (AK.bo rfl ?_)
 .simp[ag]
 .simp[ag,ag.cat]
def NW:Ev X 208 [dS [46],dI 1] [] (dS [46]) []:=by
 refine Ev.bQ Tryz.func208 rfl λa=>?_
 refine aX [(12,ae),(14,ab)] 100 rfl ?_ (AK.bo rfl ?_)
 .simp[ag]
 .simp[ag,ag.cat]
def UE(b:Ev X 208 [dS [46],dI 2] [] (dS [46,46]) [])(a:Ev X 208 [dS [46],dI 3] [] (dS [46,46,46]) []):dD X 208 G6:=by
 intro args σ res σ' obs h d;unfold G6 at h;split at h
 .rename_i c
  cases h;have:c=0∨c=1∨c=2∨c=3:=by have:0<=c/\c<=3:=d;omega
  rcases this with rfl|rfl|rfl|rfl
  .exact NV
  .exact NW
  .exact b
  .exact a
 .cases h
end
section
open Go.Proofs
def Ej{P:aq}{o:aw}{k:an->D}{σ:List aW}{op:BinOp}{t ty:ar}{x y:an}(h:o.op=.binOp op t x y ty){e:ar}(B:P.underlying t=aa (.pointer e)){b c:Bool}
  (z:∀ s u v,aJ σ s->c8 σ s u (k x)->c8 σ s v (k y)->∃ p q,u=.pointer p/\v=.pointer q/\(p==q)=b/\(eqGuard op t x y u v).run P s.w=.ok () s.w/\(∀ es,(eqGuard op t x y u v).events P s.w es=es) /\
   (Op.equal t u v).run P s.w=.ok b s.w/\∀ es,(Op.equal t u v).events P s.w es=es)
  (m:lP op b=aa c):bF P o k σ (.e (.one (.c (.bool c)))) σ:=by
 refine .quiet λs ρ A r=>?_
 obtain⟨p,q,g,f,C,i,n,j,l⟩:=z s _ _ A (r x) (r y);rw[g,f] at i j;have d:=n #[];have a:=l #[];rw[g,f] at d a;cases op <;> simp only[lP,reduceCtorEq,de] at m
 .subst m;exact⟨.bool b,by simp[ay,h,g,f,i,binOp,j],Rd.bool,by simp[ay,h,g,f,i,d,binOp,j,a]⟩
 .subst m;exact⟨.bool (!b),by simp[ay,h,g,f,i,binOp,j],Rd.bool,by simp[ay,h,g,f,i,d,binOp,j,a]⟩
def Rf{P:aq}{o:aw}{g:an->D}{σ:List aW}{op:BinOp}{t ty:ar}{x:an}(h:o.op=.binOp op t x (.const (.pointer af)) ty){e:ar}(f:P.underlying t=aa (.pointer e)){c:Bool}
  (j:g x=.e (.one (.c .l9))) (l:g (.const (.pointer af))=.e (.one (.c .l9))) (m:lP op ab=aa c):bF P o g σ (.e (.one (.c (.bool c)))) σ:=by
 refine Ej h f (b:=ab) ?_ m;intro s u v _ d a;rw[j] at d;rw[l] at a
 replace d:=fC d
 replace a:=fC a
 cases d;cases a;have k:(Op.equal t (.pointer af) (.pointer af)).run P s.w=.ok ab s.w:=by
  show (Op.equalIn (9999+1) t _ _).run P s.w=_;unfold Op.equalIn;simp[underlying,f]
 have i:∀ es,(Op.equal t (.pointer af) (.pointer af)).events P s.w es=es:=λes=>by
  show (Op.equalIn (9999+1) t _ _).events P s.w es=es;unfold Op.equalIn;simp[underlying,f]
 exact⟨af,af,rfl,rfl,rfl,by cases op <;> simp[eqGuard],λes=>by cases op <;> simp[eqGuard],k,i⟩
def Rg{P:aq}{o:aw}{f:an->D}{σ:List aW}{op:BinOp}{t ty:ar}{x:an}(h:o.op=.binOp op t x (.const (.pointer af)) ty){e:ar}(d:P.underlying t=aa (.pointer e)){c:Bool}{l off:Nat}
  (j:f x=.e (.one (.ptr l off))) (m:f (.const (.pointer af))=.e (.one (.c .l9))) (n:lP op ae=aa c):bF P o f σ (.e (.one (.c (.bool c)))) σ:=by
 refine Ej h d (b:=ae) ?_ n;intro s u v _ i a;rw[j] at i;rw[m] at a
 replace a:=fC a
 cases a;obtain⟨_,L,b,_,_,rfl⟩:=(i:gu σ s u (.ptr l off));have k:(Op.equal t (.pointer (aa ⟨b,off,af⟩)) (.pointer af)).run P s.w=.ok ae s.w:=by
  show (Op.equalIn (9999+1) t _ _).run P s.w=_;unfold Op.equalIn;simp[underlying,d]
 have g:∀ es,(Op.equal t (.pointer (aa ⟨b,off,af⟩)) (.pointer af)).events P s.w es=es:=λes=>by
  show (Op.equalIn (9999+1) t _ _).events P s.w es=es;unfold Op.equalIn;simp[underlying,d]
 exact⟨_,af,rfl,rfl,rfl,by cases op <;> simp[eqGuard],λes=>by cases op <;> simp[eqGuard],k,g⟩
def NM{P:aq}{o:aw}{g:an->D}{σ:List aW}{op:BinOp}{t ty:ar}{x y:an}(h:o.op=.binOp op t x y ty){e:ar}(f:P.underlying t=aa (.pointer e)){n:Nat}(q:n≠0)
  (p:∀ w,(sizeOf e).run P w=.ok n w) (k:∀ w es,(sizeOf e).events P w es=es) {c:Bool} {l off:Nat}
  (z:g x=.e (.one (.ptr l off))) (B:g y=.e (.one (.ptr l off))) (C:lP op ab=aa c):bF P o g σ (.e (.one (.c (.bool c)))) σ:=by
 refine Ej h f (b:=ab) ?_ C;intro s u v _ r m;rw[z] at r;rw[B] at m;obtain⟨_,L,b,A,j,rfl⟩:=(r:gu σ s u (.ptr l off));obtain⟨_,F,G,d,a,rfl⟩:=(m:gu σ s v (.ptr l off));rw[A] at d;cases d;rw[j] at a;cases a;have E:(Op.equal t (.pointer (aa ⟨b,off,af⟩)) (.pointer (aa ⟨b,off,af⟩))).run P s.w=.ok ab s.w:=by
  show (Op.equalIn (9999+1) t _ _).run P s.w=_;unfold Op.equalIn;simp[underlying,f,p,q,sameAddr]
 have i:∀ es,(Op.equal t (.pointer (aa ⟨b,off,af⟩)) (.pointer (aa ⟨b,off,af⟩))).events P s.w es=es:=λes=>by
  show (Op.equalIn (9999+1) t _ _).events P s.w es=es;unfold Op.equalIn;simp[underlying,f,p,k,q,sameAddr]
 exact⟨_,_,rfl,rfl,by simp,by cases op <;> simp[eqGuard],λes=>by cases op <;> simp[eqGuard],E,i⟩
end
end Go.AM.R1
