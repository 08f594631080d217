/- Part 4. No condition. -/
import Derived.Test.YthilmklinlalbaaGreatDoorA3
import Derived.Conc.DeferLaws
import Derived.Sort.AssemblyPlain
import Derived.Sort.LotD5
import Derived.Sort.Walk13a
set_option linter.all false
set_option maxHeartbeats 8000000
open Go renaming Value → ah
open Option renaming some → aa
open Go renaming Program → aq
open Go renaming TypeId → aj
open Bool renaming true → ab
open Option renaming none → af
open Go renaming Oper → ar
open Go renaming Operand → ak
open Bool renaming false → ae
open Go renaming undef → ai
open Go.World renaming cell? → aU
open List renaming getD_eq_getElem?_getD → an
open Go.Sem renaming events_bind → aK
open Go.Result renaming evThen_ok → aO
open Go renaming execOp → av
open Go renaming World → az
open Go renaming Goroutine → au
open Go renaming stepG → aG
open Go renaming Frame → aR
open List renaming range → bd
open Go renaming FuncId → aH
open Go.Instr renaming sureAddr → bn
open Nat renaming beq → aA
open Nat renaming ble → bw
open Go.Op renaming bytesLess → bk
open Go.Proofs.Tryz renaming prog → ag
open Go.Conc renaming stepG_seq → aC
open Go.Conc renaming stepG_region_end → aB
namespace Go.AM
abbrev O8(a b:Bs)(c:Bool):D:=.fa [.one (.c (.str a)),.one (.c (.str b)),.one (.c (.bool c))]
namespace R1
open Go.Proofs
variable {X:Cx ag}
def yc(s:Bs)(c:Int)(h:0<=c/\c<=255):Ev X 224 [dS s,dU c] [] (dI (Lib.indexByte s (UInt8.ofNat (Int.toNat c)))) []:=by
 have e:c=((UInt8.ofNat c.toNat).toNat:Int):=by grind[UInt8.toNat_ofNat']
 grind[AU]
def S9:dv:=λargs σ=>match args,σ with
 |[.e (.one (.c (.str a))),.e (.one (.c (.int .u8 b)))],[]=>aa (dI (Lib.indexByte a (UInt8.ofNat (Int.toNat b))),[],[0<=b/\b<=255])
 |_,_=>af
def t224:eb X 224 S9:=by
 intro args σ res σ' obs h a;unfold S9 at h;split at h
 .cases h;exact(yc _ _ (a)).args (λ_ _ r=>r)
 .cases h
def Wd:List (Nat×dv):=(224,S9)::ct7
def LR:bF X Wd:=bF.cons t224 (Zq)
def iG(s:Bs):Int:=Lib.indexByte s 47
theorem LS(s:Bs):Ev X 203 [dS s,dS [47]] [] (dI (iG s)) []:=by
 refine Ev.bQ Tryz.func203 rfl λa=>?_;by_cases h:s=[47]
 .subst h;refine aV LR [(18,ae),(22,ab)] rfl ?_ (AK.bx rfl ?_)
  .simp
  .simp[iG,Lib.indexByte.eq_def]
 .refine aV LR [(18,ae),(22,ae),(26,ab)] rfl ?_ (AK.bx rfl ?_)
  .simp[cR,cN];grind
  .simp[iG,iS]
def Ta:dv:=λargs σ=>match args,σ with
 |[.e (.one (.c (.str a))),.e (.one (.c (.str [47])))],[]=>aa (dI (iG a),[],[])
 |_,_=>af
def t203:eb X 203 Ta:=by intro args σ res σ' obs h a;unfold Ta at h;grind[LS]
def We:List (Nat×dv):=(203,Ta)::Wd
def LU:bF X We:=bF.cons t203 (LR)
def js(s:Bs):Bs:=if 0<=iG s then s.take (iG s).toNat else s
def mM(s:Bs):Bs:=if 0<=iG s then s.drop ((iG s).toNat+1)else[]
def j3(s:Bs):Bool:=decide (0<=iG s)
theorem LV(s:Bs):Ev X 157 [dS s,dS [47]] [] (O8 (js s) (mM s) (j3 s)) []:=by
 refine Ev.bQ Tryz.func157 rfl λb=>?_;have d:=b.str 0 rfl;have a:=lM s 47;change iG s<s.length∨iG s=-1 at a;by_cases h:0<=iG s
 .have c:(iG s+1).toNat=(iG s).toNat+1:=by omega
  refine aV LU [(12,ab)] rfl ?_ (AK.bx rfl ?_)
  .simp[h,bA];omega
  .simp[js,mM,j3,h,r9,c]
 .refine aV LU [(12,ae)] rfl ?_ (AK.bx rfl ?_)
  .simp;omega
  .simp[js,mM,j3,h]
def Tb:dv:=λargs σ=>match args,σ with
 |[.e (.one (.c (.str a))),.e (.one (.c (.str [47])))],[]=>aa (O8 (js a) (mM a) (j3 a),[],[])
 |_,_=>af
def t157:eb X 157 Tb:=by intro args σ res σ' obs h a;unfold Tb at h;grind[LV]
def Wf:List (Nat×dv):=(157,Tb)::We
def QJ:bF X Wf:=bF.cons t157 (LU)
theorem Tc(s:Bs):Ev X 119 [dS s,dS [47]] [] (O8 (js s) (mM s) (j3 s)) []:=by refine Ev.bQ Tryz.func119 rfl λa=>?_;exact cg QJ rfl aw (AK.bx rfl)
def Td:dv:=λargs σ=>match args,σ with
 |[.e (.one (.c (.str a))),.e (.one (.c (.str [47])))],[]=>aa (O8 (js a) (mM a) (j3 a),[],[])
 |_,_=>af
def t119:eb X 119 Td:=by intro args σ res σ' obs h a;unfold Td at h;grind[Tc]
def cD(s:Bs):Bool:=decide (s.length=1)&&decide (97<=cN s 0)&&decide (cN s 0<=101)
theorem uU(s:Bs):Ev X 120 [dS s] [] (dB (cD s)) []:=by
 refine Ev.bQ Tryz.func120 rfl λc=>?_;by_cases b:s.length=1
 .by_cases a:97<=cN s 0
  .refine aW [(5,ab),(9,ab)] rfl ?_ (AK.bx rfl ?_)
   .simp only[ay,aZ];grind[cR]
   .show decide (cN s 0<=101)=cD s;simp[cD,b,a]
  .refine aW [(5,ab),(9,ae)] rfl ?_ (AK.bx rfl ?_)
   .simp only[ay,bM];grind[cR]
   .simp[cD,a]
 .refine aW [(5,ae)] rfl ?_ (AK.bx rfl ?_)
  .simp;omega
  .simp[cD,b]
def Te:dv:=λargs σ=>match args,σ with
 |[.e (.one (.c (.str a)))],[]=>aa (dB (cD a),[],[])
 |_,_=>af
def t120:eb X 120 Te:=by intro args σ res σ' obs h a;unfold Te at h;grind[uU]
def Wh:List (Nat×dv):=(119,Td)::(120,Te)::Wf
def GR:bF X Wh:=bF.cons t119 (bF.cons t120 (QJ))
def fg(s:Bs):Bool:=cD (js s)&&(!j3 s||cD (mM s))
theorem Fa(s:Bs):Ev X 68 [dS s] [] (dB (fg s)) []:=by
 refine Ev.bQ Tryz.func68 rfl λc=>?_;cases a:cD (js s)with
 |false =>
  refine aV GR [(13,ae)] rfl ?_ (AK.bx rfl ?_)
  .simp[a]
  .simp[fg,a]
 |true =>
  cases b:j3 s with
  |false =>
   refine aV GR [(13,ab),(15,ae)] rfl ?_ (AK.bx rfl ?_)
   .simp[a,b]
   .simp[fg,a,b]
  |true =>
   refine aV GR [(13,ab),(15,ab)] rfl ?_ (AK.bx rfl ?_)
   .simp[a,b]
   .simp[fg,a,b]
def Zr:dv:=λargs σ=>match args,σ with
 |[.e (.one (.c (.str a)))],[]=>aa (dB (fg a),[],[])
 |_,_=>af
def t68:eb X 68 Zr:=by intro args σ res σ' obs h a;unfold Zr at h;grind[Fa]
theorem C1(s:Bs):Ev X 121 [dS s] [] (dB (b8 s)) []:=by
 refine Ev.bQ Tryz.func121 rfl λe=>?_;have g:=e.str 0 rfl;refine bu rfl aw ?_;refine AK.j0 (λi=>i<=s.length/\∀j,j<i->eW (s.getD j 0)=ab) (λi:Nat=>[(0,dS s),(5,dI s.length),(6,dI i)]) (λ_=>[]) (λi=>s.length-i) 0 rfl ?_ rfl aw ⟨by omega,by omega⟩ ?_
 .simp
 rintro i ⟨hi,c⟩;by_cases h:i<s.length
 .generalize a:s.getD i 0=b;by_cases k:b.toNat<97
  .refine aW [(7,ab),(12,ab)] rfl ?_ (AK.iC (cw.zero rfl ?_))
   .simp only[ay,kv,aZ,a];omega
   .rw[ay,kI h (by rw[a];simp only[eW,pP,bM];omega)]
  .by_cases f:b.toNat>122
   .refine aW [(7,ab),(12,ae),(17,ab)] rfl ?_ (AK.iC (cw.zero rfl ?_))
    .simp only[ay,kv,aZ,bM,a];omega
    .rw[ay,kI h (by rw[a];simp only[eW,pP,bM];omega)]
   .refine aW [(7,ab),(12,ae),(17,ae)] rfl ?_ (AK.gj (i+1) rfl ?_ rfl aw ?_ ?_)
    .simp only[ay,kv,aZ,bM,a,bA];omega
    .simp
    .refine⟨by omega,λj d=>?_⟩;rcases zj.1 d with d|rfl
     .grind
     .rw[a];simp only[eW,bS,aZ];omega
    .omega
 .refine aW [(7,ae)] rfl (by simp;omega) (AK.leave rfl rfl ?_);refine bu rfl aw (AK.bx rfl ?_);rw[ay,sQ (λj d=>c j (by omega))]
def Tf:dv:=λargs σ=>match args,σ with
 |[.e (.one (.c (.str a)))],[]=>aa (dB (b8 a),[],[])
 |_,_=>af
def t121:eb X 121 Tf:=by intro args σ res σ' obs h a;unfold Tf at h;grind[C1]
def Wi:List (Nat×dv):=(68,Zr)::(121,Tf)::Wh
def LW:bF X Wi:=bF.cons t68 (bF.cons t121 (GR))
theorem xe(s:Bs):Ev X 69 [dS s] [] (dB (ee s)) []:=by
 refine Ev.bQ Tryz.func69 rfl λb=>?_;by_cases a:s.length<=40
 .refine aV LW [(5,ab)] rfl ?_ (AK.bx rfl ?_)
  .simp;omega
  .simp[ee,a]
 .refine aV LW [(5,ae)] rfl ?_ (AK.bx rfl ?_)
  .simp;omega
  .simp[ee,a]
def Zs:dv:=λargs σ=>match args,σ with
 |[.e (.one (.c (.str a)))],[]=>aa (dB (ee a),[],[])
 |_,_=>af
def t69:eb X 69 Zs:=by intro args σ res σ' obs h a;unfold Zs at h;grind[xe]
def lq(s p:Bs):Bool:=decide (p.length<=s.length)&&(s.take p.length==p)
theorem C2(s p:Bs):Ev X 123 [dS s,dS p] [] (dB (lq s p)) []:=by
 refine Ev.bQ Tryz.func123 rfl λb=>?_;by_cases a:p.length<=s.length
 .refine aW [(9,ab)] rfl ?_ (AK.bx rfl ?_)
  .simp[a]
  .simp[lq,a,r9]
 .refine aW [(9,ae)] rfl ?_ (AK.bx rfl ?_)
  .simp;omega
  .simp[lq,a]
def Tg:dv:=λargs σ=>match args,σ with
 |[.e (.one (.c (.str a))),.e (.one (.c (.str b)))],[]=>aa (dB (lq a b),[],[])
 |_,_=>af
def t123:eb X 123 Tg:=by intro args σ res σ' obs h a;unfold Tg at h;grind[C2]
def Wj:List (Nat×dv):=(69,Zs)::(123,Tg)::Wi
def QK:bF X Wj:=bF.cons t69 (bF.cons t123 (LW))
theorem Ix(s p:Bs):Ev X 72 [dS s,dS p] [] (dB (lq s p)) []:=by refine Ev.bQ Tryz.func72 rfl λa=>?_;exact cg QK rfl aw (AK.bx rfl)
def Zt:dv:=λargs σ=>match args,σ with
 |[.e (.one (.c (.str a))),.e (.one (.c (.str b)))],[]=>aa (dB (lq a b),[],[])
 |_,_=>af
def t72:eb X 72 Zt:=by intro args σ res σ' obs h a;unfold Zt at h;grind[Ix]
def Wk:List (Nat×dv):=(72,Zt)::Wj
def QL:bF X Wk:=bF.cons t72 (QK)
end R1
def kF.LX{α:Type}(c:kF α)(l:List α)(k n:Nat)(h:k+n<=l.length):c.list n (jJ k (c.fn l))=(l.drop k).take n:=by
 apply pX
 .simp[kF.list];omega
 .intro i h1 h2;have hi:i<n:=by grind
  simp[kF.list,jJ,kF.fn,ya,an,br (by omega:k+i<l.length),c.inv]
def kF.LY{α:Type}(c:kF α)(l:List α){k n:Nat}:c.fits n (jJ k (c.fn l)):=λi _=>by simp[jJ,kF.fn,ya,c.inv]
abbrev dR(p x:Bs):D:=.e (.one (.c (.rp [.str p,.str x])))
namespace R1
open Go.Proofs
variable {X:Cx ag}
def under(p q:Bs):Bool:=lq p (q++[47])
def LZ(a:bz)(p x:Bs)(h:a.1.length<=4000000):Ev X 71 [dP a,dR p x] [] (dB (under p a.1)) []:=by
 refine Ev.bQ Tryz.func71 rfl λb=>?_;refine cg QL rfl ?_ (AK.bx rfl ?_)
 .simp;omega
 .simp[under]
def Zu:dv:=λargs σ=>match args,σ with
 |[.e (.agg [.c (.str a0),.c (.str a1)]),.e (.one (.c (.rp [.str p,.str x])))],[]=>aa (dB (under p a0),[],[a0.length<=4000000/\a1=a1/\x=x])
 |_,_=>af
def t71:eb X 71 Zu:=by
 intro args σ res σ' obs h a;unfold Zu at h;split at h
 .rename_i c b p x;cases h;exact LZ (c,b) p x a.1
 grind
def Wl:List (Nat×dv):=(71,Zu)::Wk
def y6:bF X Wl:=bF.cons t71 (QL)
abbrev L5(p x:Bs):D:=.e (.one (.c (.fn (.func 71) [] [.rp [.str p,.str x]])))
def uV(t:List bz)(p:Bs):Int:=match t.findIdx? (λf=>under p f.1)with|some i=>i|none=>-1
def O9{t:List bz}{p:Bs}{i:Nat}(hi:i<t.length)(h:under p (ft t i)=ab)(a:∀j,j<i->under p (ft t j)=ae):uV t p=i:=by
 have:t.findIdx? (λf=>under p f.1)=aa i:=by grind[List.findIdx?_eq_some_iff_getElem,fileAt]
 rw[uV,this]
theorem y7{t:List bz}{p:Bs}(a:∀j,j<t.length->under p (ft t j)=ae):uV t p=-1:=by
 have:t.findIdx? (λf=>under p f.1)=af:=by grind[List.getElem_of_mem,fileAt]
 rw[uV,this]
def Pa(t:List bz)(p x:Bs)(d:∀j,j<t.length->(ft t j).length<=4000000):Ev X 122 [cF.sl t,L5 p x] [] (dI (uV t p)) []:=by
 refine Ev.bQ Tryz.func122 rfl λf=>?_;have c:=f.sl 0 rfl;refine cg y6 rfl aw ?_;refine AK.j0 (λi=>i<=t.length/\∀j,j<i->under p (ft t j)=ae) (λi:Nat=>[(0,cF.sl t),(1,L5 p x),(7,dI t.length),(8,dI i)]) (λ_=>[]) (λi=>t.length-i) 0 rfl ?_ rfl aw ⟨by omega,by omega⟩ ?_
 .simp
 rintro i ⟨hi,a⟩;by_cases h:i<t.length
 .have e:=d i h;cases b:under p (ft t i)with
  |true =>
   refine aV y6 [(9,ab),(16,ab)] rfl ?_ (AK.iC (cw.zero rfl ?_))
   .simp[-an,h,gK,b];omega
   .simp[O9 h b a]
  |false =>
   refine aV y6 [(9,ab),(16,ae)] rfl ?_ (AK.gj (i+1) rfl ?_ rfl aw ?_ ?_)
   .simp[-an,h,gK,b,bA];omega
   .simp
   .grind
   .omega
 .refine aV y6 [(9,ae)] rfl (by simp;omega) (AK.leave rfl rfl ?_);refine cg y6 rfl aw (AK.bx rfl ?_);simp[y7 (λj g=>a j (by omega))]
def AV(t:List bz):Prop:=∀j,j<t.length->(ft t j).length<=4000000
def Th:dv:=λargs σ=>match args,σ with
 |[d,.e (.one (.c (.fn (.func 71) [] [.rp [.str p,.str x]])))],[]=>match kY 2 d with
  |none=>af
  |some (n,es)=>aa (dI (uV (cF.list n es) p),[],[cF.fits n es,AV (cF.list n es),x=x])
 |_,_=>af
def t122:eb X 122 Th:=by
 intro args σ res σ' obs h a;unfold Th at h;split at h
 .rename_i d p x;split at h
  .cases h
  rename_i n es hd;cases h;exact(Pa _ p x a.2.1).args (λ_ vs=>ck.imp (λ_=>cF.jR hd a.1) (ck.imp (λ_ r=>r) (λ_ r=>r)) vs)
 grind
def Wm:List (Nat×dv):=(122,Th)::Wl
def QM:bF X Wm:=bF.cons t122 (y6)
def Pb(t:List bz)(p x:Bs)(a:AV t):Ev X 70 [cF.sl t,L5 p x] [] (dB (decide (0<=uV t p))) []:=by
 refine Ev.bQ Tryz.func70 rfl λb=>?_;refine cg QM rfl ?_ (AK.bx rfl ?_)
 .simp[cF.aM,cF.list_fn,a]
 .simp[cF.list_fn]
def Zv:dv:=λargs σ=>match args,σ with
 |[d,.e (.one (.c (.fn (.func 71) [] [.rp [.str p,.str x]])))],[]=>match kY 2 d with
  |none=>af
  |some (n,es)=>aa (dB (decide (0<=uV (cF.list n es) p)),[],[cF.fits n es,AV (cF.list n es),x=x])
 |_,_=>af
def t70:eb X 70 Zv:=by
 intro args σ res σ' obs h a;unfold Zv at h;split at h
 .rename_i d p x;split at h
  .cases h
  rename_i n es hd;cases h;exact(Pb _ p x a.2.1).args (λ_ vs=>ck.imp (λ_=>cF.jR hd a.1) (ck.imp (λ_ r=>r) (λ_ r=>r)) vs)
 grind
def Zw:List (Nat×dv):=(70,Zv)::Wm
def qR:bF X Zw:=bF.cons t70 (QM)
def je(t:List bz)(i:Nat):Bool :=
 fg (ft t i)&&ee (sZ t i)&&(i==0||!(bk (ft t i) (ft t (i-1))||ft t i==ft t (i-1)))&&(bd i).all λj=>!under (ft t i) (ft t j)
def mN(t:List bz):Bool:=(bd t.length).all (je t)&&decide (t.length<=6)
def kJ{t:List bz}{i:Nat}(hi:i<t.length)(h:je t i=ae):mN t=ae:=by
 cases a:mN t with
 |false=>rfl
 |true =>
  simp only[mN,bS]at a;grind
theorem ux{s:Bs}(h:fg s=ab):s.length<=3:=by
 simp only[fg,cD,bS,jA,aZ,j7]at h;obtain⟨⟨⟨d,_⟩,_⟩,a⟩:=h;have c:=lM s 47;change iG s<s.length∨iG s=-1 at c;by_cases b:0<=iG s
 .simp only[js,b,cn,List.length_take]at d;rcases a with a|a
  .simp[j3,b]at a
  .have:=a.1.1;simp only[mM,b,cn,pW]at this;omega
 .simp only[js,b,b9]at d;omega
def Fb{t:List bz}{p:Bs}{i:Nat}(hi:i<=t.length):decide (0<=uV (t.take i) p)=!(bd i).all λj=>!under p (ft t j):=by
 have e:∀j,j<i->ft (t.take i) j=ft t j:=by intro j d;simp[ft,an,d]
 cases g:(bd i).all λj=>!under p (ft t j)with
 |true =>
  grind[y7]
 |false =>
  have a:∃j,j<i/\under p (ft t j)=ab:=by grind
  have:∃k:Nat,uV (t.take i) p=k:=by
   unfold uV;cases c:(t.take i).findIdx? (λf=>under p f.1)with
   |some k=>grind
   |none =>
    obtain⟨j,d,h⟩:=a;rw[List.findIdx?_eq_none_iff]at c;have b:j<(t.take i).length:=by grind
    have:=c _ (rK b);grind[fileAt]
  grind
def xf(t:List bz):Ev X 25 [cF.sl t] [] (dB (mN t)) []:=by
 refine Ev.bQ Tryz.func25 rfl λx=>?_;have r:=x.sl 0 rfl;refine cg qR rfl aw ?_;refine AK.cC 0 (λi=>i<=t.length/\∀j,j<i->je t j=ab) (λi:Nat=>[(0,cF.sl t),(5,cF.sl t),(6,dI t.length),(7,dI i)]) (λ_=>[]) (λi=>t.length-i) 0 rfl ?_ rfl aw rfl ⟨by omega,by omega⟩ ?_
 .simp
 rintro i ⟨hi,g⟩;by_cases h:i<t.length
 .cases b:fg (ft t i)with
  |false =>
   refine bh qR [(8,ab),(14,ae)] rfl ?_ (AK.fJ (cw.zero rfl ?_))
   .simp[-an,h,gK,b]
   .simp[ay,kJ h (by simp[je,b])]
  |true =>
   cases f:ee (sZ t i)with
   |false =>
    refine bh qR [(8,ab),(14,ab),(19,ae)] rfl ?_ (AK.fJ (cw.zero rfl ?_))
    .simp[-an,h,gK,pK,b,f]
    .simp[ay,kJ h (by simp[je,f])]
   |true =>
    have v:AV (t.take i):=by
     intro j y;simp only[List.length_take]at y;have e:ft (t.take i) j=ft t j:=by simp[ft,an,(by omega:j<i)]
     rw[e];have:=g j (by omega);simp only[je,bS]at this;grind[ux]
    have w:cF.list ((i:Int).toNat-0) (jJ 0 (cF.fn t))=t.take i:=by rw[cF.LX t 0 _ (by grind)];simp
    cases s:(i==0||!(bk (ft t i) (ft t (i-1))||ft t i==ft t (i-1)))with
    |false =>
     have a:je t i=ae:=by simp only[je,s];simp
     have m:i≠0:=by grind
     have l:(bk (ft t i) (ft t (i-1))||ft t i==ft t (i-1))=ab:=by grind
     have d:bA .i64 ((i:Int)-1):=by simp only[bA];omega
     have o:((i:Int)-1).toNat=i-1:=by omega
     refine bh qR [(8,ab),(14,ab),(19,ab),(24,ab),(34,ab)] rfl ?_ (AK.fJ (cw.zero rfl ?_))
     .simp only[ay,gK,pK,cd,o,l,b,f,aZ,d];grind
     .simp[kJ h a]
    |true =>
     have a:je t i=(bd i).all λj=>!under (ft t i) (ft t j):=by simp only[je,s,b,f];simp
     apply AK.join [(0,cF.sl t),(3,dI i),(5,cF.sl t),(6,dI t.length),(7,dI i),(4,.e (.one (.ptr 0 0)))] [.cells 82 [.c (.str (ft t i)),.c (.str (sZ t i))]]
     .intro hk;by_cases m:i=0
      .refine bh qR [(8,ab),(14,ab),(19,ab),(24,ae),(1000006,ab)] rfl ?_ (hk _ _ rfl ?_)
       .simp only[ay,gK,pK,cd,b,f,aZ,bM];grind
       .simp
      .have l:(bk (ft t i) (ft t (i-1))||ft t i==ft t (i-1))=ae:=by grind
       have d:bA .i64 ((i:Int)-1):=by simp only[bA];omega
       have o:((i:Int)-1).toNat=i-1:=by omega
       refine bh qR [(8,ab),(14,ab),(19,ab),(24,ab),(34,ae),(1000006,ab)] rfl ?_ (hk _ _ rfl ?_)
       .simp only[ay,gK,pK,cd,o,l,b,f,aZ,d];grind
       .simp
     .refine AK.freeze 4 0 rfl rfl rfl ?_;have q:=Fb (t:=t) (p:=ft t i) (i:=i) hi;have k:cF.fits ((i:Int).toNat-0) (jJ 0 (cF.fn t)):=cF.LY t;cases u:(bd i).all λj=>!under (ft t i) (ft t j)with
      |false =>
       rw[u]at q a;refine bh qR [(41,ab)] rfl ?_ (AK.fJ (cw.zero rfl ?_))
       .simp only[ay,cO];grind
       .simp[kJ h a]
      |true =>
       rw[u]at q a;refine bh qR [(41,ae)] rfl ?_ (AK.aQ (i+1) rfl ?_ ?_ ?_ ?_)
       .simp only[ay,cO];have n:decide (0<=uV (cF.list ((i:Int).toNat-0) (jJ 0 (cF.fn t))) (ft t i))=ae:=by grind
        exact⟨by simp only[bA];omega,k,by grind,aw,n,by omega,by omega⟩
       .simp
       .trivial
       .grind
       .omega
 .have:i=t.length:=by omega
  subst this;refine aV qR [(8,ae)] rfl (by simp) (AK.leaveD rfl rfl ?_);refine cg qR rfl aw (AK.bx rfl ?_);simp only[ay,mN];grind
def Wn:dv:=λargs σ=>match args,σ with
 |[c],[]=>match kY 2 c with
  |none=>af
  |some (b,a)=>aa (dB (mN (cF.list b a)),[],[cF.fits b a])
 |_,_=>af
def t25:eb X 25 Wn:=by
 intro args σ res σ' obs h a;unfold Wn at h;split at h
 .split at h
  .cases h
  rename_i d c b;cases h;exact(xf _ ).args (λ_ vs=>ck.imp (λ_=>cF.jR b a) (λ_ r=>r) vs)
 grind
end R1
end Go.AM
namespace Go.AM.R1
section
open Go.Proofs
variable {X:Cx ag}
def gV(t:Bs):List Bs:=if ee t then pieces t else[]
def Qm(t:Bs)(f:Nat)(acc:List Bs):Prop:=∃k,fz t t.length 0=acc++fz t k f/\t.length<=f+k/\acc.length<=f
def Gq:eb X 69 (kq aS (λs=>dB (ee s)) λ_=>[]):=.pD λs _=>xe s
def KJ:dv:=λargs σ=>match args,σ with
 |[.e (.one (.c (.str t)))],[]=>aa (.e (.one (.c (Ql t))),[],[])
 |_,_=>af
def Si:eb X 91 KJ:=by intro args σ res σ' obs h a;unfold KJ at h;grind[Ou]
def HM(t:Bs):Ev X 43 [dS t] [] (cS.sl (gV t)) []:=by
 refine(dZ.D5 (ι:=Unit) (σ':=λ_=>[]) (res:=λ_=>cS.sl (gV t)) Tryz.func43 rfl rfl rfl λu=>?_).DK;have l:bF X [(69,kq aS (λs=>dB (ee s)) λ_=>[])]:=.cons Gq .nil;refine kV.seq (AW.top (AK.of_code ?_));refine cg l rfl aw ?_;refine kV.seq (AW.top (AK.of_code ?_));cases d:ee t with
 |false =>
  refine aV l [(8,ab)] rfl ?_ (AK.ret ⟨(),cw.zero rfl ?_⟩)
  .simp[d]
  .simp[gV,d]
 |true =>
  have h:=d;simp only[ee,bS,aZ]at h;refine aV l [(8,ae)] rfl ?_ ?_
  .simp[d]
  refine kV.seq (AW.top (AK.of_code ?_));refine cg l rfl aw ?_;refine kV.seq (kV.seq (AW.top (AK.of_code (AK.g7 1 0 9 1 (cS.fn []) rfl rfl ?_))));refine cg (.cons Si .nil) rfl aw ?_;refine kV.block ?_;refine kV.rangeFunc (capD:=fN [.rp [.str t]]) (cq.callee rfl) (HL (T:=List Bs) t h.2 (by omega) (λ_=>.cells 9 [.c (.str t)]) (λacc=>.cells 36 [.vec 2 1 acc.length (cS.fn acc)]) (λacc=>.vec 9 1 acc.length (cS.fn acc)) (Qm t) [] ?_ (λt=>⟨by simp,by simp,by simp⟩) ?_) (λi=>⟨rfl,by simp⟩) λi=>⟨.normal,rfl,?_⟩
  .exact⟨t.length,by simp,by omega,by simp⟩
  .rintro f acc hf hR;have g:=nD t f hf;refine Yields.intro (j:=af) rfl rfl rfl rfl (AK.of_code ?_);refine bu rfl aw ?_;refine⟨rfl,rfl,AK.of_code ?_⟩;refine bu rfl ?_ ?_
   .obtain⟨k,_,_,o⟩:=hR;have r:=g.1;have q2:=g.2.1;refine⟨rfl,rfl,?_,Int.natCast_nonneg _,Int.ofNat_le.2 (Nat.le_of_lt r),Int.ofNat_le.2 q2⟩;show(acc.length+1)*16<=_;omega
   have n:Qm t (cutAt t f) (acc++[(t.drop f).take (cutAt t f-f)]):=by
    obtain⟨k,m,q,o⟩:=hR;obtain⟨k',rfl⟩:∃k',k=k'+1:=⟨k-1,by omega⟩
    refine⟨k',?_,by omega,by grind⟩;rw[m];simp only[fz];grind
   refine⟨rfl,rfl,⟨_,n⟩,gU rfl ?_⟩;have e:r9 t (aa (f:Int)) (aa (cutAt t f:Int))=(t.drop f).take (cutAt t f-f):=by simp[r9,List.drop_take]
   have p:cy (acc.length+1) (cE acc.length (cS.fn acc) λi=>[[C.str (r9 t (aa (f:Int)) (aa (cutAt t f:Int)))]].getD i []) (cS.fn (acc++[(t.drop f).take (cutAt t f-f)])):=by rw[e];exact kF.cj cS acc _
   have a:acc.length+1=(acc++[(t.drop f).take (cutAt t f-f)]).length:=by simp
   refine ay.cat.2 ⟨by simp,ay.cat.2 ⟨ay.cat.2 ⟨⟨a,p⟩,aw⟩,ay.cat.2 ⟨⟨a,p⟩,ay.cat.2 ⟨rfl,aw⟩⟩⟩⟩
  .obtain⟨acc,k,m,q,o⟩:=i;have b:fz t k t.length=[]:=by cases k<;>simp[fz]
   rw[b,iQ]at m;have e:gV t=acc:=by simp only[gV,d,cn,pieces,m]
   rw[e];show kV X _ _ _ _ _;refine AW.top (AK.of_code ?_);refine bu rfl aw ?_;refine AK.ret ⟨(),cw.zero rfl ?_⟩;exact⟨rfl,cy.same⟩
def Ap:eb X 43 (kq aS (λs=>cS.sl (gV s)) λ_=>[]):=.pD λs _=>HM s
def Vp:eb X 146 (oX (aL cS) aS (λl _=>dS l.flatten) λl s=>[s=[],l.flatten.length<=140737488355328]):=.sC λl s h=>by obtain⟨rfl,h⟩:=h;exact Ol l h
def Ov:dv:=oX (aL cS) (aL cS) (λa b=>dB (a==b)) λ_ _=>[]
def YN:eb X 147 Ov:=.sC λa b _=>R9 a b
def EC(l:List Bs)(h:l.flatten.length<=140737488355328):Ev X 97 [cS.sl l] [] (Am (gx l)) []:=by
 refine Ev.bQ Tryz.func97 rfl λd=>?_;have c:bF X [(146,oX (aL cS) aS (λl _=>dS l.flatten) λl s=>[s=[],l.flatten.length<=140737488355328]),(69,kq aS (λs=>dB (ee s)) λ_=>[]),(147,Ov),(43,kq aS (λs=>cS.sl (gV s)) λ_=>[])]:=.cons Vp (.cons Gq (.cons YN (.cons Ap .nil)));have el:cS.list l.length (cS.fn l)=l:=cS.list_fn l;cases a:ee l.flatten with
 |false =>
  refine aV c [(8,ae),(9,ab),(16,ab)] rfl ?_ (AK.bx rfl ?_)
  .simp only[ay,el,a,cS.aM,eq_self,aF,aD];grind
  .simp[gx,a]
 |true =>
  cases b:(pieces l.flatten==l)with
  |false =>
   refine aV c [(8,ab),(9,ae),(14,ae),(16,ab)] rfl ?_ (AK.bx rfl ?_)
   .simp only[ay,el,cS.list_fn,a,cS.aM];simp[h,gV,a,b,-List.length_flatten]
   .simp[gx,b]
  |true =>
   refine aV c [(8,ab),(9,ae),(14,ab),(16,ae)] rfl ?_ (AK.bx rfl ?_)
   .simp only[ay,el,cS.list_fn,a,cS.aM];simp[h,gV,a,b,-List.length_flatten]
   .simp[gx,a,b,el]
end
section
open Go.Proofs Go.Conc Go.Conc.Lib Go.ConcR.Gen
open Go.ConcN (WgLive PayAt Has RW AtR0)
open Go.ConcN.Gen
open Go.ConcR (KK WgAt stA smA rd wr mk Payload DC0)
def KO:KL=#[{dst:=af,op:=.defer {callee:=.value (.func 143),args:=#[.tmp 0],argTypes:=#[215]},type:=0,pos:= "l12_snap.go:81",after:=#[],guard:=af}]:=by kernel_rfl
def bW(a:ah):aR:={baseD 142 with defers:=[dcall 143 #[a]]}
abbrev tW(v0 v1 v2 v3 v4 v5:ah):Array ah:=#[v0,v1,v2,v3,v4,v5,ai,ai,ai,ai,ai,ai,ai]
def Sk(v0 v1 v2 v3 v4 v5:ah)(w:az):Goes ag ae (λ_ _=>True) DC0 (λg _=>g=G ((bW v0).aT ⟨tW v0 v1 v2 v3 v4 v5,[]⟩ [.code (.region 1 KM ab)]) [uR]) 8 (born ag (xg #[v0,v1,v2,v3,v4,v5])) w:=by
 have b:True:=aw;have a:True->True->True:=λ_ _=>trivial;refine Goes.step rfl (λw1 h1=>?_);rw[HP];simp only[goes_go];refine⟨⟨rfl,rfl⟩,?_⟩;clear h1;rw[KO]
 u_c aC a b
 u_reg a b
 u_defer a b
 u_c aB a b
 exact Goes.stop λ_ _=>rfl
def YO(T:Array ah):QuitsD ag 2 0 (G {(baseD 142).at ⟨T,[]⟩ []with mode:=.returning} [uR]):=by
 have a:Tryz.f142.results=#[]:=by kernel_rfl
 refine QuitsD.ctl (g':=G uR []) rfl (λw=>?_) ?_
 .simp[G,aG,unwind,doReturn,results,Frame.at,baseD,uR,Tryz.func142,a,seen,GStep.after,goexitEntry]
 refine QuitsD.ctl (g':={G uR []with status:=.finished}) rfl (λw=>?_) ⟨rfl,rfl⟩;simp[G,aG,unwind,uR,goexitEntry,Frame.catches];rfl
section
variable {Y:Lay}{n:Nat}{val:Nat->Nat->ah}
def tailW(x:Nat)(d:Y.kc=2)(T:Array ah)(w:az)(a:WgLive 215 Y.Wg w/\Has Y.C (Y.kc*x+1-1) (val x 0) w):
  ∃m,Goes ag ae (RW 215 Y.Wg Y.C (2*n) 0 (Y.kc*x+1-1)) DC0 (AtR0 ag 215 Y.Wg Y.C (2*n) 0 (Y.kc*x+1) (val x 0)) m (G ((bW (.pointer (aa ⟨Y.Wg,0,af⟩))).aT ⟨T,[]⟩ [.inRegion uQ.toArray []]) [uR]) w:=by
 refine⟨26,?_⟩;have e:(bW (.pointer (aa ⟨Y.Wg,0,af⟩))).aT ⟨T,[]⟩ [.inRegion uQ.toArray []]=(baseD 142).at ⟨T,[dcall 143 #[.pointer (aa ⟨Y.Wg,0,af⟩)]]⟩ [.inRegion uQ.toArray []]:=rfl;rw[e]
 u_c aB kn_rely a
 u_c stepG_end kn_rely a
 u_in kn_rely a
 rw[stepG_unwind_enter (c:=body_done Qn) rfl Ck.f_done (by kernel_rfl) (by kernel_rfl)];simp only[goes_go];refine⟨by u_nil,?_⟩;have b:=Vs (P:=ag) (L:=Qn) (Wg:=Y.Wg) (C:=Y.C) (n:=2*n) (Low:=0) (x:=Y.kc*x+1) (val:=val x 0) (c:={(baseD 142).at ⟨T,[]⟩ []with mode:=.returning}) (cs:=[uR]) Ck rfl (YO T) _ a;exact b
def rd_str{M:Mem}{v:ah}{l:Bs}(h:Rd M v (.str l)):v=.string ⟨l.toArray⟩:=by
 cases h with
 |str h1 h2=>rw[<-h1]
def rd_bool{M:Mem}{v:ah}{b:Bool}(h:Rd M v (.bool b)):v=.bool b:=by cases h;rfl
def TY:ar:=oW af (.store 218 (.tmp 12) (.tmp 11)) 0 #[⟨6,.data⟩,⟨5,.data⟩,⟨5,.chain⟩,⟨0,.phase⟩,⟨1,.phase⟩,⟨2,.phase⟩,⟨3,.phase⟩,⟨4,.phase⟩,⟨5,.phase⟩]
def Vt{x:Nat}(hx:x<n)(H:Y.kc=2){k:Int}{ps:List bH}{J:Int}(F:val x 0=.string ⟨((dK k ps J).getD []).toArray⟩)(A:val x 1=.bool (dK k ps J).isSome){s:St}{T:Array ah}(l:dn [] s (T.getD 12 ai) (xW k ps J n x Y.C 6))(g:dn [] s (T.getD 11 ai) (Xi (dK k ps J))):
  JH ag 215 Y (2*n) val x (G ((bW (.pointer (aa ⟨Y.Wg,0,af⟩))).aT ⟨T,[]⟩ [.inRegion uQ.toArray [7]]) [uR]) s:=by
 have l:T.getD 12 ai=.pointer (aa ⟨Y.C,x*2,af⟩):=Rd.dY l;have g:T.getD 11 ai=.agg #[val x 0,val x 1]:=by
  obtain⟨vs,R,d⟩:=g
  match vs,d with
  |[],d=>exact d.elim
  |[_],d=>exact d.2.elim
  |_::_::_::_,d=>exact d.2.2.elim
  |[u0,u1],d =>
   rw[R,rd_str d.1,rd_bool d.2.1,F,A]
 refine⟨rfl,λw1 hr JO KP=>?_⟩;obtain⟨cs,c,W⟩:=JO;have M:Y.kc*x=x*2:=by grind
 have D:∀v∈[val x 0,val x 1],v.oneCell'=ab:=by
  intro v Q;simp only[eE,oa,mn]at Q;rcases Q with rfl|rfl
  .rw[F];rfl
  .rw[A];rfl
 have r:x*2+0+[val x 0,val x 1].length<=cs.size:=by grind
 have m:=run_storeCells_at ag Y.C (x*2) 218 [val x 0,val x 1] 0 cs w1 c r D;simp only[iq,er,fG,bC]at m;generalize q:(cs.toList.take (x*2)++[val x 0,val x 1]++cs.toList.drop (x*2+2)).toArray=new at m;have X:new.size=cs.size:=by grind
 have u:=setRow_heap w1 Y.C cs new 218 (0,0) c;have y:∀o,(w1.setRow Y.C new).cell? ⟨Y.C,o,af⟩=new[o]?:=λo=>cell_setRow_same w1 Y.C o cs new 218 (0,0) c;have K:∀o,w1.cell? ⟨Y.C,o,af⟩=cs[o]?:=λo=>by simp[aU,c]
 have V:∀i,i<2->new[x*2+i]?=aa (val x i):=by
  intro i hi;rw[<-q];have L:(cs.toList.take (x*2)).length=x*2:=by grind
  rw[lR];simp only[ij];rw[gz (by omega),L]
  match i,hi with
  |0,_=>simp
  |1,_=>simp
 have N:∀o,(o<x*2∨x*2+2<=o)->new[o]?=cs[o]?:=by
  intro o I;rw[<-q];have L:(cs.toList.take (x*2)).length=x*2:=by grind
  rw[lR];simp only[ij];rcases I with I|I
  .grind
  .rw[gz (by omega),L,gz (by grind)];simp only[er,fG,n3];rw[show x*2+2+(o-x*2-(0+1+1))=o by omega];simp
 have E:(Value.agg #[val x 0,val x 1]).cells=#[val x 0,val x 1]:=rfl;have z:(av (⟨T,[]⟩:Act).eval TY).run ag w1=.ok .skip (w1.setRow Y.C new):=by have t:(⟨T,[]⟩:Act).eval (.tmp 12)=.pointer (aa ⟨Y.C,x*2,af⟩):=l;have w:(⟨T,[]⟩:Act).eval (.tmp 11)=.agg #[val x 0,val x 1]:=g;simp[av,TY,oW,t,w,Instr.storeAt,bn,storeVar,(tok 218 i218 rfl).run_sizeOf,i218,E,m]
 have f:∀e∈(av (⟨T,[]⟩:Act).eval TY).events ag w1 #[],∃j,j<2/\e=Hd Y.C (x*2+j):=by
  intro O f;have t:(⟨T,[]⟩:Act).eval (.tmp 12)=.pointer (aa ⟨Y.C,x*2,af⟩):=l;have w:(⟨T,[]⟩:Act).eval (.tmp 11)=.agg #[val x 0,val x 1]:=g;have e:av (⟨T,[]⟩:Act).eval TY=(do storeVar 218 ⟨Y.C,x*2,af⟩ (.agg #[val x 0,val x 1]);pure .skip):=by simp[av,TY,oW,t,w,Instr.storeAt,bn]
  rw[e]at f;have B:O∈(storeCells ⟨Y.C,x*2,af⟩ [val x 0,val x 1]).events ag w1 #[]:=by simp only[storeVar,aK,(tok 218 i218 rfl).run_sizeOf,i218,E,aO,events_sizeOf,du,b9,bO,bX,Sem.events_pure]at f;simpa[m]using f
  rcases dE [val x 0,val x 1] 0 cs w1 #[] c r D O B with Z|⟨j,_,S,rfl⟩
  .grind
  grind
 have p:WgLive 215 Y.Wg (w1.setRow Y.C new):=by
  obtain⟨st,P,h⟩:=KP;refine⟨st,P,?_⟩;show(w1.setRow Y.C new).heap[Y.Wg]?=_;rw[setRow_other w1 Y.C Y.Wg new ?_]
  .exact h
  .intro e;have d:w1.heap[Y.Wg]?=aa (Go.ConcR.wgBlock 215 st P):=h;rw[e,c]at d;simp[Go.ConcR.wgBlock]at d;exact absurd d.2 (by decide)
 refine⟨_,w1.setRow Y.C new,_,FE (b:=bW (.pointer (aa ⟨Y.Wg,0,af⟩))) (a:=⟨T,[]⟩) (k:=[]) (ops:=uQ.toArray) (i:=7) (rest:=[]) (o:=TY) rfl rfl (by simp[bW,baseD]) z,?_,?_,?_⟩
 .refine⟨rfl,rfl,rfl,by simp,λb hb=>setRow_other w1 Y.C b new hb,⟨new,u,by grind⟩,λo I=>?_,λi hi=>?_⟩
  .grind
  .rw[H]at hi;rw[y,M];grind
 .intro e U;obtain⟨j,S,rfl⟩:=f e (Go.Conc.mem_seen U);exact⟨x*2+j,rfl,by omega,by omega⟩
 .exact tailW x H T _ ⟨p,by show(w1.setRow Y.C new).cell? _=_;grind⟩
def worker{k:Int}(e:eb (Cx.work ag) 144 (l6 k)){x:Nat}(u:x<n)(l:Y.kc=2){ps:List bH}{d:Int}(j:val x 0=.string ⟨((dK k ps d).getD []).toArray⟩)(i:val x 1=.bool (dK k ps d).isSome){s:St}(y:aE [] s)(F:s.β=[]){v1 v2 v3 v4 v5:ah}(o:Rd s.M v1 (.rp [.int .i64 k]))(q:Rd s.M v2 (.rp [.sl ae 2 ps.length (cP.fn ps)]))(m:Rd s.M v3 (.rp [.int .i64 d]))(r:Rd s.M v4 (.rp [.val (.slice (aa ⟨Y.C,0,af⟩) n n)]))(v:Rd s.M v5 (.rp [.int .i64 x])):
  en (Cx.work ag) E0 (JH ag 215 Y (2*n) val x) (born ag (xg #[.pointer (aa ⟨Y.Wg,0,af⟩),v1,v2,v3,v4,v5])) s:=by
 refine en.goes (X:=Cx.work ag) (R:=λ_ _=>True) (D:=DC0) (Stop:=λg _=>g=G ((bW (.pointer (aa ⟨Y.Wg,0,af⟩))).aT ⟨tW (.pointer (aa ⟨Y.Wg,0,af⟩)) v1 v2 v3 v4 v5,[]⟩ [.code (.region 1 KM ab)]) [uR])
  (λb=>aE [] b/\b.M=s.M) (λb s2 h p=>⟨h.1.rely p,p.M.trans h.2⟩) (λ_ _ _ _=>trivial) ?_ (λb h=>cp.wB h.1.mem) ?_ 8 _ s ⟨y,rfl⟩ (Sk _ _ _ _ _ _ _)
 .rintro b es h w' ⟨rfl,rfl⟩;exact⟨rfl,.inl (.quiet h.1)⟩
 .rintro g b ⟨f,E⟩ rfl;rw[Ow];refine fE.toE (λ_ _ _ h=>h) ?_;refine(Vr e ps d n x Y.C u (.pointer (aa ⟨Y.Wg,0,af⟩))).region (by kernel_rfl) (by simp[bW,baseD]) ⟨by simp[tW],⟨[],aw⟩,λt=>?_⟩ rfl f λs2 a B c A w st=>.stop ?_
  .rw[<-E]at o q m r v
   match t with
   |0=>exact Rd.val rfl
   |1=>exact o
   |2=>exact q
   |3=>exact m
   |4=>exact r
   |5=>exact v
   |t+6=>trivial
  .obtain⟨T,z⟩:=a;obtain rfl:z=[]:=A;exact Vt u l j i (c 12) (c 11)
end
end
section
open Go.Proofs Go.Conc Go.Conc.Lib
open Go.ConcN (WgLive PayAt Has RW AtR0)
open Go.ConcR (KK WgAt stA smA rd wr mk Payload DC0)
def xh:Code->Code|.seq a _=>a|c=>c
def kZ:Code->Code|.seq _ a=>a|c=>c
def Vu:Code->Code|.block _ a=>a|c=>c
def YP:Code->Code|.loop a=>a|c=>c
def Sl:Code->Array ar|.region _ o _=>o|_=>#[]
noncomputable def EE:Code:=(Tryz.f96.body).getD .skip
noncomputable def iD:Code:=YP (Vu (kZ (xh (kZ (kZ (kZ EE))))))
noncomputable def cR4:Code:=xh iD
noncomputable def Sm:Code:=Vu (xh (kZ (kZ iD)))
noncomputable def cR5:Code:=xh Sm
noncomputable def As:Array ar:=Sl (xh (kZ Sm))
noncomputable def x8:Array ar:=Sl (kZ (kZ Sm))
noncomputable def M9:Code:=kZ (kZ (kZ iD))
noncomputable def nF:Code:=kZ (kZ (kZ (kZ EE)))
noncomputable def x9:Array ar:=Sl (xh nF)
noncomputable def qO:Code:=kZ nF
def Cl:iD=.seq cR4 (.seq (.cond (.tmp 21) .skip (.exit 0)) (.seq (.block 1 (.seq cR5 (.seq (.region 6 As ae) (.region 7 x8 ae)))) M9)):=by kernel_rfl
def KQ:nF=.seq (.region 9 x9 ae) qO:=by kernel_rfl
def NQ(j:Fr)(σ1:List aP):Post:=λe φ σ=>e=.normal/\oq φ j/\σ=σ1
structure At(σ0:List aP)(s0:St)(φ:Fr)(σ:List aP)(a:Act)(s:St):Prop where
 fr:cq 45 σ s φ a
 hh:aE σ s
 st:cU σ0 s0 σ s
section
variable {σ0:List aP}{s0:St}{φ j:Fr}{σ σ1:List aP}{a:Act}{s:St}
def At.rely(h:At σ0 s0 φ σ a s){d:St}(c:cp s d):At σ0 s0 φ σ a d:=⟨h.fr.rely c h.hh,h.hh.rely c,h.st.trans c.stepW⟩
structure Na(b:Nat)(s:St):Prop where
 own:¬s.own b
 β:∀L∈s.β,b∉L.bs
 M:∀o,s.M b o=af
 lt:b<s.w.heap.size
def Na.step{b:Nat}(h:Na b s0)(st:cU σ0 s0 σ s):Na b s :=
 ⟨by rw[st.own];exact h.own,λL c f=>by
  rcases st.vb L c b f with h1|⟨d,e,h1⟩
  .have:=h.lt;omega
  .exact h.β d e h1,λo=>by rw[st.iU b h.lt h.β];exact h.M o,cW h.lt st.size⟩
def At.apart{Wg:Nat}(e:Na Wg s0):Apart Wg (At σ0 s0 φ σ a) :=
 ⟨λ_ _ h d=>h.rely d,λ_ h=>⟨σ,h.hh⟩,λ_ h=>let c:=e.step h.st;⟨c.own,c.β,c.M⟩⟩
variable {X:Cx ag}{S:au->St->Prop}{b:aR}{k:List Item}{cs:List aR}
def At.ctl(h:At σ0 s0 φ σ a s){g g':au}(d:g.status=.running)(e:∀w,aG ag X.main g w=.go g' w #[])(kk:∀c,At σ0 s0 φ σ a c->fE X S g' c):fE X S g s :=
 .ctl h.hh d e λc h1=>kk c (h.rely h1)
def At.code(h:At σ0 s0 φ σ a s)(g:b.kind≠.early){c:Code}(l:AW X 45 c (NQ j σ1) φ σ)(kk:∀a1 s1,At σ0 s0 j σ1 a1 s1->fE X S (G (b.aT a1 k) cs) s1):fE X S (G (b.aT a (.code c::k)) cs) s:=by refine l s a h.fr h.hh b k cs S g ?_;rintro e φ' σ' s' a' ⟨rfl,hl,rfl⟩ f i d;exact kk a' s' ⟨f.le hl,i,h.st.trans d⟩
end
def fE.live{Wg:Nat}{E:St->St->Array Event->Prop}{S:au->St->Prop}{g:au}{s:St}(h:fE (Cx.lead ag 215 Wg) S g s)(i:Clear (λb=>b=Wg) s)(hl:WgLive 215 Wg s.w):
  en (Cx.lead ag 215 Wg) E (λg s=>S g s/\WgLive 215 Wg s.w) g s:=by
 induction h with
 |stop h=>exact⟨.leaf,h,hl⟩
 |@step g s r ns ne hr h1 h2 _ l =>
  refine .step hr λf c=>?_;have n:=c.2 hl;have d:Clear (λb=>b=Wg) f:=⟨λb e=>by rw[c.1.own];exact i.own b e,λb e=>by rw[c.1.β];exact i.β b e,λb e o=>by rw[c.1.M];exact i.M b e o,λb e=>cW (i.lt b e) c.1.size⟩
  obtain⟨⟨σ,σ',hh,m,st⟩,p⟩:=h2 f c;refine⟨_,_,_,h1 f c,.inl ⟨⟨σ,σ',hh,m,st⟩,p⟩,l f c (d.step st) ?_⟩;obtain⟨x,y,q⟩:=n;exact⟨x,y,by show(ns f).w.heap[Wg]?=_;rw[st.fi Wg (d.lt Wg rfl) (d.β Wg rfl)];exact q⟩
 |ghost hg _ l=>exact .ghost hg (l (i.ghost hg) (by rw[hg.w];exact hl))
 |forget hx _ _ _=>exact hx.elim
 |xS hj _ _=>exact hj.elim
def Na.clear{Wg:Nat}{s:St}(h:Na Wg s):Clear (λb=>b=Wg) s:=⟨λb e=>e▸h.own,λb e=>e▸h.β,λb e=>e▸h.M,λb e=>e▸h.lt⟩
section
variable (k:Int)(ps:List bH)(ns:List Int)(C Wg:Nat)
def mZ(i:Nat):Fr:=[(3,.e (.one (.c (.rp [.int .i64 k])))),(4,.e (.one (.c (.rp [.sl ae 2 ps.length (cP.fn ps)])))),(8,.e (.one (.c (.rp [.val (.slice (aa ⟨C,0,af⟩) ns.length ns.length)])))),(9,.e (.one (.v (.pointer (aa ⟨Wg,0,af⟩))))),
 (18,cI.sl ns),(19,dI ns.length),(20,dI i)]
variable {k ps ns C Wg}{X:Cx ag}{σ:List aP}
def pR4{i:Nat}(hi:i<=ns.length):AW X 45 cR4 (NQ ((21,dB (decide (i<ns.length)))::mZ k ps ns C Wg i) σ) (mZ k ps ns C Wg i) σ:=by
 refine AK.of_code ?_;by_cases h:i<ns.length
 .refine aW [(21,ab)] rfl ?_ ⟨rfl,cX rfl ?_,rfl⟩
  .simp;omega
  .simp[h]
 .refine aW [(21,ae)] rfl ?_ ⟨rfl,cX rfl ?_,rfl⟩
  .simp;omega
  .simp[h]
abbrev d5:List aP:=[.dead,.dead,.dead,.dead,.dead]
def pR5{i:Nat}(hi:i<ns.length):AW X 45 cR5 (NQ ((10,.e (.one (.ptr 5 0)))::(11,.e (.one (.ptr 6 0)))::mZ k ps ns C Wg i) [.dead,.dead,.dead,.dead,.dead,.cells 3 [.c (.int .i64 i)],.cells 3 [.c (.int .i64 (ns.getD i 0))]]) (mZ k ps ns C Wg i) d5:=by
 refine AK.of_code ?_;refine bu rfl ?_ ⟨rfl,cX rfl ?_,?_⟩
 .simp;omega
 .simp
 grind
def pR8{i:Nat}(hi:i<ns.length)(c:ns.length<=4000000):AW X 45 M9 (NQ (mZ k ps ns C Wg (i+1)) d5) (mZ k ps ns C Wg i) d5:=by
 refine AK.of_code ?_;refine bu rfl ?_ ⟨rfl,cX rfl ?_,rfl⟩
 .simp[bA];omega
 .simp
variable {σ0:List aP}{s0:St}{S:au->St->Prop}{b:aR}{kk:List Item}{cs:List aR}
abbrev d7:List aP:=[.dead,.dead,.dead,.dead,.dead,.dead,.dead]
variable (k ps ns C Wg)in
abbrev ry(i:Nat):Fr:=(11,.e (.one (.c (.rp [.int .i64 (ns.getD i 0)]))))::(10,.e (.one (.c (.rp [.int .i64 i]))))::mZ k ps ns C Wg i
noncomputable abbrev tI(kk:List Item):List Item:=.code (.region 7 x8 ae)::.inBlock 1::.code M9::.inLoop iD::.inBlock 0::kk
def vu{P:aq}{main:Bool}{b:aR}{a:Act}{k:List Item}{cs:List aR}{w:az}{c x y:Code}(h:c=.seq x y):aG P main (G (b.aT a (.code c::k)) cs) w=.go (G (b.aT a (.code x::.code y::k)) cs) w:=by grind[oi]
def toAdd{i:Nat}(hi:i<ns.length)(m:b.kind≠.early){a:Act}{s:St}(h:At σ0 s0 (mZ k ps ns C Wg i) d5 a s)(K:∀n l,At σ0 s0 (ry k ps ns C Wg i) d7 n l->fE X S (G (b.aT n (.inRegion As [0]::tI kk)) cs) l):
  fE X S (G (b.aT a (.code iD::.inLoop iD::.inBlock 0::kk)) cs) s:=by
 refine h.ctl rfl (λw=>vu Cl) λs h=>?_;refine h.code m (pR4 (Nat.le_of_lt hi)) λa s h=>?_;refine h.ctl rfl (λw=>oi) λs h=>?_;have p:a.eval (.tmp 21)=.bool ab:=by have:=h.fr.slot 21;simp only[hi,kC]at this;exact rd_bool (eY this)
 refine h.ctl rfl (λw=>vc p) λs h=>?_;refine h.ctl rfl (λw=>FC) λs h=>?_;refine h.ctl rfl (λw=>oi) λs h=>?_;refine h.ctl rfl (λw=>rS) λs h=>?_;refine h.ctl rfl (λw=>oi) λs h=>?_;have h:At σ0 s0 (mZ k ps ns C Wg i) d5 a s:=⟨h.fr.le (cX rfl (by simp)),h.hh,h.st⟩
 refine h.code m (pR5 hi) λa s h=>?_;obtain⟨l,w1,q,d,f⟩:=cq.freeze 10 5 (E:=3) (cs:=[.c (.int .i64 i)]) (cc:=[.int .i64 i]) rfl rfl rfl h.fr h.hh;refine .ghost (.of h.hh d w1 (f.na h.hh)) ?_;obtain⟨s2,w2,o,e,g⟩:=cq.freeze 11 6 (E:=3) (cs:=[.c (.int .i64 (ns.getD i 0))]) (cc:=[.int .i64 (ns.getD i 0)]) rfl rfl rfl q d;refine .ghost (.of d e w2 (g.na d)) ?_;have h:At σ0 s0 (ry k ps ns C Wg i) d7 a s2:=⟨o.le (cX rfl (by simp)),e,h.st.trans ((f.na h.hh).trans (g.na d))⟩
 refine h.ctl rfl (λw=>oi) λs h=>?_;refine h.ctl rfl (λw=>qc) λs h=>?_;exact K a s h
def o6:ar:={dst:=aa 25,op:=.call {callee:=.value (.func 141),args:=#[.tmp 9,.const (.int .i64 1)],argTypes:=#[215,3]},type:=0,pos:= "l12_snap.go:79",after:=#[],guard:=af}
theorem Gs:As=#[o6]:=by kernel_rfl
def KR{i:Nat}(l:b.kind≠.early){a:Act}{s:St}(h:At σ0 s0 (ry k ps ns C Wg i) d7 a s)(K:∀c,At σ0 s0 (ry k ps ns C Wg i) d7 a c->fE X S (G (Frame.enter ag 141 #[.pointer (aa ⟨Wg,0,af⟩),.int .i64 1] .normal) (b.aT a (.inRegion As [0]::tI kk)::cs)) c):
  fE X S (G (b.aT a (.inRegion As [0]::tI kk)) cs) s:=by
 refine .next rfl λc d=>?_;have e:=h.rely (X.iv d);have m:a.eval (.tmp 9)=.pointer (aa ⟨Wg,0,af⟩):=Rd.dY (e.fr.slot 9);have g:(av a.eval o6).run ag c.w=.ok (.enter 141 #[.pointer (aa ⟨Wg,0,af⟩),.int .i64 1]) c.w:=by have:=run_call_body (P:=ag) (a:=a) (w:=c.w) (o:=o6) (f:=141) (fn:=Tryz.f141) rfl Tryz.func141 (by kernel_rfl) (by kernel_rfl);rw[this,<-m];simp only[List.map_toArray,p9,List.map_nil];rfl
 have n:(av a.eval o6).events ag c.w #[]=#[]:=events_call_body (P:=ag) (a:=a) (w:=c.w) (o:=o6) (f:=141) (fn:=Tryz.f141) rfl Tryz.func141 (by kernel_rfl) (by kernel_rfl) #[];have p:listed ag b.fn a o6 c.w=#[]:=by unfold listed;grind[seen_none]
 refine⟨_,c,#[],?_,.quiet e.hh,K c e⟩;have:=o8 (P:=ag) (main:=X.main) (b:=b) (a:=a) (k:=tI kk) (cs:=cs) (w:=c.w) (ops:=As) (i:=0) (rest:=[]) (o:=o6) (by grind[Gs]) rfl l g;grind
def Vv:ar:={dst:=aa 26,op:=.makeFunc (.func 142) #[] #[.tmp 9,.tmp 3,.tmp 4,.tmp 11,.tmp 8,.tmp 10],type:=1,pos:= "l12_snap.go:80",after:=#[],guard:=af}
def Oy:ar:={dst:=af,op:=.go {callee:=.value (.tmp 26),args:=#[],argTypes:=#[]},type:=0,pos:= "l12_snap.go:80",after:=#[⟨0,.data⟩],guard:=af}
theorem Gt:x8=[Vv,Oy].toArray:=by kernel_rfl
variable (k ps ns C Wg)in
abbrev EF(i:Nat):AM.C:=.fn (.func 142) [] [.val (.pointer (aa ⟨Wg,0,af⟩)),.rp [.int .i64 k],.rp [.sl ae 2 ps.length (cP.fn ps)],.rp [.int .i64 (ns.getD i 0)],.rp [.val (.slice (aa ⟨C,0,af⟩) ns.length ns.length)],.rp [.int .i64 i]]
def Vw{i:Nat}:OA X 45 [Vv,Oy] Vv ((25,.any)::ry k ps ns C Wg i) d7 (.e (.one (.c (EF k ps ns C Wg i)))) d7:=by have h:we tt [] [] [Vv,Oy] ((25,.any)::ry k ps ns C Wg i) d7 Vv=aa (.e (.one (.c (EF k ps ns C Wg i))),af,[]):=rfl;exact gD tok bF.nil h aw
def YQ{i:Nat}(n:b.kind≠.early){a:Act}{s:St}(h:At σ0 s0 (ry k ps ns C Wg i) d7 a s)(K:∀v l c,At σ0 s0 (ry k ps ns C Wg i) d7 l c->Rd c.M v (EF k ps ns C Wg i)->l.tmps.getD 26 ai=v->fE X S (G (b.aT l (.inRegion x8 [1]::.inBlock 1::.code M9::.inLoop iD::.inBlock 0::kk)) cs) c):
  fE X S (G (b.aT (a.put (aa 25) (.tuple #[])) (.inRegion As []::tI kk)) cs) s:=by
 have p:At σ0 s0 ((25,.any)::ry k ps ns C Wg i) d7 (a.put (aa 25) (.tuple #[])) s:=⟨h.fr.put (by decide) aw,h.hh,h.st⟩
 refine p.ctl rfl (λw=>iW) λs h=>?_;refine h.ctl rfl (λw=>qc) λs h=>?_;rw[Gt];refine Vw s _ h.fr h.hh b _ cs S 0 [1] n rfl λv c g f e=>?_;have g:Rd c.M v (EF k ps ns C Wg i):=eY g;have o:=((h.fr.mono e h.hh.len).put (d:=26) (v:=v) (x:=.any) (by decide) aw)
 have m:26<(a.put (aa 25) (.tuple #[])).tmps.size:=by rw[h.fr.size];decide
 refine K v _ c ⟨o.le (cX rfl ?_),f,h.st.trans e⟩ g (JU m);simp
def Sn{i:Nat}(hi:i<ns.length)(n:ns.length<=4000000)(e:b.kind≠.early)(d:σ0.length<=5){a:Act}{s:St}(h:At σ0 s0 (ry k ps ns C Wg i) d7 a s)(K:∀m l,At σ0 s0 (mZ k ps ns C Wg (i+1)) d5 m l->fE X S (G (b.aT m (.code iD::.inLoop iD::.inBlock 0::kk)) cs) l):
  fE X S (G (b.aT a (.inRegion x8 []::.inBlock 1::.code M9::.inLoop iD::.inBlock 0::kk)) cs) s:=by
 have g:cq 45 (d5++[.dead,.dead]) s (mZ k ps ns C Wg i) a:=h.fr.le (cX rfl (by simp));have c:aE (d5++[.dead,.dead]) s:=h.hh;have f:cU σ0 s0 (d5++[.dead,.dead]) s:=h.st;have q:eu s (s.cut d5.length):=⟨rfl,λ_ _ _ h=>h,λ_ _ _=>rfl,c.mem,λb e=>e.imp id λ⟨L,o,e⟩=>⟨L,fP o,e⟩⟩
 refine .ghost q ?_;have h:At σ0 s0 (mZ k ps ns C Wg i) d5 a (s.cut d5.length):=⟨⟨g.size,g.defers.imp λ_ p=>p.drop rfl,λt=>(g.slot t).drop (nB rfl)⟩,c.drop rfl,f.drop d⟩
 refine h.ctl rfl (λw=>iW) λs h=>?_;refine h.ctl rfl (λw=>qY) λs h=>?_;refine h.code e (pR8 hi n) λa s h=>?_;exact h.ctl rfl (λw=>yk) λs h=>K a s h
end
theorem xi{b:aR}(c:b.roundOf=af)(a:Act)(t:List Item):b.aT a t=b.at ⟨a.tmps,a.defers++b.defers⟩ t:=by cases b;simp only at c;subst c;rfl
section
variable {k:Int}{ps:List bH}{ns:List Int}{Y:Lay}{val:Nat->Nat->ah}{σ0:List aP}{s0:St}{b:aR}{kk:List Item}{cs:List aR}
def Qp{a:Act}{w:az}{c c1 c2 c3 c4 c5:ah}(d:a.tmps.getD 26 ai=.func (.func 142) #[] #[c,c1,c2,c3,c4,c5]):(av a.eval Oy).run ag w=.ok (.spawn (xg #[c,c1,c2,c3,c4,c5])) w/\(av a.eval Oy).events ag w #[]=#[]:=by
 have e:a.eval (.tmp 26)=.func (.func 142) #[] #[c,c1,c2,c3,c4,c5]:=d;constructor
 .simp[av,Oy,resolve,Deferred.ofValue,e,xg]
 .simp[av,Oy,resolve,Deferred.ofValue,e]
def Vx(g:eb (Cx.work ag) 144 (l6 k))(q:Y.kc=2)(f:b.roundOf=af)(B:b.kind≠.early){i:Nat}(hi:i<ns.length)(n:val i 0=.string ⟨((dK k ps (ns.getD i 0)).getD []).toArray⟩)(l:val i 1=.bool (dK k ps (ns.getD i 0)).isSome){v:ah}{a:Act}{s:St}(h:At σ0 s0 (ry k ps ns Y.C Y.Wg i) d7 a s)(D:WgLive 215 Y.Wg s.w)(A:Rd s.M v (EF k ps ns Y.C Y.Wg i))(x:a.tmps.getD 26 ai=v){Next:au->St->Prop}(K:∀d,At σ0 s0 (ry k ps ns Y.C Y.Wg i) d7 a d->WgLive 215 Y.Wg d.w->Next (G (b.aT a (.inRegion x8 []::.inBlock 1::.code M9::.inLoop iD::.inBlock 0::kk)) cs) d):
  AtGo ag 215 Y (2*ns.length) val i Next (G (b.aT a (.inRegion x8 [1]::.inBlock 1::.code M9::.inLoop iD::.inBlock 0::kk)) cs) s:=by
 refine⟨rfl,λd c=>?_⟩;have u:=h.rely c.1;have r:Rd d.M v (EF k ps ns Y.C Y.Wg i):=by rw[c.1.M];exact A
 cases r with
 |fn fs cc US UU f1 f2 g1 g2 r1 r2 =>
 have m:fs=[]:=jf US;subst m;have t:cc=[f2 0,f2 1,f2 2,f2 3,f2 4,f2 5]:=by
  apply iO;intro j;have UU:cc.length=6:=UU
  match j with
  |0=>grind
  |1=>grind
  |2=>grind
  |3=>grind
  |4=>grind
  |5=>grind
  |j+6=>grind
 subst t;have z:f2 0=.pointer (aa ⟨Y.Wg,0,af⟩):=Rd.dY (r2 0 _ rfl);obtain⟨y,q2⟩:=Qp (a:=a) (w:=d.w) x;have e:Go.Conc.listed ag b.fn ⟨a.tmps,a.defers++b.defers⟩ Oy d.w=#[]:=by unfold Go.Conc.listed;have:=(Qp (a:=⟨a.tmps,a.defers++b.defers⟩) (w:=d.w) x).2;grind[seen_none]
 have p:=stepG_spawn (P:=ag) (main:=ab) (b:=b) (a:=⟨a.tmps,a.defers++b.defers⟩) (k:=.inBlock 1::.code M9::.inLoop iD::.inBlock 0::kk) (cs:=cs) (w:=d.w) (ops:=x8) (i:=1) (rest:=[]) (o:=Oy) (by grind[Gt]) rfl B y rfl;refine⟨G (b.aT a (.inRegion x8 []::.inBlock 1::.code M9::.inLoop iD::.inBlock 0::kk)) cs,born ag (xg #[f2 0,f2 1,f2 2,f2 3,f2 4,f2 5]),?_,rfl,?_,K d u (c.2 D)⟩
 .rw[xi f,xi f,p,e];rfl
 .rw[z];exact worker g hi q n l (s:=d.child) ⟨u.hh.mem,rfl,by simp,by simp[St.child],by simp[St.child],by simp[St.child]⟩ rfl (r2 1 _ rfl) (r2 2 _ rfl) (r2 3 _ rfl) (r2 4 _ rfl) (r2 5 _ rfl)
def o9:ar:={dst:=aa 28,op:=.call {callee:=.value (.func 145),args:=#[.tmp 9],argTypes:=#[215]},type:=0,pos:= "l12_snap.go:85",after:=#[],guard:=af}
theorem Gu:x9=#[o9]:=by kernel_rfl
variable {X:Cx ag}{S:au->St->Prop}
def So(g:b.kind≠.early){C Wg:Nat}{a:Act}{s:St}(h:At σ0 s0 (mZ k ps ns C Wg ns.length) d5 a s)(K:∀j c,At σ0 s0 (mZ k ps ns C Wg ns.length) d5 j c->fE X S (G (Frame.enter ag 145 #[.pointer (aa ⟨Wg,0,af⟩)] .normal) (b.aT j (.inRegion x9 [0]::.code qO::kk)::cs)) c):
  fE X S (G (b.aT a (.code iD::.inLoop iD::.inBlock 0::.code nF::kk)) cs) s:=by
 refine h.ctl rfl (λw=>vu Cl) λs h=>?_;refine h.code g (pR4 (bg _)) λa s h=>?_;refine h.ctl rfl (λw=>oi) λs h=>?_;have m:a.eval (.tmp 21)=.bool ae:=by have:=h.fr.slot 21;simp only[Nat.lt_irrefl,kA]at this;exact rd_bool (eY this)
 refine h.ctl rfl (λw=>vc m) λs h=>?_;refine h.ctl rfl (λw=>zu (k':=.code nF::kk) rfl) λs h=>?_;refine h.ctl rfl (λw=>vu KQ) λs h=>?_;refine h.ctl rfl (λw=>qc) λs h=>?_;have h:At σ0 s0 (mZ k ps ns C Wg ns.length) d5 a s:=⟨h.fr.le (cX rfl (by simp)),h.hh,h.st⟩
 refine .next rfl λc d=>?_;have e:=h.rely (X.iv d);have q:a.eval (.tmp 9)=.pointer (aa ⟨Wg,0,af⟩):=Rd.dY (e.fr.slot 9);have l:(av a.eval o9).run ag c.w=.ok (.enter 145 #[.pointer (aa ⟨Wg,0,af⟩)]) c.w:=by have:=run_call_body (P:=ag) (a:=a) (w:=c.w) (o:=o9) (f:=145) (fn:=Tryz.f145) rfl Tryz.func145 (by kernel_rfl) (by kernel_rfl);grind
 have p:(av a.eval o9).events ag c.w #[]=#[]:=events_call_body (P:=ag) (a:=a) (w:=c.w) (o:=o9) (f:=145) (fn:=Tryz.f145) rfl Tryz.func145 (by kernel_rfl) (by kernel_rfl) #[];have n:Go.Conc.listed ag b.fn a o9 c.w=#[]:=by unfold Go.Conc.listed;grind[seen_none]
 refine⟨_,c,#[],?_,.quiet e.hh,K a c e⟩;have:=o8 (P:=ag) (main:=X.main) (b:=b) (a:=a) (k:=.code qO::kk) (cs:=cs) (w:=c.w) (ops:=x9) (i:=0) (rest:=[]) (o:=o9) (by grind[Gu]) rfl g l;rw[n]at this;exact this
section
variable (k ps ns Y σ0 s0 b kk cs)
def Xj(g:au)(s:St):Prop:=∃a,Gj ag Qn Y (At σ0 s0 (mZ k ps ns Y.C Y.Wg ns.length) d5 a) (b.aT a (.inRegion x9 [0]::.code qO::kk)) cs g s
def TF(g:au)(s:St):Prop:=∃a,TW ag Qn Y (At σ0 s0 (mZ k ps ns Y.C Y.Wg ns.length) d5 a) (G (b.aT (a.put (aa 28) (.tuple #[])) (.inRegion x9 []::.code qO::kk)) cs) g s
end
def anF(e:Na Y.Wg s0)(c:b.roundOf=af){g:au}{s:St}(h:Xj k ps ns Y σ0 s0 b kk cs g s):
  en (Cx.lead ag 215 Y.Wg) (Es Y.Wg) (AtW1 ag 215 Y (TF k ps ns Y σ0 s0 b kk cs) (Xj k ps ns Y σ0 s0 b kk cs)) g s:=by
 obtain⟨a,h⟩:=h;have f:(x9[0]?).bind (·.dst)=aa 28:=by rw[Gu];rfl
 rw[xi c]at h;refine Vb (P:=ag) (L:=Qn) (b₀:=b) (a₀:=⟨a.tmps,a.defers++b.defers⟩) (ops₀:=x9) (i₀:=0) (rest₀:=[]) (k₀:=.code qO::kk) (cs:=cs) Ck (At.apart e) (λg s d=>⟨a,?_⟩) (λg s i=>⟨a,?_⟩) h
 .rw[xi c];rw[f]at d;exact d
 grind[xi]
def HQ{P:aq}{ty:aj}{N n:Nat}{a:au->St->Prop}:∀(r:Nat){g:au}{s:St},en (Cx.lead P ty Y.Wg) (Es Y.Wg) (λg s=>Spawns P ty Y N val n a r g s) g s->Spawns P ty Y N val n a r g s
 |0,_,_,h=>en.bind h λ_ _ x=>x
 |_+1,_,_,h=>en.bind h λ_ _ x=>x
def Oz(p:eb (Cx.work ag) 144 (l6 k))(A:Y.kc=2)(l:Na Y.Wg s0)(f:b.roundOf=af)(m:b.kind≠.early)(n:σ0.length<=5)(B:ns.length<=4000000)(z:∀i,i<ns.length->val i 0=.string ⟨((dK k ps (ns.getD i 0)).getD []).toArray⟩)(q:∀i,i<ns.length->val i 1=.bool (dK k ps (ns.getD i 0)).isSome):
  ∀(r:Nat),r<=ns.length->∀(a:Act) (s:St),At σ0 s0 (mZ k ps ns Y.C Y.Wg (ns.length-r)) d5 a s->WgLive 215 Y.Wg s.w ->
   Spawns ag 215 Y (2*ns.length) val ns.length (Xj k ps ns Y σ0 s0 b kk cs) r (G (b.aT a (.code iD::.inLoop iD::.inBlock 0::.code nF::kk)) cs) s:=by
 intro r;induction r with
 |zero =>
  intro _ a s h c;rw[lF]at h;have:=fE.live (E:=Es Y.Wg) (So (X:=Cx.lead ag 215 Y.Wg) (kk:=kk) (cs:=cs) (S:=λg s=>∃a,g=G (Frame.enter ag 145 #[.pointer (aa ⟨Y.Wg,0,af⟩)] .normal) (b.aT a (.inRegion x9 [0]::.code qO::kk)::cs)/\At σ0 s0 (mZ k ps ns Y.C Y.Wg ns.length) d5 a s) m h λj o d=>.stop ⟨j,rfl,d⟩) (l.step h.st).clear c;refine en.bind this ?_;rintro g s ⟨⟨a,rfl,h⟩,c⟩;exact Ve (P:=ag) (L:=Qn) (Y:=Y) Ck (At.apart l) (λg s I=>⟨a,I⟩) ⟨h,c⟩
 |succ r D =>
  intro J a s h c;have hi:ns.length-(r+1)<ns.length:=by omega
  generalize x:ns.length-(r+1)=i at h hi;have:=fE.live (E:=Es Y.Wg) (toAdd (X:=Cx.lead ag 215 Y.Wg) (kk:=.code nF::kk) (cs:=cs) (S:=λg s=>∃a,g=G (Frame.enter ag 141 #[.pointer (aa ⟨Y.Wg,0,af⟩),.int .i64 1] .normal) (b.aT a (.inRegion As [0]::tI (.code nF::kk))::cs)/\At σ0 s0 (ry k ps ns Y.C Y.Wg i) d7 a s) hi m h λj o d=>KR m d λs2 h2=>.stop ⟨j,rfl,h2⟩) (l.step h.st).clear c;refine en.bind this ?_;rintro g s ⟨⟨a,rfl,h⟩,c⟩;have H:(As[0]?).bind (·.dst)=aa 25:=by rw[Gs];rfl
  rw[xi f];refine YG (P:=ag) (L:=Qn) (Y:=Y) (F:=At σ0 s0 (ry k ps ns Y.C Y.Wg i) d7 a) Ck (At.apart l) (λs t=>?_) ⟨h,c⟩;rw[H];have:=fE.live (E:=Es Y.Wg) (YQ (X:=Cx.lead ag 215 Y.Wg) (kk:=.code nF::kk) (cs:=cs) (S:=λg s=>∃v a,g=G (b.aT a (.inRegion x8 [1]::.inBlock 1::.code M9::.inLoop iD::.inBlock 0::.code nF::kk)) cs/\At σ0 s0 (ry k ps ns Y.C Y.Wg i) d7 a s/\Rd s.M v (EF k ps ns Y.C Y.Wg i)/\a.tmps.getD 26 ai=v) m t.1 λv j o d y e=>.stop ⟨v,j,rfl,d,y,e⟩) (l.step t.1.st).clear t.2;rw[xi f]at this;refine en.bind this ?_;rintro g s ⟨⟨v,a,rfl,h,y,e⟩,c⟩;rw[x];refine⟨.leaf,Vx p A f m hi (z i hi) (q i hi) h c y e λo d u=>?_⟩;refine HQ r ?_;have:=fE.live (E:=Es Y.Wg) (Sn (X:=Cx.lead ag 215 Y.Wg) (kk:=.code nF::kk) (cs:=cs) (S:=λg s=>∃a,g=G (b.aT a (.code iD::.inLoop iD::.inBlock 0::.code nF::kk)) cs/\At σ0 s0 (mZ k ps ns Y.C Y.Wg (i+1)) d5 a s) hi B m n d λj o d=>.stop ⟨j,rfl,d⟩) (l.step d.st).clear u;refine en.bind this ?_;rintro g s ⟨⟨a,rfl,h⟩,c⟩;refine⟨.leaf,D (by omega) a s ?_ c⟩;grind
end
end
end Go.AM.R1
namespace Go.AM
section
open Go.Conc
def aE.Vy{σ:List aP}{s:St}(hh:aE σ s){l:Nat}{B:aP}{L:Loc}(hB:σ[l]?=aa B)(k:s.β[l]?=aa L)(hk:(∃E cs,B=.cells E cs)∨∃H,B=.cf H):
  aE (σ.set l .dead) {s with β:=s.β.set l ⟨L.v,[]⟩}/\Step σ s (σ.set l .dead) {s with β:=s.β.set l ⟨L.v,[]⟩}:=by
 have g:l<σ.length:=(bZ.1 hB).1;have i:l<s.β.length:=(bZ.1 k).1;have d:∀l',(s.β.set l ⟨L.v,[]⟩)[l']?=if l=l' then aa ⟨L.v,[]⟩else s.β[l']?:=by grind
 have a:∀L'∈s.β.set l ⟨L.v,[]⟩,∀b∈L'.bs,L'∈s.β:=by grind
 have st:Step σ s (σ.set l .dead) {s with β:=s.β.set l ⟨L.v,[]⟩}:=by
  refine⟨bg _,λ_ _ _=>rfl,λ_ _ _ h=>h,λ_ _ _ _=>rfl,λL' fj b c=>.inr ⟨L',a L' fj b c,c⟩,?_,rfl,rfl,rfl,rfl⟩;intro l' B' L' jZ fj;by_cases e:l=l'
  .subst e;rw[hB]at jZ;cases jZ;rw[k]at fj;cases fj;refine⟨.dead,⟨L.v,[]⟩,by grind,by grind,?_⟩;rcases hk with⟨E,cs,rfl⟩|⟨H,rfl⟩<;>rfl
  .exact⟨B',L',by grind,by grind,.refl _ _⟩
 refine⟨⟨hh.mem,by simp[hh.len],?_,?_,λL' fj b c=>hh.lt L' (a L' fj b c) b c,λb c=>⟨(hh.own b c).1,λL' fj Dq=>(hh.own b c).2 L' (a L' fj b Dq) Dq⟩⟩,st⟩
 .intro l' B' L' jZ fj;by_cases e:l=l'
  .subst e;rw[fZ g]at jZ;cases jZ;trivial
  .rw[j6 e]at jZ;rw[d,aY e]at fj;exact(hh.box l' B' L' jZ fj).carry st.ext hh.len λb c=>⟨rfl,λo=>rfl⟩
 .intro n m L1 L2 h1 h2 b j f;rw[d]at h1 h2;split at h1
  .grind
  .split at h2
   .grind
   .exact hh.eB n m L1 L2 h1 h2 b j f
def dn.closed{σ σ':List aP}{s s':St}(e:s'.M=s.M){v:ah}{d:D}(h:dn σ s v d)(a:vP 0 d=ab):dn σ' s' v d:=by have h1:=dn.drop (σ1:=[]) (rest:=σ) h a;refine dn.mono (σ:=[]) (s:=s.cut 0) ⟨λb o v c=>by rw[e];exact c,λl B L hB _=>by grind⟩ (by simp[St.cut]) h1
end
end Go.AM
namespace Go.AM.R1
section
open Go.Proofs Go.Conc Go.Conc.Lib
open Go.ConcN (WgLive PayAt Has RW AtR0)
open Go.ConcR (KK WgAt stA smA rd wr mk Payload DC0)
noncomputable def Vz:Code:=xh (kZ (kZ (kZ EE)))
noncomputable def cR3:Code:=xh Vz
noncomputable def YR:Code:=kZ (kZ (kZ EE))
def Sp:YR=.seq (.seq cR3 (.block 0 (.loop iD))) nF:=by kernel_rfl
section
variable {σ0:List aP}{s0:St}{φ:Fr}{σ:List aP}{a:Act}{s:St}{S:au->St->Prop}
def At.goes{Wg:Nat}{j:au}:∀(m:Nat)(g:au)(s:St),At σ0 s0 φ σ a s->WgLive 215 Wg s.w->Goes ag ab (fC 215 Wg) DC0 (λg _=>g=j) m g s.w ->
  (∀b,At σ0 s0 φ σ a b->fE (Cx.beside ag) S j b)->fE (Cx.beside ag) S g s
 |0,g,s,h,_,e,K=>by obtain rfl:g=j:=e s.w (.refl _);grind
 |m+1,g,s,h,hl,e,K=>by
  rcases e with e|⟨n,e⟩
  .obtain rfl:g=j:=e s.w (.refl _);grind
  .refine .next n λb c=>?_;have h1:=h.rely c.1;obtain⟨d,o⟩:=c.2;have i:WgLive 215 Wg b.w:=by rw[o];exact hl
   have h2:=e b.w (λ_=>i);cases f:aG ag ab g b.w with
   |go g' w' es =>
    rw[f,goes_go]at h2;obtain⟨⟨rfl,rfl⟩,l⟩:=h2;exact⟨g',b,#[],f,.quiet h1.hh,At.goes m g' b h1 i l K⟩
   |_=>rw[f]at h2;exact h2.elim
def lH{σ:List aP}{s:St}(b:∀B∈σ,B=.dead){ds:List Deferred}{ls:List Nat}(h:oS σ s ds ls):ds=[]:=by
 cases ds with
 |nil=>rfl
 |cons d ds =>
  cases ls with
  |nil=>exact h.elim
  |cons l ls =>
   have:=b _ (bJ h.1.1);cases this
end
section
variable {k:Int}{ps:List bH}{ns:List Int}{C:Nat}{xs:List ah}
variable (k ps ns C)in
def OB:Fr:=[(2,cI.sl ns),(3,.e (.one (.ptr 0 0))),(4,.e (.one (.ptr 1 0))),(8,.e (.one (.ptr 3 0))),(9,.e (.one (.ptr 4 0)))]
variable (k ps ns C xs)in
def Au:List aP:=[.cells 3 [.c (.int .i64 k)],.cells 23 [.c (.sl ae 2 ps.length (cP.fn ps))],.cf (fV 218 2 (.row C ns.length) ns.length xs),.cells 205 [.c (.val (.slice (aa ⟨C,0,af⟩) ns.length ns.length))],.cells 215 [.c (.int .u64 0),.c (.int .u32 0)]]
variable (k ps ns)in
def Ns(x i:Nat):ah:=if i=0 then .string ⟨((dK k ps (ns.getD x 0)).getD []).toArray⟩else .bool (dK k ps (ns.getD x 0)).isSome
variable (k ps ns)in
def l7:List ah:=ns.flatMap λn=>[.string ⟨((dK k ps n).getD []).toArray⟩,.bool (dK k ps n).isSome]
variable (k ps ns C)in
def EG:List aP:=[.dead,.dead,.cf (fV 218 2 (.row C ns.length) ns.length (l7 k ps ns)),.dead,.dead]
def pR3{X:Cx ag}:AW X 45 cR3 (NQ ((18,cI.sl ns)::(19,dI ns.length)::(20,dI 0)::OB ns) (Au k ps ns C xs)) (OB ns) (Au k ps ns C xs):=by refine AK.of_code ?_;refine bu rfl aw ⟨rfl,cX rfl ?_,rfl⟩;simp
theorem Cm:(l7 k ps ns).length=ns.length*2:=by
 unfold l7;induction ns with
 |nil=>rfl
 |cons n r b=>grind
def Av:∀{ns:List Int}{x i:Nat},x<ns.length->i<2->(l7 k ps ns)[2*x+i]?=aa (Ns k ps ns x i)
 |[],x,i,h,_=>by grind
 |n::r,0,i,_,hi=>by
  match i,hi with
  |0,_=>rfl
  |1,_=>rfl
 |n::r,x+1,i,h,hi=>by have:=Av (ns:=r) (x:=x) (i:=i) (by grind) hi;unfold l7 at this⊢;rw[u6,gz (by grind)];rw[show 2*(x+1)+i - [Value.string ⟨((dK k ps n).getD []).toArray⟩,Value.bool (dK k ps n).isSome].length=2*x+i by grind];rw[this];simp[Ns]
def _root_.Go.AM.cq.seen{N b:Nat}{d:D}{σ:List aP}{s:St}{φ:Fr}{a:Act}(f:cq N σ s φ a)(h:dn σ s (a.tmps.getD b ai) d):cq N σ s ((b,d)::φ) a:=by
 refine⟨f.size,f.defers,λt=>?_⟩;simp only[look];cases c:aA b t with
 |false=>exact f.slot t
 |true=>grind[Nat.eq_of_beq_eq_true]
abbrev KS(n C:Nat):Fr:=[(8,.e (.one (.c (.rp [.val (.slice (aa ⟨C,0,af⟩) n n)]))))]
variable (k ps ns C)in
abbrev VA:Fr:=(8,.e (.one (.c (.rp [.val (.slice (aa ⟨C,0,af⟩) ns.length ns.length)]))))::(4,.e (.one (.c (.rp [.sl ae 2 ps.length (cP.fn ps)]))))::(3,.e (.one (.c (.rp [.int .i64 k]))))::(18,cI.sl ns)::(19,dI ns.length)::(20,dI 0)::[(9,.e (.one (.ptr 4 0)))]
def VB(hfe:eb (Cx.work ag) 144 (l6 k)){Q:Post}(hn:ns.length<=4000000)(VC:kV (Cx.beside ag) 45 qO Q (KS ns.length C) (EG k ps ns C)):kV (Cx.beside ag) 45 YR Q (OB ns) (Au k ps ns C xs):=by
 intro so ao hf hho b kk cs S hb NY hQ;have h:At (Au k ps ns C xs) so (OB ns) (Au k ps ns C xs) ao so:=⟨hf,hho,.refl _ _⟩;refine h.ctl rfl (λw=>vu Sp) λs h=>?_
 refine h.ctl rfl (λw=>oi) λs h=>?_;refine h.code hb pR3 λa s h=>?_;obtain⟨s1,w1,f1,z,Rh⟩:=cq.freeze 3 0 (E:=3) (cs:=[.c (.int .i64 k)]) (cc:=[.int .i64 k]) rfl rfl rfl h.fr h.hh;refine .ghost (.of h.hh z w1 (Rh.na h.hh)) ?_;obtain⟨s2,w2,f2,A,Z⟩:=cq.freeze 4 1 (E:=23) (cs:=[.c (.sl ae 2 ps.length (cP.fn ps))]) (cc:=[.sl ae 2 ps.length (cP.fn ps)]) rfl rfl rfl f1 z;refine .ghost (.of z A w2 (Z.na z)) ?_;obtain⟨s3,w3,f3,TT,X⟩:=cq.freeze 8 3 (E:=205) (cs:=[.c (.val (.slice (aa ⟨C,0,af⟩) ns.length ns.length))]) (cc:=[.val (.slice (aa ⟨C,0,af⟩) ns.length ns.length)]) rfl rfl rfl f2 A;refine .ghost (.of A TT w3 (X.na A)) ?_;have h:At (Au k ps ns C xs) so (VA k ps ns C)
   [.dead,.dead,.cf (fV 218 2 (.row C ns.length) ns.length xs),.dead,.cells 215 [.c (.int .u64 0),.c (.int .u32 0)]] a s3 :=
  ⟨f3.le (cX rfl (by simp)),TT,h.st.trans ((Rh.na h.hh).trans ((Z.na z).trans (X.na A)))⟩
 clear Rh Z X f1 f2 f3 z A TT;refine h.ctl rfl (λw=>rS) λs h=>?_;refine h.ctl rfl (λw=>FD) λs h=>?_;have hlen:=h.hh.len;simp only[er,fG]at hlen;obtain⟨D,u⟩:∃L,s.β[2]?=aa L:=⟨_,br (by omega)⟩
 obtain⟨V,F⟩:∃L,s.β[4]?=aa L:=⟨_,br (by omega)⟩
 obtain⟨ch,hH,VD,Ud,YC⟩:=h.hh.box 2 _ D rfl u;obtain⟨zs,WX,Q6,Q7⟩:=fV.lookup hH;obtain⟨WY,_,hxl,_,_,_⟩:=hH;have P:C∈D.bs:=(Ud C).2 (by grind);have VE:=VD C _ Q6;obtain⟨Wg,vs,adA,K,TK,hM4⟩:=h.hh.box 4 _ V rfl F;have YS:vs=[.int .u64 0,.int .u32 0]:=by
  match vs,TK with
  |[],r=>exact r.elim
  |[_],r=>exact r.2.elim
  |_::_::_::_,r=>exact r.2.2.elim
  |[u0,u1],r =>
   have r0:Rd s.M u0 (.int .u64 0):=r.1;have r1:Rd s.M u1 (.int .u32 0):=r.2.1;cases r0;cases r1;rfl
 subst YS;have Bi:C≠Wg:=by grind
 have hv9:a.tmps.getD 9 ai=.pointer (aa ⟨Wg,0,af⟩):=by obtain⟨_,L,bb,q1,q2,q3⟩:=h.fr.slot 9;grind
 obtain⟨g1,t1⟩:=h.hh.Vy (l:=2) rfl u (.inr ⟨_,rfl⟩);have YT:(s.β.set 2 ⟨D.v,[]⟩)[4]?=aa V:=by grind
 obtain⟨g2,t2⟩:=g1.Vy (l:=4) (B:=.cells 215 [.c (.int .u64 0),.c (.int .u32 0)]) rfl YT (.inl ⟨_,_,rfl⟩);generalize hsB:({s with β:=(s.β.set 2 ⟨D.v,[]⟩).set 4 ⟨V.v,[]⟩}:St)=sB at g2 t2;have eβ:sB.β=(s.β.set 2 ⟨D.v,[]⟩).set 4 ⟨V.v,[]⟩:=by grind
 have eM:sB.M=s.M:=by grind
 have ew:sB.w=s.w:=by grind
 have eo:sB.own=s.own:=by grind
 have hhB:aE d5 sB:=g2;have Qq:=(t1.na h.hh).trans (t2.na g1);have YU:sB.β[2]?=aa ⟨D.v,[]⟩:=by grind
 have p:∀L∈sB.β,∀x∈L.bs,∃l,l≠2/\l≠4/\s.β[l]?=aa L:=by grind[List.mem_iff_getElem?]
 have Du:C<s.w.heap.size:=h.hh.lt D (bJ u) C P;have Ba:Wg<s.w.heap.size:=h.hh.lt V (bJ F) Wg (by grind)
 have YV:Na C sB:=⟨by rw[eo];exactλho=>(h.hh.own C ho).2 D (bJ u) P,λL d f=>by obtain⟨l,n2,n4,hl⟩:=p L d C f;exact n2 (h.hh.eB l 2 L D hl u C f P),λo=>by rw[eM];grind,by grind⟩
 have I:Na Wg sB:=⟨by rw[eo];exactλho=>(h.hh.own Wg ho).2 V (bJ F) (by grind),λL d f=>by obtain⟨l,n2,n4,hl⟩:=p L d Wg f;exact n4 (h.hh.eB l 4 L V hl F Wg f (by grind)),λo=>by rw[eM];grind,by grind⟩
 have fB:cq 45 d5 sB (mZ k ps ns C Wg 0) a:=by have q:=h.fr.mono Qq h.hh.len;have q9:cq 45 d5 sB ((9,.e (.one (.v (.pointer (aa ⟨Wg,0,af⟩)))))::VA k ps ns C) a:=q.seen (by rw[hv9];exact Rd.val rfl);exact q9.le (cX rfl (by simp))
 have U:(xs++zs).toArray.size=2*ns.length:=by grind
 have NV:∀x,(s.own x∨∃L∈s.β,x∈L.bs)->x<s.w.heap.size:=λx f=>f.elim (λq=>(h.hh.own x q).1) λ⟨L,d,q⟩=>h.hh.lt L d x q;refine .xS (T:=λg' s'=>∃a4 m,At (Au k ps ns C xs) so (KS ns.length C) (EG k ps ns C) a4 s'/\WgLive 215 Wg s'.w/\Goes ag ab (fC 215 Wg) DC0 (λg _=>g=G (b.aT (a4.put (aa 28) (.tuple #[])) (.inRegion x9 []::.code qO::kk)) cs) m g' s'.w)
  (Uf.fork (n:=ns.length) (ty:=215) (val:=Ns k ps ns) (N:=2*ns.length) (s0:=sB) 2 (by omega) Wg C (by omega) Bi (.of h.hh hhB ew Qq) rfl ⟨D,bJ u,P⟩ ⟨V,bJ F,by grind⟩ NV ?_ K ⟨_,VE,U⟩ ?_) ?_
 .rintro x (rfl|rfl)
  .exact⟨YV.own,YV.β,YV.M⟩
  .exact⟨I.own,I.β,I.M⟩
 .intro Y hYW hYC hYk;subst hYW hYC;refine⟨TF k ps ns Y d5 sB b kk cs,Xj k ps ns Y d5 sB b kk cs,λg s f=>anF I NY f,?_,?_⟩
  .refine Oz hfe hYk I NY hb (by decide) hn (λi hi=>rfl) (λi hi=>rfl) ns.length (bg _) a sB ⟨by grind,hhB,.refl _ _⟩ ⟨_,_,by rw[ew];exact K⟩
  .rintro g' s' ⟨a4,⟨j,KP⟩,m,hgo⟩ hm' VF Sq UQ FT;obtain⟨o1,o2,o3⟩:=FT Y.C (.inl rfl);obtain⟨nb,H,adF⟩:=VF;have UR:nb=(l7 k ps ns).toArray:=by
    apply Array.ext_getElem?;intro o;have eo':(l7 k ps ns).toArray[o]?=(l7 k ps ns)[o]?:=by simp
    rw[eo'];rcases cG o (2*ns.length)with ho|ho
    .have q1:=Sq (o / 2) (by omega) (o % 2) (by omega);have q2:=Av (k:=k) (ps:=ps) (ns:=ns) (x:=o / 2) (i:=o % 2) (by omega) (by omega);rw[show 2*(o / 2)+o % 2=o by omega]at q1 q2;rw[q2];simpa[aU,H]using q1
    grind[Cm]
   subst UR;have Dp:s'.β.length=5:=j.hh.len;obtain⟨B2',L2',p1,p2,p3⟩:=j.st.box 2 .dead ⟨D.v,[]⟩ rfl YU;have adH:L2'.v=.nilFunc:=by cases p1;exact(show L2'.v=D.v from p3).trans WY
   have J:∀(l:Nat) (B:aP),d5[l]?=aa B->B=.dead:=by
    intro l B hB
    match l,hB with
    |0,hB|1,hB|2,hB|3,hB|4,hB=>cases hB;rfl
   have W:∀l,(s'.β.set 2 ⟨.nilFunc,[Y.C]⟩)[l]?=if l=2 then aa ⟨.nilFunc,[Y.C]⟩else s'.β[l]?:=by grind
   have y:∀L∈s'.β.set 2 ⟨.nilFunc,[Y.C]⟩,L=⟨.nilFunc,[Y.C]⟩∨L∈s'.β:=λL d=>by grind
   have TQ:aE (EG k ps ns Y.C) {s' with β:=s'.β.set 2 ⟨.nilFunc,[Y.C]⟩}:=by
    refine⟨j.hh.mem,by simp[Dp,EG],?_,?_,?_,λx f=>⟨(j.hh.own x f).1,λL d O=>?_⟩⟩
    .intro l B L hB d;rw[W]at d;by_cases e:l=2
     .subst e;rw[bl rfl]at d;cases d;cases hB;refine⟨λb'=>if b'=Y.C then aa (.cells (l7 k ps ns++[]).toArray 218 (0,0))else af,⟨rfl,?_,Cm,bg _,by omega,[],by grind,rfl⟩,λb' ob Dq=>?_,λb'=>?_,λb' Dq o=>?_⟩
      .intro x f;simp only[l7,List.mem_flatMap]at f;obtain⟨_,_,f⟩:=f;simp only[eE,oa,mn]at f;rcases f with rfl|rfl<;>rfl
      .by_cases e:b'=Y.C
       .subst e;simp only[cn]at Dq;cases Dq;rw[iQ];exact H
       grind
      .by_cases e:b'=Y.C<;>simp[e]
      grind
     .match l,hB,e with
      |0,hB,_|1,hB,_|3,hB,_|4,hB,_=>cases hB;trivial
      |2,_,e=>grind
    .intro l l' L L' d fj x f P4;rw[W]at d fj;by_cases e:l=2
     .grind
     .rw[aY e]at d;by_cases e':l'=2
      .grind
      .rw[aY e']at fj;exact j.hh.eB l l' L L' d fj x f P4
    .intro L d x f;rcases y L d with rfl|d
     .grind
     .exact j.hh.lt L d x f
    .rcases y L d with rfl|d
     .grind
     .exact(j.hh.own x f).2 L d O
   have YW:cU [.dead,.dead,.cf (fV 218 2 (.row Y.C ns.length) ns.length xs),.dead,.cells 215 [.c (.int .u64 0),.c (.int .u32 0)]] s (EG k ps ns Y.C) {s' with β:=s'.β.set 2 ⟨.nilFunc,[Y.C]⟩}:=by
    have q:=j.st;refine⟨by have:=q.size;grind,λx f=>by have:=q.fi x (by grind);grind,λx o v f=>q.mem x o v (by grind),λx f ZO o=>?_,λL d x f=>?_,?_,by rw[q.os,ew],by rw[q.tape,ew],by rw[q.output,ew],by rw[q.own,eo]⟩
    .rw[q.iU x (by grind) (λL d O=>by
      obtain⟨l,_,_,hl⟩:=p L d x O
      grind) o,eM]
    .rcases y L d with rfl|d
     .grind
     .rcases q.vb L d x f with r1|⟨L0,r1,r2⟩
      .grind
      .obtain⟨l,_,_,hl⟩:=p L0 r1 x r2;grind
    .intro l B L hB d;obtain⟨B1,L1,r1,r2,r3⟩:=Qq.box l B L hB d;obtain⟨B3,L3,u1,u2,u3⟩:=q.box l B1 L1 r1 r2;have eB1:=J l B1 r1;have eB3:=J l B3 u1;subst eB1 eB3;by_cases e:l=2
     .subst e;cases hB;rw[u]at d;cases d;exact⟨_,⟨.nilFunc,[Y.C]⟩,rfl,by grind,WY.symm⟩
     .refine⟨.dead,L3,?_,by grind,r3.trans u3⟩
      match l,u1,e with
      |0,_,_|1,_,_|3,_,_|4,_,_=>rfl
      |2,_,e=>grind
   refine⟨{s' with β:=s'.β.set 2 ⟨.nilFunc,[Y.C]⟩},⟨a4,m,⟨⟨j.fr.size,⟨[],?_⟩,λt=>?_⟩,TQ,h.st.trans YW⟩,KP,hgo⟩,rfl,hm',λSh R hnC=>⟨R.own,λx f L d O=>?_,R.M,R.lt⟩⟩
   .obtain⟨ls,RI⟩:=j.fr.defers;rw[lH (λB hB=>by grind) RI];trivial
   .have fq:cq 45 d5 s' (KS ns.length Y.C) a4:=j.fr.le (cX rfl (by simp));exact dn.closed (s:=s') (s':={s' with β:=s'.β.set 2 ⟨.nilFunc,[Y.C]⟩}) rfl (fq.slot t) (nB rfl)
   .rcases y L d with rfl|d
    .grind
    .exact R.β x f L d O
 .rintro g' s' ⟨a4,m,h4,hl4,hgo⟩;refine At.goes m g' s' h4 hl4 hgo λs1 h1=>?_;have h2:At (Au k ps ns C xs) so ((28,.any)::KS ns.length C) (EG k ps ns C) (a4.put (aa 28) (.tuple #[])) s1:=⟨h1.fr.put (by decide) aw,h1.hh,h1.st⟩
  refine h2.ctl rfl (λw=>iW) λs2 h3=>?_;refine VC s2 _ (h3.fr.le (cX rfl (by simp))) h3.hh b kk cs S hb NY λe φ' σ' s' a' q f' h' qE=>hQ e φ' σ' s' a' q f' h' (h3.st.trans qE)
end
end
section
open Go.Proofs
abbrev YX(a:List Bs)(b:Bool):D:=.fa [.one (.c (.sl ae 1 a.length (cS.fn a))),.one (.c (.bool b))]
def eN(k:Int)(ps:List bH)(ns:List Int):Option (List Bs):=if ns.all (λn=>(dK k ps n).isSome)then aa (ns.map λn=>(dK k ps n).getD [])else af
noncomputable def cR0:Code:=xh EE
noncomputable def cR1:Code:=xh (kZ EE)
noncomputable def cR2:Code:=xh (kZ (kZ EE))
def OC:Tryz.f96.body=aa (.seq cR0 (.seq cR1 (.seq cR2 YR))):=by kernel_rfl
def Sr(k:Int)(ps:List bH)(ns:List Int)(i:Nat):List AM.C:=[.str ((dK k ps (ns.getD i 0)).getD []),.bool (dK k ps (ns.getD i 0)).isSome]
def uS(k:Int)(ps:List bH)(ns:List Int):List Bs:=ns.map λn=>(dK k ps n).getD []
theorem Cn{b p:Bs}(h:eX b=aa p):p.length<=8:=by
 unfold eX at h;split at h
 .rename_i a;cases h;simp only[bS,bt,aZ]at a;omega
 grind
theorem HR{k:Int}{x:bm}{p:Bs}(h:chunk k x=aa p):p.length<=8:=by unfold chunk at h;grind[Cn]
theorem yF{k:Int}{ps:List bH}{n:Int}:((dK k ps n).getD []).length<=8:=by
 cases h:dK k ps n with
 |none=>simp
 |some p =>
  obtain⟨q,_,a⟩:=List.exists_of_findSome?_eq_some h;unfold eh at a;grind[HR]
theorem Ss{k:Int}{ps:List bH}{ns:List Int}{i:Nat}(hi:i<ns.length){M:Mem}{j:Nat}{c:AM.C}{x:ah}(a:(Sr k ps ns i)[j]?=aa c)(d:(l7 k ps ns)[i*2+j]?=aa x):Rd M x c:=by
 have b:j<2:=(bZ.1 a).1;have:=Av (k:=k) (ps:=ps) hi b;rw[Nat.mul_comm,this]at d;cases d
 match j,b with
 |0,_ =>
  cases a;have:=yF (k:=k) (ps:=ps) (n:=ns.getD i 0);exact .str rfl (by omega)
 |1,_=>cases a;exact .bool
def _root_.Go.AM.kV.le{P:aq}{X:Cx P}{N:Nat}{Q:Post}{φ φ':Fr}{σ:List aP}{c:Code}(h:kV X N c Q φ' σ)(hl:oq φ φ'):kV X N c Q φ σ:=λs a f hh=>h s a (f.le hl) hh
def Cj{k:Int}(g:eb (Cx.work ag) 144 (l6 k))(ps:List bH)(ns:List Int)(p:ns.length<=4000000):
  Ev (Cx.beside ag) 96 [dI k,cP.sl ps,cI.sl ns] [] (YX ((eN k ps ns).getD []) (eN k ps ns).isSome) []:=by
 refine dZ.DK (dZ.D5 (ι:=Unit) Tryz.func96 rfl OC rfl λt=>?_);show kV _ 45 _ _ _ _;refine kV.seq (AW.top (AK.of_code ?_));refine bu rfl aw ?_;show kV _ 45 _ _ _ _;refine kV.seq (AW.top (AK.of_code ?_));refine bu rfl aw ?_;refine AK.Jc (E:=218) (n:=ns.length) tok rfl rfl rfl rfl rfl rfl (by show _*24<=_;omega) (by omega) rfl rfl λC xs=>?_;refine bu rfl aw ?_;show kV _ 45 _ _ _ _;refine kV.seq (AW.top (AK.of_code ?_));refine bu rfl aw ?_;show kV _ 45 _ _ _ _;have a:kV (Cx.beside ag) 45 qO (λe φ σ1=>∃_:Unit,cw Tryz.f96 0 (YX ((eN k ps ns).getD []) (eN k ps ns).isSome) [] e φ σ1) (KS ns.length C) (EG k ps ns C):=by
  refine AW.top (AW.mono (Q:=cw Tryz.f96 0 (YX ((eN k ps ns).getD []) (eN k ps ns).isSome) []) (AK.of_code ?_) λ_ _ _ q=>⟨(),q⟩);refine bu rfl (show _<=_ by omega) ?_;refine AK.vL 29 2 (bf:=.row C ns.length) (n:=ns.length) (k:=2) (Sr k ps ns) rfl rfl (λi hi=>⟨rfl,λM j c x s u=>?_⟩) ?_
  .grind [Ss]
  refine AK.iB 12 9 1 rfl rfl ?_;refine AK.cC 6 (λi=>i<=ns.length/\∀j,j<i->(dK k ps (ns.getD j 0)).isSome=ab) (λi:Nat=>[(29,.e (.one (.c (.sl ae 2 ns.length (Sr k ps ns))))),(30,dI ns.length),(31,dI i),(12,.e (.one (.vec 5 1 (uS k ps (ns.take i)).length (cS.fn (uS k ps (ns.take i))))))]) (λi=>[.dead,.dead,.dead,.dead,.dead,.vec 9 1 (uS k ps (ns.take i)).length (cS.fn (uS k ps (ns.take i)))]) (λi=>ns.length-i) 0 rfl ?_ rfl ?_ rfl ⟨by omega,by omega⟩ ?_
  .simp[cy,uS]
  .simp[cy,uS]
  rintro i ⟨hi,m⟩;by_cases h:i<ns.length
  .cases o:(dK k ps (ns.getD i 0)).isSome with
   |true =>
    have d:uS k ps (ns.take (i+1))=uS k ps (ns.take i)++[(dK k ps (ns.getD i 0)).getD []]:=by unfold uS;grind[List.take_add_one]
    have r:(uS k ps (ns.take i)).length<=4000000:=by simp[uS];omega
    refine bL [(32,ab),(37,ae)] rfl ?_ (AK.aQ (i+1) rfl ?_ ?_ ?_ ?_)
    .simp[-an,h,Sr,o,bA];have:i9.bytes=16:=rfl;grind
    .rw[d];simp[-an,Sr];exact cS.cj _ _
    .rw[d];simp[-an,Sr];exact cS.cj _ _
    .grind
    .omega
   |false =>
    refine bL [(32,ab),(37,ab)] rfl ?_ (AK.fJ (cw.zero rfl ?_))
    .simp[-an,h,Sr,o]
    .have f:eN k ps ns=af:=by unfold eN;rw[aY];grind
     simp[f]
  .have l:i=ns.length:=by omega
   subst l;refine bL [(32,ae)] rfl (by simp) (AK.leaveD rfl rfl ?_);refine di rfl aw (AK.bx rfl ?_);have b:eN k ps ns=aa (uS k ps ns):=by
    unfold eN;rw[bl]
    .rfl
    grind[List.mem_iff_getElem]
   simp[b]
 exact kV.le (σ:=Au k ps ns C xs) (VB (xs:=xs) g p a) (cX rfl (by simp))
end
end Go.AM.R1
namespace Go.AM.R1
def jT(a:UInt8)(s:Bs):iG (a::s)=if a=47 then 0 else if iG s=-1 then -1 else iG s+1:=by unfold iG;grind[Lib.indexByte.eq_def]
def vv:iG []=-1:=by unfold iG;rw[Lib.indexByte.eq_def]
def H6(s:Bs):fg s=dD s:=by
 by_cases i:s.length<=3
 .match s,i with
  |[],_=>simp[fg,dD,cD,js,vv]
  |[a],_ =>
   by_cases d:a=47
   .subst d;simp[fg,dD,cD,js,mM,j3,jT,mb,cN]
   .simp[fg,dD,cD,js,j3,jT,vv,d,mb,cN]
  |[a,b],_ =>
   by_cases d:a=47
   .subst d;simp[fg,dD,cD,js,mM,j3,jT]
   .by_cases e:b=47
    .subst e;simp[fg,dD,cD,js,mM,j3,jT,d]
    .simp[fg,dD,cD,js,j3,jT,vv,d,e]
  |[a,b,c],_ =>
   by_cases d:a=47
   .subst d;simp[fg,dD,cD,js,mM,j3,jT,mb,cN]
   .by_cases e:b=47
    .subst e;simp[fg,dD,cD,js,mM,j3,jT,d,mb,cN]
    .have f:¬(b.toNat:Int)=47:=by intro h;apply e;apply od.1;grind
     by_cases g:c=47
     .subst g;simp[fg,dD,cD,js,mM,j3,jT,d,e,mb,cN]
     .simp[fg,dD,cD,js,j3,jT,vv,d,e,g,f,mb,cN]
  |_::_::_::_::_,h=>grind
 .have j:dD s=ae:=by unfold dD;grind
  grind[ux]
end Go.AM.R1
namespace Go.AM
theorem sI(a:Bs):bk a []=ae:=by rw[Op.bytesLess.eq_def]
def xo(b:UInt8)(l:Bs):bk [] (b::l)=ab:=by rw[Op.bytesLess.eq_def]
theorem sJ(a b:UInt8)(x y:Bs):bk (a::x) (b::y)=(decide (a<b)||a==b&&bk x y):=by rw[Op.bytesLess.eq_def]
theorem qy:∀a:Bs,bk a a=ae
 |[]=>sI []
 |a::l=>by rw[sJ,qy l];simp
def Cy:∀a b:Bs,bk a b=ab∨a=b∨bk b a=ab
 |[],[]=>.inr (.inl rfl)
 |[],b::y=>.inl (xo b y)
 |a::x,[]=>.inr (.inr (xo a x))
 |a::x,b::y=>by
  rw[sJ,sJ];rcases Cy x y with h|h|h
  .grind
  .grind
  grind
theorem xp:∀{a b c:Bs},bk a b=ab->bk b c=ab->bk a c=ab
 |a,b,[],_,d=>by grind[sI]
 |a,[],c::z,e,_=>by grind[sI]
 |[],b::y,c::z,_,_=>xo c z
 |a::x,b::y,c::z,e,d=>by
  rw[sJ,jA,bS,aZ,hI]at e d⊢;rcases e with e|⟨rfl,e⟩
  .grind
  .rcases d with d|⟨rfl,d⟩
   .grind
   .exact .inr ⟨rfl,xp e d⟩
theorem Cz{a b:Bs}(h:bk a b=ab):bk b a=ae:=by grind[xp,qy]
def SQ{a b:Bs}:(!(bk b a||b==a))=bk a b:=by
 rcases Cy a b with h|h|h
 .have c:(b==a)=ae:=by simp only[eD,du];grind[qy]
  grind[Cz]
 .grind [qy]
 grind[Cz]
namespace R1
def V6{t:List bz}{i:Nat}(h:∀k,0<k->k<=i->bk (ft t (k-1)) (ft t k)=ab):∀j,j<i->bk (ft t j) (ft t i)=ab:=by
 intro j f;induction i with
 |zero=>omega
 |succ i d =>
  have c:=h (i+1) (by omega) (bg _);simp only[pS]at c;by_cases e:j=i
  .grind
  .exact xp (d (λk a b=>h k a (by omega)) (by omega)) c
def uy{s:Bs}(h:dD s=ab):(∃a,s=[a])∨∃a b,s=[a,47,b]:=by
 unfold dD at h;split at h
 .rename_i d
  match s,d with
  |[a],_=>grind
 .split at h
  .rename_i d
   match s,d with
   |[a,b,c],_ =>
    right;simp[mb,cN]at h;have e:b=47:=by apply od.1;grind
    grind
  grind
theorem CB{p q:Bs}(i:dD p=ab)(f:dD q=ab)(g:bk p q=ab):clash p q=under q p:=by
 rcases uy i with⟨a,rfl⟩|⟨a,b,rfl⟩<;>rcases uy f with⟨c,rfl⟩|⟨c,d,rfl⟩
 .simp[clash,under,lq]
 .by_cases e:a=c
  .subst e;simp[clash,under,lq,cN]
  .have:¬(a.toNat:Int)=c.toNat:=λh=>e (od.1 (by omega));have k:((a.toNat:Int)==(c.toNat:Int))=ae:=by grind
   have j:(c==a)=ae:=by grind
   simp[clash,under,lq,cN];grind
 .have:¬(a.toNat:Int)=c.toNat:=by grind[UInt8.toNat_inj,sJ,sI]
  simp[clash,under,lq,cN,this]
 .simp[clash,under,lq]
theorem yX{t:List bz}{i:Nat}(a:∀j,j<i->gJ t j=ab):je t i=gJ t i:=by
 unfold je gJ;rw[H6,SQ];cases l:dD (ft t i)with
 |false=>simp
 |true =>
  cases d:ee (sZ t i)with
  |false=>simp
  |true =>
   cases f:(i==0||bk (ft t (i-1)) (ft t i))with
   |false=>simp
   |true =>
    simp only[fH];have g:∀j,j<i->bk (ft t j) (ft t i)=ab:=by
     apply V6;intro k hk hki;by_cases e:k=i
     .grind
     .have:=a k (by omega);simp only[gJ,bS,jA,hI]at this;grind
    rw[pZ,dz,dz];have h:∀j,j<i->clash (ft t j) (ft t i)=under (ft t i) (ft t j):=by
     intro j c;have b:dD (ft t j)=ab:=by have:=a j c;simp only[gJ,bS]at this;exact this.1.1.1
     grind[CB]
    grind
def iJ(t:List bz):mN t=cz t:=by
 unfold mN cz;congr 1;rw[pZ,dz,dz];constructor
 .intro h i;induction i using Nat.strongRecOn with
  |_ i a=>grind[yX]
 grind[yX]
end R1
end Go.AM
namespace Go.AM.R1
section
open Go.Proofs
variable {X:Cx ag}
def fileOf(k:Int)(ps:List bH)(x:jS):Option bz:=match eN k ps x.2 with
 |none=>af
 |some l=>match gx l with
  |none=>af
  |some t=>aa (x.1,t)
def dk(k:Int)(ps:List bH)(l:List jS):List bz:=l.map λx=>(fileOf k ps x).getD ([],[])
def db(k:Int)(s:gG)(ps:List bH):Option (List bz) :=
 if b6 k&&s.2.all (λx=>(fileOf k ps x).isSome)&&cz (dk k ps s.2)then aa (dk k ps s.2)else af
abbrev Sj(a:List bz)(b:Bool):D:=.fa [.one (.c (.sl ae 2 a.length (cF.fn a))),.one (.c (.bool b))]
abbrev M8(s:gG):D:=.e (.agg [.c (.int .i64 s.1),.c (.sl ae 2 s.2.length (cL.fn s.2))])
theorem pF{k:Int}{ps:List bH}{l:List jS}{i:Nat}(h:i<l.length):dk k ps (l.take (i+1))=dk k ps (l.take i)++[(fileOf k ps (l.getD i ([],[]))).getD ([],[])]:=by unfold dk;grind[List.take_add_one]
def pG{k:Int}{ps:List bH}{s:gG}{i:Nat}(h:i<s.2.length)(a:fileOf k ps (s.2.getD i ([],[]))=af):db k s ps=af:=by unfold db;rw[aY];grind
def x7{k:Int}{ps:List bH}{ns:List Int}{l:List Bs}(h:eN k ps ns=aa l)(a:ns.length<=4000000):l.flatten.length<=140737488355328/\l.length<=4000000:=by
 unfold eN at h;split at h
 .rename_i b;cases h;refine⟨?_,by grind⟩;have key:∀ns:List Int,(ns.all λn=>(dK k ps n).isSome)=ab->(ns.map λn=>(dK k ps n).getD []).flatten.length<=8*ns.length:=by
   intro ns;induction ns with
   |nil=>grind
   |cons n ns ih =>
    intro h;simp only[List.all_cons,bS]at h;grind[yF]
  grind
 grind
def Ci(k:Int)(s:gG)(ps:List bH)(I:s.2.length<=4000000)(B:∀x∈s.2,x.2.length<=4000000):
  Ev (Cx.beside ag) 53 [dI k,M8 s,cP.sl ps] [] (Sj ((db k s ps).getD []) (db k s ps).isSome) []:=by
 refine Ev.bQ Tryz.func53 rfl λH=>?_;have w:=H.sl 2 rfl;have b:bF (Cx.beside ag) [(40,kq aI (λk=>dB (b6 k)) λ_=>[])]:=.cons t40 .nil;cases hk:b6 k with
 |false =>
  refine aV b [(15,ae),(16,ab)] rfl ?_ (AK.bx rfl ?_)
  .simp[hk]
  .simp[db,hk]
 |true =>
  have n:eb (Cx.work ag) 144 (l6 k):=Se Oi hk;refine aV b [(15,ab),(16,ae),(1000004,ab)] rfl ?_ ?_
  .simp[hk]
  refine AK.iB 8 82 2 rfl rfl ?_;refine cg b rfl aw ?_;refine AK.cC 2 (λi=>i<=s.2.length/\∀j,j<i->(fileOf k ps (s.2.getD j ([],[]))).isSome=ab) (λi:Nat=>[(0,dI k),(2,cP.sl ps),(4,.e (.one (.ptr 0 0))),(8,.e (.one (.vec 1 2 (dk k ps (s.2.take i)).length (cF.fn (dk k ps (s.2.take i)))))),(18,cL.sl s.2),(19,dI s.2.length),(20,dI i)]) (λi=>[.cells 71 [.c (.int .i64 s.1),.c (.sl ae 2 s.2.length (cL.fn s.2))],.vec 82 2 (dk k ps (s.2.take i)).length (cF.fn (dk k ps (s.2.take i)))]) (λi=>s.2.length-i) 0 rfl ?_ rfl ?_ rfl ⟨by omega,by omega⟩ ?_
  .simp[dk]
  .simp[dk]
  rintro i ⟨hi,u⟩;by_cases h:i<s.2.length
  .have r:s.2.getD i ([],[])∈s.2:=by grind
   generalize d:s.2.getD i ([],[])=x at r;have m:=B x r;have f:=Cj n ps x.2 m;cases a:eN k ps x.2 with
   |none =>
    rw[a]at f;refine aV b [(21,ab)] rfl ?_ ?_
    .exact⟨by omega,by omega,dc (by omega)⟩
    refine AK.cQ (d▸f) [] rfl ?_;refine aV b [(33,ab)] rfl ?_ (AK.fJ (cw.zero rfl ?_))
    .simp
    .have e:fileOf k ps x=af:=by simp[fileOf,a]
     rw[pG h (by grind)];simp
   |some l =>
    obtain⟨p,E⟩:=x7 a m;rw[a]at f;have q:=EC (X:=Cx.beside ag) l p;refine aV b [(21,ab)] rfl ?_ ?_
    .exact⟨by omega,by omega,dc (by omega)⟩
    refine AK.cQ (d▸f) [] rfl ?_;refine aV b [(33,ae)] rfl ?_ ?_
    .simp
    refine AK.cQ q [] rfl ?_;cases v:gx l with
    |none =>
     refine aV b [(40,ab)] rfl ?_ (AK.fJ (cw.zero rfl ?_))
     .simp
     .have e:fileOf k ps x=af:=by simp[fileOf,a,v]
      rw[pG h (by grind)];simp
    |some t =>
     have e:fileOf k ps x=aa (x.1,t):=by simp[fileOf,a,v]
     have G:s.2.getD (i:Int).toNat cL.b7=x:=d;have F:(dk k ps (s.2.take i)).length<=4000000:=by simp[dk];omega
     have y:cy ((dk k ps (s.2.take i)).length+1) (cE (dk k ps (s.2.take i)).length (cF.fn (dk k ps (s.2.take i))) λo=>[[C.str (s.2.getD (i:Int).toNat cL.b7).1,C.str ((aa t).getD [])]].getD o []) (cF.fn (dk k ps (s.2.take (i+1)))):=by rw[pF h,d,e,G];exact cF.cj (dk k ps (s.2.take i)) (x.1,t)
     have A:(dk k ps (s.2.take i)).length+1=(dk k ps (s.2.take (i+1))).length:=by grind[pF]
     refine aV b [(40,ae)] rfl ?_ (AK.aQ (i+1) rfl ?_ ?_ ?_ ?_)
     .refine⟨by simp only[bA];omega,rfl,rfl,?_,rfl⟩;show _*32<=_;omega
     .refine ay.cat.2 ⟨rfl,ay.cat.2 ⟨⟨rfl,cy.same⟩,ay.cat.2 ⟨aw,ay.cat.2 ⟨⟨A,y⟩,ay.cat.2 ⟨⟨rfl,cy.same⟩,ay.cat.2 ⟨rfl,ay.cat.2 ⟨?_,aw⟩⟩⟩⟩⟩⟩⟩;simp
     .exact ay.cat.2 ⟨ay.cat.2 ⟨rfl,ay.cat.2 ⟨⟨rfl,cy.same⟩,aw⟩⟩,ay.cat.2 ⟨⟨A,y⟩,aw⟩⟩
     .grind
     .omega
  .have e:i=s.2.length:=by omega
   subst e;refine aV b [(21,ae)] rfl (by simp) (AK.leaveD rfl rfl ?_);rw[dh];have g:=xf (X:=Cx.beside ag) (dk k ps s.2);rw[iJ]at g;refine cg b rfl aw ?_;refine AK.cQ g [] rfl ?_;have D:s.2.all (λx=>(fileOf k ps x).isSome)=ab:=List.all_eq_true.2 λx r=>by grind[List.mem_iff_getElem]
   cases z:cz (dk k ps s.2)with
   |false =>
    refine aV b [(51,ab)] rfl ?_ (AK.bx rfl ?_)
    .simp
    .simp[db,z]
   |true =>
    refine aV b [(51,ae)] rfl ?_ (AK.bx rfl ?_)
    .simp
    .simp[db,z,hk,D]
abbrev bo:=List bH×List gG×List (Int×Int)
def oA(s:bo):Prop:=∀x∈s.2.1,x.2.length<=4000000/\∀y∈x.2,y.2.length<=4000000
abbrev qN(s:bo):D:=.e (.agg [.c (.sl ae 2 s.1.length (cP.fn s.1)),.c (.sl ae 2 s.2.1.length (fL.fn s.2.1)),.c (.sl ae 2 s.2.2.length (cH.fn s.2.2))])
def yG:dv:=Et aI (Ey cL) (aL cP) (λk s ps=>Sj ((db k s ps).getD []) (db k s ps).isSome) λ_ s _=>[s.2.length<=4000000,∀x∈s.2,x.2.length<=4000000]
def HN:eb (Cx.beside ag) 53 yG:=.KA λk s ps h=>Ci k s ps h.1 h.2
def TX:Arg bo:=⟨qN,λd=>match d with
 |.e (.agg [.c a,.c b,.c c])=>match kY 2 (.e (.one (.c a)))with
  |some (j,m)=>match kY 2 (.e (.one (.c b)))with
   |some (g,k)=>match kY 2 (.e (.one (.c c)))with
    |some (n,i)=>aa ((cP.list j m,fL.list g k,cH.list n i),[cP.fits j m,fL.fits g k,cH.fits n i])
    |none=>af
   |none=>af
  |none=>af
 |_=>af,λ{d a o} h l σ s v r=>by
 split at h
 .split at h
  .rename_i j m y;split at h
   .rename_i g k p;split at h
    .rename_i n i q;cases h;obtain⟨vs,x,f⟩:=r
     match vs,f with
     |[],f=>exact f.elim
     |[_],f=>exact f.2.elim
     |[_,_],f=>exact f.2.2.elim
     |_::_::_::_::_,f=>exact f.2.2.2.elim
     |[u,w,t],f =>
      exact⟨_,x,cP.jR (σ:=[]) (s:=s) (v:=u) y l.1 f.1,fL.jR (σ:=[]) (s:=s) (v:=w) p l.2.1 f.2.1,cH.jR (σ:=[]) (s:=s) (v:=t) q l.2.2 f.2.2.1,aw⟩
    grind
   grind
  grind
 grind⟩
abbrev gX(p:bH)(i:Nat):bm:=p.2.getD i (0,[])
def iL(k:Int)(p:bH)(i:Nat):Bool:=right k (gX p i)&&(i==0||decide ((gX p (i-1)).1<(gX p i).1))
theorem tH(k:Int)(p:bH):gk k p=((bd p.2.length).all (iL k p)&&(b6 k&&decide (1<=p.1)&&decide (p.1<=99)&&decide (1<=p.2.length)&&decide (p.2.length<=4))):=by
 have e:(p.2.all (right k)&&Aq (p.2.map (·.1)))=(bd p.2.length).all (iL k p):=by
  rw[pZ,bS,List.all_eq_true,List.all_eq_true];unfold Aq;rw[List.all_eq_true];have b:∀i,i<p.2.length->(p.2.map (·.1)).getD i 0=(gX p i).1:=λi hi=>by grind
  constructor
  .rintro⟨c,a⟩ i hi;have hi:=oe.1 hi;have q:=a i (by grind);rw[b i hi]at q;unfold iL;rw[c (gX p i) (by grind),fH];rcases mT i with rfl|f
   .rfl
   grind
  .intro h;refine⟨λx d=>?_,λi hi=>?_⟩
   .obtain⟨i,hi,rfl⟩:=nZ.1 d;have:=h i (oe.2 hi);simp only[iL,bS]at this;grind
   .have hi:i<p.2.length:=by grind
    have:=h i (oe.2 hi);simp only[iL,bS]at this;grind
 rw[<-e];unfold gk;cases b6 k<;>cases decide (1<=p.1)<;>cases decide (p.1<=99)<;>cases decide (1<=p.2.length)<;>cases decide (p.2.length<=4)<;>simp
def yH{k:Int}{p:bH}{i:Nat}(hi:i<p.2.length)(h:iL k p i=ae):gk k p=ae:=by grind[tH]
theorem rv{k:Int}{x:bm}(hk:b6 k=ab):(chunk k x).isSome=right k x:=by unfold chunk right;grind
def HO(k:Int)(p:bH)(hk:b6 k=ab)(u:p.2.length<=4000000):Ev X 102 [dI k,HG p] [] (dB (gk k p)) []:=by
 refine Ev.bQ Tryz.func102 rfl λw=>?_;have a:bF X [(40,kq aI (λk=>dB (b6 k)) λ_=>[]),(150,oX TU aI (λx k=>Am (chunk k x)) λ_ k=>[b6 k=ab])]:=.cons t40 (.cons (KC Oi) .nil);refine cg a rfl aw ?_;refine AK.cC 1 (λi=>i<=p.2.length/\∀j,j<i->iL k p j=ab) (λi:Nat=>[(0,dI k),(3,.e (.one (.ptr 0 0))),(10,dM.sl p.2),(11,dI p.2.length),(12,dI i)]) (λ_=>[.cells 67 [.c (.int .i64 p.1),.c (sP p)]]) (λi=>p.2.length-i) 0 rfl ?_ rfl ?_ rfl ⟨by omega,by omega⟩ ?_
 .simp
 .simp
 rintro i ⟨hi,f⟩;by_cases h:i<p.2.length
 .cases l:right k (gX p i)with
  |false =>
   have n:(chunk k (gX p i)).isSome=ae:=by grind[rv]
   refine aV a [(13,ab),(24,ab),(40,ab)] rfl ?_ (AK.fJ (cw.zero rfl ?_))
   .refine⟨rfl,?_,hk,by omega,by omega,dc (by omega)⟩;grind
   .rw[yH h (by simp only[iL,l,rN])];simp
  |true =>
   have n:(!(chunk k (gX p i)).isSome)=ae:=by grind[rv]
   by_cases v:i=0
   .subst v;refine aV a [(13,ab),(24,ae),(27,ae),(40,ae)] rfl ?_ (AK.aQ 1 rfl ?_ ?_ ⟨by omega,λj g=>?_⟩ (by omega))
    .simp only[ay,bA];grind
    .simp
    .simp
    .have:j=0:=by omega
     subst this;simp only[iL,l,fH];rfl
   .have s:((i:Int)-1).toNat=i-1:=by omega
    cases q:decide ((gX p (i-1)).1<(gX p i).1)with
    |false =>
     refine aV a [(13,ab),(24,ae),(27,ab),(38,ab),(40,ab)] rfl ?_ (AK.fJ (cw.zero rfl ?_))
     .have o:(p.2.getD ((i:Int)-1).toNat dM.b7).1=(gX p (i-1)).1:=by rw[s];rfl
      refine⟨rfl,dc ?_,by omega,by omega,by simp only[bA];omega,dc (by omega),n,hk,by omega,by omega,dc (by omega)⟩;rw[o];show(gX p i).1<=_;grind
     .rw[yH h (by simp only[iL,l,q,fH,Bool.or_false];grind)];simp
    |true =>
     refine aV a [(13,ab),(24,ae),(27,ab),(38,ae),(40,ae)] rfl ?_ (AK.aQ (i+1) rfl ?_ ?_ ⟨by omega,λj g=>?_⟩ (by omega))
     .have o:(p.2.getD ((i:Int)-1).toNat dM.b7).1=(gX p (i-1)).1:=by rw[s];rfl
      refine⟨by simp only[bA];omega,rfl,iP ?_,by omega,by omega,by simp only[bA];omega,dc (by omega),n,hk,by omega,by omega,dc (by omega)⟩;rw[o];show¬(gX p i).1<=_;grind
     .simp
     .simp
     .rcases zj.1 g with g|rfl
      .grind
      .simp only[iL,l,q,fH,Bool.or_true]
 .have e:i=p.2.length:=by omega
  subst e;refine aV a [(13,ae)] rfl (by simp) (AK.leaveD rfl rfl ?_);have t:(bd p.2.length).all (iL k p)=ab:=List.all_eq_true.2 λj g=>f j (oe.1 g);rw[tH,t,hk];by_cases b:1<=p.1
  .by_cases d:p.1<=99
   .by_cases m:1<=p.2.length
    .by_cases r:p.2.length<=4
     .refine aV a [(43,ab),(47,ab),(52,ab),(58,ab),(64,ab)] rfl ?_ (AK.bx rfl ?_)
      .exact⟨dc (by omega),dc (by omega),dc d,dc b,hk⟩
      .simp[b,d,m,r]
     .refine aV a [(43,ab),(47,ab),(52,ab),(58,ab),(64,ae)] rfl ?_ (AK.bx rfl ?_)
      .exact⟨iP (by omega),dc (by omega),dc d,dc b,hk⟩
      .simp[b,d,m,r]
    .refine aV a [(43,ab),(47,ab),(52,ab),(58,ae)] rfl ?_ (AK.bx rfl ?_)
     .exact⟨iP (by omega),dc d,dc b,hk⟩
     .simp[b,d,m]
   .refine aV a [(43,ab),(47,ab),(52,ae)] rfl ?_ (AK.bx rfl ?_)
    .exact⟨iP d,dc b,hk⟩
    .simp[b,d]
  .refine aV a [(43,ab),(47,ae)] rfl ?_ (AK.bx rfl ?_)
   .exact⟨iP b,hk⟩
   .simp[b]
def Ar:dv:=oX aI (Ey dM) (λk p=>dB (gk k p)) λk p=>[b6 k=ab,p.2.length<=4000000]
def Gr:eb X 102 Ar:=.sC λk p h=>HO k p h.1 h.2
def yI(l:List (Int×Int))(f:l.length<=4000000):Ev X 83 [cH.sl l] [] (.e (.one (.bp 0 (.sl l.length 2 0 l.length)))) [.buf 48 2 l.length (cH.fn l)]:=by
 refine Ev.bQ Tryz.func83 rfl λd=>?_;refine bu rfl aw ?_;refine AK.F7 tok rfl rfl rfl rfl rfl rfl λb c=>?_;cases b with
 |true =>
  obtain rfl:=jf (c rfl);refine bu rfl aw ?_;refine AK.Vg 2 48 2 (cH.fn []) rfl ?_;refine AK.cY [0] rfl ?_ rfl rfl rfl (λj a=>absurd a (by simp));simp
 |false =>
  refine qG [] 7 rfl aw ?_;refine AK.F6 5 48 2 (cH.fn []) rfl ?_;refine bu rfl ⟨rfl,rfl,show(0+l.length)*16<=_ by omega⟩ ?_;refine AK.norm [.buf 48 2 l.length (cH.fn l)] rfl ?_ ?_
  .simp[cy,cE]
  refine AK.cY [0] rfl ?_ rfl rfl rfl (λj a=>absurd a (by simp));simp;rfl
def EH(l:List (Int×Int))(d:l.length<=4000000):Ev X 83 [cH.sl l] [] (cH.sl l) []:=by
 refine Ev.bQ Tryz.func83 rfl λc=>?_;refine bu rfl aw ?_;refine AK.F7 tok rfl rfl rfl rfl rfl rfl λb a=>?_;cases b with
 |true =>
  obtain rfl:=jf (a rfl);refine bu rfl aw ?_;refine AK.bx rfl ?_;simp[cy]
 |false =>
  refine bu rfl ⟨show(0+l.length)*16<=_ by omega,.inl rfl⟩ ?_;refine AK.bx rfl ?_;simp[cy,cE]
def EI(l:List bm)(d:l.length<=4000000):Ev X 132 [dM.sl l] [] (dM.sl l) []:=by
 refine Ev.bQ Tryz.func132 rfl λc=>?_;refine bu rfl aw ?_;refine AK.F7 tok rfl rfl rfl rfl rfl rfl λb a=>?_;cases b with
 |true =>
  obtain rfl:=jf (a rfl);refine bu rfl aw ?_;refine AK.bx rfl ?_;simp[cy]
 |false =>
  refine bu rfl ⟨show(0+l.length)*24<=_ by omega,.inl rfl⟩ ?_;refine AK.bx rfl ?_;simp[cy,cE]
def EJ(l:List Int)(d:l.length<=4000000):Ev X 133 [cI.sl l] [] (cI.sl l) []:=by
 refine Ev.bQ Tryz.func133 rfl λc=>?_;refine bu rfl aw ?_;refine AK.F7 tok rfl rfl rfl rfl rfl rfl λb a=>?_;cases b with
 |true =>
  obtain rfl:=jf (a rfl);refine bu rfl aw ?_;refine AK.bx rfl ?_;simp[cy]
 |false =>
  refine bu rfl ⟨show(0+l.length)*8<=_ by omega,.inl rfl⟩ ?_;refine AK.bx rfl ?_;simp[cy,cE]
end
end Go.AM.R1
namespace Go.AM
section
open Go.Conc (G)
section
variable {P:aq}{X:Cx P}{N:Nat}{K:List It}{φ:Fr}{σ:List aP}
def AK.l4{ι:Type}{T:List (Nat×TI)}{fn:Func}{h:Nat}{res:ι->D}{σ':ι->List aP}(i:ι)(ks:List Nat){l:Nat}{E:aj}{cs:List A}{t:Tmp}{ty:aj}{b:TI}{ps:List Prop}(o:fn.results.toList=[.cell t ty])(hi:bD T ty=aa b)(m:b.agg=ab)(k:look φ t=.e (.one (.ptr l 0)))(hl:dw l σ=aa (.cells E cs))(a:aA cs.length b.size=ab)(c:hZ l ks=ae)(d:Dr (.e (.agg cs)) (hY ks (res i))=aa ps)(p:ay ps)(g:vP ks.length (res i)=ab)(n:jH ks σ=aa (σ' i))(f:kn (σ' i)=ab)(q:dy ks=ab)(hk:∀j,j<h->ks[j]?=aa j):
  AK X N (λe φ σ1=>∃j,Kh T fn h (res j) (σ' j) e φ σ1) (.code .ret::K) .normal φ σ :=
 AK.ret ⟨i,.inl rfl,ks,l,E,cs,t,ty,b,ps,af,nofun,o,hi,m,bR a,k,b5 hl,B4 c,d,p,g,n,f,q,hk⟩
def AK.mF{ι:Type}{T:List (Nat×TI)}{fn:Func}{k:Nat}{res:ι->D}{σ':ι->List aP}(i:ι)(ks:List Nat){l:Nat}{E:aj}{cs:List A}{t u:Tmp}{ty:aj}{b:TI}{x:E1}{ps:List Prop}(p:fn.results.toList=[.cell t ty,.tmp u])(hi:bD T ty=aa b)(n:b.agg=ab)(m:look φ t=.e (.one (.ptr l 0)))(s:look φ u=.e x)(hl:dw l σ=aa (.cells E cs))(a:aA cs.length b.size=ab)(c:hZ l ks=ae)(d:Dr (.fa [.agg cs,x]) (hY ks (res i))=aa ps)(q:ay ps)(g:vP ks.length (res i)=ab)(o:jH ks σ=aa (σ' i))(f:kn (σ' i)=ab)(r:dy ks=ab)(hk:∀j,j<k->ks[j]?=aa j):
  AK X N (λe φ σ1=>∃j,Kh T fn k (res j) (σ' j) e φ σ1) (.code .ret::K) .normal φ σ :=
 AK.ret ⟨i,.inl rfl,ks,l,E,cs,t,ty,b,ps,aa (u,x),λ_ h=>by cases h;exact s,p,hi,n,bR a,m,b5 hl,B4 c,d,q,g,o,f,r,hk⟩
def Ev.pA{T:List (Nat×TI)}(hT:cT P T){f:aH}{fn:Func}{c:Code}{args:List D}{σ σ':List aP}{res:D}(d:P.funcs[f]?=aa fn)(a:(fn.name== "runtime.NumGoroutine")=ae)(g:fn.body=aa c)(b:bw args.length fn.ntmps=ab)(h:Fits args σ->AK X fn.ntmps (λe φ σ1=>∃_:Unit,Kh T fn σ.length res σ' e φ σ1) [.code c] .normal (iY 0 args) σ):Ev X f args σ res σ' :=
 (dZ.qJ (ι:=Unit) (σ':=λ_=>σ') (res:=λ_=>res) hT d a g b h).DK
end
end
end Go.AM
namespace Go.AM.R1
section
open Go.Proofs
variable {X:Cx ag}
def _root_.Go.AM.kF.kG{α:Type}(c:kF α)(l:List α){i:Nat}(h:i<l.length)(d:α):cy (i+1) (cE i (c.fn (l.take i)) (λq=>[c.enc (l.getD i d)].getD q [])) (c.fn (l.take (i+1))):=by
 have e:l.take (i+1)=l.take i++[l.getD i d]:=by grind[List.take_add_one]
 have:=c.cj (l.take i) (l.getD i d);grind
abbrev VG:dv:=kq (aL dM) (λl=>dM.sl l) λl=>[l.length<=4000000]
def YY:eb X 132 VG:=.pD λl h=>EI l h
abbrev VH:dv:=kq (aL cI) (λl=>cI.sl l) λl=>[l.length<=4000000]
def YZ:eb X 133 VH:=.pD λl h=>EJ l h
def Aw(p:bH)(a:p.2.length<=4000000):Ev X 81 [HG p] [] (HG p) []:=by
 refine Ev.pA tok Tryz.func81 rfl rfl rfl λd=>?_;have b:bF X [(132,VG)]:=.cons YY .nil;refine cg b rfl ?_ ?_
 .simp only[ay,dM.list_fn];exact⟨dM.aM _,a⟩
 refine AK.l4 () [] rfl rfl rfl rfl rfl rfl rfl rfl ?_ rfl rfl rfl rfl (λj c=>absurd c (by simp));simp[dM.list_fn]
abbrev KT:dv:=kq (Ey dM) (λp=>HG p) λp=>[p.2.length<=4000000]
def Qs:eb X 81 KT:=.pD λp h=>Aw p h
def Ax(x:gG)(k:x.2.length<=4000000)(d:∀y∈x.2,y.2.length<=4000000):Ev X 82 [M8 x] [] (M8 x) []:=by
 refine Ev.pA tok Tryz.func82 rfl rfl rfl λl=>?_;have a:bF X [(133,VH)]:=.cons YZ .nil;refine aV a [(1000002,ab)] rfl aw ?_;refine AK.g7 2 1 140 2 (cL.fn []) rfl rfl ?_;refine cg a rfl aw ?_;refine AK.cC 4 (λi=>i<=x.2.length) (λi:Nat=>[(2,.e (.one (.ptr 1 0))),(3,.e (.one (.ptr 2 0))),(10,cL.sl x.2),(11,dI x.2.length),(12,dI i)])
  (λi=>[.cells 71 [.c (.int .i64 x.1),.c (.sl ae 2 x.2.length (cL.fn x.2))],.cells 71 [.c (.int .i64 0),.c (.sl ab 0 0 λ_=>[])],.cells 71 [.c (.int .i64 x.1),.vec 3 2 i (cL.fn (x.2.take i))],.vec 140 2 i (cL.fn (x.2.take i))]) (λi=>x.2.length-i) 0 rfl ?_ rfl ?_ rfl (by omega) ?_
 .simp
 .simp[cy]
 intro i hi;by_cases h:i<x.2.length
 .have g:x.2.getD i ([],[])∈x.2:=by grind
  refine aV a [(13,ab)] rfl ?_ (AK.aQ (i+1) rfl ?_ ?_ ?_ ?_)
  .have q:=d _ g;have b:x.2.getD (i:Int).toNat cL.b7=x.2.getD i ([],[]):=by grind
   simp only[ay,b,cI.list_fn,bA];exact⟨by omega,aw,aw,show(i+1)*40<=_ by omega,cI.aM _,q,by omega,by omega,dc (by omega)⟩
  .simp
  .have b:x.2.getD (i:Int).toNat cL.b7=x.2.getD i ([],[]):=by grind
   have e:=cL.kG x.2 h ([],[]);simp only[ay.cat,ay,b,cI.list_fn,aD,aF];exact⟨cy.same,cy.same,e,e⟩
  .grind
  .omega
 .obtain rfl:i=x.2.length:=by omega
  refine aV a [(13,ae)] rfl (by simp) (AK.leaveD rfl rfl ?_);refine cg a rfl aw ?_;refine AK.l4 () [] rfl rfl rfl rfl rfl rfl rfl rfl ?_ rfl rfl rfl rfl (λj f=>absurd f (by simp));simp[cy]
abbrev KU:dv:=kq (Ey cL) (λx=>M8 x) λx=>[x.2.length<=4000000,∀y∈x.2,y.2.length<=4000000]
def Qt:eb X 82 KU:=.pD λx h=>Ax x h.1 h.2
abbrev gm:A:=.c (.sl ab 0 0 λ_=>[])
def xj(s:bo)(o:s.1.length<=4000000)(f:∀p∈s.1,p.2.length<=4000000)(n:s.2.1.length<=4000000)(d:oA s)(l:s.2.2.length<=4000000):
  Ev X 28 [qN s] [] (.e (.agg [.bp 0 (.sl s.1.length 2 0 s.1.length),.bp 1 (.sl s.2.1.length 2 0 s.2.1.length),.c (.sl ae 2 s.2.2.length (cH.fn s.2.2))])) [.buf 67 2 s.1.length (cP.fn s.1),.buf 71 2 s.2.1.length (fL.fn s.2.1)]:=by
 refine Ev.pA tok Tryz.func28 rfl rfl rfl λm=>?_;have a:bF X [(81,KT),(82,KU)]:=.cons Qs (.cons Qt .nil);refine aV a [(1000002,ab)] rfl aw ?_;refine AK.sx 2 0 67 2 (cP.fn []) rfl rfl ?_;refine AK.sx 2 1 71 2 (fL.fn []) rfl rfl ?_;refine cg a rfl aw ?_;refine AK.cC 5 (λi=>i<=s.1.length) (λi:Nat=>[(1,.e (.one (.ptr 0 0))),(2,.e (.one (.ptr 1 0))),(3,.e (.one (.ptr 2 0))),(9,cP.sl s.1),(10,dI s.1.length),(11,dI i)])
  (λi=>[.cells 27 [.c (.sl ae 2 s.1.length (cP.fn s.1)),.c (.sl ae 2 s.2.1.length (fL.fn s.2.1)),.c (.sl ae 2 s.2.2.length (cH.fn s.2.2))],.cells 27 [gm,gm,gm],.cells 27 [.bp 3 (.sl i 2 0 i),.bp 4 (.sl 0 2 0 0),gm],.buf 67 2 i (cP.fn (s.1.take i)),.buf 71 2 0 (fL.fn [])]) (λi=>s.1.length-i) 0 rfl ?_ rfl ?_ rfl (by omega) ?_
 .simp
 .simp[cy]
 intro i hi;by_cases h:i<s.1.length
 .have g:s.1.getD i (0,[])∈s.1:=by grind
  have b:s.1.getD (i:Int).toNat cP.b7=s.1.getD i (0,[]):=by grind
  refine aV a [(12,ab)] rfl ?_ (AK.aQ (i+1) rfl ?_ ?_ ?_ ?_)
  .have q:=f _ g;simp only[ay,b,dM.list_fn,bA];exact⟨by omega,aw,aw,show(i+1)*32<=_ by omega,dM.aM _,q,by omega,by omega,dc (by omega)⟩
  .simp
  .have e:=cP.kG s.1 h (0,[]);simp only[ay.cat,ay,b,dM.list_fn,aD,aF];exact⟨⟨cy.same,cy.same,cy.same⟩,⟨cy.same,cy.same,cy.same⟩,⟨rfl,cy.same⟩,e,cy.same⟩
  .grind
  .omega
 obtain rfl:i=s.1.length:=by omega
 rw[dh];refine aV a [(12,ae)] rfl (by simp) (AK.leaveD rfl rfl ?_);refine cg a rfl aw ?_;refine AK.cC 5 (λi=>i<=s.2.1.length) (λi:Nat=>[(1,.e (.one (.ptr 0 0))),(2,.e (.one (.ptr 1 0))),(3,.e (.one (.ptr 2 0))),(24,fL.sl s.2.1),(25,dI s.2.1.length),(26,dI i)])
  (λi=>[.cells 27 [.c (.sl ae 2 s.1.length (cP.fn s.1)),.c (.sl ae 2 s.2.1.length (fL.fn s.2.1)),.c (.sl ae 2 s.2.2.length (cH.fn s.2.2))],.cells 27 [gm,gm,gm],.cells 27 [.bp 3 (.sl s.1.length 2 0 s.1.length),.bp 4 (.sl i 2 0 i),gm],.buf 67 2 s.1.length (cP.fn s.1),.buf 71 2 i (fL.fn (s.2.1.take i))]) (λi=>s.2.1.length-i) 0 rfl ?_ rfl ?_ rfl (by omega) ?_
 .simp
 .simp[cy]
 intro i hi;by_cases h:i<s.2.1.length
 .have g:s.2.1.getD i (0,[])∈s.2.1:=by grind
  have b:s.2.1.getD (i:Int).toNat fL.b7=s.2.1.getD i (0,[]):=by grind
  refine aV a [(27,ab)] rfl ?_ (AK.aQ (i+1) rfl ?_ ?_ ?_ ?_)
  .have q:=d _ g;simp only[ay,b,cL.list_fn,bA];exact⟨by omega,aw,aw,show(i+1)*32<=_ by omega,cL.aM _,q.1,q.2,by omega,by omega,dc (by omega)⟩
  .simp
  .have e:=fL.kG s.2.1 h (0,[]);simp only[ay.cat,ay,b,cL.list_fn,aD,aF];exact⟨⟨cy.same,cy.same,cy.same⟩,⟨cy.same,cy.same,cy.same⟩,⟨rfl,cy.same⟩,cy.same,e⟩
  .grind
  .omega
 obtain rfl:i=s.2.1.length:=by omega
 rw[dh];refine aV a [(27,ae)] rfl (by simp) (AK.leaveD rfl rfl ?_);refine cg a rfl aw ?_;refine AK.cQ (EH s.2.2 l) [] rfl ?_;refine cg a rfl aw ?_;refine AK.l4 () [3,4] rfl rfl rfl rfl rfl rfl rfl rfl ?_ rfl rfl rfl rfl (λj k=>absurd k (by simp))
 .simp
def xk(s:bo)(o:s.1.length<=4000000)(f:∀p∈s.1,p.2.length<=4000000)(n:s.2.1.length<=4000000)(d:oA s)(l:s.2.2.length<=4000000):
  Ev X 28 [qN s] [] (.e (.agg [.bp 0 (.sl s.1.length 2 0 s.1.length),.bp 1 (.sl s.2.1.length 2 0 s.2.1.length),.bp 2 (.sl s.2.2.length 2 0 s.2.2.length)])) [.buf 67 2 s.1.length (cP.fn s.1),.buf 71 2 s.2.1.length (fL.fn s.2.1),.buf 48 2 s.2.2.length (cH.fn s.2.2)]:=by
 refine Ev.pA tok Tryz.func28 rfl rfl rfl λm=>?_;have a:bF X [(81,KT),(82,KU)]:=.cons Qs (.cons Qt .nil);refine aV a [(1000002,ab)] rfl aw ?_;refine AK.sx 2 0 67 2 (cP.fn []) rfl rfl ?_;refine AK.sx 2 1 71 2 (fL.fn []) rfl rfl ?_;refine cg a rfl aw ?_;refine AK.cC 5 (λi=>i<=s.1.length) (λi:Nat=>[(1,.e (.one (.ptr 0 0))),(2,.e (.one (.ptr 1 0))),(3,.e (.one (.ptr 2 0))),(9,cP.sl s.1),(10,dI s.1.length),(11,dI i)])
  (λi=>[.cells 27 [.c (.sl ae 2 s.1.length (cP.fn s.1)),.c (.sl ae 2 s.2.1.length (fL.fn s.2.1)),.c (.sl ae 2 s.2.2.length (cH.fn s.2.2))],.cells 27 [gm,gm,gm],.cells 27 [.bp 3 (.sl i 2 0 i),.bp 4 (.sl 0 2 0 0),gm],.buf 67 2 i (cP.fn (s.1.take i)),.buf 71 2 0 (fL.fn [])]) (λi=>s.1.length-i) 0 rfl ?_ rfl ?_ rfl (by omega) ?_
 .simp
 .simp[cy]
 intro i hi;by_cases h:i<s.1.length
 .have g:s.1.getD i (0,[])∈s.1:=by grind
  have b:s.1.getD (i:Int).toNat cP.b7=s.1.getD i (0,[]):=by grind
  refine aV a [(12,ab)] rfl ?_ (AK.aQ (i+1) rfl ?_ ?_ ?_ ?_)
  .have q:=f _ g;simp only[ay,b,dM.list_fn,bA];exact⟨by omega,aw,aw,show(i+1)*32<=_ by omega,dM.aM _,q,by omega,by omega,dc (by omega)⟩
  .simp
  .have e:=cP.kG s.1 h (0,[]);simp only[ay.cat,ay,b,dM.list_fn,aD,aF];exact⟨⟨cy.same,cy.same,cy.same⟩,⟨cy.same,cy.same,cy.same⟩,⟨rfl,cy.same⟩,e,cy.same⟩
  .grind
  .omega
 obtain rfl:i=s.1.length:=by omega
 rw[dh];refine aV a [(12,ae)] rfl (by simp) (AK.leaveD rfl rfl ?_);refine cg a rfl aw ?_;refine AK.cC 5 (λi=>i<=s.2.1.length) (λi:Nat=>[(1,.e (.one (.ptr 0 0))),(2,.e (.one (.ptr 1 0))),(3,.e (.one (.ptr 2 0))),(24,fL.sl s.2.1),(25,dI s.2.1.length),(26,dI i)])
  (λi=>[.cells 27 [.c (.sl ae 2 s.1.length (cP.fn s.1)),.c (.sl ae 2 s.2.1.length (fL.fn s.2.1)),.c (.sl ae 2 s.2.2.length (cH.fn s.2.2))],.cells 27 [gm,gm,gm],.cells 27 [.bp 3 (.sl s.1.length 2 0 s.1.length),.bp 4 (.sl i 2 0 i),gm],.buf 67 2 s.1.length (cP.fn s.1),.buf 71 2 i (fL.fn (s.2.1.take i))]) (λi=>s.2.1.length-i) 0 rfl ?_ rfl ?_ rfl (by omega) ?_
 .simp
 .simp[cy]
 intro i hi;by_cases h:i<s.2.1.length
 .have g:s.2.1.getD i (0,[])∈s.2.1:=by grind
  have b:s.2.1.getD (i:Int).toNat fL.b7=s.2.1.getD i (0,[]):=by grind
  refine aV a [(27,ab)] rfl ?_ (AK.aQ (i+1) rfl ?_ ?_ ?_ ?_)
  .have q:=d _ g;simp only[ay,b,cL.list_fn,bA];exact⟨by omega,aw,aw,show(i+1)*32<=_ by omega,cL.aM _,q.1,q.2,by omega,by omega,dc (by omega)⟩
  .simp
  .have e:=fL.kG s.2.1 h (0,[]);simp only[ay.cat,ay,b,cL.list_fn,aD,aF];exact⟨⟨cy.same,cy.same,cy.same⟩,⟨cy.same,cy.same,cy.same⟩,⟨rfl,cy.same⟩,cy.same,e⟩
  .grind
  .omega
 obtain rfl:i=s.2.1.length:=by omega
 rw[dh];refine aV a [(27,ae)] rfl (by simp) (AK.leaveD rfl rfl ?_);refine cg a rfl aw ?_;refine AK.cQ (yI s.2.2 l) [] rfl ?_;refine cg a rfl aw ?_;refine AK.l4 () [3,4,5] rfl rfl rfl rfl rfl rfl rfl rfl ?_ rfl rfl rfl rfl (λj k=>absurd k (by simp))
 .simp
end
end Go.AM.R1
namespace Go.AM
section
open Go.Conc (G)
section
variable {P:aq}{X:Cx P}{N:Nat}{Qf:Post}{K:List It}{φ:Fr}{σ:List aP}{all rest:List ar}{o:ar}
theorem mz.wF{ι:Type}{x:ι->D}{σ':ι->List aP}(r:o.guard=af)(h:dO P N o φ σ x σ'):mz X N all o φ σ x σ':=by intro s a f hh b k cs S i rest q hi hK;refine rl q hi (dC r) λn d=>?_;have c:=hh.rely d;obtain⟨j,m,s',v,h1,h2,l,e,g,p⟩:=h n a (f.rely d hh) c;exact⟨m,s',v,h1,h2,⟨⟨σ,σ' j,c,e,g⟩,p⟩,hK j v s' l e (d.stepW.trans (g.na c))⟩
def mz.Bu{ι:Type}{v:ak}{xs:Array ak}{E:Array aj}{f:aH}{cap:List C}{d:List D}{k:List aP}{σ1:ι->List aP}{res:ι->D}(p:dZ X f d k res σ1)(ks:List Nat)(F:o.guard=af)(G:o.op=.call {callee:=.value v,args:=xs,argTypes:=E})(u:eG (bP φ v)=aa (f,cap))(l:∀s vs,ck σ s vs (xs.toList.map (bP φ)++fN cap)->ck σ s vs (fM ks d))(B:ln ks.length d=ab)(x:jH ks σ=aa k)(J:cx k=ab)(A:∀j,cx (σ1 j)=ab)(I:dy ks=ab)(z:∀j,bw ks.length (σ1 j).length=ab):
  mz X N all o φ σ (λj=>hY (ks++kN σ.length ((σ1 j).length-ks.length)) (res j)) (λj=>dH ks (σ1 j) σ):=by
 intro s a r hh b kk cs S i rest L hi hK;have q:=c7 r v;unfold eG at u;split at u
 case h_2=>cases u
 case h_1 f' Nh he =>
  cases u;rw[he]at q;have g:=eY q;generalize H:a.eval v=fv at g;cases g with
  |fn fs nb hl Dp f1 f2 h1 h2 r1 r2 =>
   have y:fs=[]:=jf hl;subst y;have m:ck σ s nb (fN cap):=nk (λj c hj=>⟨f2 j,h2 j (by grind),r2 j c hj⟩) Dp;have n:ck σ s (xs.toList.map a.eval++nb) (fM ks d):=l s _ ((lI (c7 r) xs.toList).append m);obtain⟨fn,t,h,e⟩:=p.1;exact tc L hi (dC F) hh (λw=>(jr G t h e H w).1) (λw=>(jr G t h e H w).2) p n B x J A I (λj=>cZ (z j)) hK
def mz.qg{ι:Type}{n:ak}{xs:Array ak}{e:Array aj}{f:aH}{cap:List C}{a:List D}{b:List aP}{σ1:ι->List aP}{res:ι->D}(i:dZ X f a b res σ1)(ks:List Nat)(l:o.guard=af)(q:o.op=.call {callee:=.value n,args:=xs,argTypes:=e})(s:eG (bP φ n)=aa (f,cap))(c:mr (xs.toList.map (bP φ)++fN cap)=fM ks a)(m:ln ks.length a=ab)(g:jH ks σ=aa b)(p:cx b=ab)(d:∀j,cx (σ1 j)=ab)(r:dy ks=ab)(k:∀j,bw ks.length (σ1 j).length=ab):
  mz X N all o φ σ (λj=>hY (ks++kN σ.length ((σ1 j).length-ks.length)) (res j)) (λj=>dH ks (σ1 j) σ):=.Bu i ks l q s (λ_ _ h=>c▸pe h) m g p d r k
def mz.jI{ι:Type}{p:ak}{xs:Array ak}{e:Array aj}{f:aH}{cap:List C}{a:List D}{b:List aP}{σ1:ι->List aP}{res:ι->D}(k:dZ X f a b res σ1)(ks:List Nat)(m:o.guard=af)(q:o.op=.call {callee:=.value p,args:=xs,argTypes:=e})(t:eG (bP φ p)=aa (f,cap)){ps:List Prop}(c:vS (xs.toList.map (bP φ)++fN cap) (fM ks a)=aa ps)(i:ay ps)(n:ln ks.length a=ab)(g:jH ks σ=aa b)(r:cx b=ab)(d:∀j,cx (σ1 j)=ab)(s:dy ks=ab)(l:∀j,bw ks.length (σ1 j).length=ab):
  mz X N all o φ σ (λj=>hY (ks++kN σ.length ((σ1 j).length-ks.length)) (res j)) (λj=>dH ks (σ1 j) σ):=.Bu k ks m q t (λ_ _ h=>vg c i h) n g r d s l
def dO.fresh{x y:ak}{E:aj}{L:TI}(h:lA P o x y E L){Z k m:Nat}{tx:Bool}{es es':Nat->List C}(Y:L.size=k)(W:bP φ x=.e (.one (.c (.sl ab Z 0 es))))(hy:bP φ y=.e (.one (.c (.sl tx k m es'))))(Q:0<m)(J:m*L.bytes<=140737488355328)(hgn:∀i,i<m->∀c∈es' i,uM c=ab):
  dO P N o φ σ (ι:={q:m9×List ah // gn k m es' q.2}) (λq=>.e (.one (.v (la q.1.1 m)))) (λq=>σ++[.cf (fV E k q.1.1 m q.1.2)]):=by
 intro s ρ hf hh;obtain⟨t,t2,i,i2,ho,hi,hd,H,G⟩:=h.op;have h1:=c7 hf x;rw[W]at h1;have n:=Rd.u9 (k:=Z) (k':=L.size) (.inr rfl) (eY h1);have h2:=c7 hf y;rw[hy]at h2;have h2:=eY h2;obtain⟨a,cap,vs,hv,DH,Ng,ht,hF,NU⟩:=n.flat;have U:cap=0:=ht rfl;subst U;rw[hv]at n;have D:Rd s.M (ρ.eval y) (.sl tx L.size m es'):=by grind
 obtain⟨d,V,g,f,O,S,r,z⟩:=iu (P:=P) (ty:=o.type) hi hd H G h.elem hh n D (by omega) (by grind) h.bytes;have Ha:=iV (P:=P) (ty:=o.type) hi hd H G h.elem hh n D (by omega) (by grind) h.bytes;have e0:cE 0 es es'=es':=by funext i;simp[cE]
 rw[Y,bC,e0]at f;rw[Y]at r;rw[bC]at O z;have F:gn k m es' d:=⟨f.len,f.width,λi hi j c hj=>by
  obtain⟨u,T,u2⟩:=f.rd i hi j c hj
  grind[qd]⟩
 have A:∀x∈d,cJ x=ab:=λx W=>by
  obtain⟨p,hp,rfl⟩:=dL W;have hk:0<k:=by grind
  have PN:=f.len;have hi:p / k<m:=pQ (by grind);have R:p / k*k+p % k=p:=pV p k;have hj:p % k<(es' (p / k)).length:=by rw[f.width _ hi];exact j9 _ hk
  obtain⟨u,T,u2⟩:=F.at' _ hi _ _ (br hj);rw[R,br hp]at T;cases T;exact(u2 s.M).cell
 let w':az:=s.w.drew.alloc (.cells (d++V).toArray E);have hB:et (σ++[.cf (fV E k (.row s.w.heap.size g) m d)]) {s with w:=w',β:=s.β++[⟨.nilFunc,[s.w.heap.size]⟩]} (.cf (fV E k (.row s.w.heap.size g) m d)) ⟨.nilFunc,[s.w.heap.size]⟩:=by
  refine⟨λB=>if B=s.w.heap.size then aa (.cells (d++V).toArray E (0,0))else af,⟨rfl,A,f.len,O,S,V,r,rfl⟩,λB o l=>?_,λB=>?_,λB l o=>?_⟩
  .by_cases e:B=s.w.heap.size
   .subst e;simp only[cn]at l;cases l;exact dG s.w.drew _
   grind
  .by_cases e:B=s.w.heap.size<;>simp[e]
  .simp at l;subst l;cases Q:s.M s.w.heap.size o with
   |none=>rfl
   |some v=>have:=hh.block Q;omega
 have DG:w'.heap.size=s.w.heap.size+1:=by show(s.w.drew.heap.push _).size=_;simp
 have I:aE σ {s with w:=w'}/\Step σ s σ {s with w:=w'} :=
  hh.grow (by omega) (λb J=>cM s.w.drew _ J) (λb J o=>rfl) (λb J o v Q=>by have:=hh.block Q;omega) rfl rfl rfl
 obtain⟨g1,g2⟩:=I.1.hO I.2 rfl hh hB (λb J=>by grind)
 refine⟨⟨(.row s.w.heap.size g,d),F⟩,.value (.slice (aa ⟨s.w.heap.size,0,af⟩) m g),_,_,?_,.inl rfl,Rd.val rfl,g1,g2,?_⟩
 .rw[dj ho,hv];simp[z];rfl
 grind[dj,eJ]
def AK.fresh{x y:ak}{E:aj}{a:TI}(h:lA P o x y E a){p k m:Nat}{tx:Bool}{es es':Nat->List C}(d:a.size=k)(r:bP φ x=.e (.one (.c (.sl ab p 0 es))))(j:bP φ y=.e (.one (.c (.sl tx k m es'))))(f:0<m)(g:m*a.bytes<=140737488355328)(b:∀i,i<m->∀c∈es' i,uM c=ab)(n:o.guard=af)(l:fW N o.dst=ab)(kk:∀q:{q:m9×List ah // gn k m es' q.2},AK X N Qf (.ops all rest::K) .normal (kl o.dst (.e (.one (.v (la q.1.1 m)))) φ) (σ++[.cf (fV E k q.1.1 m q.1.2)])):AK X N Qf (.ops all (o::rest)::K) .normal φ σ :=
 AK.hand _ _ n l (dO.fresh h d r j f g b) kk
def AK.spare(E:aj)(k:Nat){c:Code}(kk:AK X N Qf (.code c::K) .normal φ (σ++[.cf (fV E k (.nil af) 0 [])])):AK X N Qf (.code c::K) .normal φ σ:=by refine AK.ghost (λs a b hh=>?_) kk;obtain⟨e,d⟩:=hh.hO (B:=.cf (fV E k (.nil af) 0 [])) (L:=⟨.nilFunc,[]⟩) (.refl _ _) rfl hh ⟨λ_=>af,⟨rfl,by simp,by simp,rfl,rfl⟩,by simp,by simp,by simp⟩ (by simp);exact⟨{s with β:=s.β++[⟨.nilFunc,[]⟩]},rfl,⟨b.size,b.defers.imp λ_ h1=>h1.mono d.ext,λu=>(b.slot u).mono d.ext hh.len⟩,e,d⟩
end
end
end Go.AM
namespace Go.AM.R1
section
open Go.Proofs
variable {X:Cx ag}
def ET(b:Nat->Int):Nat->List C:=λi=>[.int .u8 (b i)]
def Bytes(b:Nat->Int):Prop:=∀i,0<=b i/\b i<=255
abbrev k6(m:Nat)(b:Nat->Int)(k:Int):aP:=.cells 104 [.c (.sl ae 1 m (ET b)),.c (.int .i64 k)]
def dZ.qQ{ι:Type}{f:aH}{fn:Func}{c:Code}{args:List D}{σ:List aP}{σ':ι->List aP}{res:ι->D}(i:Tryz.prog.funcs[f]?=aa fn)(a:(fn.name== "runtime.NumGoroutine")=ae)(d:fn.body=aa c)(b:bw args.length fn.ntmps=ab)(h:Fits args σ->AK X fn.ntmps (λe φ σ1=>∃j,cw fn σ.length (res j) (σ' j) e φ σ1) [.code c] .normal (iY 0 args) σ):dZ X f args σ res σ' :=
 dZ.D5 i a d b λg=>AW.top (AK.of_code (h g))
def AK.nL{ι:Type}{fn:Func}{a:Nat}{res:ι->D}{σ':ι->List aP}{N:Nat}{φ:Fr}{σ:List aP}{K:List It}(i:ι)(k:AK X N (cw fn a (res i) (σ' i)) K .normal φ σ):AK X N (λe φ σ1=>∃j,cw fn a (res j) (σ' j) e φ σ1) K .normal φ σ :=
 AK.iK (λ_ _ _ q=>⟨i,q⟩) k
def mf(m:Nat)(b:Nat->Int)(k:Nat)(n:Int):Int :=
 if m=0 then 0 else if k<m then b k % n else
  ((b ((k:Int) % m).toNat*131+b (((k:Int)*7+3) % m).toNat*1117+k*29+(k:Int) / m*53).toNat ^^^ ((b ((k:Int) % m).toNat*131+b (((k:Int)*7+3) % m).toNat*1117+k*29+(k:Int) / m*53) / 64).toNat:Nat) % n
set_option maxRecDepth 20000 in
def CW(m:Nat)(b:Nat->Int)(f:Bytes b)(k:Nat)(n:Int)(hk:k<=4000000)(r:m<=1048576)(s:1<=n/\n<=4000000):
  Ev X 21 [.e (.one (.ptr 0 0)),dI n] [k6 m b k] (dI (mf m b k n)) [k6 m b (k+1)]:=by
 refine Ev.bQ Tryz.func21 rfl λl=>?_;have c:∀j,j<([k6 m b k]:List aP).length->([0]:List Nat)[j]?=aa j:=λj z=>by grind
 by_cases g:m=0
 .subst g;refine aW [(17,ae),(24,ab)] rfl ?_ (AK.cY [0] rfl ?_ rfl rfl rfl c)
  .simp[bA];omega
  .simp[mf]
 have d:((k:Int)+1-1)=k:=by omega
 have i:((k:Int)+1-1).toNat=k:=by omega
 have h:=f k;by_cases y:(k:Int)<m
 .refine aW [(17,ae),(24,ae),(36,ab)] rfl ?_ (AK.cY [0] rfl ?_ rfl rfl rfl c)
  .simp only[ay,d,cd,aZ,bM,eD,bA];omega
  .have:k<m:=by omega
   simp[mf,g,this]
 .refine bL [(17,ae),(24,ae),(36,ae)] rfl ?_ (AK.cY [0] rfl ?_ rfl rfl rfl c)
  .simp only[ay,d,bM,eD,bA];have a:(0:Int)<m:=by omega
   have q:=pY (k:Int) (by omega:(m:Int)≠0);have p:=pT (k:Int) a;have v1:=pY ((k:Int)*7+3) (by omega:(m:Int)≠0);have o:=pT ((k:Int)*7+3) a;have w1:0<=(k:Int) / m:=Int.ediv_nonneg (by omega) (by omega);have w2:(k:Int) / m<=k:=Int.ediv_le_self _ (by omega);generalize(k:Int) % m=u at *;generalize((k:Int)*7+3) % m=v at *;generalize(k:Int) / m=w at *;have t:=f u.toNat;have x:=f v.toNat;grind
  .have:¬k<m:=by omega
   simp[mf,g,this,d]
def uA(m:Nat)(b:Nat->Int)(k:Nat)(n:Int)(a:1<=n):0<=mf m b k n/\mf m b k n<n:=by
 unfold mf;split
 .omega
 .split
  .exact⟨pY _ (by omega),pT _ (by omega)⟩
  .exact⟨pY _ (by omega),pT _ (by omega)⟩
def gy(m:Nat)(b:Nat->Int)(d:Bytes b)(k:Nat)(n:Int)(hk:k<=4000000)(c:m<=1048576)(a:1<=n/\n<=4000000):
  dZ (ι:={v:Int // 0<=v/\v<n}) X 21 [.e (.one (.ptr 0 0)),dI n] [k6 m b k] (λv=>dI v.1) (λ_=>[k6 m b (k+1)]):=by have h:=CW (X:=X) m b d k n hk c a;exact⟨h.1,λs vs hr hh S cs hS=>h.2 s vs hr hh S cs (hS ⟨_,uA m b k n a.1⟩)⟩
def S5(es:Nat->List C):Nat->Int:=λi=>xb (es i) 0
def Zn:dv:=λargs σ=>match args,σ with
 |[.e (.one (.ptr 0 0)),.e (.one (.c (.int .i64 n)))],[.cells 104 [.c (.sl ae 1 m es),.c (.int .i64 k)]] =>
  aa (dI (mf m (S5 es) k.toNat n),[k6 m (S5 es) (k+1)],[k=k.toNat,es=ET (S5 es),Bytes (S5 es),k<=4000000,m<=1048576,1<=n,n<=4000000])
 |_,_=>af
def t21:eb X 21 Zn:=by
 intro args σ res σ' obs h d;unfold Zn at h;split at h
 .rename_i n m es k;cases h;obtain⟨g,f,a,i,e,b,c⟩:=d;have:=CW (X:=X) m (S5 es) a k.toNat n (by omega) e ⟨b,c⟩;grind
 grind
def VT{o:ar}{x y:ak}(h:o.op=.call {callee:=.builtin .append,args:=#[x,y],argTypes:=#[65,65]}):lA ag o x y 76 i76 :=
 ⟨⟨65,65,i65,i65,h,(tok _ _ rfl),rfl,(tok _ _ rfl),rfl⟩,(tok _ _ rfl),by decide,by decide⟩
def GD(l:List bm)(n:Nat):∀i,i<n->∀c∈dM.fn l i,uM c=ab:=by
 intro i _ c a;have:dM.fn l i=[.int .i64 (l.getD i dM.b7).1,.str (l.getD i dM.b7).2]:=rfl;rw[this]at a;rcases eE.1 a with rfl|a
 .rfl
 .rcases eE.1 a with rfl|a
  .rfl
  grind
abbrev Own(l:List bm):Type:={q:m9×List ah // gn 2 l.length (dM.fn l) q.2}
abbrev H0(l:List bm)(q:Own l):aP:=.cf (fV 76 2 q.1.1 l.length q.1.2)
abbrev AD(l:List bm)(q:Own l):C:=.val (la q.1.1 l.length)
end
end Go.AM.R1
namespace Go.AM
section
open Go.Conc (G)
def N5(p:Nat->Bool):List Nat->Bool
 |[]=>ae
 |e::r=>match p e with|true=>ab|false=>N5 p r
def Gb{p:Nat->Bool}:∀{l:List Nat},N5 p l=ab->∃e∈l,p e=ab
 |[],h=>by cases h
 |e::r,h=>by
  simp only[N5]at h;split at h
  .grind
  .obtain⟨b,c,a⟩:=Gb h;grind
def wM(all:List ar)(k:Nat):Nat->List Nat->Bool
 |0,l=>hZ k l
 |f+1,l=>match hZ k l with|true=>ab|false=>N5 (λe=>wM all k f (bU (all.getD e jv).after.toList)) l
def qh{all:List ar}{k:Nat}{L:Nat->Prop}(c:∀i,i<all.length->L i->∀e∈bU (all.getD i jv).after.toList,L e):∀{f:Nat}{l:List Nat},wM all k f l=ab->(∀e∈l,L e)->L k
 |0,l,h,d=>d k (Jp h)
 |f+1,l,h,d=>by
  simp only[wM]at h;split at h
  .grind [Jp]
  .obtain⟨e,j,a⟩:=Gb h;rcases cG e all.length with g|g
   .exact qh c a (c e g (d e j))
   .have:all.getD e jv=jv:=by grind
    rw[this]at a;exact qh c a (λm b=>by simp[jv,bU]at b)
def wN(all:List ar)(f:Nat)(l:List Nat):Nat->Bool
 |0=>ab
 |n+1=>match wM all n f l with|true=>wN all f l n|false=>ae
def te{all:List ar}{f:Nat}{l:List Nat}:∀{n:Nat},wN all f l n=ab->∀k,k<n->wM all k f l=ab
 |0,_,k,hk=>by omega
 |n+1,h,k,hk=>by
  simp only[wN]at h;split at h
  .rename_i a;by_cases e:k=n
   .grind
   .exact te h k (by omega)
  grind
def vT(all:List ar)(f:Nat):Nat->Nat->Bool
 |_,0=>ab
 |i,r+1=>match wN all f (bU (all.getD i jv).after.toList) i with|true=>vT all f (i+1) r|false=>ae
def tf{all:List ar}{f:Nat}:∀{i r:Nat},vT all f i r=ab->∀q,i<=q->q<i+r->wN all f (bU (all.getD q jv).after.toList) q=ab
 |i,0,_,q,b,a=>by omega
 |i,r+1,h,q,b,a=>by
  simp only[vT]at h;split at h
  .rename_i c;by_cases e:q=i
   .grind
   .exact tf h q (by omega) (by omega)
  grind
section
variable {P:aq}{X:Cx P}{N:Nat}{φ:Fr}{σ:List aP}
def Hy{ι:Type}(c:Nat)(pre:Nat->Bool)(x:Nat->D)(y:ι->Nat->D)(j:ι)(i:Nat):D:=match Nat.blt i c with|true=>Eb pre x y j i|false=>.any
def AK.J7{ι:Type}(z:P.follows Departure.mixedOrders=ab)(m c e:Nat)(pre:Nat->Bool)(x:Nat->D)(y:ι->Nat->D)(σ':ι->List aP){ops:Array ar}{id:Nat}{K:List It}{Qf:Post}(d:mv ops.toList=ab)(b:rX ops.toList 0=ab)(g:ov N ops.toList=ab)(r:pre m=ae)(s:Ac pre m ops.toList 0=ab)(u:Nat.blt c ops.toList.length=ab)(n:Nat.blt m c=ab)(f:∀i,pre i=ab->i<c)(PQ:vT ops.toList e c (ops.toList.length-c)=ab)(one:tv X N ops.toList φ σ x pre ops.toList 0)(two:∀j,tw X N ops.toList φ (σ' j) (Hy c pre x y j) m (ops.toList.take c) 0)(M6:mz X N ops.toList (ops.toList.getD m jv) (jX ops.toList φ x m) σ (λj=>Hy c pre x y j m) σ')(k:∀j,AK X N Qf (.ops ops.toList (ops.toList.drop c)::K) .normal (MX ops.toList φ (Hy c pre x y j)) (σ' j)):AK X N Qf (.code (.region id ops ab)::K) .normal φ σ:=by
 have u:=cZ u;have n:=cZ n;have:=AW.reg (X:=X) (N:=N) (φ:=φ) (σ:=σ) z (all:=ops.toList) c (λa:Option ι=>a.elim x (Hy c pre x y)) (λa _=>a.elim σ σ') (λa D=>a.isSome=D m/\(a=af->∀i,D i=ab->pre i=ab)) af ⟨rfl,λ_ _ h=>by cases h⟩ rfl d b g (by omega)
  (λi h1 h2 L w l k hk=>qh w (te (tf PQ i h1 (by omega)) k hk) l)
  (λa D t p i h1 h2=>by
   obtain⟨j,rfl⟩:=wL t n p;have:Nat.blt i c=ae:=by
    cases v:Nat.blt i c with
    |false=>rfl
    |true=>have:=cZ v;omega
   simp only[Option.elim,Hy,this])
  (Ga (S:=λj _=>σ' j) r s (λj i l=>by have:Nat.blt i c=ab:=rG (f i l);simp only[Hy,this,Eb,l])
   (λi o hi l=>by have:=one.get i o hi (by grind);grind)
   (λj D i o hi Bi vJ _ _=>by
    have q:(ops.toList.take c)[i]?=aa o:=by grind
    have:=(two j).get i o q (by grind);grind)
   (λo A=>by grind) (λ_ _ _=>rfl))
  (Q:=AK X N Qf K) (λa D t p=>by obtain⟨j,rfl⟩:=wL t n p;exact k j) id
 rw[oZ]at this;exact this
end
end
end Go.AM
namespace Go.AM.R1
section
open Go.Proofs
variable {X:Cx ag}
abbrev S3:Type:=Nat×m9×Nat×List ah
abbrev u3(x:S3):ah:=la x.2.1 x.2.2.1
def Ay{α:Type}(q:α->Bool)(l:List α):Int:=match l.findIdx? q with|some i=>i|none=>-1
def OD{α:Type}{q:α->Bool}{t:List α}{i:Nat}{d:α}(hi:i<t.length)(h:q (t.getD i d)=ab)(a:∀j,j<i->q (t.getD j d)=ae):Ay q t=i:=by
 have:t.findIdx? q=aa i:=by grind[List.findIdx?_eq_some_iff_getElem]
 rw[Ay,this]
def HS{α:Type}{q:α->Bool}{t:List α}{d:α}(a:∀j,j<t.length->q (t.getD j d)=ae):Ay q t=-1:=by
 have:t.findIdx? q=af:=by grind[List.getElem_of_mem]
 rw[Ay,this]
def EK{lo hi j:Nat}{z:List C}{es:Nat->List C}(h:¬(lo<=j/\j<hi)):tg lo hi z es j=es j:=aY h
theorem bT{α:Type}{l:List α}{i:Nat}(h:i<l.length)(d:α):l.take (i+1)=l.take i++[l.getD i d]:=by grind[List.take_add_one]
def _root_.Go.AM.kF.Su{α:Type}(c:kF α)(l:List α)(i:Nat)(x:α)(n:Nat)(b:n<=l.length):cy n (po i (c.enc x) (c.fn l)) (c.fn (l.set i x)):=by intro q a;simp only[po,kF.fn,ya];grind
abbrev Y0:=Int×Int×Int×Bs
abbrev TZ(cs:List C):D:=.e (.one (.c (.rp cs)))
abbrev HT(ps:List bH):C:=.sl ae 2 ps.length (cP.fn ps)
abbrev EL(a:List gG):C:=.sl ae 2 a.length (fL.fn a)
abbrev Co(a:List (Int×Int)):C:=.sl ae 2 a.length (cH.fn a)
def MZ(s:bo)(l:Y0)(n:Nat)(a:l.2.1=n)(h:n<=s.2.2.length):ay (fR s.2.2.length (aa l.2.1) af):=by show 0<=l.2.1/\l.2.1<=(s.2.2.length:Int);omega
end
end Go.AM.R1
namespace Go.AM
def dZ.le{P:aq}{ι:Type}{X:Cx P}{f:aH}{args:List D}{σ:List aP}{res tu:ι->D}{σ1:ι->List aP}(h:dZ X f args σ res σ1){ps:ι->List Prop}(a:∀i,Dr (res i) (tu i)=aa (ps i))(b:∀i,ay (ps i)):dZ X f args σ tu σ1 :=
 ⟨h.1,λs vs hr hh S cs hS=>h.2 s vs hr hh S cs λi fr v s' hl mh iX st=>hS i fr v s' hl (ou (a i) (b i) mh) iX st⟩
namespace R1
open Go.Proofs
variable {X:Cx ag}
structure l8(s:bo):Prop where
 p:s.1.length<=4000000
 p2:∀p∈s.1,p.2.length<=4000000
 sn:s.2.1.length<=4000000
 s2:oA s
 h:s.2.2.length<=4000000
end R1
section
open Go.Conc (G)
section
variable {P:aq}{X:Cx P}{N:Nat}{ops:Array ar}{φ:Fr}{σ:List aP}{x:Nat->D}{S:(Nat->Bool)->List aP}
def pt:List ar->List (List Bool)->List (List Bool)
 |[],a=>a
 |o::r,a=>qm (FO a (bU o.after.toList)) λc=>pt r (a++[c])
 where qm:List Bool->(List Bool->List (List Bool))->List (List Bool)
 |[],q=>q []
 |true::r,q=>qm r λr=>q (ab::r)
 |false::r,q=>qm r λr=>q (ae::r)
theorem oy:∀(l:List Bool)(q:List Bool->List (List Bool)),pt.qm l q=q l
 |[],q=>rfl
 |true::r,q=>by simp only[pt.qm];rw[oy r]
 |false::r,q=>by simp only[pt.qm];rw[oy r]
def BF{all:List ar}{D:Nat->Bool}(b:∀(j:Nat)(o:ar),all[j]?=aa o->D j=ab->∀e∈bU o.after.toList,D e=ab):
  ∀(r:List ar) (a:List (List Bool)),(∀k,r[k]?=all[a.length+k]?)->(∀(j:Nat) (c:List Bool),a[j]?=aa c->∀o,all[j]?=aa o->(∀e∈bU o.after.toList,D e=ab)->∀q,bit c q=ab->D q=ab) ->
   ∀(j:Nat) (c:List Bool),(pt r a)[j]?=aa c->∀o,all[j]?=aa o->(∀e∈bU o.after.toList,D e=ab)->∀q,bit c q=ab->D q=ab
 |[],a,_,h=>h
 |o::r,a,d,h=>by
  simp only[pt];rw[oy];refine BF b r _ (λk=>?_) ?_
  .have:=d (k+1);grind
  .intro j c l;have g:=d 0;simp only[lb,iq]at g;rcases Nat.lt_trichotomy j a.length with f|rfl|i
   .grind
   .rw[gz (bg _)]at l;grind[zM]
   grind
def fS(all:List ar)(i j:Nat):Bool:=match(pt all [])[i]? with|some c=>bit c j|none=>ae
def wz{all:List ar}{D:Nat->Bool}(a:∀(j:Nat)(o:ar),all[j]?=aa o->D j=ab->∀e∈bU o.after.toList,D e=ab):∀(i:Nat) o,all[i]?=aa o->(∀e∈bU o.after.toList,D e=ab)->∀j,fS all i j=ab->D j=ab:=by
 intro i o d g j b;unfold fS at b;split at b
 .rename_i c f;exact BF a all [] (by simp) (by simp) i c f o d g j b
 grind
def FW{all:List ar}{D:Nat->Bool}(c:∀(j:Nat)(o:ar),all[j]?=aa o->D j=ab->∀e∈bU o.after.toList,D e=ab){i:Nat}(g:D i=ae):∀j,(j=i∨fS all j i=ab)->D j=ae:=by
 intro j f;rcases f with rfl|f
 .exact g
 .cases h:D j with
  |false=>rfl
  |true =>
   have a:∃d,all[j]?=aa d:=by
    cases a:all[j]? with
    |some d=>grind
    |none =>
     exfalso;have k:(pt all []).length=all.length:=by
      have:∀(r:List ar) (b:List (List Bool)),(pt r b).length=b.length+r.length:=by
       intro r;induction r with
       |nil=>intro b;simp[pt]
       |cons o r l=>intro b;simp only[pt];grind[oy]
      grind
     unfold fS at f;grind
   obtain⟨d,a⟩:=a;have:=wz c j d a (c j d a h) i f;grind
def dT{P:aq}(X:Cx P)(N:Nat)(all:List ar)(φ:Fr)(x:Nat->D)(S:(Nat->Bool)->List aP)(i:Nat)(o:ar):Prop :=
 ∀D:Nat->Bool,(∀j,fS all i j=ab->D j=ab)->(∀j,(j=i∨fS all j i=ab)->D j=ae)->OA X N all o (jX all φ x i) (S D) (x i) (S (ef i D))
def JF{P:aq}(X:Cx P)(N:Nat)(all:List ar)(φ:Fr)(x:Nat->D)(S:(Nat->Bool)->List aP):List ar->Nat->Prop
 |[],_=>True
 |o::r,i=>dT X N all φ x S i o/\JF X N all φ x S r (i+1)
theorem JF.get{all:List ar}:∀{l:List ar}{k:Nat},JF X N all φ x S l k->∀i o,l[i]?=aa o->dT X N all φ x S (k+i) o
 |[],_,_,i,o,h=>by grind
 |p::r,k,h,0,o,a=>by simp at a;subst a;exact h.1
 |p::r,k,h,i+1,o,a=>by have:=JF.get h.2 i o (by grind);grind
def AK.flags{ops:Array ar}{id:Nat}{K:List It}{Qf:Post}(m:P.follows Departure.mixedOrders=ab)(x:Nat->D)(S:(Nat->Bool)->List aP)(l:S (λ_=>ae)=σ)(b:mv ops.toList=ab)(a:rX ops.toList 0=ab)(c:ov N ops.toList=ab)(one:JF X N ops.toList φ x S ops.toList 0)(k:∀D,(∀i,i<ops.toList.length->D i=ab)->AK X N Qf K .normal (MX ops.toList φ x) (S D)):AK X N Qf (.code (.region id ops ab)::K) .normal φ σ:=by
 have:=AW.reg (X:=X) (N:=N) (φ:=φ) (σ:=σ) m (all:=ops.toList) ops.toList.length (λ_:Unit=>x) (λ_=>S) (λ_ _=>True) () aw l b a c (bg _)
  (λi h1 h2=>absurd h2 (mm.2 h1)) (λg D _ _ i h1 h2=>absurd h2 (mm.2 h1))
  (λg D i o _ h _ f d e=>by have h1:=one.get i o h;rw[bC]at h1;exact(h1 D (wz e i o h d) (FW e f)).sW ⟨(),λ_ _=>rfl,aw⟩ rfl rfl)
  (Q:=AK X N Qf K) (λg D _ j=>by rw[u7];exact .nil (k D j)) id
 rw[oZ]at this;exact this
end
end
end Go.AM
namespace Go.AM.R1
section
open Go.Proofs
open Go.Sort (swp insInner insOuter ltInt)
variable {X:Cx ag}
def L6(n:Int):Ev X 222 [dI n] [] (dB ae) []:=by refine Ev.bQ Tryz.func222 rfl λa=>?_;exact aW [(5,ae)] rfl (by simp) (AK.bx rfl)
abbrev Wo:dv:=kq aI (λ_=>dB ae) λ_=>[]
def Zx:eb X 222 Wo:=.pD λn _=>L6 n
def Pc(x y:Int):Ev X 197 [dI x,dI y] [] (dB (ltInt x y)) []:=by have a:bF X [(222,Wo)]:=.cons Zx .nil;refine Ev.bQ Tryz.func197 rfl λb=>?_;refine cg a rfl (by simp) (AK.bx rfl ?_);simp[ltInt]
abbrev uC:dv:=oX aI aI (λx y=>dB (ltInt x y)) λ_ _=>[]
def xE:eb X 197 uC:=.sC λx y _=>Pc x y
def eI(d:Array Int)(j:Nat):List C:=[.int .i64 d[j]!]
abbrev kH(n:Nat):D:=.e (.one (.bp 0 (.sl n 1 0 n)))
abbrev bI(n:Nat)(d:Array Int):aP:=.buf 3 1 n (eI d)
def ic:∀j,j<1->([0]:List Nat)[j]?=aa j:=λj a=>by grind
end
section
open Go.Proofs
open Go.Sort (swp insInner insOuter insertionSort ltInt)
variable {X:Cx ag}
def hU{d:Array Int}{i j n:Nat}(c:d.size=n)(hi:i<n)(g:j<n){f:Nat->List C}(b:cy n f (eI d)):cy n (po j [.int .i64 d[i]!] (po i [.int .i64 d[j]!] f)) (eI (swp d i j)):=by
 intro k hk;have e:(swp d i j)[k]! = if k=j then d[i]! else if k=i then d[j]! else d[k]! := by unfold swp;grind
 have a:=b k hk;simp only[eI,po]at a⊢;grind
theorem size_swp(d:Array Int)(i j:Nat):(swp d i j).size=d.size:=by simp[swp]
theorem AX{a j:Nat}{d:Array Int}(h:a<j)(b:ltInt d[j]! d[j-1]! = ab):insInner ltInt a j d=insInner ltInt a (j-1) (swp d j (j-1)):=by
 cases j with
 |zero=>omega
 |succ j =>
  simp only[pS]at b⊢;rw[insInner,bl];grind
def sS{a j:Nat}{d:Array Int}(h:a<j->ltInt d[j]! d[j-1]! = ae):insInner ltInt a j d=d:=by
 cases j with
 |zero=>rfl
 |succ j =>
  simp only[pS]at h;rw[insInner,aY];grind
theorem Ti(n:Nat)(d:Array Int)(a b:Nat)(q:d.size=n)(v:b<=n)(u:a<=n)(w:n<=4000000):
  Ev X 191 [kH n,dI a,dI b] [bI n d] (.fa []) [bI n (insertionSort ltInt d a b)]:=by
 have g:bF X [(197,uC)]:=.cons xE .nil;refine Ev.bQ Tryz.func191 rfl λt=>?_;refine bu rfl (by simp[bA];omega) ?_;refine AK.cC 1 (λs:Nat×Array Int=>s.2.size=n/\a+1<=s.1/\s.1<=n+1/\insOuter ltInt a b s.1 s.2=insertionSort ltInt d a b) (λs=>[(0,kH n),(1,dI a),(2,dI b),(6,dI s.1)]) (λs=>[bI n s.2]) (λs=>b-s.1) (a+1,d) rfl ?_ rfl ?_ rfl ⟨q,by omega,by grind,rfl⟩ ?_
 .simp[cy]
 .simp[cy]
 rintro⟨i,d1⟩ ⟨o,hi,l,e⟩;simp only at o hi l e;by_cases h:i<b
 .refine aW [(12,ab)] rfl (by simp;omega) ?_;refine AK.cC 1 (λs:Nat×Array Int=>s.2.size=n/\s.1<=i/\insInner ltInt a s.1 s.2=insInner ltInt a i d1) (λs=>[(0,kH n),(1,dI a),(2,dI b),(6,dI i),(7,dI s.1)]) (λs=>[bI n s.2]) (λs=>s.1) (i,d1) rfl ?_ rfl ?_ rfl ⟨o,by simp,rfl⟩ ?_
  .simp[cy]
  .simp[cy]
  rintro⟨j,d2⟩ ⟨f,r,c⟩;simp only at f r c;by_cases p:a<j
  .have k:((j:Int)-1).toNat=j-1:=by omega
   by_cases m:ltInt d2[j]! d2[j-1]! = ab
   .refine aV g [(18,ab),(29,ab)] rfl ?_ ?_
    .simp[bA,k,m];omega
    refine AK.aQ (j-1,swp d2 j (j-1)) rfl ?_ ?_ ?_ ?_
    .simp;omega
    .simp only[ay.cat,ay,k,bC,cd,aD,aF];exact hU f (by omega) (by omega) (λ_ _=>rfl)
    .refine⟨by grind[size_swp],by omega,?_⟩;grind[AX]
    .simp;omega
   .refine aV g [(18,ab),(29,ae)] rfl ?_ (AK.leaveD rfl rfl ?_)
    .simp[bA,k,m];omega
    refine bu rfl ?_ (AK.aQ (i+1,d2) rfl ?_ ?_ ?_ ?_)
    .simp[bA];omega
    .simp
    .simp[cy]
    .refine⟨f,by omega,by grind,?_⟩;simp only;rw[<-e,insOuter.eq_1 ltInt a b i,bl h,<-c,sS λ_=>by grind]
    .simp;omega
  .refine aV g [(18,ae)] rfl ?_ (AK.leaveD rfl rfl ?_)
   .simp[bA];omega
   refine bu rfl ?_ (AK.aQ (i+1,d2) rfl ?_ ?_ ?_ ?_)
   .simp[bA];omega
   .simp
   .simp[cy]
   .refine⟨f,by omega,by grind,?_⟩;simp only;rw[<-e,insOuter.eq_1 ltInt a b i,bl h,<-c,sS λx=>absurd x p]
   .simp;omega
 .refine aW [(12,ae)] rfl (by simp;omega) (AK.leaveD rfl rfl ?_);have:insertionSort ltInt d a b=d1:=by rw[<-e,insOuter,aY h]
  rw[this];exact cw.px [0] rfl aw rfl rfl rfl ic
end
section
open Go.Proofs
open Go.Sort (swp siftDown ltInt)
variable {X:Cx ag}
def Mf{hi first root:Nat}{d:Array Int}(h:¬2*root+1<hi):siftDown ltInt hi first root d=d:=by rw[siftDown,dif_pos (by omega)]
theorem Mg{hi first root:Nat}{d:Array Int}(h:2*root+1<hi)(a:2*root+1+1<hi->ltInt d[first+(2*root+1)]! d[first+(2*root+1)+1]! = ae)(b:ltInt d[first+root]! d[first+(2*root+1)]! = ab):
  siftDown ltInt hi first root d=siftDown ltInt hi first (2*root+1) (swp d (first+root) (first+(2*root+1))):=by rw[siftDown.eq_1 ltInt hi first root d,dif_neg (by omega),aY (by grind),aY (by grind)]
theorem GS{hi first root:Nat}{d:Array Int}(h:2*root+1<hi)(a:2*root+1+1<hi->ltInt d[first+(2*root+1)]! d[first+(2*root+1)+1]! = ae)(b:ltInt d[first+root]! d[first+(2*root+1)]! = ae):
  siftDown ltInt hi first root d=d:=by rw[siftDown.eq_1 ltInt hi first root d,dif_neg (by omega),aY (by grind),bl (by grind)]
theorem Tl{hi first root:Nat}{d:Array Int}(h:2*root+1+1<hi)(a:ltInt d[first+(2*root+1)]! d[first+(2*root+1+1)]! = ab)(b:ltInt d[first+root]! d[first+(2*root+1+1)]! = ab):
  siftDown ltInt hi first root d=siftDown ltInt hi first (2*root+1+1) (swp d (first+root) (first+(2*root+1+1))):=by rw[siftDown.eq_1 ltInt hi first root d,dif_neg (by omega),bl (by grind),aY (by grind),dif_pos (by omega)]
theorem Ph{hi first root:Nat}{d:Array Int}(h:2*root+1+1<hi)(a:ltInt d[first+(2*root+1)]! d[first+(2*root+1+1)]! = ab)(b:ltInt d[first+root]! d[first+(2*root+1+1)]! = ae):
  siftDown ltInt hi first root d=d:=by rw[siftDown.eq_1 ltInt hi first root d,dif_neg (by omega),bl (by grind),bl (by grind)]
theorem Pj(n:Nat)(d:Array Int)(lo hi first:Nat)(o:d.size=n)(q:first+hi<=n)(m:lo<=n)(r:n<=4000000):
  Ev X 217 [kH n,dI lo,dI hi,dI first] [bI n d] (.fa []) [bI n (siftDown ltInt hi first lo d)]:=by
 have i:bF X [(197,uC)]:=.cons xE .nil;refine Ev.bQ Tryz.func217 rfl λp=>?_;refine bu rfl aw ?_;refine AK.cC 1 (λs:Nat×Array Int=>s.2.size=n/\s.1<=n/\siftDown ltInt hi first s.1 s.2=siftDown ltInt hi first lo d) (λs=>[(0,kH n),(1,dI lo),(2,dI hi),(3,dI first),(8,dI s.1)]) (λs=>[bI n s.2]) (λs=>hi-s.1) (lo,d) rfl ?_ rfl ?_ rfl ⟨o,m,rfl⟩ ?_
 .simp[cy]
 .simp[cy]
 rintro⟨root,d1⟩ ⟨j,l,f⟩;simp only at j l f;by_cases h:2*root+1<hi
 .have e:((first:Int)+(2*(root:Int)+1)).toNat=first+(2*root+1):=by omega
  have c:((first:Int)+(2*(root:Int)+1)+1).toNat=first+(2*root+1+1):=by omega
  by_cases t:2*root+1+1<hi
  .by_cases g:ltInt d1[first+(2*root+1)]! d1[first+(2*root+1+1)]! = ab
   .have k:((first:Int)+(2*(root:Int)+1+1)).toNat=first+(2*root+1+1):=by omega
    have a:((first:Int)+(root:Int)).toNat=first+root:=by omega
    by_cases b:ltInt d1[first+root]! d1[first+(2*root+1+1)]! = ab
    .refine bh i [(16,ae),(20,ab),(35,ab),(51,ab)] rfl ?_ (AK.aQ (2*root+1+1,swp d1 (first+root) (first+(2*root+1+1))) rfl ?_ ?_ ?_ ?_)
     .simp only[ay,bC,e,c,a,k,g,b,bA,aZ,bM,aF,aD];and_intros<;>omega
     .simp only[ay.cat,ay,aF,aD];grind
     .simp only[ay.cat,ay,bC,e,c,a,k,aD,aF];exact hU j (by omega) (by omega) (λ_ _=>rfl)
     .grind [size_swp,Tl]
     grind
    .rw[oc]at b;rw[show siftDown ltInt hi first lo d=d1 by grind[Ph]];refine bh i [(16,ae),(20,ab),(35,ab),(51,ae)] rfl ?_ (AK.fJ (cw.mk [0] rfl aw rfl rfl rfl ic));simp only[ay,bC,e,c,a,k,g,b,bA,aZ,bM,aF,aD];and_intros<;>omega
   .rw[oc]at g;have a:((first:Int)+(root:Int)).toNat=first+root:=by omega
    by_cases b:ltInt d1[first+root]! d1[first+(2*root+1)]! = ab
    .refine bh i [(16,ae),(20,ab),(35,ae),(51,ab)] rfl ?_ (AK.aQ (2*root+1,swp d1 (first+root) (first+(2*root+1))) rfl ?_ ?_ ?_ ?_)
     .simp only[ay,bC,e,c,a,g,b,bA,aZ,bM,aF,aD];and_intros<;>omega
     .simp only[ay.cat,ay,aF,aD];grind
     .simp only[ay.cat,ay,bC,e,c,a,aD,aF];exact hU j (by omega) (by omega) (λ_ _=>rfl)
     .grind [size_swp,Mg]
     grind
    .rw[oc]at b;rw[show siftDown ltInt hi first lo d=d1 by grind[GS]];refine bh i [(16,ae),(20,ab),(35,ae),(51,ae)] rfl ?_ (AK.fJ (cw.mk [0] rfl aw rfl rfl rfl ic));simp only[ay,bC,e,c,a,g,b,bA,aZ,bM,aF,aD];and_intros<;>omega
  .have g:True:=aw;have a:((first:Int)+(root:Int)).toNat=first+root:=by omega
   by_cases b:ltInt d1[first+root]! d1[first+(2*root+1)]! = ab
   .refine bh i [(16,ae),(20,ae),(51,ab)] rfl ?_ (AK.aQ (2*root+1,swp d1 (first+root) (first+(2*root+1))) rfl ?_ ?_ ?_ ?_)
    .simp only[ay,bC,e,c,a,b,bA,aZ,bM,aF,aD];and_intros<;>omega
    .simp only[ay.cat,ay,aF,aD];grind
    .simp only[ay.cat,ay,bC,e,c,a,aD,aF];exact hU j (by omega) (by omega) (λ_ _=>rfl)
    .grind [size_swp,Mg]
    grind
   .rw[oc]at b;rw[show siftDown ltInt hi first lo d=d1 by grind[GS]];refine bh i [(16,ae),(20,ae),(51,ae)] rfl ?_ (AK.fJ (cw.mk [0] rfl aw rfl rfl rfl ic));simp only[ay,bC,e,c,a,b,bA,aZ,bM,aF,aD];and_intros<;>omega
 .refine aW [(16,ab)] rfl (by simp only[ay,bA,aZ,aF,aD];and_intros<;>omega) (AK.leaveD rfl rfl ?_);rw[<-f,Mf h];exact cw.px [0] rfl aw rfl rfl rfl ic
end
section
open Go.Proofs
open Go.Sort (swp order2 median medianAdjacent choosePivot Hint ltInt)
variable {X:Cx ag}
abbrev bN(k:Nat):aP:=.cells 3 [.c (.int .i64 k)]
abbrev T2:D:=.e (.one (.ptr 1 0))
abbrev tII(a b:Nat):D:=.fa [.one (.c (.int .i64 a)),.one (.c (.int .i64 b))]
def GU:∀j,j<2->([0,1]:List Nat)[j]?=aa j:=λj a=>by grind
def tY(n:Nat)(d:Array Int)(a b sw:Nat)(g:a<n)(i:b<n)(j:n<=4000000)(f:sw<=1000):
  Ev X 236 [kH n,dI a,dI b,T2] [bI n d,bN sw] (tII (order2 ltInt d a b sw).1 (order2 ltInt d a b sw).2.1) [bI n d,bN (order2 ltInt d a b sw).2.2]:=by
 have c:bF X [(197,uC)]:=.cons xE .nil;refine Ev.bQ Tryz.func236 rfl λk=>?_;by_cases h:ltInt d[b]! d[a]! = ab
 .have e:order2 ltInt d a b sw=(b,a,sw+1):=by simp[order2,h]
  rw[e];refine bh c [(18,ab)] rfl ?_ (AK.cY [0,1] rfl ?_ rfl rfl rfl GU)
  .simp only[ay,bC,cd,h,bA,aF,aD];and_intros<;>omega
  .simp
 .have e:order2 ltInt d a b sw=(a,b,sw):=by simp[order2,h]
  rw[e];rw[oc]at h;refine bh c [(18,ae)] rfl ?_ (AK.cY [0,1] rfl ?_ rfl rfl rfl GU)
  .simp only[ay,bC,cd,h,bA,aF,aD];and_intros<;>omega
  .simp
def nS{d:Array Int}{a b sw n:Nat}(e:a<n)(c:b<n):(order2 ltInt d a b sw).1<n/\(order2 ltInt d a b sw).2.1<n/\(order2 ltInt d a b sw).2.2<=sw+1:=by unfold order2;split<;>simp only<;>omega
theorem y9(n:Nat)(d:Array Int)(a b c sw:Nat)(g:a<n)(h:b<n)(i:c<n)(e:n<=4000000)(k:sw<=900):
  Ev X 221 [kH n,dI a,dI b,dI c,T2] [bI n d,bN sw] (dI (median ltInt d a b c sw).1) [bI n d,bN (median ltInt d a b c sw).2]:=by refine Ev.bQ Tryz.func221 rfl λl=>?_;have f:=nS (d:=d) (sw:=sw) g h;have j:=nS (d:=d) (sw:=(order2 ltInt d a b sw).2.2) f.2.1 i;refine di rfl aw ?_;refine AK.cQ (tY n d a b sw g h e (by omega)) [0,1] rfl ?_;refine di rfl aw ?_;refine AK.cQ (tY n d (order2 ltInt d a b sw).2.1 c (order2 ltInt d a b sw).2.2 f.2.1 i e (by omega)) [0,1] rfl ?_;refine di rfl aw ?_;refine AK.cQ (tY n d (order2 ltInt d a b sw).1 (order2 ltInt d (order2 ltInt d a b sw).2.1 c (order2 ltInt d a b sw).2.2).1 (order2 ltInt d (order2 ltInt d a b sw).2.1 c (order2 ltInt d a b sw).2.2).2.2 f.1 j.1 e (by omega)) [0,1] rfl ?_;refine di rfl aw (AK.cY [0,1] rfl ?_ rfl rfl rfl GU);simp[median]
def IA{d:Array Int}{a b c sw n:Nat}(g:a<n)(h:b<n)(i:c<n):(median ltInt d a b c sw).1<n/\(median ltInt d a b c sw).2<=sw+3:=by have e:=nS (d:=d) (sw:=sw) g h;have f:=nS (d:=d) (sw:=(order2 ltInt d a b sw).2.2) e.2.1 i;have j:=nS (d:=d) (sw:=(order2 ltInt d (order2 ltInt d a b sw).2.1 c (order2 ltInt d a b sw).2.2).2.2) e.1 f.1;unfold median;grind
theorem AY(n:Nat)(d:Array Int)(a sw:Nat)(e:1<=a)(f:a+1<n)(c:n<=4000000)(b:sw<=900):
  Ev X 220 [kH n,dI a,T2] [bI n d,bN sw] (dI (medianAdjacent ltInt d a sw).1) [bI n d,bN (medianAdjacent ltInt d a sw).2]:=by
 refine Ev.bQ Tryz.func220 rfl λg=>?_;obtain⟨a,rfl⟩:∃a',a=a'+1:=⟨a-1,by omega⟩
 refine di rfl (by simp only[ay,bA];and_intros<;>omega) ?_;have key:∀x y z:Int,x=(a:Int)->y=((a+1:Nat):Int)->z=((a+1+1:Nat):Int)->Ev X 221 [kH n,dI x,dI y,dI z,T2] [bI n d,bN sw] (dI (median ltInt d a (a+1) (a+1+1) sw).1) [bI n d,bN (median ltInt d a (a+1) (a+1+1) sw).2]:=by rintro x y z rfl rfl rfl;exact y9 n d a (a+1) (a+1+1) sw (by omega) (by omega) (by omega) c b
 refine AK.cQ (key (((a+1:Nat):Int)-1) _ (((a+1:Nat):Int)+1) (by omega) rfl (by omega)) [0,1] rfl ?_;refine di rfl aw (AK.cY [0,1] rfl ?_ rfl rfl rfl GU);simp[medianAdjacent]
end
end Go.AM.R1
namespace Go.AM
section
open Go.Conc (G)
section
variable {P:aq}{X:Cx P}{N:Nat}{Qf:Post}{φ:Fr}{σ:List aP}
def AK.BU{c:Code}{K:List It}{φ':Fr}{σ':List aP}(k:AK X N Qf (.code c::K) .normal φ' σ'){ps qs:List Prop}(h1:nA φ φ'=aa ps)(b:ay ps)(h2:oV σ σ'=aa qs)(a:ay qs):AK X N Qf (.code c::K) .normal φ σ :=
 AK.norm σ' h2 a (AW.le k (cX h1 b))
def uo:List It->List It
 |.blk _::K=>uo K
 |K=>K
def AK.uo:∀{K:List It},AK X N Qf (uo K) .normal φ σ->AK X N Qf K .normal φ σ
 |[],h=>h
 |.blk _::K,h=>AK.uo (K:=K) h
 |.code _::_,h=>h
 |.ops _ _::_,h=>h
def AK.j1{S S2:Type}{c c2:Code}(id:Nat){K f i:List It}(h2:jO id K=aa f)(k:Go.AM.uo f=.code c2::i)(O:S2->Prop)(jX:S2->Fr)(a:S2->List aP)(n:Nat)(I:S->Prop)(fr:S->Fr)(st:S->List aP)(h:S->Nat)(x:S){ps qs:List Prop}(b:nA φ (fr x)=aa ps)(g:ay ps)(e:oV σ (st x)=aa qs)(d:ay qs)(l:σ.length=n)(m:I x)(round:(∀(y:S2) {φ:Fr} {σ:List aP} {ps qs:List Prop},O y->nA φ (jX y)=aa ps->ay ps->oV σ (a y)=aa qs->ay qs->AK X N Qf f .normal φ σ) ->
   ∀x,I x->AK X N (lp X N Qf K I fr st h n x) [.code c] .normal (fr x) (st x))(after:∀y,O y->AK X N Qf (.code c2::i) .normal (jX y) (a y)):AK X N Qf (.code (.loop c)::K) .normal φ σ :=
 AK.cC n I fr st h x b g e d l m (round λy _ _ _ _ j h1 g h2 d=>AK.uo (by rw[k];exact(after y j).BU h1 g h2 d))
end
end
end Go.AM
namespace Go.AM.R1
section
open Go.Proofs
open Go.Sort (swp order2 median medianAdjacent choosePivot Hint ltInt)
variable {X:Cx ag}
def nR:Hint->Int|.unknown=>0|.increasing=>1|.decreasing=>2
def xH(n:Nat)(d:Array Int){a b c:Nat}(sw:Nat)(f:a<n)(g:b<n)(j:c<n)(i:n<=4000000)(e:sw<=900){x y z:Int}(l:x=a)(k:y=b)(h:z=c):
  Ev X 221 [kH n,dI x,dI y,dI z,T2] [bI n d,bN sw] (dI (median ltInt d a b c sw).1) [bI n d,bN (median ltInt d a b c sw).2]:=by grind[y9]
def m7(n:Nat)(d:Array Int){a:Nat}(sw:Nat)(c:1<=a)(e:a+1<n)(f:n<=4000000)(b:sw<=900){x:Int}(g:x=a):
  Ev X 220 [kH n,dI x,T2] [bI n d,bN sw] (dI (medianAdjacent ltInt d a sw).1) [bI n d,bN (medianAdjacent ltInt d a sw).2]:=by grind[AY]
def oG{d:Array Int}{a sw n:Nat}(c:1<=a)(b:a+1<n):(medianAdjacent ltInt d a sw).1<n/\(medianAdjacent ltInt d a sw).2<=sw+3 :=
 IA (by omega) (by omega) (by omega)
abbrev pL(k:Nat):Hint:=if k=0 then .increasing else if k=12 then .decreasing else .unknown
def Mh{d:Array Int}{a l:Nat}(c:8<=l)(b:l<50):choosePivot ltInt d a (a+l)=((median ltInt d (a+l / 4*1) (a+l / 4*2) (a+l / 4*3) 0).1,pL (median ltInt d (a+l / 4*1) (a+l / 4*2) (a+l / 4*3) 0).2):=by unfold choosePivot;grind
abbrev mA(d:Array Int)(a l:Nat):=medianAdjacent ltInt d (a+l / 4*1) 0
abbrev mB(d:Array Int)(a l:Nat):=medianAdjacent ltInt d (a+l / 4*2) (mA d a l).2
abbrev mC(d:Array Int)(a l:Nat):=medianAdjacent ltInt d (a+l / 4*3) (mB d a l).2
def Mi{d:Array Int}{a l:Nat}(b:50<=l):choosePivot ltInt d a (a+l)=((median ltInt d (mA d a l).1 (mB d a l).1 (mC d a l).1 (mC d a l).2).1,pL (median ltInt d (mA d a l).1 (mB d a l).1 (mC d a l).1 (mC d a l).2).2):=by unfold choosePivot;grind
def Iy(n:Nat)(d:Array Int)(a b:Nat)(j:a<=b)(o:b<=n)(i:8<=b-a)(g:n<=4000000):
  Ev X 194 [kH n,dI a,dI b] [bI n d] (.fa [.one (.c (.int .i64 (choosePivot ltInt d a b).1)),.one (.c (.int .i64 (nR (choosePivot ltInt d a b).2)))]) [bI n d]:=by
 refine Ev.bQ Tryz.func194 rfl λq=>?_;obtain⟨l,rfl⟩:∃l,b=a+l:=⟨b-a,by omega⟩
 rw[zk]at i;by_cases h:l<50
 .refine bL [(32,ab),(34,ae)] rfl ?_ ?_
  .simp only[ay,bA,aZ,bM,aF,aD];and_intros<;>omega
  refine AK.cQ (xH n d (a:=a+l / 4*1) (b:=a+l / 4*2) (c:=a+l / 4*3) 0 (by omega) (by omega) (by omega) g (by omega) (by omega) (by omega) (by omega)) [0,1] rfl ?_;rw[Mh i h];generalize median ltInt d (a+l / 4*1) (a+l / 4*2) (a+l / 4*3) 0=r;by_cases e:r.2=0
  .refine bL [(52,ab)] rfl (by simp[e]) (AK.cY [0] rfl ?_ rfl rfl rfl ic);simp[e,nR,pL]
  by_cases f:r.2=12
  .refine bL [(52,ae),(55,ab)] rfl (by simp[f]) (AK.cY [0] rfl ?_ rfl rfl rfl ic);simp[f,nR,pL]
  .refine bL [(52,ae),(55,ae)] rfl (by simp[e];omega) (AK.cY [0] rfl ?_ rfl rfl rfl ic);simp[e,f,nR,pL]
 .refine bL [(32,ab),(34,ab)] rfl ?_ ?_
  .simp only[ay,bA,aZ,bM,aF,aD];and_intros<;>omega
  have m:(mA d a l).1<n/\(mA d a l).2<=0+3:=oG (d:=d) (a:=a+l / 4*1) (sw:=0) (n:=n) (by omega) (by omega);have p:(mB d a l).1<n/\(mB d a l).2<=(mA d a l).2+3:=oG (d:=d) (a:=a+l / 4*2) (sw:=(mA d a l).2) (n:=n) (by omega) (by omega);have k:(mC d a l).1<n/\(mC d a l).2<=(mB d a l).2+3:=oG (d:=d) (a:=a+l / 4*3) (sw:=(mB d a l).2) (n:=n) (by omega) (by omega);refine AK.cQ (m7 n d (a:=a+l / 4*1) 0 (by omega) (by omega) g (by omega) (by omega)) [0,1] rfl ?_;refine di rfl aw ?_;refine AK.cQ (m7 n d (a:=a+l / 4*2) (mA d a l).2 (by omega) (by omega) g (by omega) (by omega)) [0,1] rfl ?_;refine di rfl aw ?_;refine AK.cQ (m7 n d (a:=a+l / 4*3) (mB d a l).2 (by omega) (by omega) g (by omega) (by omega)) [0,1] rfl ?_;refine di rfl aw ?_;refine AK.cQ (xH n d (a:=(mA d a l).1) (b:=(mB d a l).1) (c:=(mC d a l).1) (mC d a l).2 (by omega) (by omega) (by omega) g (by omega) rfl rfl rfl) [0,1] rfl ?_;rw[Mi (by omega)];generalize median ltInt d (mA d a l).1 (mB d a l).1 (mC d a l).1 (mC d a l).2=r;by_cases e:r.2=0
  .refine bL [(52,ab)] rfl (by simp[e]) (AK.cY [0] rfl ?_ rfl rfl rfl ic);simp[e,nR,pL]
  by_cases f:r.2=12
  .refine bL [(52,ae),(55,ab)] rfl (by simp[f]) (AK.cY [0] rfl ?_ rfl rfl rfl ic);simp[f,nR,pL]
  .refine bL [(52,ae),(55,ae)] rfl (by simp[e];omega) (AK.cY [0] rfl ?_ rfl rfl rfl ic);simp[e,f,nR,pL]
end
section
open Go.Proofs
open Go.Sort (swp reverseLoop reverseRange siftDown heapBuild heapPop heapSort ltInt)
variable {X:Cx ag}
def Tk(n:Nat)(d:Array Int)(a b:Nat)(g:d.size=n)(q:1<=b)(m:a<=n)(o:b<=n)(p:n<=4000000):Ev X 195 [kH n,dI a,dI b] [bI n d] (.fa []) [bI n (reverseRange d a b)]:=by
 refine Ev.bQ Tryz.func195 rfl λl=>?_;refine bu rfl (by simp[bA];omega) ?_;refine AK.cC 1 (λs:Nat×Nat×Array Int=>s.2.2.size=n/\s.1<=n/\s.2.1<n+1/\s.2.1<n/\reverseLoop s.1 s.2.1 s.2.2=reverseRange d a b) (λs=>[(0,kH n),(6,dI s.1),(7,dI s.2.1)]) (λs=>[bI n s.2.2]) (λs=>s.2.1-s.1) (a,b-1,d) rfl ?_ rfl ?_ rfl ⟨g,by grind,by grind,by grind,rfl⟩ ?_
 .simp;omega
 .simp[cy]
 rintro⟨i,j,d1⟩ ⟨f,hi,_,k,c⟩;simp only at f hi k c;by_cases h:i<j
 .refine bL [(13,ab)] rfl ?_ (AK.aQ (i+1,j-1,swp d1 i j) rfl ?_ ?_ ?_ ?_)
  .simp only[ay,bC,cd,bA,aZ,aF,aD];and_intros<;>omega
  .simp only[ay.cat,ay,aF,aD];and_intros<;>omega
  .simp only[ay.cat,ay,bC,cd,aD,aF];exact hU f (by omega) (by omega) (λ_ _=>rfl)
  .refine⟨by grind[size_swp],by grind,by grind,by grind,?_⟩;rw[<-c,reverseLoop.eq_1 i j d1,bl h]
  grind
 .have e:reverseRange d a b=d1:=by rw[<-c,reverseLoop,aY h]
  rw[e];refine aW [(13,ae)] rfl (by simp;omega) (AK.leaveD rfl rfl ?_);exact cw.px [0] rfl aw rfl rfl rfl ic
def C5(n:Nat)(d:Array Int){lo hi first:Nat}(g:d.size=n)(a:first+hi<=n)(f:lo<=n)(c:n<=4000000){x y z:Int}(h:x=lo)(e:y=hi)(b:z=first):
  Ev X 217 [kH n,dI x,dI y,dI z] [bI n d] (.fa []) [bI n (siftDown ltInt hi first lo d)]:=by grind[Pj]
def za(hi first:Nat):∀(m root:Nat)(d:Array Int),hi-root<=m->(siftDown ltInt hi first root d).size=d.size:=by
 intro m;induction m with
 |zero=>intro root d h;rw[siftDown,dif_pos (by omega)]
 |succ m a =>
  intro root d h;rw[siftDown];grind[size_swp]
theorem Pf(n:Nat)(d:Array Int)(a b:Nat)(r:d.size=n)(p:a<=b)(q:1<=b-a)(o:b<=n)(i:n<=4000000):Ev X 192 [kH n,dI a,dI b] [bI n d] (.fa []) [bI n (heapSort ltInt d a b)]:=by
 refine Ev.bQ Tryz.func192 rfl λt=>?_;obtain⟨l,rfl⟩:∃l,b=a+l:=⟨b-a,by omega⟩
 rw[zk]at q;refine di rfl (by simp only[ay,bA,aF,aD];and_intros<;>omega) ?_;refine AK.j1 (S2:=Array Int) 0 rfl rfl (λd2=>d2.size=n/\d2=heapBuild ltInt l a ((l-1) / 2+1) d) (λ_=>[(0,kH n),(6,dI a),(7,dI 0),(8,dI l)]) (λd2=>[bI n d2]) 1 (λs:Nat×Array Int=>s.2.size=n/\s.1<=(l-1) / 2+1/\heapBuild ltInt l a s.1 s.2=heapBuild ltInt l a ((l-1) / 2+1) d) (λs=>[(0,kH n),(6,dI a),(7,dI 0),(8,dI l),(9,dI ((s.1:Int)-1))]) (λs=>[bI n s.2]) (λs=>s.1) ((l-1) / 2+1,d) rfl ?_ rfl ?_ rfl ⟨r,bg _,rfl⟩ ?_ ?_
 .simp;omega
 .simp[cy]
 .rintro out ⟨k,d1⟩ ⟨e,hk,c⟩;simp only at e hk c;cases k with
  |zero =>
   refine aW [(19,ae)] rfl (by simp) (AK.leaveD rfl rfl ?_);exact out d1 ⟨e,c⟩ rfl (by simp) rfl (by simp[cy])
  |succ k =>
   refine aW [(19,ab)] rfl (by simp only[ay,aZ];omega) ?_;refine AK.cQ (C5 n d1 (lo:=k) (hi:=l) (first:=a) e o (by omega) i (by omega) rfl rfl) [0] rfl ?_;refine di rfl ?_ (AK.aQ (k,siftDown ltInt l a k d1) rfl ?_ ?_ ?_ ?_)
   .simp only[ay,bA];omega
   .simp only[ay.cat,ay,aF,aD];omega
   .simp[cy]
   .exact⟨by rw[za _ _ _ _ _ (bg _)];exact e,by grind,c⟩
   .simp
 rintro h ⟨g,m⟩;refine di rfl (by simp only[ay,bA];omega) ?_;have f:heapSort ltInt d a (a+l)=heapPop ltInt a l h:=by unfold heapSort;grind
 rw[f];refine AK.cC 1 (λs:Nat×Array Int=>s.2.size=n/\s.1<=l/\heapPop ltInt a s.1 s.2=heapPop ltInt a l h) (λs=>[(0,kH n),(6,dI a),(7,dI 0),(8,dI l),(10,dI ((s.1:Int)-1))]) (λs=>[bI n s.2]) (λs=>s.1) (l,h) rfl ?_ rfl ?_ rfl ⟨g,bg _,rfl⟩ ?_
 .simp
 .simp[cy]
 rintro⟨k,d1⟩ ⟨e,hk,c⟩;simp only at e hk c;cases k with
 |zero =>
  rw[<-c];refine aW [(30,ae)] rfl (by simp) (AK.leaveD rfl rfl ?_);exact cw.px [0] rfl aw rfl rfl rfl ic
 |succ k =>
  have j:((a:Int)+(((k+1:Nat):Int)-1)).toNat=a+k:=by omega
  refine bL [(30,ab),(1000011,ab)] rfl ?_ ?_
  .simp only[ay,bC,cd,j,bA,aZ,aF,aD];and_intros<;>omega
  refine AK.norm [bI n (swp d1 a (a+k))] rfl ?_ ?_
  .simp only[ay.cat,ay,bC,cd,j,aD,aF];exact hU e (by omega) (by omega) (λ_ _=>rfl)
  refine di rfl aw ?_;refine AK.cQ (C5 n (swp d1 a (a+k)) (lo:=0) (hi:=k) (first:=a) (by grind[size_swp]) (by omega) (by omega) i rfl (by omega) rfl) [0] rfl ?_;refine di rfl ?_ (AK.aQ (k,siftDown ltInt k a 0 (swp d1 a (a+k))) rfl ?_ ?_ ?_ ?_)
  .simp only[ay,bA];omega
  .simp only[ay.cat,ay,aF,aD];omega
  .simp[cy]
  .exact⟨by rw[za _ _ _ _ _ (bg _),size_swp];exact e,by grind,c⟩
  .simp
end
section
open Go.Proofs
open Go.Sort (bitsLen)
variable {X:Cx ag}
def yd:List UInt8:=(bd 256).map λi=>UInt8.ofNat (bitsLen i)
def ky{x k:Nat}(h:x<2 ^ k):bitsLen x<=k:=by
 unfold bitsLen;split
 .omega
 .rename_i a;have:=(Nat.log2_lt a).2 h;omega
theorem Pk{x:Nat}(h:x<256):(iS yd x).toNat=bitsLen x:=by unfold iS yd;rw[cd,an,mV,List.getElem?_range h];have:=ky (x:=x) (k:=8) h;grind[UInt8.toNat_ofNat']
def uD{n k:Nat}(h:2 ^ k<=n):bitsLen n=k+bitsLen (n / 2 ^ k):=by
 have b:0<2 ^ k:=Nat.two_pow_pos k;have e:0<n / 2 ^ k:=Nat.div_pos h b;unfold bitsLen;rw[aY (by omega),aY (by omega)];have c:Nat.log2 n=k+Nat.log2 (n / 2 ^ k):=by
  rw[Nat.log2_eq_iff (by omega)];have a:=Nat.log2_self_le (n:=n / 2 ^ k) (by omega);have d:=Nat.lt_log2_self (n:=n / 2 ^ k);constructor
  .rw[Nat.pow_add,Nat.mul_comm];exact im (eC _ a) (Nat.div_mul_le_self n _)
  .rw[show k+Nat.log2 (n / 2 ^ k)+1=k+(Nat.log2 (n / 2 ^ k)+1) by omega,Nat.pow_add];grind[Nat.div_lt_iff_lt_mul]
 omega
set_option maxRecDepth 100000 in
def Mj(n:Nat)(h:n<=4000000):Ev X 201 [dQ n] [] (dI (bitsLen n)) []:=by
 refine Ev.bQ Tryz.func201 rfl λi=>?_;have fin:∀{T:List UInt8} {x:Nat},T=yd->x<256->(iS T (x:Int)).toNat=bitsLen x:=λhT hx=>by grind[Pk]
 have c:∀{T:List UInt8},T=yd->T.length=256:=λhT=>by rw[hT];rfl
 by_cases g:65536<=n
 .have b:((n:Int).toNat / 2 ^ Int.toNat 16)=n / 65536:=by simp
  have e:bitsLen n=16+bitsLen (n / 65536):=uD (n:=n) (k:=16) g;have d:=ky (x:=n / 65536) (k:=8) (by grind);refine bL [(4,ae),(8,ab),(14,ae)] rfl ?_ (AK.bx rfl ?_)
  .generalize hT:(ByteArray.data _).toList=T;have a:T=yd:=by rw[<-hT];decide +kernel
   simp only[ay,b,fin a (show n / 65536<256 by omega),c a,bA,aZ,bM];and_intros<;>omega
  .generalize hT:(ByteArray.data _).toList=T;have a:T=yd:=by rw[<-hT];decide +kernel
   simp only[ay,ay.cat,b,fin a (show n / 65536<256 by omega),aF,aD];omega
 by_cases f:256<=n
 .have b:((n:Int).toNat / 2 ^ Int.toNat 8)=n / 256:=by simp
  have e:bitsLen n=8+bitsLen (n / 256):=uD (n:=n) (k:=8) f;have d:=ky (x:=n / 256) (k:=8) (by grind);refine bL [(4,ae),(8,ae),(14,ab)] rfl ?_ (AK.bx rfl ?_)
  .generalize hT:(ByteArray.data _).toList=T;have a:T=yd:=by rw[<-hT];decide +kernel
   simp only[ay,b,fin a (show n / 256<256 by omega),c a,bA,aZ,bM];and_intros<;>omega
  .generalize hT:(ByteArray.data _).toList=T;have a:T=yd:=by rw[<-hT];decide +kernel
   simp only[ay,ay.cat,b,fin a (show n / 256<256 by omega),aF,aD];omega
 .have d:=ky (x:=n) (k:=8) (by grind);refine bL [(4,ae),(8,ae),(14,ae)] rfl ?_ (AK.bx rfl ?_)
  .generalize hT:(ByteArray.data _).toList=T;have a:T=yd:=by rw[<-hT];decide +kernel
   simp only[ay,fin a (show n<256 by omega),c a,bA,aZ,bM];and_intros<;>omega
  .generalize hT:(ByteArray.data _).toList=T;have a:T=yd:=by rw[<-hT];decide +kernel
   simp only[ay,ay.cat,fin a (show n<256 by omega),aF,aD];omega
def Me(n:Nat)(a:n<=4000000):Ev X 153 [dQ n] [] (dI (bitsLen n)) []:=by refine Ev.bQ Tryz.func153 rfl λb=>?_;refine di rfl aw ?_;refine AK.Gn ?_;refine di rfl aw ?_;refine AK.cQ (Mj n a) [] rfl ?_;exact di rfl aw (AK.bx rfl)
end
section
open Go.Proofs
open Go.Sort (swp bitsLen xorNextN xorNextN_lt xorNext xorNext_toNat breakStep breakPatterns)
variable {X:Cx ag}
abbrev bQ(r:Nat):aP:=.cells 290 [.c (.int .u64 r)]
def Pl(r:Nat):Ev X 219 [.e (.one (.ptr 0 0))] [bQ r] (dQ (xorNextN r)) [bQ (xorNextN r)]:=by
 refine Ev.bQ Tryz.func219 rfl λd=>?_;have b:(2:Nat) ^ Int.toNat 13=8192:=by decide
 have c:(2:Nat) ^ Int.toNat 7=128:=by decide
 have a:(2:Nat) ^ Int.toNat 17=131072:=by decide
 refine di rfl ?_ ?_
 .simp only[ay];omega
 refine AK.norm [bQ (xorNextN r)] rfl ?_ (AK.cY [0] rfl ?_ rfl rfl rfl ic)
 .simp only[ay,ay.cat,xorNextN,cd,b,c,a,aD]
 .simp only[ay,ay.cat,xorNextN,cd,b,c,a]
theorem Pm(n:Nat)(a:n<=4000000):Ev X 218 [dI n] [] (dQ ((1 <<< bitsLen n:Nat):Int)) []:=by
 refine Ev.bQ Tryz.func218 rfl λc=>?_;have l:=ky (x:=n) (k:=22) (by grind);refine di rfl (by simp only[ay,bA];and_intros<;>omega) ?_;refine AK.cQ (Me n a) [] rfl ?_;refine di rfl ?_ (AK.bx rfl ?_)
 .simp only[ay];omega
 .have b:2 ^ bitsLen n<=2 ^ 22:=Nat.pow_le_pow_right (by omega) l;simp only[ay,ay.cat,Nat.shiftLeft_eq,cd];grind
def C6{L:Nat}(h:0<L):1 <<< bitsLen L<=2*L:=by rw[Nat.shiftLeft_eq,Nat.one_mul];unfold bitsLen;rw[aY (by omega),Nat.pow_succ];grind[Nat.log2_self_le]
def Mk(L:Nat):1<=1 <<< bitsLen L:=by rw[Nat.shiftLeft_eq,Nat.one_mul];grind
def T3(a L M:Nat):Nat->Nat->UInt64×Array Int->UInt64×Array Int
 |0,_,st=>st
 |k+1,idx,st=>T3 a L M k (idx+1) (breakStep a L M st idx)
def tZ{d:Array Int}{a L:Nat}(h:8<=L):breakPatterns d a (a+L)=(T3 a L (1 <<< bitsLen L) 3 (a+L / 4*2-1) (UInt64.ofNat L,d)).2:=by unfold breakPatterns;simp only[zk];rw[bl h];rfl
def AZ{a L M idx:Nat}{r:UInt64}{d:Array Int}:breakStep a L M (r,d) idx=(xorNext r,swp d idx (a+if(xorNextN r.toNat &&& (M-1))≥L then(xorNextN r.toNat &&& (M-1))-L else(xorNextN r.toNat &&& (M-1)))):=by unfold breakStep;simp only[xorNext_toNat]
abbrev Zy(n a L M:Nat)(k:Nat):Fr:=[(0,kH n),(1,dI a),(6,dI L),(7,.e (.one (.ptr 1 0))),(8,dQ M),(9,dI ((a+L / 4*2-1+(3-k):Nat):Int))]
def Mc(n:Nat)(d:Array Int)(a b:Nat)(t:d.size=n)(q:a<=b)(B:b<=n)(w:n<=4000000):
  Ev X 193 [kH n,dI a,dI b] [bI n d] (.fa []) [bI n (breakPatterns d a b)]:=by
 refine Ev.bQ Tryz.func193 rfl λz=>?_;obtain⟨L,rfl⟩:∃L,b=a+L:=⟨b-a,by omega⟩
 by_cases v:8<=L
 .rw[tZ v];have A:=C6 (L:=L) (by omega);have p:=Mk L;have l:(UInt64.ofNat L).toNat=L:=by grind[UInt64.toNat_ofNat']
  refine bL [(15,ab)] rfl ?_ ?_
  .simp only[ay,bA,aZ,aF,aD];and_intros<;>omega
  have key:∀x:Int,x=(L:Int)->Ev X 218 [dI x] [] (dQ ((1 <<< bitsLen L:Nat):Int)) []:=by grind[Pm]
  refine AK.cQ (key _ (by omega)) [] rfl ?_;refine di rfl ?_ ?_
  .simp only[ay,bA,aZ,aF,aD];and_intros<;>omega
  generalize u:1 <<< bitsLen L=M at *;refine AK.cC 2 (λs:Nat×UInt64×Array Int=>s.2.2.size=n/\s.1<=3/\(T3 a L M s.1 (a+L / 4*2-1+(3-s.1)) s.2).2=(T3 a L M 3 (a+L / 4*2-1) (UInt64.ofNat L,d)).2) (λs=>Zy n a L M s.1) (λs=>[bI n s.2.2,bQ s.2.1.toNat]) (λs=>s.1) (3,UInt64.ofNat L,d) rfl ?_ rfl ?_ rfl ⟨t,bg _,rfl⟩ ?_
  .simp only[ay.cat,ay,aF,aD];and_intros<;>omega
  .simp only[ay.cat,ay,cy,l,aF,aD];grind
  rintro⟨k,r,d1⟩ ⟨m,hk,c⟩;simp only at m hk c;cases k with
  |zero =>
   rw[<-c];refine bL [(33,ae)] rfl ?_ (AK.leaveD rfl rfl ?_)
   .simp only[ay,bA,bM,aF,aD];and_intros<;>omega
   exact cw.px [0] rfl aw rfl rfl rfl ic
  |succ k =>
   have y:xorNextN r.toNat<18446744073709551616:=xorNextN_lt _ (UInt64.toNat_lt r);have o:xorNextN r.toNat &&& (M-1)<=M-1:=Nat.and_le_right;have j:((M:Int)-1).toNat=M-1:=by omega
   refine bL [(33,ab)] rfl ?_ ?_
   .simp only[ay,bA,aZ,aF,aD];and_intros<;>omega
   refine AK.cQ (Pl r.toNat) [1] rfl ?_;have f:=AZ (a:=a) (L:=L) (M:=M) (idx:=a+L / 4*2-1+(3-(k+1))) (r:=r) (d:=d1);generalize i:xorNextN r.toNat &&& (M-1)=O at *;by_cases g:L<=O
   .rw[bl g]at f;have h:((a:Int)+((O:Int)-(L:Int))).toNat=a+(O-L):=by omega
    refine bL [(43,ab)] rfl ?_ (AK.aQ (k,xorNext r,swp d1 (a+L / 4*2-1+(3-(k+1))) (a+(O-L))) rfl ?_ ?_ ?_ ?_)
    .simp only[ay,bC,cd,j,i,h,bA,aZ,aF,aD];and_intros<;>omega
    .simp only[ay.cat,ay,aF,aD];omega
    .simp only[ay.cat,ay,bC,cd,j,i,h,xorNext_toNat,aD,aF];exact hU m (by omega) (by omega) (λ_ _=>rfl)
    .refine⟨by grind[size_swp],by grind,?_⟩;rw[<-c,T3,f,show a+L / 4*2-1+(3-(k+1))+1=a+L / 4*2-1+(3-k) by omega]
    .simp
   .rw[aY g]at f;have h:((a:Int)+(O:Int)).toNat=a+O:=by omega
    refine bL [(43,ae)] rfl ?_ (AK.aQ (k,xorNext r,swp d1 (a+L / 4*2-1+(3-(k+1))) (a+O)) rfl ?_ ?_ ?_ ?_)
    .simp only[ay,bC,cd,j,i,h,bA,bM,aF,aD];and_intros<;>omega
    .simp only[ay.cat,ay,aF,aD];omega
    .simp only[ay.cat,ay,bC,cd,j,i,h,xorNext_toNat,aD,aF];exact hU m (by omega) (by omega) (λ_ _=>rfl)
    .refine⟨by grind[size_swp],by grind,?_⟩;rw[<-c,T3,f,show a+L / 4*2-1+(3-(k+1))+1=a+L / 4*2-1+(3-k) by omega]
    .simp
 .have e:breakPatterns d a (a+L)=d:=by unfold breakPatterns;grind
  rw[e];refine bL [(15,ae)] rfl ?_ ?_
  .simp only[ay,bA,bM,aF,aD];and_intros<;>omega
  exact cw.px [0] rfl aw rfl rfl rfl ic
end
section
open Go.Proofs
open Go.Sort (swp scanUp scanDown partLoop partEqLoop partition partitionEqual ltInt)
variable {X:Cx ag}
theorem mP{p:Int->Bool}{d:Array Int}{j i:Nat}(h:i<=j)(a:p d[i]! = ab):scanUp p d j i=scanUp p d j (i+1):=by rw[scanUp.eq_1 p d j i,bl (by grind)]
theorem gR{p:Int->Bool}{d:Array Int}{j i:Nat}(h:i<=j->p d[i]! = ae):scanUp p d j i=i:=by rw[scanUp,aY];grind
theorem kK{p:Int->Bool}{d:Array Int}{j i:Nat}(c:1<=j)(h:i<=j)(b:p d[j]! = ab):scanDown p d i j=scanDown p d i (j-1):=by
 obtain⟨j,rfl⟩:∃a,j=a+1:=⟨j-1,by omega⟩
 rw[scanDown,bl (by grind),pS]
theorem fD{p:Int->Bool}{d:Array Int}{j i:Nat}(h:i<=j->p d[j]! = ae):scanDown p d i j=j:=by
 cases j with
 |zero=>rfl
 |succ j =>
  rw[scanDown,aY];grind
def nT{p:Int->Bool}{d:Array Int}{j:Nat}:∀(m i:Nat),j+1-i<=m->i<=scanUp p d j i/\(scanUp p d j i<=j+1∨scanUp p d j i=i):=by
 intro m;induction m with
 |zero=>intro i h;rw[gR (λa=>by omega)];omega
 |succ m b =>
  intro i h;by_cases c:i<=j
  .cases a:p d[i]! with
   |true=>grind[mP]
   |false=>grind[gR]
  grind
def k8{p:Int->Bool}{d:Array Int}{i:Nat}:∀j:Nat,scanDown p d i j<=j/\(i<=scanDown p d i j+1∨scanDown p d i j=j):=by
 intro j;induction j with
 |zero=>rw[show scanDown p d i 0=0 from rfl];omega
 |succ j b =>
  by_cases c:i<=j+1
  .cases a:p d[j+1]! with
   |true=>grind[kK]
   |false=>grind[fD]
  grind[fD]
def partLoop_eq{a i j:Nat}{d:Array Int}{i2 j2:Nat}(f:1<=i)(hi:i2=scanUp (λx=>ltInt x d[a]!) d j i)(b:j2=scanDown (λx=>!ltInt x d[a]!) d i2 j):
  partLoop ltInt a i j d=if i2>j2 then(j2,d)else partLoop ltInt a (i2+1) (j2-1) (swp d i2 j2):=by have e:=nT (p:=λx=>ltInt x d[a]!) (d:=d) (j:=j) (j+1-i) i (bg _);have c:=k8 (p:=λx=>!ltInt x d[a]!) (d:=d) (i:=i2) j;rw[<-hi]at e;rw[<-b]at c;rw[partLoop.eq_1,<-hi,<-b];grind
def C7{d c:Array Int}{a b v i j:Nat}(e:c=swp d a v)(hi:i=scanUp (λx=>ltInt x c[a]!) c (b-1) (a+1))(f:j=scanDown (λx=>!ltInt x c[a]!) c i (b-1))(h:i>j):partition ltInt d a b v=(j,ab,swp c j a):=by unfold partition;grind
def C8{d c:Array Int}{a b v i j:Nat}(f:c=swp d a v)(hi:i=scanUp (λx=>ltInt x c[a]!) c (b-1) (a+1))(g:j=scanDown (λx=>!ltInt x c[a]!) c i (b-1))(h:¬i>j){r:Nat×Array Int}(e:partLoop ltInt a (i+1) (j-1) (swp c i j)=r):partition ltInt d a b v=(r.1,ae,swp r.2 r.1 a):=by subst e;unfold partition;grind
def Pg(n:Nat)(d:Array Int)(a b v:Nat)(T:d.size=n)(S:a<b)(Z:b<=n)(W:v<n)(V:n<=4000000):
  Ev X 199 [kH n,dI a,dI b,dI v] [bI n d] (.fa [.one (.c (.int .i64 (partition ltInt d a b v).1)),.one (.c (.bool (partition ltInt d a b v).2.1))]) [bI n (partition ltInt d a b v).2.2]:=by
 have h:bF X [(197,uC)]:=.cons xE .nil;refine Ev.bQ Tryz.func199 rfl λY=>?_;refine bh h [(1000002,ab)] rfl ?_ ?_
 .simp only[ay,bC,cd,bA,aF,aD];and_intros<;>omega
 refine AK.norm [bI n (swp d a v)] rfl ?_ ?_
 .simp only[ay.cat,ay,bC,cd,aD,aF];exact hU T (by omega) (by omega) (λ_ _=>rfl)
 have t:(swp d a v).size=n:=by grind[size_swp]
 obtain⟨f,I⟩:∃f,f=swp d a v:=⟨_,rfl⟩;rw[<-I]at t⊢;refine cm h rfl ?_ ?_
 .simp only[ay,bA];and_intros<;>omega
 refine AK.j1 (S2:=Unit) 0 rfl rfl (λ_=>True) (λ_=>[(0,kH n),(1,dI a),(10,dI ((scanUp (λx=>ltInt x f[a]!) f (b-1) (a+1)):Nat)),(11,dI (b-1:Nat))]) (λ_=>[bI n f]) 1 (λk:Nat=>a+1<=k/\k<=n+1/\scanUp (λx=>ltInt x f[a]!) f (b-1) k=scanUp (λx=>ltInt x f[a]!) f (b-1) (a+1)) (λk=>[(0,kH n),(1,dI a),(10,dI (k:Nat)),(11,dI (b-1:Nat))]) (λ_=>[bI n f]) (λk=>b-1+1-k) (a+1) rfl ?_ rfl ?_ rfl ⟨bg _,by omega,rfl⟩ ?_ ?_
 .simp[cy]<;>omega
 .simp[cy]
 .rintro out k ⟨y,w,o⟩;by_cases u:k<=b-1
  .by_cases J:(λx=>ltInt x f[a]!) f[k]! = ab
   .have g:ltInt f[k]! f[a]! = ab:=by grind
    refine bh h [(32,ab),(42,ab)] rfl ?_ (AK.aQ (k+1) rfl ?_ ?_ ?_ ?_)
    .simp only[ay,bC,cd,g,bA,aZ,aF,aD];and_intros<;>omega
    .simp only[ay.cat,ay,aF,aD];omega
    .simp[cy]
    .grind [mP]
    .omega
   .have g:ltInt f[k]! f[a]! = ae:=by grind
    refine bh h [(32,ab),(42,ae)] rfl ?_ (AK.leaveD rfl rfl ?_)
    .simp only[ay,bC,cd,g,bA,aZ,aF,aD];and_intros<;>omega
    have e:scanUp (λx=>ltInt x f[a]!) f (b-1) (a+1)=k:=by grind[gR]
    exact out () aw rfl (by simp only[ay.cat,ay,e,aF,aD]) rfl (by simp[cy])
  .refine bh h [(32,ae)] rfl ?_ (AK.leaveD rfl rfl ?_)
   .simp only[ay,bA,bM,aF,aD];omega
   have e:scanUp (λx=>ltInt x f[a]!) f (b-1) (a+1)=k:=by grind[gR]
   exact out () aw rfl (by simp only[ay.cat,ay,e,aF,aD]) rfl (by simp[cy])
 rintro⟨⟩ -;have R:=nT (p:=λx=>ltInt x f[a]!) (d:=f) (j:=b-1) (b-1+1-(a+1)) (a+1) (bg _);obtain⟨i,hi⟩:∃i,i=scanUp (λx=>ltInt x f[a]!) f (b-1) (a+1):=⟨_,rfl⟩
 rw[<-hi]at R⊢;refine cm h rfl aw ?_;refine AK.j1 (S2:=Unit) 2 rfl rfl (λ_=>True) (λ_=>[(0,kH n),(1,dI a),(10,dI (i:Nat)),(11,dI ((scanDown (λx=>!ltInt x f[a]!) f (i) (b-1)):Nat))]) (λ_=>[bI n f]) 1 (λk:Nat=>k<=b-1/\k<=n/\scanDown (λx=>!ltInt x f[a]!) f (i) k=scanDown (λx=>!ltInt x f[a]!) f (i) (b-1)) (λk=>[(0,kH n),(1,dI a),(10,dI (i:Nat)),(11,dI (k:Nat))]) (λ_=>[bI n f]) (λk=>k) (b-1) rfl ?_ rfl ?_ rfl ⟨bg _,by omega,rfl⟩ ?_ ?_
 .simp[cy]<;>omega
 .simp[cy]
 .rintro out k ⟨y,w,o⟩;by_cases u:i<=k
  .by_cases J:(λx=>!ltInt x f[a]!) f[k]! = ab
   .have g:ltInt f[k]! f[a]! = ae:=by grind
    refine bh h [(48,ab),(58,ae)] rfl ?_ (AK.aQ (k-1) rfl ?_ ?_ ?_ ?_)
    .simp only[ay,bC,cd,g,bA,aZ,aF,aD];and_intros<;>omega
    .simp only[ay.cat,ay,aF,aD];omega
    .simp[cy]
    .exact⟨by omega,by omega,by grind[kK]⟩
    .omega
   .have g:ltInt f[k]! f[a]! = ab:=by grind
    refine bh h [(48,ab),(58,ab)] rfl ?_ (AK.leaveD rfl rfl ?_)
    .simp only[ay,bC,cd,g,bA,aZ,aF,aD];and_intros<;>omega
    have e:scanDown (λx=>!ltInt x f[a]!) f (i) (b-1)=k:=by grind[fD]
    exact out () aw rfl (by simp only[ay.cat,ay,e,aF,aD]) rfl (by simp[cy])
  .refine bh h [(48,ae)] rfl ?_ (AK.leaveD rfl rfl ?_)
   .simp only[ay,bA,bM,aF,aD];omega
   have e:scanDown (λx=>!ltInt x f[a]!) f (i) (b-1)=k:=by grind[fD]
   exact out () aw rfl (by simp only[ay.cat,ay,e,aF,aD]) rfl (by simp[cy])
 rintro⟨⟩ -;have Q:=k8 (p:=λx=>!ltInt x f[a]!) (d:=f) (i:=i) (b-1);obtain⟨j,K⟩:∃j,j=scanDown (λx=>!ltInt x f[a]!) f i (b-1):=⟨_,rfl⟩
 rw[<-K]at Q⊢;by_cases H:j<i
 .rw[C7 I hi K H];refine bh h [(65,ab),(1000009,ab)] rfl ?_ ?_
  .simp only[ay,bC,cd,bA,aZ,aF,aD];and_intros<;>omega
  refine AK.norm [bI n (swp f j a)] rfl ?_ ?_
  .simp only[ay.cat,ay,bC,cd,aD,aF];exact hU t (by omega) (by omega) (λ_ _=>rfl)
  refine cm h rfl aw (AK.cY [0] rfl ?_ rfl rfl rfl ic);simp
 refine bh h [(65,ae),(1000011,ab)] rfl ?_ ?_
 .simp only[ay,bC,cd,bA,bM,aF,aD];and_intros<;>omega
 refine AK.norm [bI n (swp f i j)] rfl ?_ ?_
 .simp only[ay.cat,ay,bC,cd,aD,aF];exact hU t (by omega) (by omega) (λ_ _=>rfl)
 refine cm h rfl ?_ ?_
 .simp only[ay,bA];and_intros<;>omega
 have A:(swp f i j).size=n:=by grind[size_swp]
 obtain⟨r,M⟩:∃r,partLoop ltInt a (i+1) (j-1) (swp f i j)=r:=⟨_,rfl⟩;rw[C8 I hi K (by omega) M]
 obtain⟨d1,O⟩:∃d1,d1=swp f i j:=⟨_,rfl⟩;rw[<-O]at A M⊢;refine AK.j1 (S2:=Unit) 4 rfl rfl (λ_=>r.1<n/\r.2.size=n) (λ_=>[(0,kH n),(1,dI a),(11,dI r.1)]) (λ_=>[bI n r.2]) 1 (λs:Nat×Nat×Array Int=>s.2.2.size=n/\a+1<=s.1/\s.1<=n+1/\s.2.1<n/\partLoop ltInt a s.1 s.2.1 s.2.2=r) (λs=>[(0,kH n),(1,dI a),(10,dI s.1),(11,dI s.2.1)]) (λs=>[bI n s.2.2]) (λs=>s.2.1+1-s.1) (i+1,j-1,d1) rfl ?_ rfl ?_ rfl ⟨A,by grind,by grind,by grind,M⟩ ?_ ?_
 .simp only[ay.cat,ay,aF,aD];and_intros<;>omega
 .simp[cy]
 .rintro C ⟨i3,l,d2⟩ ⟨B,P,E,L,m⟩;simp only at B P E L m;refine cm h rfl aw ?_;refine AK.j1 (S2:=Unit) 6 rfl rfl (λ_=>True) (λ_=>[(0,kH n),(1,dI a),(10,dI ((scanUp (λx=>ltInt x d2[a]!) d2 (l) (i3)):Nat)),(11,dI (l:Nat))]) (λ_=>[bI n d2]) 1 (λk:Nat=>i3<=k/\k<=n+1/\scanUp (λx=>ltInt x d2[a]!) d2 (l) k=scanUp (λx=>ltInt x d2[a]!) d2 (l) (i3)) (λk=>[(0,kH n),(1,dI a),(10,dI (k:Nat)),(11,dI (l:Nat))]) (λ_=>[bI n d2]) (λk=>l+1-k) (i3) rfl ?_ rfl ?_ rfl ⟨bg _,by omega,rfl⟩ ?_ ?_
  .simp[cy]<;>omega
  .simp[cy]
  .rintro out k ⟨y,w,o⟩;by_cases u:k<=l
   .by_cases J:(λx=>ltInt x d2[a]!) d2[k]! = ab
    .have g:ltInt d2[k]! d2[a]! = ab:=by grind
     refine bh h [(101,ab),(111,ab)] rfl ?_ (AK.aQ (k+1) rfl ?_ ?_ ?_ ?_)
     .simp only[ay,bC,cd,g,bA,aZ,aF,aD];and_intros<;>omega
     .simp only[ay.cat,ay,aF,aD];omega
     .simp[cy]
     .grind [mP]
     .omega
    .have g:ltInt d2[k]! d2[a]! = ae:=by grind
     refine bh h [(101,ab),(111,ae)] rfl ?_ (AK.leaveD rfl rfl ?_)
     .simp only[ay,bC,cd,g,bA,aZ,aF,aD];and_intros<;>omega
     have e:scanUp (λx=>ltInt x d2[a]!) d2 (l) (i3)=k:=by grind[gR]
     exact out () aw rfl (by simp only[ay.cat,ay,e,aF,aD]) rfl (by simp[cy])
   .refine bh h [(101,ae)] rfl ?_ (AK.leaveD rfl rfl ?_)
    .simp only[ay,bA,bM,aF,aD];omega
    have e:scanUp (λx=>ltInt x d2[a]!) d2 (l) (i3)=k:=by grind[gR]
    exact out () aw rfl (by simp only[ay.cat,ay,e,aF,aD]) rfl (by simp[cy])
  rintro⟨⟩ -;have c1:=nT (p:=λx=>ltInt x d2[a]!) (d:=d2) (j:=l) (l+1-i3) i3 (bg _);obtain⟨i4,D⟩:∃i4,i4=scanUp (λx=>ltInt x d2[a]!) d2 l i3:=⟨_,rfl⟩
  rw[<-D]at c1⊢;refine cm h rfl aw ?_;refine AK.j1 (S2:=Unit) 8 rfl rfl (λ_=>True) (λ_=>[(0,kH n),(1,dI a),(10,dI (i4:Nat)),(11,dI ((scanDown (λx=>!ltInt x d2[a]!) d2 (i4) (l)):Nat))]) (λ_=>[bI n d2]) 1 (λk:Nat=>k<=l/\k<=n/\scanDown (λx=>!ltInt x d2[a]!) d2 (i4) k=scanDown (λx=>!ltInt x d2[a]!) d2 (i4) (l)) (λk=>[(0,kH n),(1,dI a),(10,dI (i4:Nat)),(11,dI (k:Nat))]) (λ_=>[bI n d2]) (λk=>k) (l) rfl ?_ rfl ?_ rfl ⟨bg _,by omega,rfl⟩ ?_ ?_
  .simp[cy]<;>omega
  .simp[cy]
  .rintro out k ⟨y,w,o⟩;by_cases u:i4<=k
   .by_cases J:(λx=>!ltInt x d2[a]!) d2[k]! = ab
    .have g:ltInt d2[k]! d2[a]! = ae:=by grind
     refine bh h [(117,ab),(127,ae)] rfl ?_ (AK.aQ (k-1) rfl ?_ ?_ ?_ ?_)
     .simp only[ay,bC,cd,g,bA,aZ,aF,aD];and_intros<;>omega
     .simp only[ay.cat,ay,aF,aD];omega
     .simp[cy]
     .exact⟨by omega,by omega,by grind[kK]⟩
     .omega
    .have g:ltInt d2[k]! d2[a]! = ab:=by grind
     refine bh h [(117,ab),(127,ab)] rfl ?_ (AK.leaveD rfl rfl ?_)
     .simp only[ay,bC,cd,g,bA,aZ,aF,aD];and_intros<;>omega
     have e:scanDown (λx=>!ltInt x d2[a]!) d2 (i4) (l)=k:=by grind[fD]
     exact out () aw rfl (by simp only[ay.cat,ay,e,aF,aD]) rfl (by simp[cy])
   .refine bh h [(117,ae)] rfl ?_ (AK.leaveD rfl rfl ?_)
    .simp only[ay,bA,bM,aF,aD];omega
    have e:scanDown (λx=>!ltInt x d2[a]!) d2 (i4) (l)=k:=by grind[fD]
    exact out () aw rfl (by simp only[ay.cat,ay,e,aF,aD]) rfl (by simp[cy])
  rintro⟨⟩ -;have c2:=k8 (p:=λx=>!ltInt x d2[a]!) (d:=d2) (i:=i4) l;obtain⟨z,G⟩:∃z,z=scanDown (λx=>!ltInt x d2[a]!) d2 i4 l:=⟨_,rfl⟩
  rw[<-G]at c2⊢;have q:=partLoop_eq (by omega) D G;by_cases F:z<i4
  .have e:=q;rw[m,bl F]at e;refine bh h [(134,ab)] rfl ?_ (AK.leaveD rfl rfl ?_)
   .simp only[ay,bA,aZ];omega
   exact C () (by grind) rfl (by simp only[ay.cat,ay,e,aF,aD]) rfl (by simp[cy,e])
  .have e:=q;rw[m,aY (by omega)]at e;refine bh h [(134,ae),(1000019,ab)] rfl ?_ ?_
   .simp only[ay,bC,cd,bA,bM,aF,aD];and_intros<;>omega
   refine AK.norm [bI n (swp d2 i4 z)] rfl ?_ ?_
   .simp only[ay.cat,ay,bC,cd,aD,aF];exact hU B (by omega) (by omega) (λ_ _=>rfl)
   refine cm h rfl ?_ (AK.aQ (i4+1,z-1,swp d2 i4 z) rfl ?_ ?_ ?_ ?_)
   .simp only[ay,bA];and_intros<;>omega
   .simp only[ay.cat,ay,aF,aD];and_intros<;>omega
   .simp[cy]
   .grind [size_swp]
   grind
 rintro⟨⟩ ⟨U,N⟩;refine bh h [(1000022,ab)] rfl ?_ ?_
 .simp only[ay,bC,cd,bA,aF,aD];and_intros<;>omega
 refine AK.norm [bI n (swp r.2 r.1 a)] rfl ?_ ?_
 .simp only[ay.cat,ay,bC,cd,aD,aF];exact hU N (by omega) (by omega) (λ_ _=>rfl)
 refine cm h rfl aw (AK.cY [0] rfl ?_ rfl rfl rfl ic);simp
def partEqLoop_eq{a i j:Nat}{d:Array Int}{i2 j2:Nat}(f:1<=i)(hi:i2=scanUp (λx=>!ltInt d[a]! x) d j i)(b:j2=scanDown (λx=>ltInt d[a]! x) d i2 j):
  partEqLoop ltInt a i j d=if i2>j2 then(i2,d)else partEqLoop ltInt a (i2+1) (j2-1) (swp d i2 j2):=by have e:=nT (p:=λx=>!ltInt d[a]! x) (d:=d) (j:=j) (j+1-i) i (bg _);have c:=k8 (p:=λx=>ltInt d[a]! x) (d:=d) (i:=i2) j;rw[<-hi]at e;rw[<-b]at c;rw[partEqLoop.eq_1,<-hi,<-b];grind
def Iz(n:Nat)(d:Array Int)(a b v:Nat)(K:d.size=n)(J:a<b)(P:b<=n)(N:v<n)(M:n<=4000000):
  Ev X 198 [kH n,dI a,dI b,dI v] [bI n d] (dI (partitionEqual ltInt d a b v).1) [bI n (partitionEqual ltInt d a b v).2]:=by
 have g:bF X [(197,uC)]:=.cons xE .nil;refine Ev.bQ Tryz.func198 rfl λO=>?_;refine bh g [(1000002,ab)] rfl ?_ ?_
 .simp only[ay,bC,cd,bA,aF,aD];and_intros<;>omega
 refine AK.norm [bI n (swp d a v)] rfl ?_ ?_
 .simp only[ay.cat,ay,bC,cd,aD,aF];exact hU K (by omega) (by omega) (λ_ _=>rfl)
 have B:(swp d a v).size=n:=by grind[size_swp]
 unfold partitionEqual;generalize swp d a v=d1 at *;obtain⟨r,G⟩:∃r,partEqLoop ltInt a (a+1) (b-1) d1=r:=⟨_,rfl⟩;rw[G];refine cm g rfl ?_ ?_
 .simp only[ay,bA];and_intros<;>omega
 refine AK.j1 (S2:=Unit) 0 rfl rfl (λ_=>r.1<=n+1/\r.2.size=n) (λ_=>[(0,kH n),(1,dI a),(9,dI r.1)]) (λ_=>[bI n r.2]) 1 (λs:Nat×Nat×Array Int=>s.2.2.size=n/\a+1<=s.1/\s.1<=n+1/\s.2.1<n/\partEqLoop ltInt a s.1 s.2.1 s.2.2=r) (λs=>[(0,kH n),(1,dI a),(9,dI s.1),(10,dI s.2.1)]) (λs=>[bI n s.2.2]) (λs=>s.2.1+1-s.1) (a+1,b-1,d1) rfl ?_ rfl ?_ rfl ⟨B,by grind,by grind,by grind,G⟩ ?_ ?_
 .simp only[ay.cat,ay,aF,aD];and_intros<;>omega
 .simp[cy]
 .rintro o ⟨i3,c,d2⟩ ⟨m,F,u,A,h⟩;simp only at m F u A h;refine cm g rfl aw ?_;refine AK.j1 (S2:=Unit) 2 rfl rfl (λ_=>True) (λ_=>[(0,kH n),(1,dI a),(9,dI ((scanUp (λx=>!ltInt d2[a]! x) d2 (c) (i3)):Nat)),(10,dI (c:Nat))]) (λ_=>[bI n d2]) 1 (λk:Nat=>i3<=k/\k<=n+1/\scanUp (λx=>!ltInt d2[a]! x) d2 (c) k=scanUp (λx=>!ltInt d2[a]! x) d2 (c) (i3)) (λk=>[(0,kH n),(1,dI a),(9,dI (k:Nat)),(10,dI (c:Nat))]) (λ_=>[bI n d2]) (λk=>c+1-k) (i3) rfl ?_ rfl ?_ rfl ⟨bg _,by omega,rfl⟩ ?_ ?_
  .simp[cy]<;>omega
  .simp[cy]
  .rintro out k ⟨E,D,z⟩;by_cases C:k<=c
   .by_cases H:(λx=>!ltInt d2[a]! x) d2[k]! = ab
    .have f:ltInt d2[a]! d2[k]! = ae:=by grind
     refine bh g [(31,ab),(41,ae)] rfl ?_ (AK.aQ (k+1) rfl ?_ ?_ ?_ ?_)
     .simp only[ay,bC,cd,f,bA,aZ,aF,aD];and_intros<;>omega
     .simp only[ay.cat,ay,aF,aD];omega
     .simp[cy]
     .grind [mP]
     .omega
    .have f:ltInt d2[a]! d2[k]! = ab:=by grind
     refine bh g [(31,ab),(41,ab)] rfl ?_ (AK.leaveD rfl rfl ?_)
     .simp only[ay,bC,cd,f,bA,aZ,aF,aD];and_intros<;>omega
     have e:scanUp (λx=>!ltInt d2[a]! x) d2 (c) (i3)=k:=by grind[gR]
     exact out () aw rfl (by simp only[ay.cat,ay,e,aF,aD]) rfl (by simp[cy])
   .refine bh g [(31,ae)] rfl ?_ (AK.leaveD rfl rfl ?_)
    .simp only[ay,bA,bM,aF,aD];omega
    have e:scanUp (λx=>!ltInt d2[a]! x) d2 (c) (i3)=k:=by grind[gR]
    exact out () aw rfl (by simp only[ay.cat,ay,e,aF,aD]) rfl (by simp[cy])
  rintro⟨⟩ -;have c1:=nT (p:=λx=>!ltInt d2[a]! x) (d:=d2) (j:=c) (c+1-i3) i3 (bg _);obtain⟨i4,t⟩:∃i4,i4=scanUp (λx=>!ltInt d2[a]! x) d2 c i3:=⟨_,rfl⟩
  rw[<-t]at c1⊢;refine cm g rfl aw ?_;refine AK.j1 (S2:=Unit) 4 rfl rfl (λ_=>True) (λ_=>[(0,kH n),(1,dI a),(9,dI (i4:Nat)),(10,dI ((scanDown (λx=>ltInt d2[a]! x) d2 (i4) (c)):Nat))]) (λ_=>[bI n d2]) 1 (λk:Nat=>k<=c/\k<=n/\scanDown (λx=>ltInt d2[a]! x) d2 (i4) k=scanDown (λx=>ltInt d2[a]! x) d2 (i4) (c)) (λk=>[(0,kH n),(1,dI a),(9,dI (i4:Nat)),(10,dI (k:Nat))]) (λ_=>[bI n d2]) (λk=>k) (c) rfl ?_ rfl ?_ rfl ⟨bg _,by omega,rfl⟩ ?_ ?_
  .simp[cy]<;>omega
  .simp[cy]
  .rintro out k ⟨E,D,z⟩;by_cases C:i4<=k
   .by_cases H:(λx=>ltInt d2[a]! x) d2[k]! = ab
    .have f:ltInt d2[a]! d2[k]! = ab:=by grind
     refine bh g [(48,ab),(58,ab)] rfl ?_ (AK.aQ (k-1) rfl ?_ ?_ ?_ ?_)
     .simp only[ay,bC,cd,f,bA,aZ,aF,aD];and_intros<;>omega
     .simp only[ay.cat,ay,aF,aD];omega
     .simp[cy]
     .exact⟨by omega,by omega,by grind[kK]⟩
     .omega
    .have f:ltInt d2[a]! d2[k]! = ae:=by grind
     refine bh g [(48,ab),(58,ae)] rfl ?_ (AK.leaveD rfl rfl ?_)
     .simp only[ay,bC,cd,f,bA,aZ,aF,aD];and_intros<;>omega
     have e:scanDown (λx=>ltInt d2[a]! x) d2 (i4) (c)=k:=by grind[fD]
     exact out () aw rfl (by simp only[ay.cat,ay,e,aF,aD]) rfl (by simp[cy])
   .refine bh g [(48,ae)] rfl ?_ (AK.leaveD rfl rfl ?_)
    .simp only[ay,bA,bM,aF,aD];omega
    have e:scanDown (λx=>ltInt d2[a]! x) d2 (i4) (c)=k:=by grind[fD]
    exact out () aw rfl (by simp only[ay.cat,ay,e,aF,aD]) rfl (by simp[cy])
  rintro⟨⟩ -;have c2:=k8 (p:=λx=>ltInt d2[a]! x) (d:=d2) (i:=i4) c;obtain⟨l,y⟩:∃l,l=scanDown (λx=>ltInt d2[a]! x) d2 i4 c:=⟨_,rfl⟩
  rw[<-y]at c2⊢;have q:=partEqLoop_eq (by omega) t y;by_cases w:l<i4
  .have e:=q;rw[h,bl w]at e;refine bh g [(64,ab)] rfl ?_ (AK.leaveD rfl rfl ?_)
   .simp only[ay,bA,aZ];omega
   exact o () (by grind) rfl (by simp only[ay.cat,ay,e,aF,aD]) rfl (by simp[cy,e])
  .have e:=q;rw[h,aY (by omega)]at e;refine bh g [(64,ae),(1000009,ab)] rfl ?_ ?_
   .simp only[ay,bC,cd,bA,bM,aF,aD];and_intros<;>omega
   refine AK.norm [bI n (swp d2 i4 l)] rfl ?_ ?_
   .simp only[ay.cat,ay,bC,cd,aD,aF];exact hU m (by omega) (by omega) (λ_ _=>rfl)
   refine cm g rfl ?_ (AK.aQ (i4+1,l-1,swp d2 i4 l) rfl ?_ ?_ ?_ ?_)
   .simp only[ay,bA];and_intros<;>omega
   .simp only[ay.cat,ay,aF,aD];and_intros<;>omega
   .simp[cy]
   .grind [size_swp]
   grind
 rintro⟨⟩ ⟨L,I⟩;refine cm g rfl aw (AK.cY [0] rfl ?_ rfl rfl rfl ic);simp
end
section
open Go.Proofs
open Go.Sort (swp scanSorted shiftDown shiftUp partialIns partialInsertionSort ltInt)
variable {X:Cx ag}
theorem xF{d:Array Int}{b i:Nat}(h:i<b)(a:ltInt d[i]! d[i-1]! = ae):scanSorted ltInt d b i=scanSorted ltInt d b (i+1):=by rw[scanSorted.eq_1 ltInt d b i,bl (by grind)]
theorem oF{d:Array Int}{b i:Nat}(h:i<b->ltInt d[i]! d[i-1]! = ab):scanSorted ltInt d b i=i:=by rw[scanSorted,aY];grind
def L8{d:Array Int}{b:Nat}:∀(m i:Nat),b-i<=m->i<=b->i<=scanSorted ltInt d b i/\scanSorted ltInt d b i<=b:=by
 intro m;induction m with
 |zero=>grind[oF]
 |succ m e =>
  intro i h a;by_cases f:i<b
  .cases c:ltInt d[i]! d[i-1]! with
   |false=>grind[xF]
   |true=>grind[oF]
  grind
theorem L9{d:Array Int}{j:Nat}(b:1<=j)(h:ltInt d[j]! d[j-1]! = ab):shiftDown ltInt j d=shiftDown ltInt (j-1) (swp d j (j-1)):=by
 obtain⟨j,rfl⟩:∃a,j=a+1:=⟨j-1,by omega⟩
 simp only[pS]at h⊢;rw[shiftDown,aY (by simp[h])]
theorem C3{d:Array Int}{j:Nat}(h:1<=j->ltInt d[j]! d[j-1]! = ae):shiftDown ltInt j d=d:=by
 cases j with
 |zero=>rfl
 |succ j =>
  have:=h (by omega);simp only[pS]at this;rw[shiftDown,bl (by grind)]
theorem Ma{d:Array Int}{b j:Nat}(a:j<b)(h:ltInt d[j]! d[j-1]! = ab):shiftUp ltInt b j d=shiftUp ltInt b (j+1) (swp d j (j-1)):=by rw[shiftUp.eq_1 ltInt b j d,bl a,aY (by simp[h])]
theorem C4{d:Array Int}{b j:Nat}(h:j<b->ltInt d[j]! d[j-1]! = ae):shiftUp ltInt b j d=d:=by rw[shiftUp];grind
abbrev QN(n a b i s:Nat):Fr:=[(0,kH n),(1,dI a),(2,dI b),(7,dI i),(8,dI (5-(s:Int)))]
def Pd{a b s i:Nat}{d:Array Int}:partialIns ltInt a b (s+1) i d=(if scanSorted ltInt d b i=b then(d,ab)else if b-a<50 then(d,ae)else
  partialIns ltInt a b s (scanSorted ltInt d b i) (if b-scanSorted ltInt d b i≥2 then shiftUp ltInt b (scanSorted ltInt d b i+1) (if scanSorted ltInt d b i-a≥2 then shiftDown ltInt (scanSorted ltInt d b i-1) (swp d (scanSorted ltInt d b i) (scanSorted ltInt d b i-1))else swp d (scanSorted ltInt d b i) (scanSorted ltInt d b i-1))else(if scanSorted ltInt d b i-a≥2 then shiftDown ltInt (scanSorted ltInt d b i-1) (swp d (scanSorted ltInt d b i) (scanSorted ltInt d b i-1))else swp d (scanSorted ltInt d b i) (scanSorted ltInt d b i-1)))):=rfl
def xG(n:Nat)(d:Array Int)(a b:Nat)(S:d.size=n)(R:a<b)(Y:b<=n)(T:n<=4000000):
  Ev X 196 [kH n,dI a,dI b] [bI n d] (dB (partialInsertionSort ltInt d a b).2) [bI n (partialInsertionSort ltInt d a b).1]:=by
 have g:bF X [(197,uC)]:=.cons xE .nil;refine Ev.bQ Tryz.func196 rfl λV=>?_;obtain⟨r,K⟩:∃r,partialIns ltInt a b 5 (a+1) d=r:=⟨_,rfl⟩;have C:partialInsertionSort ltInt d a b=r:=K;rw[C];refine cm g rfl (by simp only[ay,bA];omega) ?_
 refine AK.j1 (S2:=Unit) 0 rfl rfl (λ_=>r.2=ae) (λ_=>[(0,kH n)]) (λ_=>[bI n r.1]) 1 (λs:Nat×Nat×Array Int=>s.2.2.size=n/\s.1<=5/\a+1<=s.2.1/\s.2.1<=b/\partialIns ltInt a b s.1 s.2.1 s.2.2=r) (λs=>QN n a b s.2.1 s.1) (λs=>[bI n s.2.2]) (λs=>s.1) (5,a+1,d) rfl ?_ rfl ?_ rfl ⟨S,by grind,by grind,by grind,K⟩ ?_ ?_
 .simp
 .simp[cy]
 .rintro A ⟨s,i,d1⟩ ⟨J,y,hi,q,f⟩;simp only at J y hi q f;cases s with
  |zero =>
   rw[partialIns]at f;refine bh g [(14,ae)] rfl ?_ (AK.leaveD rfl rfl ?_)
   .simp
   exact A () (by grind) rfl (by simp) rfl (by simp[cy,<-f])
  |succ s =>
   rw[Pd]at f;refine bh g [(14,ab)] rfl (by simp only[ay,aZ];omega) ?_;refine AK.j1 (S2:=Unit) 2 rfl rfl (λ_=>True) (λ_=>QN n a b (scanSorted ltInt d1 b i) (s+1)) (λ_=>[bI n d1]) 1 (λk:Nat=>i<=k/\k<=b/\scanSorted ltInt d1 b k=scanSorted ltInt d1 b i) (λk=>QN n a b k (s+1)) (λ_=>[bI n d1]) (λk=>b-k) i rfl ?_ rfl ?_ rfl ⟨bg _,q,rfl⟩ ?_ ?_
   .simp
   .simp[cy]
   .rintro out k ⟨Q,P,M⟩;by_cases O:k<b
    .have x:((k:Int)-1).toNat=k-1:=by omega
     cases p:ltInt d1[k]! d1[k-1]! with
     |false =>
      refine bh g [(19,ab),(30,ae)] rfl ?_ (AK.aQ (k+1) rfl ?_ ?_ ?_ ?_)
      .simp only[ay,bC,cd,x,p,bA,aZ,aF,aD];and_intros<;>omega
      .simp only[ay.cat,ay,aF,aD];omega
      .simp[cy]
      .grind [xF]
      .omega
     |true =>
      refine bh g [(19,ab),(30,ab)] rfl ?_ (AK.leaveD rfl rfl ?_)
      .simp only[ay,bC,cd,x,p,bA,aZ,aF,aD];and_intros<;>omega
      have e:scanSorted ltInt d1 b i=k:=by grind[oF]
      exact out () aw rfl (by simp only[ay.cat,ay,e,aF,aD]) rfl (by simp[cy])
    .refine bh g [(19,ae)] rfl ?_ (AK.leaveD rfl rfl ?_)
     .simp only[ay,bA,bM,aF,aD];omega
     have e:scanSorted ltInt d1 b i=k:=by grind[oF]
     exact out () aw rfl (by simp only[ay.cat,ay,e,aF,aD]) rfl (by simp[cy])
   rintro⟨⟩ -;have c:=L8 (d:=d1) (b:=b) (b-i) i (bg _) q;obtain⟨i2,H⟩:∃i2,i2=scanSorted ltInt d1 b i:=⟨_,rfl⟩;rw[<-H]at c f⊢
   by_cases u:i2=b
   .rw[bl u]at f;rw[<-f];refine bh g [(37,ab)] rfl ?_ (AK.fJ (cw.mk [0] rfl ?_ rfl rfl rfl ic))
    .simp[u]
    .simp
   rw[aY u]at f;by_cases B:b-a<50
   .rw[bl B]at f;rw[<-f];refine bh g [(37,ae),(41,ab)] rfl ?_ (AK.fJ (cw.mk [0] rfl ?_ rfl rfl rfl ic))
    .simp[bA];omega
    .simp
   rw[aY B]at f;have x:((i2:Int)-1).toNat=i2-1:=by omega
   refine bh g [(37,ae),(41,ae),(1000012,ab)] rfl ?_ ?_
   .simp only[ay,bC,cd,x,bA,bM,eD,du,aF,aD];and_intros<;>omega
   refine AK.norm [bI n (swp d1 i2 (i2-1))] rfl ?_ ?_
   .simp only[ay.cat,ay,bC,cd,x,aD,aF];exact hU J (by omega) (by omega) (λ_ _=>rfl)
   have z:(swp d1 i2 (i2-1)).size=n:=by grind[size_swp]
   obtain⟨d2,G⟩:∃d2,d2=swp d1 i2 (i2-1):=⟨_,rfl⟩;rw[<-G]at z f⊢;obtain⟨d3,o⟩:∃d3,d3=if i2-a≥2 then shiftDown ltInt (i2-1) d2 else d2:=⟨_,rfl⟩
   rw[<-o]at f;have W:∀(j:Nat) (d:Array Int),(shiftDown ltInt j d).size=d.size:=by
    intro j;induction j with
    |zero=>intro d;rfl
    |succ j U =>
     intro d;rw[shiftDown];grind[size_swp]
   have F:d3.size=n:=by grind
   apply AK.join (QN n a b i2 (s+1)) [bI n d3]
   .intro out;by_cases L:i2-a≥2
    .rw[bl L]at o;refine bh g [(61,ab)] rfl ?_ ?_
     .simp only[ay,bA,aZ,aF,aD];and_intros<;>omega
     refine AK.j1 (S2:=Unit) 4 rfl rfl (λ_=>True) (λ_=>QN n a b i2 (s+1)) (λ_=>[bI n d3]) 1 (λs:Nat×Array Int=>s.2.size=n/\s.1<b/\shiftDown ltInt s.1 s.2=d3) (λs2=>QN n a b i2 (s+1)++[(9,dI s2.1)]) (λs=>[bI n s.2]) (λs=>s.1) (i2-1,d2) rfl ?_ rfl ?_ rfl ⟨z,by grind,o.symm⟩ ?_ ?_
     .simp only[ay.cat,ay,aF,aD];omega
     .simp[cy]
     .rintro h ⟨j,d4⟩ ⟨m,D,l⟩;simp only at m D l;by_cases v:1<=j
      .have t:((j:Int)-1).toNat=j-1:=by omega
       cases p:ltInt d4[j]! d4[j-1]! with
       |true =>
        refine bh g [(65,ab),(77,ab)] rfl ?_ (AK.aQ (j-1,swp d4 j (j-1)) rfl ?_ ?_ ?_ ?_)
        .simp only[ay,bC,cd,t,p,bA,aZ,aF,aD];and_intros<;>omega
        .simp only[ay.cat,ay,aF,aD];omega
        .simp only[ay.cat,ay,bC,cd,t,aD,aF];exact hU m (by omega) (by omega) (λ_ _=>rfl)
        .grind [L9]
        grind
       |false =>
        refine bh g [(65,ab),(77,ae)] rfl ?_ (AK.leaveD rfl rfl ?_)
        .simp only[ay,bC,cd,t,p,bA,aZ,aF,aD];and_intros<;>omega
        have e:d3=d4:=by grind[C3]
        exact h () aw rfl (by simp) rfl (by simp[cy,e])
      .refine bh g [(65,ae)] rfl ?_ (AK.leaveD rfl rfl ?_)
       .simp only[ay,bM];omega
       have e:d3=d4:=by grind[C3]
       exact h () aw rfl (by simp) rfl (by simp[cy,e])
     rintro⟨⟩ -;refine bh g [(1000018,ab)] rfl aw ?_;exact out _ _ rfl (by simp)
    .rw[aY L]at o;rw[<-o];refine bh g [(61,ae),(1000018,ab)] rfl ?_ ?_
     .simp only[ay,bA,bM,aF,aD];and_intros<;>omega
     exact out _ _ rfl (by simp)
   by_cases I:b-i2≥2
   .rw[bl I]at f;obtain⟨d5,w⟩:∃d5,shiftUp ltInt b (i2+1) d3=d5:=⟨_,rfl⟩;rw[w]at f;refine bh g [(98,ab)] rfl ?_ ?_
    .simp only[ay,bA,aZ,aF,aD];and_intros<;>omega
    refine AK.j1 (S2:=Unit) 6 rfl rfl (λ_=>d5.size=n) (λ_=>QN n a b i2 (s+1)) (λ_=>[bI n d5]) 1 (λs:Nat×Array Int=>s.2.size=n/\1<=s.1/\s.1<=b/\shiftUp ltInt b s.1 s.2=d5) (λs2=>QN n a b i2 (s+1)++[(10,dI s2.1)]) (λs=>[bI n s.2]) (λs=>b-s.1) (i2+1,d3) rfl ?_ rfl ?_ rfl ⟨F,by grind,by grind,w⟩ ?_ ?_
    .simp only[ay.cat,ay,aF,aD];omega
    .simp[cy]
    .rintro h ⟨j,d4⟩ ⟨m,v,D,l⟩;simp only at m v D l;by_cases N:j<b
     .have t:((j:Int)-1).toNat=j-1:=by omega
      cases p:ltInt d4[j]! d4[j-1]! with
      |true =>
       refine bh g [(103,ab),(115,ab)] rfl ?_ (AK.aQ (j+1,swp d4 j (j-1)) rfl ?_ ?_ ?_ ?_)
       .simp only[ay,bC,cd,t,p,bA,aZ,aF,aD];and_intros<;>omega
       .simp only[ay.cat,ay,aF,aD];omega
       .simp only[ay.cat,ay,bC,cd,t,aD,aF];exact hU m (by omega) (by omega) (λ_ _=>rfl)
       .grind [size_swp,Ma]
       grind
      |false =>
       refine bh g [(103,ab),(115,ae)] rfl ?_ (AK.leaveD rfl rfl ?_)
       .simp only[ay,bC,cd,t,p,bA,aZ,aF,aD];and_intros<;>omega
       have e:d5=d4:=by grind[C4]
       exact h () (by grind) rfl (by simp) rfl (by simp[cy,e])
     .refine bh g [(103,ae)] rfl ?_ (AK.leaveD rfl rfl ?_)
      .simp only[ay,bM];omega
      have e:d5=d4:=by grind[C4]
      exact h () (by grind) rfl (by simp) rfl (by simp[cy,e])
    rintro⟨⟩ y;refine cm g rfl ?_ (AK.aQ (s,i2,d5) rfl ?_ ?_ ?_ ?_)
    .simp only[ay,bA];omega
    .simp only[ay.cat,ay,aF,aD];omega
    .simp[cy]
    .grind
    grind
   .rw[aY I]at f;refine bh g [(98,ae)] rfl ?_ (AK.aQ (s,i2,d3) rfl ?_ ?_ ?_ ?_)
    .simp only[ay,bA,bM,aF,aD];and_intros<;>omega
    .simp only[ay.cat,ay,aF,aD];omega
    .simp[cy]
    .grind
    grind
 rintro⟨⟩ E;refine cm g rfl aw (AK.cY [0] rfl ?_ rfl rfl rfl ic);simp[E]
end
section
open Go.Proofs
open Go.Sort (swp pdq rd Rd Below SWO insertionSort heapSort breakPatterns choosePivot reverseRange partialInsertionSort partition partitionEqual Hint ltInt PermIn SortedIn)
variable {X:Cx ag}
abbrev Wp(n a b c:Nat)(wb wp:Bool):Fr:=[(0,kH n),(1,dI a),(2,dI b),(3,dI c),(8,dB wb),(9,dB wp)]
def y8{h:Hint}:nR h=2↔h=.decreasing:=by cases h<;>simp[nR]
def tX{h:Hint}:nR h=1↔h=.increasing:=by cases h<;>simp[nR]
structure PqS where
 a:Nat
 b:Nat
 lim:Nat
 wb:Bool
 wp:Bool
 d:Array Int
def Pe(n:Nat)(d:Array Int){a b:Nat}(h:d.size=n)(f:b<=n)(c:a<=n)(g:n<=4000000){r:Array Int}(e:r=insertionSort ltInt d a b):Ev X 191 [kH n,dI a,dI b] [bI n d] (.fa []) [bI n r]:=by grind[Ti]
def Mb(n:Nat)(d:Array Int){a b:Nat}(i:d.size=n)(c:a<=b)(h:1<=b-a)(f:b<=n)(g:n<=4000000){r:Array Int}(e:r=heapSort ltInt d a b):Ev X 192 [kH n,dI a,dI b] [bI n d] (.fa []) [bI n r]:=by grind[Pf]
def Tj(n:Nat)(G:n<=4000000):∀(m:Nat)(d:Array Int)(a b lim:Nat),b-a<=m->d.size=n->a<=b->b<=n->lim<=100->Below ltInt a b d ->
  ∀{x y z:Int},x=a->y=b->z=lim->∀{R:Array Int},R=pdq ltInt d a b lim ab ab->Ev X 152 [kH n,dI x,dI y,dI z] [bI n d] (.fa []) [bI n R]:=by
 have i:bF X [(197,uC)]:=.cons xE .nil;have C:SWO ltInt:=Go.Sort.swo_ltInt;have hpi:=Go.Sort.partialInsertionSort_holds (lt:=ltInt);have hpt:=Go.Sort.partition_holds ltInt;have Z:=Go.Sort.partitionEqual_holds ltInt;have S:=Go.Sort.reverseRange_holds (α:=Int);have T:=Go.Sort.pdq_sorts ltInt;intro m;induction m using Nat.strongRecOn with
 |_ m ih =>
 intro d a b lim hm hd hab hb hl hB x y z hx hy hz R hR;subst hx hy hz;refine Ev.bQ Tryz.func152 rfl λhf=>?_;refine cm i rfl aw ?_;refine AK.cC 1 (λs:PqS=>s.d.size=n/\s.a<=s.b/\s.b<=n/\s.lim<=100/\s.b-s.a<=b-a/\Below ltInt s.a s.b s.d/\pdq ltInt s.d s.a s.b s.lim s.wb s.wp=R) (λs=>Wp n s.a s.b s.lim s.wb s.wp) (λs=>[bI n s.d]) (λs=>s.b-s.a) ⟨a,b,lim,ab,ab,d⟩ rfl ?_ rfl ?_ rfl ⟨hd,hab,hb,hl,bg _,hB,hR.symm⟩ ?_
 .simp
 .simp[cy]
 clear hf hB hd hR;rintro⟨f,h,q,wb,wp,d1⟩ ⟨N,v,j,US,YD,hB,k⟩;simp only at N v j US YD hB k;by_cases B:h-f<=12
 .rw[Go.Sort.pdq_small B]at k;refine bh i [(23,ab)] rfl ?_ ?_
  .simp only[ay,bA,aZ];and_intros<;>omega
  refine AK.cQ (Pe n d1 (a:=f) (b:=h) N j (by omega) G k.symm) [0] rfl ?_;refine cm i rfl aw (AK.fJ (cw.mk [0] rfl aw rfl rfl rfl ic))
 by_cases M:q=0
 .rw[Go.Sort.pdq_heap B M]at k;refine bh i [(23,ae),(29,ab)] rfl ?_ ?_
  .simp only[ay,bA,bM,hI];and_intros<;>omega
  refine AK.cQ (Mb n d1 (a:=f) (b:=h) N v (by omega) j G k.symm) [0] rfl ?_;refine cm i rfl aw (AK.fJ (cw.mk [0] rfl aw rfl rfl rfl ic))
 have l:f<h:=by omega
 obtain⟨f1,f2,f3,f4,f5,V,W,f8⟩:=Go.Sort.rd_facts (limit:=q) (wb:=wb) (wp:=wp) C hpi S l (by grind) hB;have fl:=Go.Sort.rd_lim_le (lt:=ltInt) (d:=d1) (a:=f) (b:=h) (limit:=q) (wb:=wb) (wp:=wp);have Q:=Go.Sort.rd_dec (lt:=ltInt) (d:=d1) (a:=f) (b:=h) (limit:=q) (wb:=wb) (wp:=wp);have U:=Go.Sort.rd_not (lt:=ltInt) (d:=d1) (a:=f) (b:=h) (limit:=q) (wb:=wb) (wp:=wp);have H:=Go.Sort.rd_pi_yes (lt:=ltInt) (d:=d1) (a:=f) (b:=h) (limit:=q) (wb:=wb) (wp:=wp);have fno:=Go.Sort.rd_pi_no (lt:=ltInt) (d:=d1) (a:=f) (b:=h) (limit:=q) (wb:=wb) (wp:=wp);have fc:=Go.Sort.rd_c (lt:=ltInt) (d:=d1) (a:=f) (b:=h) (limit:=q) (wb:=wb) (wp:=wp);have fd1:wb=ae->(rd ltInt d1 f h q wb wp).d1=breakPatterns d1 f h/\(rd ltInt d1 f h q wb wp).lim=q-1:=by grind[Go.Sort.rd_false]
 have fd2:wb=ab->(rd ltInt d1 f h q wb wp).d1=d1/\(rd ltInt d1 f h q wb wp).lim=q:=by grind[Go.Sort.rd_true]
 have E:=Go.Sort.pdq_done (lt:=ltInt) (d:=d1) (wb:=wb) (wp:=wp) B M;have geq:=Go.Sort.pdq_eq (lt:=ltInt) (d:=d1) (wb:=wb) (wp:=wp) B M;have D:=Go.Sort.pdq_left (lt:=ltInt) (d:=d1) (wb:=wb) (wp:=wp) B M;have A:=Go.Sort.pdq_right (lt:=ltInt) (d:=d1) (wb:=wb) (wp:=wp) B M;rw[N]at f1 f4 W;rw[k]at E geq D A;generalize rd ltInt d1 f h q wb wp=r at *;apply AK.join (Wp n f h r.lim wb wp++[(10,dI ((h-f:Nat):Int))]) [bI n r.d1]
 .intro out;cases wb with
  |false =>
   obtain⟨I,J⟩:=fd1 rfl;refine bh i [(23,ae),(29,ae)] rfl ?_ ?_
   .simp only[ay,bA,bM,eD,du];and_intros<;>omega
   refine AK.cQ (Mc n d1 f h N v j G) [0] rfl ?_;rw[<-I];refine bh i [(1000010,ab)] rfl ?_ ?_
   .simp only[ay,bA];and_intros<;>omega
   exact out _ _ rfl (by simp only[ay.cat,ay,J,aF,aD];and_intros<;>omega)
  |true =>
   obtain⟨I,J⟩:=fd2 rfl;subst I;refine bh i [(23,ae),(29,ae),(1000010,ab)] rfl ?_ ?_
   .simp only[ay,bA,bM,eD,du];and_intros<;>omega
   exact out _ _ rfl (by simp only[ay.cat,ay,J,aF,aD];and_intros<;>omega)
 refine cm i rfl aw ?_;refine AK.cQ (Iy n r.d1 f h v j (by omega) G) [0] rfl ?_;rw[<-fc];apply AK.join (Wp n f h r.lim wb wp++[(10,dI ((h-f:Nat):Int)),(11,dI r.pivot),(12,dI (nR r.hint))]) [bI n r.d2]
 .intro out;by_cases u:r.c.2=.decreasing
  .obtain⟨I,J,e3⟩:=Q u;refine bh i [(50,ab)] rfl ?_ ?_
   .simp only[ay,hI,y8];exact u
   refine AK.cQ (Tk n r.d1 f h f1 (by omega) (by omega) j G) [0] rfl ?_;rw[<-I];refine bh i [(1000015,ab)] rfl ?_ ?_
   .simp only[ay,bA];and_intros<;>omega
   exact out _ _ rfl (by simp only[ay.cat,ay,J,e3,nR,aF,aD];and_intros<;>omega)
  .obtain⟨I,J,e3⟩:=U u;rw[<-I];refine bh i [(50,ae),(1000015,ab)] rfl ?_ ?_
   .simp only[ay,eD,du,y8];exact u
   exact out _ _ rfl (by simp only[ay.cat,ay,J,e3,aF,aD])
 by_cases t:r.pi.2=ab
 ·
  have p:(wb&&wp&&decide (r.hint=.increasing))=ab:=by grind
  have e:=H p;simp only[bS,aZ]at p;obtain⟨⟨rfl,rfl⟩,F⟩:=p;refine bh i [(67,ab)] rfl ?_ ?_
  .simp only[ay,hI,tX];exact F
  refine AK.cQ (xG n r.d2 f h f4 l j G) [0] rfl ?_;rw[<-e,t,<-E t];refine cm i rfl aw (AK.fJ (cw.mk [0] rfl aw rfl rfl rfl ic))
 rw[oc]at t;apply AK.join (Wp n f h r.lim wb wp++[(10,dI ((h-f:Nat):Int)),(11,dI r.pivot)]) [bI n r.pi.1]
 .intro out;cases o:(wb&&wp&&decide (r.hint=.increasing))with
  |true =>
   have e:=H o;simp only[bS,aZ]at o;obtain⟨⟨rfl,rfl⟩,F⟩:=o;refine bh i [(67,ab)] rfl ?_ ?_
   .simp only[ay,hI,tX];exact F
   refine AK.cQ (xG n r.d2 f h f4 l j G) [0] rfl ?_;rw[<-e,t];refine bh i [(1000017,ab)] rfl aw ?_;exact out _ _ rfl (by simp)
  |false =>
   have e:r.d2=r.pi.1:=by grind
   rw[e];cases wb with
   |false =>
    refine bh i [(1000017,ab)] rfl aw ?_;exact out _ _ rfl (by simp)
   |true =>
    cases wp with
    |false =>
     refine bh i [(1000017,ab)] rfl aw ?_;exact out _ _ rfl (by simp)
    |true =>
     refine bh i [(67,ae),(1000017,ab)] rfl ?_ ?_
     .simp only[ay,eD,du,tX];grind
     exact out _ _ rfl (by simp)
 have ep:((f:Int)-1).toNat=f-1:=by omega
 cases o:(decide (f>0)&&!ltInt r.pi.1[f-1]! r.pi.1[r.pivot]!)with
 |true =>
  have w:=o;simp only[bS,aZ,j7]at w;obtain⟨K,q2,L,q4,_⟩:=Go.Sort.round_eq (mid:=(partitionEqual ltInt r.pi.1 f h r.pivot).1) (d4:=(partitionEqual ltInt r.pi.1 f h r.pivot).2) C Z w.1 V.1 V.2 (by grind) f8 w.2 rfl;have g:=geq t o ⟨K,q2⟩;refine bh i [(74,ab),(85,ae)] rfl ?_ ?_
  .simp only[ay,bC,cd,ep,w.2,bA,aZ,aF,aD];and_intros<;>omega
  refine AK.cQ (Iz n r.pi.1 f h r.pivot W l j (by omega) G) [0] rfl ?_;refine cm i rfl aw (AK.aQ ⟨(partitionEqual ltInt r.pi.1 f h r.pivot).1,h,r.lim,wb,wp,(partitionEqual ltInt r.pi.1 f h r.pivot).2⟩ rfl ?_ ?_ ?_ ?_)
  .simp
  .simp[cy]
  .grind
  grind
 |false =>
  obtain⟨K,q2,L,q4,q5,q6,q7⟩:=Go.Sort.round_part (mid:=(partition ltInt r.pi.1 f h r.pivot).1) (ap:=(partition ltInt r.pi.1 f h r.pivot).2.1) (d4:=(partition ltInt r.pi.1 f h r.pivot).2.2) C hpt V.1 V.2 (by grind) f8 rfl;apply AK.join (Wp n f h r.lim wb wp++[(10,dI ((h-f:Nat):Int)),(11,dI r.pivot)]) [bI n r.pi.1]
  .intro out;by_cases ha0:0<f
   .have Y:ltInt r.pi.1[f-1]! r.pi.1[r.pivot]! = ab:=by grind
    refine bh i [(74,ab),(85,ab),(1000020,ab)] rfl ?_ ?_
    .simp only[ay,bC,cd,ep,Y,bA,aZ,aF,aD];and_intros<;>omega
    exact out _ _ rfl (by simp)
   .refine bh i [(74,ae),(1000020,ab)] rfl ?_ ?_
    .simp only[ay,bM];omega
    exact out _ _ rfl (by simp)
  refine cm i rfl aw ?_;refine AK.cQ (Pg n r.pi.1 f h r.pivot W l j (by omega) G) [0] rfl ?_;have gl:=D t o ⟨K,q2⟩;have gr:=A t o ⟨K,q2⟩;generalize partition ltInt r.pi.1 f h r.pivot=P at *;rw[W]at L;by_cases O:P.1-f<h-P.1
  .have g:=gl O;obtain⟨w1,w2⟩:=T C P.2.2 f P.1 r.lim ab ab K (by grind) q4;obtain⟨w3,_⟩:=q6 _ w1 w2;refine bh i [(113,ab)] rfl ?_ ?_
   .simp only[ay,bA,aZ,aF,aD];and_intros<;>omega
   refine AK.cQ (ih (P.1-f) (by omega) P.2.2 f P.1 r.lim (bg _) L K (by omega) (by omega) q4 rfl rfl rfl rfl) [0] rfl ?_;refine cm i rfl ?_ (AK.aQ ⟨P.1+1,h,r.lim,decide (P.1-f≥(h-f) / 8),P.2.1,pdq ltInt P.2.2 f P.1 r.lim ab ab⟩ rfl ?_ ?_ ?_ ?_)
   .simp only[ay,bA,aF,aD];and_intros<;>omega
   .simp only[ay.cat,ay,aF,aD];grind
   .simp[cy]
   .exact⟨by simp only;rw[w1.1,L],by grind,j,by grind,by grind,w3,g.symm⟩
   grind
  .have g:=gr O;obtain⟨w1,w2⟩:=T C P.2.2 (P.1+1) h r.lim ab ab (by omega) (by grind) q5;obtain⟨w3,_⟩:=q7 _ w1 w2;refine bh i [(113,ae)] rfl ?_ ?_
   .simp only[ay,bA,bM,aF,aD];and_intros<;>omega
   refine AK.cQ (ih (h-(P.1+1)) (by omega) P.2.2 (P.1+1) h r.lim (bg _) L (by omega) j (by omega) q5 (x:=(P.1:Int)+1) (by omega) rfl rfl rfl) [0] rfl ?_;refine cm i rfl ?_ (AK.aQ ⟨f,P.1,r.lim,decide (h-P.1≥(h-f) / 8),P.2.1,pdq ltInt P.2.2 (P.1+1) h r.lim ab ab⟩ rfl ?_ ?_ ?_ ?_)
   .trivial
   .simp only[ay.cat,ay,aF,aD];grind
   .simp[cy]
   .exact⟨by simp only;rw[w1.1,L],by grind,by grind,by grind,by grind,w3,g.symm⟩
   grind
end
section
open Go.Proofs
open Go.Sort (pdq bitsLen ltInt Below)
variable {X:Cx ag}
def oO(l:List Int):List Int:=l.mergeSort λx y=>decide (x<=y)
def lK(l:List Int):(oO l).length=l.length:=List.length_mergeSort _
def Md(l:List Int):pdq ltInt l.toArray 0 l.length (bitsLen l.length) ab ab=(oO l).toArray:=by have h:=Go.Sort.sortInt l;unfold Go.Sort.sort at h;rw[List.size_toArray]at h;exact Array.ext' (by rw[h];rfl)
theorem Wq(l:List Int):eI l.toArray=cI.fn l:=by funext j;simp only[eI,kF.fn,ya,cI,an];simp
abbrev IX(n:Nat)(l:List Int):aP:=.buf 3 1 n (cI.fn l)
def LC(l:List Int)(a:l.length<=4000000):Ev X 104 [kH l.length] [IX l.length l] (.fa []) [IX l.length (oO l)]:=by
 refine Ev.bQ Tryz.func104 rfl λb=>?_;refine di rfl (by simp only[ay,bA];and_intros<;>omega) ?_;refine AK.cQ (Me l.length a) [] rfl ?_;refine di rfl aw ?_;have c:=ky (x:=l.length) (k:=22) (by grind);have key:Ev X 152 [kH l.length,dI 0,dI l.length,dI (bitsLen l.length)] [IX l.length l] (.fa []) [IX l.length (oO l)]:=by have:=Tj (X:=X) l.length a l.length l.toArray 0 l.length (bitsLen l.length) (by omega) (by simp) (by omega) (bg _) (by omega) (.inl rfl) (x:=0) rfl rfl rfl (Md l).symm;grind[Wq]
 refine AK.cQ key [0] rfl ?_;refine di rfl aw ?_;exact cw.px [0] rfl aw rfl rfl rfl ic
def lu(l:List Int):Nat->List Int
 |0=>[]
 |j+1=>if j≠0/\l.getD j 0=l.getD (j-1) 0 then lu l j else lu l j++[l.getD j 0]
def ez(l:List Int):List Int:=lu l l.length
def sO(l:List Int):∀j,(lu l j).length<=j
 |0=>bg _
 |j+1=>by have:=sO l j;simp only[lu];grind
def nQ{l:List Int}:∀{k:Nat},k<=l.length->(∀i,1<=i->i<k->l.getD i 0≠l.getD (i-1) 0)->lu l k=l.take k
 |0,_,_=>by simp[lu]
 |k+1,hk,h=>by rw[lu,aY,nQ (by omega) λi a b=>h i a (by omega),bT (by omega) 0];grind
structure CoP(l:List Int)(k0:Nat)(k2:Nat)(ys:List Int):Prop where
 h1:1<=k2
 hj:k0+k2<=l.length
 len:ys.length=l.length
 lt:(lu l (k0+k2)).length<k0+k2
 done:ys.take (lu l (k0+k2)).length=lu l (k0+k2)
 rest:∀i,k0+k2<=i+1->ys.getD i 0=l.getD i 0
abbrev Wr(a:List Int):Type:={es:Nat->List C // ∀i,i<a.length->es i=cI.fn a i}
def EZ(l:List Int)(J:l.length<=4000000):dZ (ι:=Wr (ez l)) X 105 [kH l.length] [IX l.length l] (λ_=>.e (.one (.bp 0 (.sl l.length 1 0 (ez l).length)))) (λes=>[.buf 3 1 l.length es.1]):=by
 refine dZ.qQ Tryz.func105 rfl rfl rfl λI=>?_;by_cases F:l.length<2
 .have f:ez l=l:=by unfold ez;rw[nQ (bg _) λi _ _=>by omega,dh]
  refine bL [(8,ab)] rfl (by simp only[ay,aZ];omega) (AK.nL ⟨cI.fn l,λi _=>by rw[f]⟩ (AK.cY [0] rfl ?_ rfl rfl rfl ic));simp[f]
 refine bL [(8,ae)] rfl (by simp only[ay,bM];omega) ?_;refine AK.j1 (S2:=Unit) 0 rfl rfl (λ_=>ez l=l) (λ_=>[(0,kH l.length)]) (λ_=>[IX l.length l]) 1 (λk:Nat=>1<=k/\k<=l.length/\∀i,1<=i->i<k->l.getD i 0≠l.getD (i-1) 0) (λk=>[(0,kH l.length),(3,dI k)]) (λ_=>[IX l.length l]) (λk=>l.length-k) 1 rfl ?_ rfl ?_ rfl ⟨bg _,by omega,λi H F=>by omega⟩ ?_ ?_
 .simp
 .simp
 .rintro out k ⟨D,hk,d⟩;by_cases z:k<l.length
  .have v:((k:Int)-1).toNat=k-1:=by omega
   have w:∀j,l.getD j cI.b7=l.getD j 0:=λ_=>rfl;by_cases g:l.getD k 0=l.getD (k-1) 0
   .refine bL [(13,ab),(25,ab)] rfl ?_ ?_
    .simp only[ay,bC,cd,v,w,g,bA,aZ,jz,aF,aD];and_intros<;>omega
    have hT:=nQ (l:=l) (by omega) d;have E:lu l (k+1)=l.take k:=by rw[lu,bl ⟨by omega,g⟩,hT]
    refine AK.j1 (S2:=List Int) 2 rfl rfl (λc=>c.length=l.length/\c.take (ez l).length=ez l) (λ_=>[(0,kH l.length),(3,dI (ez l).length)]) (λc=>[IX l.length c]) 1 (λs:Nat×List Int=>CoP l k s.1 s.2) (λs=>[(0,kH l.length),(3,dI (lu l (k+s.1)).length),(4,.e (.one (.bp 0 (.sl l.length 1 k (l.length-k))))),(5,dI s.1)]) (λs=>[IX l.length s.2]) (λs=>l.length-s.1) (1,l) rfl ?_ rfl ?_ rfl ?_ ?_ ?_
    .simp only[ay.cat,ay,E,List.length_take,cO,bC,cd,aF,aD];exact⟨by omega,rfl,rfl⟩
    .simp
    .exact⟨bg _,by omega,rfl,by grind,by grind,λ_ _=>rfl⟩
    .rintro h ⟨b,c⟩ ⟨c1,c2,c3,c4,m,o⟩;simp only at c1 c2 c3 c4 m o;by_cases C:k+b<l.length
     .have x:((b:Int)-1).toNat=b-1:=by omega
      have q:∀j,c.getD j cI.b7=c.getD j 0:=λ_=>rfl;have r:c.getD (k+b) 0=l.getD (k+b) 0:=o _ (by omega);have t:c.getD (k+(b-1)) 0=l.getD (k+(b-1)) 0:=o _ (by omega);by_cases n:l.getD (k+b) 0=l.getD (k+(b-1)) 0
      .have p:lu l (k+(b+1))=lu l (k+b):=by rw[show k+(b+1)=k+b+1 by omega,lu,bl ⟨by omega,by rw[n,show k+b-1=k+(b-1) by omega]⟩]
       refine bL [(32,ab),(44,ae)] rfl ?_ (AK.aQ (b+1,c) rfl ?_ ?_ ?_ ?_)
       .simp only[ay,bC,cd,x,q,r,t,n,bA,aZ,n6,j8,jz,aF,aD];and_intros<;>first|trivial|omega
       .simp only[ay.cat,ay,p,aF,aD];omega
       .simp
       .exact⟨by grind,by grind,c3,by grind,by grind,λi hi=>o i (by grind)⟩
       .simp only;omega
      .have p:lu l (k+(b+1))=lu l (k+b)++[l.getD (k+b) 0]:=by rw[show k+(b+1)=k+b+1 by omega,lu,aY];rintro⟨_,g⟩;exact n (by rw[g,show k+b-1=k+(b-1) by omega])
       refine bL [(32,ab),(44,ab)] rfl ?_ (AK.aQ (b+1,c.set (lu l (k+b)).length (l.getD (k+b) 0)) rfl ?_ ?_ ?_ ?_)
       .simp only[ay,bC,cd,x,q,r,t,bA,aZ,j7,eD,lG,du,aF,aD];and_intros<;>first|exact n|omega
       .simp only[ay.cat,ay,p,cA,er,fG,aF,aD];and_intros<;>omega
       .have e:=cI.Su c (lu l (k+b)).length (l.getD (k+b) 0) l.length (by omega);simp only[ay.cat,ay,bC,cd,q,r,aD,aF];exact e
       .refine⟨by grind,by grind,by grind,by grind,?_,λi hi=>?_⟩
        .simp only;rw[p,cA,show ∀a:Int,[a].length=1 fromλ_=>rfl,lf,List.take_set,List.set_eq_of_length_le (by grind),m,fZ (by omega)];rfl
        .simp only at hi⊢;rw[an,j6 (by omega),<-an];grind
       .simp only;omega
     .have G:k+b=l.length:=by omega
      have u:lu l (k+b)=ez l:=by rw[G];rfl
      refine bL [(32,ae)] rfl ?_ (AK.leaveD rfl rfl ?_)
      .simp only[ay,bM];omega
      rw[u]at m;exact h c ⟨c3,m⟩ rfl (by simp[u]) rfl (by simp)
    rintro c ⟨A,y⟩;have B:(ez l).length<=l.length:=sO l _;refine di rfl ?_ ?_
    .simp only[ay];grind
    refine AK.law (bG.Rc tok rfl rfl rfl rfl rfl rfl ?_) rfl rfl ?_
    .simp only[cO,cd];omega
    refine bu rfl ?_ (AK.fJ ⟨⟨tg (0+cO 0 (aa ((ez l).length:Int))) (0+cO 0 (aa ((ez l).length:Int))+(cO l.length af-cO 0 (aa ((ez l).length:Int)))) i3.zero (cI.fn c),λi hi=>?_⟩,cw.mk [0] rfl ?_ rfl rfl rfl ic⟩)
    .simp only[ay];grind
    .have e:c[i]?=(ez l)[i]?:=by grind
     refine(EK (by simp only[cO,cd];omega)).trans ?_;simp only[kF.fn,ya,an,e]
    .simp[cO];rfl
   .refine bL [(13,ab),(25,ae)] rfl ?_ (AK.aQ (k+1) rfl ?_ ?_ ?_ ?_)
    .simp only[ay,bC,cd,v,w,bA,aZ,eD,du,aF,aD];and_intros<;>first|exact g|omega
    .simp
    .simp
    .grind
    .omega
  .obtain rfl:k=l.length:=by omega
   refine bL [(13,ae)] rfl (by simp) (AK.leaveD rfl rfl ?_);exact out () (by unfold ez;rw[nQ (bg _) d,dh]) rfl (by simp) rfl (by simp)
 rintro⟨⟩ f;refine di rfl aw (AK.nL ⟨cI.fn l,λi _=>by rw[f]⟩ (AK.cY [0] rfl ?_ rfl rfl rfl ic));simp[f]
end
section
open Go.Proofs
variable {X:Cx ag}
def AJ(l:List jS):List Int:=l.flatMap (·.2)
def _root_.Go.AM.kF.SX{α:Type}(c:kF α)(a b:List α)(n:Nat)(d:n=(a++b).length):cy n (cE a.length (c.fn a) (c.fn b)) (c.fn (a++b)):=by intro i hi;simp only[cE,kF.fn,ya,an];grind
def AO(l:List Int):(ez l).length<=l.length:=sO l _
def Sv(n lo hi:Int):Ev X 23 [dI n,dI lo,dI hi] [] (dB (decide (lo<=n/\n<=hi))) []:=by
 refine Ev.bQ Tryz.func23 rfl λc=>?_;by_cases b:lo<=n
 .by_cases a:n<=hi
  .refine aW [(10,ab),(14,ab)] rfl (by simp;omega) (AK.bx rfl ?_);simp[b,a]
  .refine aW [(10,ab),(14,ae)] rfl (by simp;omega) (AK.bx rfl ?_);simp;omega
 .refine aW [(10,ae),(14,ae)] rfl (by simp;omega) (AK.bx rfl ?_);simp;omega
abbrev Cp:dv:=Et aI aI aI (λn lo hi=>dB (decide (lo<=n/\n<=hi))) λ_ _ _=>[]
def EM:eb X 23 Cp:=.KA λn lo hi _=>Sv n lo hi
def HU(n:Nat)(e:n<=4000000):Ev X 156 [dI n] [] (dI (cK n)) []:=by
 refine Ev.bQ Tryz.func156 rfl λf=>?_;by_cases d:n<1
 .refine aW [(6,ab),(9,ab)] rfl (by simp;omega) (AK.bx rfl ?_);have:cK n=0:=by simp[cK,d]
  simp[this]
 by_cases c:8<n
 .refine aW [(6,ae),(9,ab)] rfl (by simp;omega) (AK.bx rfl ?_);have:cK n=0:=by simp[cK,c]
  simp[this]
 by_cases a:n<=2
 .refine aW [(6,ae),(9,ae),(10,ab)] rfl (by simp;omega) (AK.bx rfl ?_);have:cK n=2:=by simp only[cK,aY (show¬(n<1∨8<n) by omega),bl a]
  simp[this]
 by_cases b:n<=4
 .refine aW [(6,ae),(9,ae),(10,ae),(13,ab)] rfl (by simp;omega) (AK.bx rfl ?_);have:cK n=4:=by simp only[cK,aY (show¬(n<1∨8<n) by omega),aY a,bl b]
  simp[this]
 .refine aW [(6,ae),(9,ae),(10,ae),(13,ae)] rfl (by simp;omega) (AK.bx rfl ?_);have:cK n=8:=by simp only[cK,aY (show¬(n<1∨8<n) by omega),aY a,aY b]
  simp[this]
def OE(l:List Bs)(p:Bs)(e:l.length<=4000000):Ev X 114 [cS.sl l,dS p] [] (dB (l.contains p)) []:=by
 refine Ev.bQ Tryz.func114 rfl λc=>?_;refine bu rfl aw ?_;refine AK.cC 0 (λi=>i<=l.length/\∀j,j<i->l.getD j []≠p) (λi:Nat=>[(0,cS.sl l),(1,dS p),(5,dI i)]) (λ_=>[]) (λi=>l.length-i) 0 rfl ?_ rfl ?_ rfl ⟨by omega,by omega⟩ ?_
 .simp
 .simp
 rintro i ⟨hi,a⟩;by_cases h:i<l.length
 .have b:l.getD (i:Int).toNat cS.b7=l.getD i []:=by grind
  by_cases f:l.getD i []=p
  .refine aW [(9,ab),(17,ab)] rfl ?_ (AK.fJ (cw.zero rfl ?_))
   .simp only[ay,b];grind
   .have:p∈l:=by grind
    simp[this]
  .refine aW [(9,ab),(17,ae)] rfl ?_ (AK.aQ (i+1) rfl ?_ ?_ ?_ ?_)
   .simp only[ay,b,bA];grind
   .simp
   .simp
   .grind
   .omega
 .refine aW [(9,ae)] rfl (by simp;omega) (AK.leaveD rfl rfl ?_);refine bu rfl aw (AK.bx rfl ?_);have:¬p∈l:=λd=>by grind[List.getElem_of_mem]
  simp[this]
def KV(p:Bs)(b:bt p=ab):Ev X 155 [dS p] [] (dI (codeOf p)) []:=by
 refine Ev.bQ Tryz.func155 rfl λk=>?_;have a:=b;simp only[bt,bS,aZ]at a;refine bu rfl aw ?_;refine AK.cC 0 (λi=>i<=p.length) (λi:Nat=>[(0,dS p),(3,dI (codeOf (p.take i))),(4,dI i)]) (λ_=>[]) (λi=>p.length-i) 0 rfl (by simp[codeOf]) rfl (by simp) rfl (by omega) ?_;intro i hi;by_cases h:i<p.length
 .have f:=jQ b hi;have g:=jQ b (i:=i+1) (by omega);have e:=uv h;have j:=gO a.2 (p.getD i 0) (w8 h);have d:97<=cN p i/\cN p i<=122:=by unfold cN;omega
  refine aW [(8,ab)] rfl ?_ (AK.aQ (i+1) rfl ?_ ?_ ?_ ?_)
  .simp only[ay,cR,bA];grind
  .have c:(cN p i-97) % 256=cN p i-97:=Int.emod_eq_of_lt (by omega) (by omega);rw[c]at e;simp[-an,cR,e]
  .simp
  .grind
  grind
 .obtain rfl:i=p.length:=by omega
  refine aW [(8,ae)] rfl (by simp) (AK.leaveD rfl rfl ?_);exact bu rfl aw (AK.bx rfl)
def Sw:eb X 155 (kq aS (λp=>dI (codeOf p)) λp=>[bt p=ab]):=.pD λp h=>KV p h
def KW(k:Int)(p:Bs)(hk:b6 k=ab)(d:bt p=ab):Ev X 113 [dI k,dS p] [] (dI (ek k p)) []:=by
 refine Ev.bQ Tryz.func113 rfl λg=>?_;have f:bF X [(155,kq aS (λp=>dI (codeOf p)) λp=>[bt p=ab])]:=.cons Sw .nil;have a:=hk;simp only[b6,bS,aZ]at a;have b:=qv d;refine cg f rfl ?_ (AK.bx rfl ?_)
 .have e:0<=codeOf p*(2*k+1):=Int.mul_nonneg b.1 (by omega);have c:codeOf p*(2*k+1)<=282429536481*199:=Int.mul_le_mul (by omega) (by omega) (by omega) (by omega);generalize codeOf p*(2*k+1)=m at e c;simp only[ay,bA];grind
 .show (_:Int)=_;rfl
def tJ:eb X 113 (oX aI aS (λk p=>dI (ek k p)) λk p=>[b6 k=ab,bt p=ab]):=.sC λk p h=>KW k p h.1 h.2
def KX(l:List cu)(n:Int)(d:l.length<=4000000):Ev X 112 [nW.sl l,dI n] [] (dI (mH l n)) []:=by
 refine Ev.bQ Tryz.func112 rfl λc=>?_;refine bu rfl aw ?_;refine AK.cC 0 (λi=>i<=l.length/\∀j,j<i->(l.getD j (0,0)).1≠n) (λi:Nat=>[(0,nW.sl l),(1,dI n),(5,dI i)]) (λ_=>[]) (λi=>l.length-i) 0 rfl ?_ rfl ?_ rfl ⟨by omega,by omega⟩ ?_
 .simp
 .simp
 rintro i ⟨hi,b⟩;by_cases h:i<l.length
 .have a:l.getD (i:Int).toNat nW.b7=l.getD i (0,0):=by grind
  by_cases e:(l.getD i (0,0)).1=n
  .refine aW [(9,ab),(18,ab)] rfl ?_ (AK.fJ (cw.zero rfl ?_))
   .simp only[ay,a];grind
   .have:mH l n=(l.getD i (0,0)).2:=by
     have:l.find? (λs=>s.1==n)=aa (l.getD i (0,0)):=by grind[List.find?_eq_some_iff_getElem]
     rw[mH,this]
    simp only[ay,a];grind
  .refine aW [(9,ab),(18,ae)] rfl ?_ (AK.aQ (i+1) rfl ?_ ?_ ?_ ?_)
   .simp only[ay,a,bA];grind
   .simp
   .simp
   .grind
   .omega
 .refine aW [(9,ae)] rfl (by simp;omega) (AK.leaveD rfl rfl ?_);refine bu rfl aw (AK.bx rfl ?_);have:mH l n=0:=by
   have:l.find? (λs=>s.1==n)=af:=by grind[List.getElem_of_mem]
   rw[mH,this]
  simp[this]
theorem xm{n:Nat}(b:1<=n)(a:n<=8):n<=cK n/\cK n<=8:=by unfold cK;grind
abbrev Gv:dv:=kq aI (λn=>dI (cK n.toNat)) λn=>[0<=n/\n<=4000000]
def OF:eb X 156 Gv:=.pD λn h=>by
 obtain⟨m,rfl⟩:∃m:Nat,n=m:=⟨n.toNat,by have:=h.1;omega⟩
 exact HU m (by have:=h.2;omega)
def OG(p:Bs)(c:bt p=ab):Ev X 118 [dS p] [] (dS (eT p)) []:=by
 refine Ev.bQ Tryz.func118 rfl λf=>?_;have b:bF X [(156,Gv)]:=.cons OF .nil;have a:=c;simp only[bt,bS,aZ]at a;have d:=xm a.1.1 a.1.2;refine cg b rfl ?_ ?_
 .simp only[ay];omega
 refine AK.cC 0 (λj=>p.length+j<=cK p.length) (λj:Nat=>[(0,dS (p++List.replicate j 46)),(3,dI (cK p.length))]) (λ_=>[]) (λj=>cK p.length-j) 0 rfl (by simp) rfl (by simp) rfl (by omega) ?_;intro j g;by_cases h:p.length+j<cK p.length
 .refine aV b [(10,ab)] rfl ?_ (AK.aQ (j+1) rfl ?_ ?_ ?_ ?_)
  .simp;omega
  .simp[List.replicate_succ']
  .simp
  .grind
  grind
 .have e:cK p.length-p.length=j:=by omega
  refine aV b [(10,ae)] rfl (by simp;omega) (AK.leaveD rfl rfl ?_);refine cg b rfl aw (AK.bx rfl ?_);simp[eT,c,e]
def KY(s:cu):Ev X 115 [.e (.agg [.c (.int .i64 s.1),.c (.int .i64 s.2)])] [] (dB (eF s)) []:=by
 refine Ev.bQ Tryz.func115 rfl λf=>?_;have d:bF X [(23,Cp)]:=.cons EM .nil;by_cases a:0<=s.1/\s.1<=999999999988
 .by_cases b:1<=s.2/\s.2<=99
  .refine aV d [(6,ab),(10,ab)] rfl (by simp[a,b]) (AK.bx rfl ?_);have:eF s=ab:=by simp[eF,a,b];omega
   simp[this]
  .refine aV d [(6,ab),(10,ae)] rfl (by simp[a,b]<;>omega) (AK.bx rfl ?_);have:eF s=ae:=by simp[eF,a];omega
   simp[this]
 .refine aV d [(6,ae),(10,ae)] rfl (by simp;omega) (AK.bx rfl ?_);have:eF s=ae:=by simp[eF];omega
  simp[this]
abbrev KZ:dv:=kq TV (λs=>dB (eF s)) λ_=>[]
def Sx:eb X 115 KZ:=.pD λs _=>KY s
def K3(s:Bs)(i:Nat)(a:b8 s=ab)(e:3<=i)(hi:i<=s.length)(j:s.length<=4000000):Ev X 223 [dS s,dI i] [] (dB (ju s i)) []:=by
 refine Ev.bQ Tryz.func223 rfl λk=>?_;have g:=HI a (i-1) (by omega);have h:=HI a (i-2) (by omega);have f:=HI a (i-3) (by omega);have d:((iS s ((i:Int)-1)).toNat:Int)=cN s (i-1):=by grind[cR]
 have c:((iS s ((i:Int)-2)).toNat:Int)=cN s (i-2):=by grind[cR]
 have b:((iS s ((i:Int)-3)).toNat:Int)=cN s (i-3):=by grind[cR]
 refine bu rfl ?_ (AK.bx rfl ?_)
 .simp only[ay,bA,d,c,b];omega
 .simp only[ay,ay.cat,d,c,b,ju,dl,aD];grind
abbrev K4:dv:=oX aS aI (λs i=>dB (ju s i.toNat)) λs i=>[b8 s=ab,3<=i,i<=s.length,s.length<=4000000]
def Sy:eb X 223 K4:=.sC λs i h=>by
 obtain⟨b,c,d,a⟩:=h;obtain⟨m,rfl⟩:∃m:Nat,i=m:=⟨i.toNat,by omega⟩
 exact K3 s m b (by omega) (by omega) a
def Sz(t:Bs)(f:Nat)(i:b8 t=ab)(m:f<=t.length)(n:t.length<=4000000):Ev X 202 [dS t,dI f] [] (dI (cutAt t f)) []:=by
 refine Ev.bQ Tryz.func202 rfl λo=>?_;have b:bF X [(223,K4)]:=.cons Sy .nil;refine cg b rfl aw ?_;refine AK.j0 (λj=>j<=5/\tG t f (5-j)=cutAt t f) (λj:Nat=>[(0,dS t),(1,dI f),(5,dI (3+j))]) (λ_=>[]) (λj=>5-j) 0 rfl ?_ rfl aw ⟨by omega,rfl⟩ ?_
 .simp
 rintro j ⟨p,a⟩;by_cases h:j<5
 .obtain⟨k,hk⟩:∃k,5-j=k+1:=⟨4-j,by omega⟩
  have d:f+(7-k)=f+3+j:=by omega
  rw[hk]at a;simp only[tG,d]at a;by_cases g:t.length<=f+3+j
  .rw[bl g]at a;refine aV b [(7,ab),(15,ab)] rfl ?_ (AK.iC (cw.zero rfl ?_))
   .simp only[ay,bA,aZ,aF,aD];omega
   .simp[<-a]
  rw[aY g]at a;have e:((f:Int)+(3+(j:Int))).toNat=f+3+j:=by omega
  cases c:ju t (f+3+j)with
  |true =>
   rw[c,bl rfl]at a;refine aV b [(7,ab),(15,ae),(22,ab)] rfl ?_ (AK.iC (cw.zero rfl ?_))
   .simp only[ay,bA,e,c,i,aZ,bM,aF,aD];omega
   .simp[<-a];omega
  |false =>
   rw[c,aY (by simp)]at a;refine aV b [(7,ab),(15,ae),(22,ae)] rfl ?_ (AK.gj (j+1) rfl ?_ rfl aw ⟨by omega,by grind⟩ (by omega))
   .simp only[ay,bA,e,c,i,aZ,bM,aF,aD];omega
   .simp;omega
 .have e:cutAt t f=min (f+8) t.length:=by rw[<-a,show 5-j=0 by omega];rfl
  have l:bA .i64 ((min (f+8) t.length:Nat):Int):=by simp only[bA];omega
  refine aV b [(7,ae)] rfl ?_ (AK.leave rfl rfl ?_)
  .simp only[ay,bA,aZ,bM];omega
  refine cg b rfl ?_ ?_
  .simp only[ay,bA];omega
  refine AK.law (tF ((min (f+8) t.length:Nat):Int) rfl rfl rfl (by omega) l) rfl rfl ?_;refine cg b rfl aw (AK.bx rfl ?_);simp[e]
abbrev VK:dv:=oX aS aI (λs i=>dI (cutAt s i.toNat)) λs i=>[b8 s=ab,0<=i,i<=s.length,s.length<=4000000]
def Y1:eb X 202 VK:=.sC λs i h=>by
 obtain⟨b,c,d,a⟩:=h;obtain⟨m,rfl⟩:∃m:Nat,i=m:=⟨i.toNat,by omega⟩
 exact Sz s m b (by omega) a
abbrev mJ(t:Bs):List Int:=(Az t).map λn:Nat=>(n:Int)
def K5(t:Bs)(j:b8 t=ab)(m:t.length<=4000000):Ev X 154 [dS t] [] (cI.sl (mJ t)) []:=by
 refine Ev.bQ Tryz.func154 rfl λo=>?_;have a:bF X [(202,VK)]:=.cons Y1 .nil;refine aV a [(1000003,ab)] rfl aw ?_;refine AK.iB 3 3 1 rfl rfl ?_;refine cg a rfl aw ?_;refine AK.cC 1 (λs:Nat×List Int=>s.1<=t.length/\s.2.length<=s.1/\∃k,t.length<=s.1+k/\mJ t=s.2++(mK t k s.1).map λn:Nat=>(n:Int)) (λs=>[(0,dS t),(3,.e (.one (.vec 0 1 s.2.length (cI.fn s.2)))),(4,dI s.1)]) (λs=>[.vec 3 1 s.2.length (cI.fn s.2)]) (λs=>t.length-s.1) (0,[]) rfl ?_ rfl ?_ rfl ⟨by simp,by simp,t.length,by simp,by simp[mJ,Az]⟩ ?_
 .simp
 .simp
 rintro⟨f,acc⟩ ⟨c,b,k,hk,d⟩;simp only at c b hk d;by_cases h:f<t.length
 .obtain⟨k,rfl⟩:∃k',k=k'+1:=⟨k-1,by omega⟩
  have l:=nD t f h;have i:=cI.cj acc (cutAt t f:Int);have g:acc.length+1=(acc++[(cutAt t f:Int)]).length:=by simp
  refine aV a [(9,ab)] rfl ?_ (AK.aQ (cutAt t f,acc++[(cutAt t f:Int)]) rfl ?_ ?_ ?_ ?_)
  .simp only[ay,j,show i3.bytes=8 from rfl,aZ,aF,aD];and_intros<;>omega
  .exact ay.cat.2 ⟨rfl,ay.cat.2 ⟨⟨g,i⟩,ay.cat.2 ⟨rfl,aw⟩⟩⟩
  .exact ay.cat.2 ⟨⟨g,i⟩,aw⟩
  .refine⟨l.2.1,by grind,k,by grind,?_⟩;rw[d];simp only[mK,bl h];simp
  grind
 .have e:mJ t=acc:=by
   have:mK t k f=[]:=by cases k<;>simp[mK,h]
   grind
  refine aV a [(9,ae)] rfl (by simp only[ay,bM];omega) (AK.leaveD rfl rfl ?_);refine cg a rfl aw (AK.bx rfl ?_);rw[e];simp
abbrev K6:dv:=kq aS (λt=>cI.sl (mJ t)) λt=>[b8 t=ab,t.length<=4000000]
def SA:eb X 154 K6:=.pD λt h=>K5 t h.1 h.2
def drop_cons{α:Type}{l r:List α}{i:Nat}{x:α}(h:l.drop i=x::r)(d:α):i<l.length/\l.getD i d=x/\l.drop (i+1)=r:=by grind[List.drop_eq_nil_of_le,List.drop_eq_getElem_cons]
def yM(t:Bs):∀k f,(mK t k f).length<=k
 |0,_=>bg _
 |k+1,f=>by
  simp only[mK];split
  .have:=yM t k (cutAt t f);grind
  .simp
def OI(t:Bs)(v:b8 t=ab)(B:t.length<=4000000):Ev X 111 [dS t] [] (cS.sl (pieces t)) []:=by
 refine Ev.bQ Tryz.func111 rfl λz=>?_;have g:bF X [(154,K6)]:=.cons SA .nil;have A:(mJ t).length<=t.length:=by simp only[mJ,lh];exact yM t _ _
 refine aV g [(1000002,ab)] rfl aw ?_;refine AK.iB 3 9 1 rfl rfl ?_;refine cg g rfl (by simp only[ay,v];grind) ?_;refine AK.cC 1 (λs:Nat×Nat×List Bs=>s.1<=(mJ t).length/\s.2.1<=t.length/\s.2.2.length<=s.1/\∃k,t.length<=s.2.1+k/\(mJ t).drop s.1=((mK t k s.2.1).map λn:Nat=>(n:Int))/\pieces t=s.2.2++fz t k s.2.1) (λs=>[(0,dS t),(3,.e (.one (.vec 0 1 s.2.2.length (cS.fn s.2.2)))),(4,dI s.2.1),(5,cI.sl (mJ t)),(6,dI s.1)]) (λs=>[.vec 9 1 s.2.2.length (cS.fn s.2.2)]) (λs=>(mJ t).length-s.1) (0,0,[]) rfl ?_ rfl ?_ rfl ⟨by simp,by simp,by simp,t.length,by simp,by simp[mJ,Az],by simp[pieces]⟩ ?_
 .simp
 .simp
 rintro⟨i,f,acc⟩ ⟨hi,m,d,k,hk,o,l⟩;simp only at hi m d hk o l;by_cases h:i<(mJ t).length
 .have c:mK t k f≠[]:=by grind[List.length_drop]
  obtain⟨k,rfl⟩:∃k',k=k'+1:=by
   cases k with
   |zero=>exact absurd rfl c
   |succ k=>grind
  have a:f<t.length:=by
   rcases cG f t.length with h|h
   .exact h
   .exact absurd (by simp only[mK,aY (show¬f<t.length by omega)]) c
  simp only[mK,bl a,p9]at o;obtain⟨_,y,w⟩:=drop_cons o 0;have x:=nD t f a;have j:(mJ t).getD (i:Int).toNat cI.b7=(cutAt t f:Int):=by grind
  have b:r9 t (aa (f:Int)) (aa (cutAt t f:Int))=(t.drop f).take (cutAt t f-f):=by simp[r9,List.drop_take]
  have r:=cS.cj acc ((t.drop f).take (cutAt t f-f));have q:acc.length+1=(acc++[(t.drop f).take (cutAt t f-f)]).length:=by simp
  refine aV g [(13,ab)] rfl ?_ (AK.aQ (i+1,cutAt t f,acc++[(t.drop f).take (cutAt t f-f)]) rfl ?_ ?_ ?_ ?_)
  .simp only[ay,j,bA,fR,show i9.bytes=16 from rfl,aZ,aF,aD];and_intros<;>omega
  .simp only[ay.cat,ay,j,b,aF,aD];and_intros<;>first|exact q|exact r|exactλ_ _=>rfl|omega
  .simp only[ay.cat,ay,j,b,aF,aD];and_intros<;>first|exact q|exact r
  .refine⟨by grind,x.2.1,by grind,k,by grind,w,?_⟩;rw[l];simp only[fz,bl a];simp
  grind
 .have e:pieces t=acc:=by
   have p:mK t k f=[]:=by grind[List.map_eq_nil_iff]
   have a:¬f<t.length:=by
    intro u;cases k with
    |zero=>omega
    |succ k=>simp only[mK,bl u]at p;cases p
   rw[l];cases k<;>simp[fz,a]
  refine aV g [(13,ae)] rfl (by simp only[ay,bM];omega) (AK.leaveD rfl rfl ?_);refine cg g rfl aw (AK.bx rfl ?_);rw[e];simp
abbrev Gy:dv:=kq aS (λt=>cS.sl (pieces t)) λt=>[b8 t=ab,t.length<=4000000]
def K7:eb X 111 Gy:=.pD λt h=>OI t h.1 h.2
def _root_.Go.AM.kF.pH{α:Type}(c:kF α)(l:List α)(x y:α):cy (l.length+1+1) (cE (l.length+1) (cE l.length (c.fn l) λq=>[c.enc x].getD q []) λq=>[c.enc y].getD q []) (c.fn (l++[x,y])):=by
 have h1:=c.cj l x;have h2:=c.cj (l++[x]) y;rw[show(l++[x]).length=l.length+1 by simp,show l++[x]++[y]=l++[x,y] by simp]at h2;intro q a;rw[<-h2 q a];simp only[cE];by_cases e:q<l.length+1
 .rw[bl e,bl e];exact h1 q e
 grind
abbrev SC(x:bm):D:=.e (.agg [.c (.int .i64 x.1),.c (.str x.2)])
def iM(x:bm)(acc:List bm×Bool)(y:bm):List bm×Bool:=if acc.2=ab then(acc.1++[y],ab)else if x.1<y.1 then(acc.1++[x,y],ab)else(acc.1++[y],ae)
def yR(x:bm):∀(l:List bm)(a:List bm),(l.foldl (iM x) (a,ab))=(a++l,ab)
 |[],a=>by simp
 |y::r,a=>by rw[lj,show iM x (a,ab) y=(a++[y],ab)from rfl,yR x r];simp
def tN(x:bm):∀(l:List bm)(a:List bm),(if(l.foldl (iM x) (a,ae)).2=ab then(l.foldl (iM x) (a,ae)).1 else(l.foldl (iM x) (a,ae)).1++[x])=a++gI l x
 |[],a=>by simp[gI]
 |y::r,a=>by
  rw[lj];by_cases h:x.1<y.1
  .rw[show iM x (a,ae) y=(a++[x,y],ab) by simp[iM,h],yR];simp[gI,h]
  .rw[show iM x (a,ae) y=(a++[y],ae) by simp[iM,h],tN x r];simp[gI,h]
theorem yS(x:bm):∀(l:List bm)(a:List bm×Bool),(l.foldl (iM x) a).1.length<=a.1.length+l.length+1-(if a.2=ab then 1 else 0)
 |[],a=>by grind
 |y::r,a=>by rw[lj];have:=yS x r (iM x a y);unfold iM at this⊢;grind
abbrev m0(x:bm)(l:List bm)(i:Nat):List bm×Bool:=(l.take i).foldl (iM x) ([],ae)
def yT{x:bm}{l:List bm}{i:Nat}(h:i<l.length):m0 x l (i+1)=iM x (m0 x l i) (l.getD i (0,[])):=by grind[bT]
def sF(x:bm)(l:List bm)(i:Nat):(m0 x l i).1.length<=l.length+1:=by grind[yS]
abbrev p3F(l:List bm)(x:bm)(i:Nat)(a:List bm×Bool):Fr:=[(0,dM.sl l),(3,.e (.one (.ptr 0 0))),(5,.e (.one (.vec 1 2 a.1.length (dM.fn a.1)))),(6,dB a.2),(7,dI i)]
abbrev Y8(x:bm)(a:List bm):List aP:=[.cells 76 [.c (.int .i64 x.1),.c (.str x.2)],.vec 76 2 a.length (dM.fn a)]
def ON(l:List bm)(x:bm)(p:l.length<=4000000):Ev X 117 [dM.sl l,SC x] [] (dM.sl (gI l x)) []:=by
 refine Ev.bQ Tryz.func117 rfl λq=>?_;refine bL [(1000002,ab)] rfl aw ?_;refine AK.iB 5 76 2 rfl rfl ?_;refine di rfl aw ?_;refine AK.cC 2 (λi=>i<=l.length) (λi:Nat=>p3F l x i (m0 x l i)) (λi=>Y8 x (m0 x l i).1) (λi=>l.length-i) 0 rfl ?_ rfl ?_ rfl (by omega) ?_
 .simp[m0]
 .simp[m0]
 intro i hi;by_cases h:i<l.length
 .have n:=yT (x:=x) h;have e:=sF x l i;have g:l.getD (i:Int).toNat dM.b7=l.getD i (0,[]):=by grind
  generalize m0 x l i=a at n e;obtain⟨a,b⟩:=a;simp only at e;have k:=dM.cj a (l.getD i (0,[]));have m:=dM.pH a x (l.getD i (0,[]));cases b with
  |true =>
   have c:m0 x l (i+1)=(a++[l.getD i (0,[])],ab):=n;have j:a.length+1=(a++[l.getD i (0,[])]).length:=by simp
   refine bL [(12,ab)] rfl ?_ (AK.aQ (i+1) rfl ?_ ?_ ?_ ?_)
   .simp only[ay,g,bA,show i76.bytes=24 from rfl,aZ,aF,aD];and_intros<;>omega
   .rw[c];simp only[ay.cat,ay,g,aF,aD];and_intros<;>first|exact j|exact k|exactλ_ _=>rfl|rfl|omega
   .rw[c];simp only[ay.cat,ay,g,aF,aD];and_intros<;>first|exact j|exact k|exactλ_ _=>rfl|rfl|omega
   .grind
   .omega
  |false =>
   by_cases f:x.1<(l.getD i (0,[])).1
   .have c:m0 x l (i+1)=(a++[x,l.getD i (0,[])],ab):=by rw[n];simp only[iM,bl f];rfl
    have j:a.length+1+1=(a++[x,l.getD i (0,[])]).length:=by simp
    refine bL [(12,ab),(25,ab)] rfl ?_ (AK.aQ (i+1) rfl ?_ ?_ ?_ ?_)
    .simp only[ay,g,bA,show i76.bytes=24 from rfl,f,kC,aZ,aF,aD];and_intros<;>omega
    .rw[c];simp only[ay.cat,ay,g,aF,aD];and_intros<;>first|exact j|exact m|exactλ_ _=>rfl|rfl|omega
    .rw[c];simp only[ay.cat,ay,g,aF,aD];and_intros<;>first|exact j|exact m|exactλ_ _=>rfl|rfl|omega
    .grind
    .omega
   .have c:m0 x l (i+1)=(a++[l.getD i (0,[])],ae):=by rw[n];simp only[iM,aY f];rfl
    have j:a.length+1=(a++[l.getD i (0,[])]).length:=by simp
    refine bL [(12,ab),(25,ae)] rfl ?_ (AK.aQ (i+1) rfl ?_ ?_ ?_ ?_)
    .simp only[ay,g,bA,show i76.bytes=24 from rfl,aZ,f,kA,n5,bM,aF,aD];and_intros<;>omega
    .rw[c];simp only[ay.cat,ay,g,aF,aD];and_intros<;>first|exact j|exact k|exactλ_ _=>rfl|rfl|omega
    .rw[c];simp only[ay.cat,ay,g,aF,aD];and_intros<;>first|exact j|exact k|exactλ_ _=>rfl|rfl|omega
    .grind
    .omega
 .obtain rfl:i=l.length:=by omega
  have d:=tN x l [];have e:=sF x l l.length;refine bL [(12,ae)] rfl (by simp) (AK.leaveD rfl rfl ?_);have o:m0 x l l.length=l.foldl (iM x) ([],ae):=by grind
  rw[o]at e⊢;generalize l.foldl (iM x) ([],ae)=a at *;obtain⟨a,b⟩:=a;simp only[ml]at d e;cases b with
  |true =>
   simp only[cn]at d;subst d;exact di rfl aw (AK.bx rfl)
  |false =>
   simp only[jy,b9]at d;have k:=dM.cj a x;refine di rfl ?_ (AK.bx rfl ?_)
   .simp only[ay,show i76.bytes=24 from rfl,aF,aD];grind
   .rw[<-d];simp only[ay.cat,ay,aF,aD];and_intros<;>first|exact k|simp
abbrev Lg:dv:=oX (aL dM) TU (λl x=>dM.sl (gI l x)) λl _=>[l.length<=4000000]
def QA:eb X 117 Lg:=.sC λl x h=>ON l x h
abbrev Y9(x:cu):D:=.e (.agg [.c (.int .i64 x.1),.c (.int .i64 x.2)])
def e9(x:cu)(acc:List cu×Bool)(y:cu):List cu×Bool :=
 if acc.2=ab then(if y.1=x.1 then acc else(acc.1++[y],ab))else if x.1<=y.1 then(if y.1=x.1 then(acc.1++[x],ab)else(acc.1++[x,y],ab))else(acc.1++[y],ae)
def qw(x:cu):∀(l:List cu)(a:List cu),(l.foldl (e9 x) (a,ab))=(a++l.filter λz=>!(z.1==x.1),ab)
 |[],a=>by simp
 |y::r,a=>by
  rw[lj];by_cases h:y.1=x.1
  .rw[show e9 x (a,ab) y=(a,ab) by simp[e9,h],qw x r];simp[h]
  .rw[show e9 x (a,ab) y=(a++[y],ab) by simp[e9,h],qw x r];simp[h]
def yU(x:cu):∀(l:List cu)(a:List cu),(if(l.foldl (e9 x) (a,ae)).2=ab then(l.foldl (e9 x) (a,ae)).1 else(l.foldl (e9 x) (a,ae)).1++[x])=a++gv l x
 |[],a=>by simp[gv]
 |y::r,a=>by
  rw[lj];by_cases h:x.1<=y.1
  .have c:¬y.1<x.1:=by omega
   by_cases b:y.1=x.1
   .rw[show e9 x (a,ae) y=(a++[x],ab) by simp[e9,b],qw];simp[gv,b]
   .rw[show e9 x (a,ae) y=(a++[x,y],ab) by simp[e9,h,b],qw];simp[gv,c,b]
  .have c:y.1<x.1:=by omega
   rw[show e9 x (a,ae) y=(a++[y],ae) by simp[e9,h],yU x r];simp[gv,c]
theorem yV(x:cu):∀(l:List cu)(a:List cu×Bool),(l.foldl (e9 x) a).1.length<=a.1.length+l.length+1-(if a.2=ab then 1 else 0)
 |[],a=>by grind
 |y::r,a=>by
  rw[lj];have d:=yV x r (e9 x a y);obtain⟨a,b⟩:=a;simp only[er];cases b with
  |true =>
   by_cases c:y.1=x.1
   .rw[show e9 x (a,ab) y=(a,ab) by simp[e9,c]]at d⊢;grind
   .rw[show e9 x (a,ab) y=(a++[y],ab) by simp[e9,c]]at d⊢;grind
  |false =>
   by_cases h:x.1<=y.1
   .by_cases c:y.1=x.1
    .rw[show e9 x (a,ae) y=(a++[x],ab) by simp[e9,c]]at d⊢;grind
    .rw[show e9 x (a,ae) y=(a++[x,y],ab) by simp[e9,h,c]]at d⊢;grind
   .rw[show e9 x (a,ae) y=(a++[y],ae) by simp[e9,h]]at d⊢;grind
abbrev sG(x:cu)(l:List cu)(i:Nat):List cu×Bool:=(l.take i).foldl (e9 x) ([],ae)
def HZ{x:cu}{l:List cu}{i:Nat}(h:i<l.length):sG x l (i+1)=e9 x (sG x l i) (l.getD i (0,0)):=by grind[bT]
def Cs(x:cu)(l:List cu)(i:Nat):(sG x l i).1.length<=l.length+1:=by grind[yV]
abbrev p4F(l:List cu)(x:cu)(i:Nat)(a:List cu×Bool):Fr:=[(0,nW.sl l),(3,.e (.one (.ptr 0 0))),(5,.e (.one (.vec 1 2 a.1.length (nW.fn a.1)))),(6,dB a.2),(7,dI i)]
abbrev p4B(x:cu)(a:List cu):List aP:=[.cells 91 [.c (.int .i64 x.1),.c (.int .i64 x.2)],.vec 91 2 a.length (nW.fn a)]
def OO(l:List cu)(x:cu)(p:l.length<=4000000):Ev X 116 [nW.sl l,Y9 x] [] (nW.sl (gv l x)) []:=by
 refine Ev.bQ Tryz.func116 rfl λq=>?_;refine bL [(1000002,ab)] rfl aw ?_;refine AK.iB 5 91 2 rfl rfl ?_;refine di rfl aw ?_;refine AK.cC 2 (λi=>i<=l.length) (λi:Nat=>p4F l x i (sG x l i)) (λi=>p4B x (sG x l i).1) (λi=>l.length-i) 0 rfl ?_ rfl ?_ rfl (by omega) ?_
 .simp[sG]
 .simp[sG]
 intro i hi;by_cases h:i<l.length
 .have n:=HZ (x:=x) h;have k:=Cs x l i;have f:l.getD (i:Int).toNat nW.b7=l.getD i (0,0):=by grind
  generalize sG x l i=a at n k;obtain⟨a,b⟩:=a;simp only at k;have j:=nW.cj a (l.getD i (0,0));have m:=nW.cj a x;have d:=nW.pH a x (l.getD i (0,0));cases b with
  |true =>
   by_cases heq:(l.getD i (0,0)).1=x.1
   .have c:sG x l (i+1)=(a,ab):=by rw[n];simp only[e9,cn,bl heq]
    refine bL [(12,ab),(38,ae)] rfl ?_ (AK.aQ (i+1) rfl ?_ ?_ ?_ ?_)
    .simp only[ay,f,bA,show i91.bytes=16 from rfl,aZ,bM,j7,pU,hI,eD,lG,du,heq,fh,n5,jz,j8,n6,kC,kA,aF,aD];and_intros<;>omega
    .rw[c];simp only[ay.cat,ay,f,aF,aD];and_intros<;>first|exact j|exact m|exact d|exactλ_ _=>rfl|rfl|omega|simp
    .rw[c];simp only[ay.cat,ay,f,aF,aD];and_intros<;>first|exact j|exact m|exact d|exactλ_ _=>rfl|rfl|omega|simp
    .grind
    .omega
   .have c:sG x l (i+1)=(a++[l.getD i (0,0)],ab):=by rw[n];simp only[e9,cn,aY heq]
    refine bL [(12,ab),(38,ab)] rfl ?_ (AK.aQ (i+1) rfl ?_ ?_ ?_ ?_)
    .simp only[ay,f,bA,show i91.bytes=16 from rfl,aZ,bM,j7,pU,hI,eD,lG,du,heq,fh,n5,jz,j8,n6,kC,kA,aF,aD];and_intros<;>omega
    .rw[c];simp only[ay.cat,ay,f,aF,aD];and_intros<;>first|exact j|exact m|exact d|exactλ_ _=>rfl|rfl|omega|simp
    .rw[c];simp only[ay.cat,ay,f,aF,aD];and_intros<;>first|exact j|exact m|exact d|grind|rfl|omega|simp
    .grind
    .omega
  |false =>
   by_cases g:x.1<=(l.getD i (0,0)).1
   .by_cases heq:(l.getD i (0,0)).1=x.1
    .have c:sG x l (i+1)=(a++[x],ab):=by rw[n];simp only[e9,bl g,bl heq];rfl
     refine bL [(12,ab),(25,ab),(38,ae)] rfl ?_ (AK.aQ (i+1) rfl ?_ ?_ ?_ ?_)
     .simp only[ay,f,bA,show i91.bytes=16 from rfl,aZ,bM,j7,pU,hI,eD,lG,du,g,heq,fh,n5,jz,j8,n6,kC,kA,aF,aD];and_intros<;>omega
     .rw[c];simp only[ay.cat,ay,f,aF,aD];and_intros<;>first|exact j|exact m|exact d|exactλ_ _=>rfl|rfl|omega|simp
     .rw[c];simp only[ay.cat,ay,f,aF,aD];and_intros<;>first|exact j|exact m|exact d|grind|rfl|omega|simp
     .grind
     .omega
    .have c:sG x l (i+1)=(a++[x,l.getD i (0,0)],ab):=by rw[n];simp only[e9,bl g,aY heq];rfl
     refine bL [(12,ab),(25,ab),(38,ab)] rfl ?_ (AK.aQ (i+1) rfl ?_ ?_ ?_ ?_)
     .simp only[ay,f,bA,show i91.bytes=16 from rfl,aZ,bM,j7,pU,hI,eD,lG,du,g,heq,fh,n5,jz,j8,n6,kC,kA,aF,aD];and_intros<;>omega
     .rw[c];simp only[ay.cat,ay,f,aF,aD];and_intros<;>first|exact j|exact m|exact d|exactλ_ _=>rfl|rfl|omega|simp
     .rw[c];simp only[ay.cat,ay,f,aF,aD];and_intros<;>first|exact j|exact m|exact d|grind|rfl|omega|simp
     .grind
     .omega
   .have heq:¬(l.getD i (0,0)).1=x.1:=by omega
    have c:sG x l (i+1)=(a++[l.getD i (0,0)],ae):=by rw[n];simp only[e9,aY g];rfl
    refine bL [(12,ab),(25,ae),(38,ab)] rfl ?_ (AK.aQ (i+1) rfl ?_ ?_ ?_ ?_)
    .simp only[ay,f,bA,show i91.bytes=16 from rfl,aZ,bM,j7,pU,hI,eD,lG,du,g,heq,fh,n5,jz,j8,n6,kC,kA,aF,aD];and_intros<;>omega
    .rw[c];simp only[ay.cat,ay,f,aF,aD];and_intros<;>first|exact j|exact m|exact d|exactλ_ _=>rfl|rfl|omega|simp
    .rw[c];simp only[ay.cat,ay,f,aF,aD];and_intros<;>first|exact j|exact m|exact d|grind|rfl|omega|simp
    .grind
    .omega
 .obtain rfl:i=l.length:=by omega
  have e:=yU x l [];have k:=Cs x l l.length;refine bL [(12,ae)] rfl (by simp) (AK.leaveD rfl rfl ?_);have o:sG x l l.length=l.foldl (e9 x) ([],ae):=by grind
  rw[o]at k⊢;generalize l.foldl (e9 x) ([],ae)=a at *;obtain⟨a,b⟩:=a;simp only[ml]at e k;cases b with
  |true =>
   simp only[cn]at e;subst e;exact di rfl aw (AK.bx rfl)
  |false =>
   simp only[jy,b9]at e;have j:=nW.cj a x;refine di rfl ?_ (AK.bx rfl ?_)
   .simp only[ay,show i91.bytes=16 from rfl,aF,aD];grind
   .rw[<-e];simp only[ay.cat,ay,aF,aD];and_intros<;>first|exact j|simp
abbrev QB:dv:=oX (aL nW) TV (λl x=>nW.sl (gv l x)) λl _=>[l.length<=4000000]
def VR:eb X 116 QB:=.sC λl x h=>OO l x h
abbrev AA(p:bH):List cu:=p.2.map λx=>(x.1,p.1)
def kt(l:List bH)(i j:Nat):List cu:=c6 (l.take i)++(AA (l.getD i (0,[]))).take j
def rA{l:List bH}{i:Nat}(h:i<l.length):c6 (l.take (i+1))=c6 (l.take i)++AA (l.getD i (0,[])):=by rw[bT h (0,[])];simp[c6]
theorem Ct(l:List bH)(i:Nat):(c6 (l.take i)).length<=(c6 l).length:=by
 have h:c6 l=c6 (l.take i)++c6 (l.drop i):=by unfold c6;grind[List.take_append_drop]
 grind
def sH{l:List bH}{i j:Nat}(h:i<l.length):∃r,c6 l=kt l i j++r:=by
 have a:c6 l=c6 (l.take (i+1))++c6 (l.drop (i+1)):=by unfold c6;grind[List.take_append_drop]
 refine⟨(AA (l.getD i (0,[]))).drop j++c6 (l.drop (i+1)),?_⟩;rw[a,rA h,kt,lR,lR];grind[List.take_append_drop]
theorem Lh(l:List cu)(x:cu):(gv l x).length<=l.length+1:=by
 induction l with
 |nil=>simp[gv]
 |cons y r a =>
  simp only[gv];grind
theorem tM(l:List cu):∀a:List cu,(l.foldl gv a).length<=a.length+l.length:=by
 induction l with
 |nil=>grind
 |cons y r b=>grind[Lh]
def ER(l:List bH)(v:l.length<=4000000)(y:(c6 l).length<=100000):Ev X 65 [cP.sl l] [] (nW.sl (indexOf l)) []:=by
 refine Ev.bQ Tryz.func65 rfl λx=>?_;have a:bF X [(115,KZ),(116,QB)]:=.cons Sx (.cons VR .nil);refine cm a rfl aw ?_;refine AK.cC 0 (λi=>i<=l.length/\(c6 (l.take i)).all eF=ab) (λi:Nat=>[(0,cP.sl l),(3,nW.sl ((c6 (l.take i)).foldl gv [])),(4,dI i)]) (λ_=>[]) (λi=>l.length-i) 0 rfl ?_ rfl ?_ rfl ⟨by omega,rfl⟩ ?_
 .simp[c6]
 .simp
 rintro i ⟨hi,c⟩;by_cases h:i<l.length
 .have e:l.getD (i:Int).toNat cP.b7=l.getD i (0,[]):=by grind
  have n:=rA h;refine bh a [(11,ab)] rfl (by simp only[ay,aZ];omega) ?_;refine AK.cC 0 (λj=>j<=(l.getD i (0,[])).2.length/\(kt l i j).all eF=ab) (λj:Nat=>[(0,cP.sl l),(3,nW.sl ((kt l i j).foldl gv [])),(4,dI i),(5,dI j)]) (λ_=>[]) (λj=>(l.getD i (0,[])).2.length-j) 0 rfl ?_ rfl ?_ rfl ⟨by omega,by simpa[kt]using c⟩ ?_
  .simp[kt]
  .simp
  rintro j ⟨w,o⟩;obtain⟨r,q⟩:=sH (l:=l) (j:=j) h;have k:(kt l i j).length<=100000:=by grind
  have m:=tM (kt l i j) [];simp only[fG]at m;have t:(l.getD i (0,[])).2.length<=100000:=by grind[Ct]
  by_cases u:j<(l.getD i (0,[])).2.length
  .have b:(l.getD i (0,[])).2.getD (j:Int).toNat dM.b7=(l.getD i (0,[])).2.getD j (0,[]):=by grind
   have g:kt l i (j+1)=kt l i j++[(((l.getD i (0,[])).2.getD j (0,[])).1,(l.getD i (0,[])).1)]:=by unfold kt;rw[lR];congr 1;rw[bT (by grind) (0,0)];grind
   cases d:eF (((l.getD i (0,[])).2.getD j (0,[])).1,(l.getD i (0,[])).1)with
   |false =>
    have p:indexOf l=[]:=by obtain⟨r,q⟩:=sH (l:=l) (j:=j+1) h;unfold indexOf;rw[aY];grind
    refine bh a [(21,ab),(40,ae)] rfl ?_ (AK.fJ (cw.zero rfl ?_))
    .simp only[ay,e,b,d,aZ,aF,aD];and_intros<;>omega
    .rw[p];simp
   |true =>
    refine bh a [(21,ab),(40,ab)] rfl ?_ (AK.aQ (j+1) rfl ?_ ?_ ?_ ?_)
    .simp only[ay,e,b,d,bA,nW.list_fn,aZ,aF,aD];and_intros<;>first|exact nW.aM _|omega
    .rw[g];simp only[List.foldl_append,lj,List.foldl_nil,ay.cat,ay,e,b,nW.list_fn,aF,aD];and_intros<;>first|exactλ_ _=>rfl|rfl|omega
    .simp
    .grind
    .omega
  .have s:j=(l.getD i (0,[])).2.length:=by omega
   have f:kt l i j=c6 (l.take (i+1)):=by rw[n,kt];grind[List.length_map]
   refine bh a [(21,ae)] rfl ?_ (AK.leaveD rfl rfl ?_)
   .simp only[ay,e,bM];and_intros<;>omega
   refine cm a rfl ?_ (AK.aQ (i+1) rfl ?_ ?_ ?_ ?_)
   .simp only[ay,bA];omega
   .rw[f];simp
   .simp
   .grind
   .omega
 .obtain rfl:i=l.length:=by omega
  rw[dh]at c⊢;refine bh a [(11,ae)] rfl (by simp) (AK.leaveD rfl rfl ?_);refine cm a rfl aw (AK.bx rfl ?_);simp[indexOf,c]
abbrev EO:dv:=kq (aL cP) (λl=>nW.sl (indexOf l)) λl=>[l.length<=4000000,(c6 l).length<=100000]
def Ld:eb X 65 EO:=.pD λl h=>ER l h.1 h.2
abbrev tO:dv:=oX aI aS (λk p=>dI (ek k p)) λk p=>[b6 k=ab,bt p=ab]
abbrev Cu:dv:=kq aS (λp=>dS (eT p)) λp=>[bt p=ab]
def GA:eb X 118 Cu:=.pD λp h=>OG p h
theorem Lj(l:List bm)(x:bm):(gI l x).length=l.length+1:=by
 induction l with
 |nil=>simp[gI]
 |cons y r a=>simp only[gI];split<;>simp[a]
def oY(k:Int)(ps:List Bs):List bm:=ps.foldl (λl p=>gI l (ek k p,eT p)) []
theorem qx(k:Int)(ps:List Bs):(oY k ps).length=ps.length:=by
 have h:∀(ps:List Bs) (a:List bm),(ps.foldl (λl p=>gI l (ek k p,eT p)) a).length=a.length+ps.length:=by
  intro ps;induction ps with
  |nil=>grind
  |cons p r b=>grind[Lj]
 have:=h ps [];rw[fG,bC]at this;exact this
def Cv{k:Int}{ps:List Bs}{i:Nat}(h:i<ps.length):oY k (ps.take (i+1))=gI (oY k (ps.take i)) (ek k (ps.getD i []),eT (ps.getD i [])):=by unfold oY;grind[bT]
abbrev pkB(no:Int)(l:List bm):aP:=.cells 67 [.c (.int .i64 no),.c (.sl ae 2 l.length (dM.fn l))]
def K9(no k:Int)(ps:List Bs)(hk:b6 k=ab)(l:∀p∈ps,bt p=ab)(n:ps.length<=4000000):Ev X 66 [dI no,dI k,cS.sl ps] [] (HG (eZ no k ps)) []:=by
 refine Ev.pA tok Tryz.func66 rfl rfl rfl λo=>?_;have a:bF X [(113,tO),(118,Cu),(117,Lg)]:=.cons tJ (.cons GA (.cons QA .nil));refine cm a rfl aw ?_;refine AK.cC 2 (λi=>i<=ps.length) (λi:Nat=>[(1,dI k),(2,cS.sl ps),(6,.e (.one (.ptr 0 0))),(7,.e (.one (.ptr 1 0))),(8,dI i)]) (λi=>[.cells 67 [.c (.int .i64 0),.c (.sl ab 0 0 λ_=>[])],pkB no (oY k (ps.take i))]) (λi=>ps.length-i) 0 rfl ?_ rfl ?_ rfl (by omega) ?_
 .simp
 .simp[oY]
 intro i hi;by_cases h:i<ps.length
 .have f:ps.getD (i:Int).toNat cS.b7=ps.getD i []:=by grind
  have d:bt (ps.getD i [])=ab:=l _ (by grind);have g:=Cv (k:=k) h;have b:=qx k (ps.take i);rw[List.length_take]at b;refine bh a [(15,ab)] rfl ?_ (AK.aQ (i+1) rfl ?_ ?_ ?_ ?_)
  .simp only[ay,f,hk,d,bA,dM.list_fn,aZ,aF,aD];and_intros<;>first|exact dM.aM _|omega
  .simp
  .rw[g];simp only[ay.cat,ay,f,dM.list_fn,aF,aD];and_intros<;>first|exactλ_ _=>rfl|rfl|omega
  .grind
  .omega
 .obtain rfl:i=ps.length:=by omega
  rw[dh];refine bh a [(15,ae)] rfl (by simp) (AK.leaveD rfl rfl ?_);refine cm a rfl aw ?_;refine AK.l4 () [] rfl rfl rfl rfl rfl rfl rfl rfl ?_ rfl rfl rfl rfl (λj m=>absurd m (by simp));simp[eZ,oY]
theorem Cw{s r:Bs}(h:b8 s=ab)(a:∀b∈r,b∈s):b8 r=ab:=by unfold b8 at h⊢;grind
def xn{t:Bs}(b:b8 t=ab):∀k f,∀p∈fz t k f,bt p=ab
 |0,_,p,a=>by simp[fz]at a
 |k+1,f,p,a=>by
  simp only[fz]at a;split at a
  .rename_i h;have d:=nD t f h;rcases eE.1 a with rfl|a
   .have c:((t.drop f).take (cutAt t f-f)).length=cutAt t f-f:=by grind
    simp only[bt,bS,aZ];grind[Cw]
   .exact xn b k _ p a
  grind
def nJ{t:Bs}(a:b8 t=ab):∀p∈pieces t,bt p=ab:=xn a _ _
def uw(t:Bs):∀k f,(fz t k f).length<=k
 |0,_=>bg _
 |k+1,f=>by
  simp only[fz];split
  .have:=uw t k (cutAt t f);grind
  .simp
def ku(t:Bs):(pieces t).length<=t.length:=uw t _ _
def gL(t:List bz):List Bs:=t.flatMap λf=>pieces f.2
def yW{t:List bz}{i:Nat}(h:i<t.length):gL (t.take (i+1))=gL (t.take i)++pieces (t.getD i ([],[])).2:=by rw[bT h ([],[])];simp[gL]
def GC(t:List bz)(i:Nat):(gL (t.take i)).length<=(gL t).length:=by
 have h:gL t=gL (t.take i)++gL (t.drop i):=by unfold gL;grind[List.take_append_drop]
 grind
def tL(k:Int)(l:List cu)(ps:List Bs):∀a:List Bs,(ps.foldl (iF k l) a).length<=a.length+ps.length:=by
 induction ps with
 |nil=>grind
 |cons p r b =>
  intro a;have d:=b (iF k l a p);have c:(iF k l a p).length<=a.length+1:=by unfold iF;split<;>simp
  grind
abbrev Lk:dv:=oX (aL nW) aI (λl n=>dI (mH l n)) λl _=>[l.length<=4000000]
def SD:eb X 112 Lk:=.sC λl n h=>KX l n h
abbrev QC:dv:=oX (aL cS) aS (λl p=>dB (l.contains p)) λl _=>[l.length<=4000000]
def VS:eb X 114 QC:=.sC λl p h=>OE l p h
abbrev dV0(a:List Bs):D:=.e (.one (.vec 0 1 a.length (cS.fn a)))
structure qP(t:List bz):Prop where
 len:t.length<=4000000
 sZ:∀f∈t,b8 f.2=ab/\f.2.length<=4000000
 all:(gL t).length<=100000
def Lc(k:Int)(t:List bz)(l:List cu)(hk:b6 k=ab)(r:qP t)(D:l.length<=4000000):Ev X 64 [dI k,cF.sl t,nW.sl l] [] (cS.sl (dg k t l)) []:=by
 refine Ev.bQ Tryz.func64 rfl λC=>?_;have c:bF X [(111,Gy),(113,tO),(112,Lk),(114,QC)]:=.cons K7 (.cons tJ (.cons SD (.cons VS .nil)));refine bh c [(1000002,ab)] rfl aw ?_;refine AK.iB 7 9 1 rfl rfl ?_;refine cm c rfl aw ?_;refine AK.cC 1 (λi=>i<=t.length) (λi:Nat=>[(0,dI k),(1,cF.sl t),(2,nW.sl l),(7,dV0 ((gL (t.take i)).foldl (iF k l) [])),(8,dI i)]) (λi=>[.vec 9 1 ((gL (t.take i)).foldl (iF k l) []).length (cS.fn ((gL (t.take i)).foldl (iF k l) []))]) (λi=>t.length-i) 0 rfl ?_ rfl ?_ rfl (by omega) ?_
 .simp[gL]
 .simp[gL]
 intro i hi;by_cases h:i<t.length
 .have x:t.getD (i:Int).toNat cF.b7=t.getD i ([],[]):=by grind
  have m:t.getD i ([],[])∈t:=by grind
  obtain⟨v,q2⟩:=r.sZ _ m;have e:=yW h;have q:=GC t (i+1);have u:=r.all;have z:=r.len;have o:=nJ v;generalize t.getD i ([],[])=f at *;rw[e,cA]at q;refine bh c [(15,ab)] rfl ?_ ?_
  .simp only[ay,x,v,aZ,aF,aD];and_intros<;>omega
  rw[x];refine AK.cC 1 (λj=>j<=(pieces f.2).length) (λj:Nat=>[(0,dI k),(1,cF.sl t),(2,nW.sl l),(7,dV0 ((gL (t.take i)++(pieces f.2).take j).foldl (iF k l) [])),(8,dI i),(9,cS.sl (pieces f.2)),(10,dI j)]) (λj=>[.vec 9 1 ((gL (t.take i)++(pieces f.2).take j).foldl (iF k l) []).length (cS.fn ((gL (t.take i)++(pieces f.2).take j).foldl (iF k l) []))]) (λj=>(pieces f.2).length-j) 0 rfl ?_ rfl ?_ rfl (by omega) ?_
  .simp
  .simp
  intro j B;have s:=tL k l (gL (t.take i)++(pieces f.2).take j) [];simp only[fG,cA,List.length_take]at s;by_cases A:j<(pieces f.2).length
  .have b:(pieces f.2).getD (j:Int).toNat cS.b7=(pieces f.2).getD j []:=by grind
   have d:bt ((pieces f.2).getD j [])=ab:=o _ (by grind);have a:(gL (t.take i)++(pieces f.2).take (j+1)).foldl (iF k l) []=iF k l ((gL (t.take i)++(pieces f.2).take j).foldl (iF k l) []) ((pieces f.2).getD j []):=by grind[bT]
   generalize(gL (t.take i)++(pieces f.2).take j).foldl (iF k l) []=out at *;generalize(pieces f.2).getD j []=p at *;have y:=cS.cj out p;by_cases g:mH l (ek k p)=0
   .cases w:out.contains p with
    |true =>
     rw[iF,aY (by grind)]at a;refine bh c [(27,ab),(38,ab),(45,ab)] rfl ?_ (AK.aQ (j+1) rfl ?_ ?_ ?_ ?_)
     .simp only[ay,b,hk,d,g,w,bA,cS.list_fn,nW.list_fn,jz,aZ,aF,aD];and_intros<;>first|exact cS.aM _|exact nW.aM _|omega
     .rw[a];simp
     .rw[a];simp
     .grind
     .omega
    |false =>
     rw[iF,bl (by grind)]at a;refine bh c [(27,ab),(38,ab),(45,ae)] rfl ?_ (AK.aQ (j+1) rfl ?_ ?_ ?_ ?_)
     .simp only[ay,b,hk,d,g,w,bA,show i9.bytes=16 from rfl,cS.list_fn,nW.list_fn,jz,aZ,aF,aD];and_intros<;>first|exact cS.aM _|exact nW.aM _|omega
     .rw[a];simp only[ay.cat,ay,b,cA,er,fG,aF,aD];and_intros<;>first|exactλ_ _=>rfl|exact y|rfl|omega
     .rw[a];simp only[ay.cat,ay,b,cA,er,fG,aF,aD];and_intros<;>first|exact y|rfl|omega
     .grind
     .omega
   .rw[iF,aY (by grind)]at a;refine bh c [(27,ab),(38,ae)] rfl ?_ (AK.aQ (j+1) rfl ?_ ?_ ?_ ?_)
    .simp only[ay,b,hk,d,bA,nW.list_fn,eD,du,g,n5,aZ,aF,aD];and_intros<;>first|exact nW.aM _|omega
    .rw[a];simp
    .rw[a];simp
    .grind
    .omega
  .have n:j=(pieces f.2).length:=by omega
   refine bh c [(27,ae)] rfl (by simp only[ay,bM];omega) (AK.leaveD rfl rfl ?_);refine cm c rfl ?_ (AK.aQ (i+1) rfl ?_ ?_ ?_ ?_)
   .simp only[ay,bA];omega
   .rw[e,n,dh];simp
   .rw[e,n,dh];simp
   .grind
   .omega
 .obtain rfl:i=t.length:=by omega
  rw[dh];refine bh c [(15,ae)] rfl (by simp) (AK.leaveD rfl rfl ?_);refine cm c rfl aw (AK.bx rfl ?_);simp[dg,gL]
abbrev lE(k:Int)(ps:List Bs):List Int:=ps.map (ek k)
abbrev m6(k:Int)(t:List bz):List jS:=t.map (oN k)
abbrev QD(no:Int)(ls:List jS):List aP:=[.cells 71 [.c (.int .i64 0),.c (.sl ab 0 0 λ_=>[])],.cells 71 [.c (.int .i64 no),.vec 2 2 ls.length (cL.fn ls)],.vec 140 2 ls.length (cL.fn ls)]
def OK(no k:Int)(t:List bz)(hk:b6 k=ab)(r:qP t):Ev X 67 [dI no,dI k,cF.sl t] [] (M8 (fA no k t)) []:=by
 refine Ev.pA tok Tryz.func67 rfl rfl rfl λz=>?_;have a:bF X [(111,Gy),(113,tO)]:=.cons K7 (.cons tJ .nil);refine bh a [(1000002,ab)] rfl aw ?_;refine AK.g7 1 1 140 2 (cL.fn []) rfl rfl ?_;refine cm a rfl aw ?_;refine AK.cC 3 (λi=>i<=t.length) (λi:Nat=>[(1,dI k),(2,cF.sl t),(6,.e (.one (.ptr 0 0))),(7,.e (.one (.ptr 1 0))),(8,dI i)]) (λi=>QD no (m6 k (t.take i))) (λi=>t.length-i) 0 rfl ?_ rfl ?_ rfl (by omega) ?_
 .simp
 .simp
 intro i hi;by_cases h:i<t.length
 .have o:t.getD (i:Int).toNat cF.b7=t.getD i ([],[]):=by grind
  have d:t.getD i ([],[])∈t:=by grind
  obtain⟨p,q2⟩:=r.sZ _ d;have x:=r.len;have l:=nJ p;have w:=ku (t.getD i ([],[])).2;have g:m6 k (t.take (i+1))=m6 k (t.take i)++[oN k (t.getD i ([],[]))]:=by grind[bT]
  have u:(m6 k (t.take i)).length=i:=by grind
  generalize t.getD i ([],[])=f at *;generalize m6 k (t.take i)=ls at *;refine bh a [(18,ab),(1000007,ab)] rfl ?_ ?_
  .simp only[ay,o,p,aZ,aF,aD];and_intros<;>omega
  rw[o];refine AK.iB 10 3 1 rfl rfl ?_;refine cm a rfl aw ?_;refine AK.cC 4 (λj=>j<=(pieces f.2).length) (λj:Nat=>[(1,dI k),(2,cF.sl t),(6,.e (.one (.ptr 0 0))),(7,.e (.one (.ptr 1 0))),(8,dI i),(9,cS.sl (pieces f.2)),(10,.e (.one (.vec 3 1 j (cI.fn (lE k ((pieces f.2).take j)))))),(11,dI j)]) (λj=>QD no ls++[.vec 3 1 j (cI.fn (lE k ((pieces f.2).take j)))]) (λj=>(pieces f.2).length-j) 0 rfl ?_ rfl ?_ rfl (by omega) ?_
  .simp
  .simp
  intro j q;by_cases y:j<(pieces f.2).length
  .have b:(pieces f.2).getD (j:Int).toNat cS.b7=(pieces f.2).getD j []:=by grind
   have m:bt ((pieces f.2).getD j [])=ab:=l _ (by grind);have c:=cI.cj (lE k ((pieces f.2).take j)) (ek k ((pieces f.2).getD j []));rw[show(lE k ((pieces f.2).take j)).length=j by grind,show lE k ((pieces f.2).take j)++[ek k ((pieces f.2).getD j [])]=lE k ((pieces f.2).take (j+1)) by grind[bT]]at c;refine bh a [(31,ab)] rfl ?_ (AK.aQ (j+1) rfl ?_ ?_ ?_ ?_)
   .simp only[ay,b,hk,m,bA,show i3.bytes=8 from rfl,aZ,aF,aD];and_intros<;>omega
   .simp only[ay.cat,ay,b,aF,aD];and_intros<;>first|exactλ_ _=>rfl|exact c|rfl|omega
   .simp only[ay.cat,ay,b,aF,aD];and_intros<;>first|exactλ_ _=>rfl|exact c|rfl|omega
   .grind
   .omega
  .have n:j=(pieces f.2).length:=by omega
   rw[n,dh];have c:=cL.cj ls (oN k f);have s:ls.length+1=(ls++[oN k f]).length:=by simp
   have v:cL.enc (oN k f)=[C.str f.1,C.sl ae 1 (pieces f.2).length (cI.fn (lE k (pieces f.2)))]:=by show[C.str f.1,C.sl ae 1 (lE k (pieces f.2)).length (cI.fn (lE k (pieces f.2)))]=_;grind
   rw[v,<-g]at c;rw[<-g]at s;refine bh a [(31,ae)] rfl (by simp only[ay,bM];omega) (AK.leaveD rfl rfl ?_);refine cm a rfl ?_ (AK.aQ (i+1) rfl ?_ ?_ ?_ ?_)
   .simp only[ay,bA,show i140.bytes=40 from rfl,aF,aD];and_intros<;>omega
   .simp
   .simp only[ay.cat,ay,o,aF,aD];and_intros<;>first|exact cy.same|exact c|exact s|rfl
   .grind
   .omega
 .obtain rfl:i=t.length:=by omega
  rw[dh];refine bh a [(18,ae)] rfl (by simp) (AK.leaveD rfl rfl ?_);refine cm a rfl aw ?_;refine AK.l4 () [] rfl rfl rfl rfl rfl rfl rfl rfl ?_ rfl rfl rfl rfl (λj q=>absurd q (by simp));simp[fA]
def nN(f g:Nat->List C):cE 0 f g=g:=by funext i;simp[cE]
abbrev xR(s:bo):aP:=.cells 27 [.c (.sl ae 2 s.1.length (cP.fn s.1)),.c (.sl ae 2 s.2.1.length (fL.fn s.2.1)),.c (.sl ae 2 s.2.2.length (cH.fn s.2.2))]
end
end Go.AM.R1
namespace Go.AM
section
open Go.Conc (G)
def fK(a:Nat->Option Obj):Mem:=λb o=>match a b with
 |some (.cells cs _ _)=>cs[o]?
 |_=>af
def PM(K:Mem->Prop):ah->(Nat->Option Obj)->Prop:=λu a=>u=.nilFunc/\(∀b o,a b=aa o->∃cs E,o=.cells cs E (0,0))/\K (fK a)
section
variable {P:aq}{X:Cx P}{N:Nat}{Qf:Post}{d:List It}{φ:Fr}{σ:List aP}{all rest:List ar}{o:ar}
def AK.merge(i j:Nat){H1 H2 H:ah->(Nat->Option Obj)->Prop}{c:Code}(K:i≠j)(hi:σ[i]?=aa (.cf H1))(hj:σ[j]?=aa (.cf H2))(h1:∀v ch,H1 v ch->v=.nilFunc)(h:∀v f v2 k,H1 v f->H2 v2 k->(∀b,(f b).isSome=ab->(k b).isSome=ab->False)->H .nilFunc λb=>(f b).or (k b))(kk:AK X N Qf (.code c::d) .normal φ ((σ.set i (.cf H)).set j .dead)):AK X N Qf (.code c::d) .normal φ σ:=by
 refine AK.ghost (λs a U hh=>?_) kk;have Z:i<σ.length:=(bZ.1 hi).1;have W:j<σ.length:=(bZ.1 hj).1;have G:i<s.β.length:=by rw[hh.len];grind
 have F:j<s.β.length:=by rw[hh.len];grind
 obtain⟨y,m⟩:∃L,s.β[i]?=aa L:=⟨_,br G⟩;obtain⟨r,p⟩:∃L,s.β[j]?=aa L:=⟨_,br F⟩;have Y:=hh.box i _ y hi m;have bj:=hh.box j _ r hj p;have vi:y.v=.nilFunc:=by obtain⟨ch,hH,_⟩:=Y;grind
 let s':St:={s with β:=(s.β.set i ⟨.nilFunc,y.bs++r.bs⟩).set j ⟨r.v,[]⟩}
 have E:∀l,((σ.set i (.cf H)).set j .dead)[l]?=if l=j then aa .dead else if l=i then aa (.cf H)else σ[l]?:=λl=>by grind
 have A:∀l,s'.β[l]?=if l=j then aa ⟨r.v,[]⟩else if l=i then aa ⟨.nilFunc,y.bs++r.bs⟩else s.β[l]?:=λl=>by grind
 have mi:=bJ m;have mj:=bJ p;have V:∀L∈s'.β,∀b∈L.bs,∃z∈s.β,b∈z.bs:=λL g b n=>by grind
 have ex:Ext σ s ((σ.set i (.cf H)).set j .dead) s':=by
  refine⟨λ_ _ _ h=>h,λl B L hB g=>?_⟩;rw[E,A];by_cases e:l=j
  .subst e;rw[hj]at hB;cases hB;rw[p]at g;cases g;exact⟨.dead,⟨r.v,[]⟩,by simp,by simp,rfl⟩
  .by_cases I:l=i
   .subst I;rw[hi]at hB;cases hB;rw[m]at g;cases g;exact⟨.cf H,⟨.nilFunc,y.bs++r.bs⟩,by simp[e],by simp[e],vi.symm⟩
   .exact⟨B,L,by grind,by grind,.refl _ _⟩
 have st:Step σ s ((σ.set i (.cf H)).set j .dead) s' :=
  ⟨bg _,λ_ _ _=>rfl,λ_ _ _ h=>h,λ_ _ _ _=>rfl,λL h b n=>.inr (V L h b n),ex.box,rfl,rfl,rfl,rfl⟩
 obtain⟨f,a1,a2,a3,a4⟩:=Y;obtain⟨k,b1,b2,b3,b4⟩:=bj;have T:∀b,(f b).isSome=ab->(k b).isSome=ab->False:=λb J q2=>K (hh.eB i j y r m p b ((a3 b).2 J) ((b3 b).2 q2));refine⟨s',rfl,⟨U.size,U.defers.imp λ_ h1=>h1.mono ex,λu=>(U.slot u).mono ex hh.len⟩,⟨hh.mem,by simp[s',hh.len],?_,?_,λL g b n=>?_,λb n=>⟨(hh.own b n).1,λL g O=>?_⟩⟩,st⟩
 .intro l B L hB g;rw[E]at hB;rw[A]at g;split at hB
  .cases hB;trivial
  .rename_i e;rw[aY e]at g;split at hB
   .rename_i I;rw[bl I]at g;cases hB;cases g;refine⟨λb=>(f b).or (k b),h _ f _ k a1 b1 T,λb o n=>?_,λb=>?_,λb n o=>?_⟩
    .cases h1:f b with
     |some x=>grind
     |none=>grind
    .grind
    grind
   .rename_i I;rw[aY I]at g;exact(hh.box l B L hB g).carry ex hh.len λb n=>⟨rfl,λ_=>rfl⟩
 .intro l l' L1 L2 J q2 b n S;rw[A]at J q2;have key:∀l L,(if l=j then aa (⟨r.v,[]⟩:Loc)else if l=i then aa ⟨.nilFunc,y.bs++r.bs⟩else s.β[l]?)=aa L->b∈L.bs->(l=i/\(b∈y.bs∨b∈r.bs))∨(l≠i/\l≠j/\∃z,s.β[l]?=aa z/\b∈z.bs):=λl L q n=>by
   split at q
   .grind
   .split at q
    .grind
    grind
  rcases key l L1 J n with⟨e1,w⟩|⟨n1,R,L3,w,D⟩<;>rcases key l' L2 q2 S with⟨e2,t⟩|⟨n2,Q,L4,t,C⟩
  .grind
  .rcases w with w|w
   .exact absurd (hh.eB _ _ _ _ m t b w C).symm n2
   .exact absurd (hh.eB _ _ _ _ p t b w C).symm Q
  .rcases t with t|t
   .exact absurd (hh.eB _ _ _ _ m w b t D).symm n1
   .exact absurd (hh.eB _ _ _ _ p w b t D).symm R
  .exact hh.eB _ _ _ _ w t b D C
 .obtain⟨z,M,h1⟩:=V L g b n;exact hh.lt z M b h1
 .obtain⟨z,M,h1⟩:=V L g b O;exact(hh.own b n).2 z M h1
def wT(M M':Mem):Prop:=∀b o v,M b o=aa v->M' b o=aa v
def PM.add{K q:Mem->Prop}{E:aj}{k n:Nat}{bf:m9}{xs:List ah}(t:∀M M',wT M M'->K M->(∀b cap,bf=.row b cap->∀j v,xs[j]?=aa v->M' b j=aa v)->q M'):
  ∀v c m f,PM K v c->fV E k bf n xs m f->(∀b,(c b).isSome=ab->(f b).isSome=ab->False)->PM q .nilFunc λb=>(c b).or (f b):=by
 rintro v c m f ⟨_,h2,i⟩ p B;have g:wT (fK c) (fK λb=>(c b).or (f b)):=λb o v r=>by
  cases h:c b with
  |none=>simp[fK,h]at r
  |some x=>simpa[fK,h]using r
 cases bf with
 |nil a =>
  obtain⟨_,_,_,_,rfl⟩:=p;exact⟨rfl,λb o u=>h2 b o (by grind),t _ _ g i λb cap e=>by cases e⟩
 |row b cap =>
  obtain⟨_,q2,q3,q4,y,A,z,rfl⟩:=p;refine⟨rfl,λs o u=>?_,t _ _ g i λs l e j v hj=>?_⟩
  .cases h:c s with
   |some x=>grind
   |none =>
    grind
  .cases e;have w:c b=af:=by
    cases h:c b with
    |none=>rfl
    |some x=>grind
   have hl:j<xs.length:=(bZ.1 hj).1;simp only[fK,w,Option.none_or,cn];grind
def PM.start{E:aj}{k n:Nat}{xs:List ah}{a:Option Addr}{K:Mem->Prop}(c:∀M,K M):∀v ch,fV E k (.nil a) n xs v ch->PM K v ch:=by rintro v ch ⟨h1,_,_,_,rfl⟩;exact⟨h1,λb o e=>by grind,c _⟩
def PM.Bq{c:Nat}{K:Mem->Prop}{u:ah}{k n:Nat}{es:Nat->List C}(hl:σ[c]?=aa (.cf (PM K)))(p:∀M,K M->Rd M u (.sl ae k n es)):gZ σ c u k n es:=by
 intro s hh;have e:c<s.β.length:=by rw[hh.len];grind
 have g:=br e;generalize s.β[c]=L at g;obtain⟨ch,⟨h1,h2,i⟩,l,q,j⟩:=hh.box c _ L hl g;have f:∀b o v,fK ch b o=aa v->b∈L.bs/\s.w.cell? ⟨b,o,af⟩=aa v:=λb o v a=>by
  cases h:ch b with
  |none=>simp[fK,h]at a
  |some x =>
   obtain⟨cs,E,rfl⟩:=h2 b x h;have m:=l b _ h;simp only[fK,h]at a;exact⟨(q b).2 (by simp[h]),by simpa[aU,m]using a⟩
 refine⟨L,λb o=>(s.M b o).or (fK ch b o),g,λb o v a=>by grind,λb r o=>?_,λb o v a=>?_,j,(p _ i).mono λb o v a=>?_⟩
 .cases h:fK ch b o with
  |none=>simp[h]
  |some v=>grind
 .cases h:s.M b o with
  |some v'=>simp only[h,Option.some_or]at a;cases a;exact hh.mem b o v h
  |none=>grind
 grind
def fV.U3{E:aj}{k n l:Nat}{bf:m9}{xs:List ah}(hl:σ[l]?=aa (.cf (fV E k bf n xs)))(g:0<n)(s:St)(hh:aE σ s):∃b cap,bf=.row b cap/\n<=cap/\cap<=9223372036854775807:=by
 have c:l<s.β.length:=by rw[hh.len];grind
 obtain⟨ch,e,_⟩:=hh.box l _ _ hl (br c);cases bf with
 |nil a=>obtain⟨_,_,_,f,_⟩:=e;omega
 |row b cap=>obtain⟨_,_,_,f,h,_⟩:=e;grind
end
end
end Go.AM
namespace Go.AM.R1
section
open Go.Proofs
variable {X:Cx ag}
def Dv(ps:List bH)(q:Nat->ah)(j:Nat):List C:=[.int .i64 (ps.getD j (0,[])).1,.val (q j)]
def Bf(ps:List bH)(q:Nat->ah)(i:Nat):Mem->Prop:=λM=>∀j,j<i->Rd M (q j) (.sl ae 2 (ps.getD j (0,[])).2.length (dM.fn (ps.getD j (0,[])).2))
def I0(q:Nat->ah)(i:Nat)(v:ah)(j:Nat):ah:=if j=i then v else q j
def MH{ps:List bH}{q:Nat->ah}{i:Nat}{v:ah}:cy (i+1) (cE i (Dv ps q) (λj=>([[.int .i64 (ps.getD i (0,[])).1,.val v]]:List (List C)).getD j [])) (Dv ps (I0 q i v)):=by
 intro j a;by_cases h:j<i
 .simp[cE,h,Dv,I0,show j≠i by omega]
 .obtain rfl:j=i:=by omega
  simp[cE,Dv,I0]
def Bf.up{ps:List bH}{q:Nat->ah}{i:Nat}{bf:m9}{xs:List ah}(o:0<(ps.getD i (0,[])).2.length)(l:gn 2 (ps.getD i (0,[])).2.length (dM.fn (ps.getD i (0,[])).2) xs)(n:∃b cap,bf=.row b cap/\(ps.getD i (0,[])).2.length<=cap/\cap<=9223372036854775807):
  ∀M M',wT M M'->Bf ps q i M->(∀b cap,bf=.row b cap->∀j v,xs[j]?=aa v->M' b j=aa v)->Bf ps (I0 q i (la bf (ps.getD i (0,[])).2.length)) (i+1) M':=by
 intro M M' hle hK hx j hj;by_cases h:j<i
 .have:=(hK j h).mono hle;simpa[I0,show j≠i by omega]using this
 .obtain rfl:j=i:=by omega
  obtain⟨b,cap,rfl,g,f⟩:=n;rw[I0,bl rfl];have hx:=hx b cap rfl;refine .sl b 0 (λd e=>xs.getD (d*2+e) ai) g f (λh=>by cases h) (λd a=>l.wid d a) (λ_=>rfl) (λd a e c k=>?_) λd a e c k=>?_
  .obtain⟨v,v1,m⟩:=l.at' d a e c k;grind
  .obtain⟨v,v1,m⟩:=l.at' d a e c k;grind
abbrev PG(s:bo)(i:Nat)(es:Nat->List C)(j:Nat)(l:List gG)(K:Mem->Prop):List aP:=[xR s,.cells 27 [gm,gm,gm],.buf 67 2 i es,.buf 71 2 j (fL.fn l),.buf 48 2 s.2.2.length (cH.fn s.2.2),.cells 27 [.bp 2 (.sl i 2 0 i),.bp 3 (.sl j 2 0 j),.bp 4 (.sl s.2.2.length 2 0 s.2.2.length)],.cf (PM K)]
def Ft(s:bo)(z:∀p∈s.1,0<p.2.length)(B:s.1.length<=4000000)(t:∀p∈s.1,p.2.length<=4000000)(C:s.2.1.length<=4000000)(o:oA s)(D:s.2.2.length<=4000000):
  dZ (ι:=Nat->ah) X 62 [qN s] [] (λ_=>.e (.agg [.bp 0 (.sl s.1.length 2 0 s.1.length),.bp 1 (.sl s.2.1.length 2 0 s.2.1.length),.bp 2 (.sl s.2.2.length 2 0 s.2.2.length)]))
   (λq=>[.buf 67 2 s.1.length (Dv s.1 q),.buf 71 2 s.2.1.length (fL.fn s.2.1),.buf 48 2 s.2.2.length (cH.fn s.2.2),.cf (PM (Bf s.1 q s.1.length))]):=by
 refine dZ.qJ tok Tryz.func62 rfl rfl rfl λF=>?_;refine bL [(1000001,ab)] rfl aw ?_;refine AK.region ?_;refine qG [] 5 rfl aw ?_;refine AK.F6 9 67 2 (cP.fn []) rfl ?_;refine AK.F6 10 71 2 (fL.fn []) rfl ?_;refine AK.F6 11 48 2 (cH.fn []) rfl ?_;refine bL [(1000002,ab)] rfl ?_ ?_
 .simp only[ay,show i48.bytes=16 from rfl,aF,aD];grind
 refine AK.spare 76 2 ?_;refine AK.Nt (ι:=Unit) 6 (λ_=>PM (Bf s.1 (λ_=>ai) 0)) rfl (λv y h=>⟨(),PM.start (λ_ _ h=>absurd h (fQ _)) v y h⟩) λ_=>?_;refine di rfl aw ?_;refine AK.cC 7 (λx:Nat×(Nat->ah)=>x.1<=s.1.length) (λx=>[(1,.e (.one (.ptr 0 0))),(2,.e (.one (.ptr 1 0))),(3,.e (.one (.ptr 5 0))),(4,dI x.1)]) (λx=>PG s x.1 (Dv s.1 x.2) 0 [] (Bf s.1 x.2 x.1)) (λx=>s.1.length-x.1) (0,λ_=>ai) rfl ?_ rfl ?_ rfl (ll _) ?_
 .simp
 .simp[cy,nN];rfl
 rintro⟨i,b⟩ hi;simp only at hi;by_cases h:i<s.1.length
 .have g:s.1.getD i (0,[])∈s.1:=by grind
  have a:s.1.getD (i:Int).toNat cP.b7=s.1.getD i (0,[]):=by grind
  have q:=t _ g;have d:=z _ g;rw[<-a]at d q;refine aW [(20,ab),(1000005,ab)] rfl ?_ ?_
  .simp only[ay,bA,aZ,aF,aD];omega
  refine AK.J7 (ι:=Own (s.1.getD (i:Int).toNat cP.b7).2) iZ 15 18 8 (λk=>bw k 14)
   (λk=>[.e (.one (.ptr 5 0)),.e (.one (.bp 2 (.sl i 2 0 i))),.e (.one (.ptr 0 0)),cP.sl s.1,dI i,TZ [.int .i64 (s.1.getD (i:Int).toNat cP.b7).1,sP (s.1.getD (i:Int).toNat cP.b7)],TZ [.int .i64 (s.1.getD (i:Int).toNat cP.b7).1,sP (s.1.getD (i:Int).toNat cP.b7)],dI (s.1.getD (i:Int).toNat cP.b7).1,
    .e (.one (.c (.sl ab 2 0 (λj=>[].getD j [])))),.e (.one (.ptr 0 0)),cP.sl s.1,dI i,TZ [.int .i64 (s.1.getD (i:Int).toNat cP.b7).1,sP (s.1.getD (i:Int).toNat cP.b7)],TZ [sP (s.1.getD (i:Int).toNat cP.b7)],.e (.one (.c (sP (s.1.getD (i:Int).toNat cP.b7))))].getD k .any)
   (λq k=>[.e (.one (.c (AD _ q))),.e (.agg [.c (.int .i64 (s.1.getD (i:Int).toNat cP.b7).1),.c (AD _ q)]),.e (.one (.c (.sl ab 2 1 (λj=>[[.int .i64 (s.1.getD (i:Int).toNat cP.b7).1,AD _ q]].getD j []))))].getD (k-15) .any)
   (λq=>PG s i (Dv s.1 b) 0 [] (Bf s.1 b i)++[H0 _ q])
   rfl rfl rfl rfl rfl rfl rfl (λk h=>by have:=cZ h;omega) rfl
   ⟨OA.cV tok bF.nil rfl,OA.cV tok bF.nil rfl,OA.cV tok bF.nil rfl,OA.cV tok bF.nil rfl,OA.cV tok bF.nil rfl,OA.eval (ds:=[]) tok bF.nil rfl ?_,OA.cV tok bF.nil rfl,OA.cV tok bF.nil rfl,OA.cV tok bF.nil rfl,OA.cV tok bF.nil rfl,OA.cV tok bF.nil rfl,OA.cV tok bF.nil rfl,OA.eval (ds:=[]) tok bF.nil rfl ?_,OA.cV tok bF.nil rfl,OA.cV tok bF.nil rfl,aw,aw,aw,aw,aw,aw,aw⟩
   (λq=>⟨OA.cV tok bF.nil rfl,OA.cV tok bF.nil rfl,OA.cV tok bF.nil rfl,OA.cV tok bF.nil rfl,OA.cV tok bF.nil rfl,OA.eval (ds:=[]) tok bF.nil rfl ?_,OA.cV tok bF.nil rfl,OA.cV tok bF.nil rfl,OA.cV tok bF.nil rfl,OA.cV tok bF.nil rfl,OA.cV tok bF.nil rfl,OA.cV tok bF.nil rfl,OA.eval (ds:=[]) tok bF.nil rfl ?_,OA.cV tok bF.nil rfl,OA.cV tok bF.nil rfl,aw,OA.cV tok bF.nil rfl,OA.cV tok bF.nil rfl,aw⟩)
   (mz.wF rfl (dO.fresh (VT rfl) rfl rfl rfl d (by show _*24<=_;omega) (GD _ _))) ?_
  .simp only[ay,aD];omega
  .simp only[ay,aD];omega
  .simp only[ay,aD];omega
  .simp only[ay,aD];omega
  rw[a];rw[a]at d q;generalize m:s.1.getD i (0,[])=p at *;intro r;refine aW [(1000004,ab)] rfl ?_ ?_
  .simp only[ay,show i67.bytes=32 from rfl,aF,aD];grind
  refine AK.fact (fV.U3 (l:=7) (n:=p.2.length) (bf:=r.1.1) (xs:=r.1.2) rfl d) λG=>?_;refine AK.merge 6 7 (by decide) rfl rfl (λ_ _ h=>h.1) (PM.add (Bf.up (by grind) (by grind) (by grind))) ?_;have e:=MH (ps:=s.1) (q:=b) (i:=i) (v:=la r.1.1 (s.1.getD i (0,[])).2.length);rw[m]at *;refine bu rfl ?_ (AK.aQ (i+1,I0 b i (la r.1.1 p.2.length)) rfl ?_ ?_ ?_ ?_)
  .simp only[ay,bA,aD];omega
  .simp
  .simp only[ay.cat,ay,aD,aF];and_intros<;>first|exactλ_ _=>rfl|exact e|rfl
  .grind
  grind
 obtain rfl:i=s.1.length:=by omega
 refine bL [(20,ae)] rfl (by simp) (AK.leaveD rfl rfl ?_);refine di rfl aw ?_;refine AK.cC 7 (λi=>i<=s.2.1.length) (λi:Nat=>[(1,.e (.one (.ptr 0 0))),(2,.e (.one (.ptr 1 0))),(3,.e (.one (.ptr 5 0))),(5,dI i)]) (λi=>PG s s.1.length (Dv s.1 b) i (s.2.1.take i) (Bf s.1 b s.1.length)) (λi=>s.2.1.length-i) 0 rfl ?_ rfl ?_ rfl (by omega) ?_
 .simp
 .simp[cy]
 intro i hi;by_cases h:i<s.2.1.length
 .have g:s.2.1.getD i (0,[])∈s.2.1:=by grind
  have a:s.2.1.getD (i:Int).toNat fL.b7=s.2.1.getD i (0,[]):=by grind
  have q:=o _ g;have e:=fL.kG s.2.1 h (0,[]);generalize s.2.1.getD i (0,[])=x at *;refine bL [(47,ab),(1000010,ab)] rfl ?_ ?_
  .simp only[ay,a,aZ,true_or,aF,aD];and_intros<;>omega
  rw[a];refine AK.g7 7 1 140 2 (cL.fn []) rfl rfl ?_;refine di rfl aw ?_;refine AK.cC 9 (λj=>j<=x.2.length) (λj:Nat=>[(1,.e (.one (.ptr 0 0))),(2,.e (.one (.ptr 1 0))),(3,.e (.one (.ptr 5 0))),(5,dI i),(6,.e (.one (.ptr 7 0))),(7,dI j)]) (λj=>PG s s.1.length (Dv s.1 b) i (s.2.1.take i) (Bf s.1 b s.1.length)++[.cells 71 [.c (.int .i64 x.1),.vec 8 2 j (cL.fn (x.2.take j))],.vec 140 2 j (cL.fn (x.2.take j))]) (λj=>x.2.length-j) 0 rfl ?_ rfl ?_ rfl (by omega) ?_
  .simp
  .simp[cy]
  intro j u;by_cases w:j<x.2.length
  .have f:x.2.getD (j:Int).toNat cL.b7=x.2.getD j ([],[]):=by grind
   have E:=q.2 (x.2.getD j ([],[])) (by grind);have A:=cL.kG x.2 w ([],[]);refine bL [(66,ab),(2000085,ab)] rfl ?_ (AK.aQ (j+1) rfl ?_ ?_ ?_ ?_)
   .simp only[ay,a,f,bA,show i140.bytes=40 from rfl,show i3.bytes=8 from rfl,aZ,true_or,aF,aD];and_intros<;>omega
   .simp
   .simp only[ay.cat,ay,a,f,nN,bC,aD,aF];and_intros<;>first|exactλ_ _=>rfl|exact A|rfl
   .grind
   .omega
  obtain rfl:j=x.2.length:=by omega
  rw[dh];refine bL [(66,ae)] rfl ?_ (AK.leaveD rfl rfl ?_)
  .simp only[ay,a,bM];and_intros<;>omega
  refine di rfl ?_ (AK.aQ (i+1) rfl ?_ ?_ ?_ ?_)
  .simp only[ay,a,bA,show i71.bytes=32 from rfl,aF,aD];and_intros<;>omega
  .simp
  .simp only[ay.cat,ay,aD,aF];and_intros<;>first|exactλ_ _=>rfl|exact e|rfl
  .grind
  .omega
 obtain rfl:i=s.2.1.length:=by omega
 rw[dh];refine bL [(47,ae)] rfl (by simp) (AK.leaveD rfl rfl ?_);refine di rfl aw ?_;refine AK.l4 b [2,3,4,6] rfl rfl rfl rfl rfl rfl rfl rfl ?_ rfl rfl rfl rfl (λj u=>absurd u (by simp))
 .simp
def MI(l:List bm)(x:bm)(r:l.length<=4000000):Ev X 117 [dM.sl l,SC x] [] (.e (.one (.vec 0 2 (gI l x).length (dM.fn (gI l x))))) [.vec 76 2 (gI l x).length (dM.fn (gI l x))]:=by
 refine Ev.bQ Tryz.func117 rfl λs=>?_;refine bL [(1000002,ab)] rfl aw ?_;refine AK.iB 5 76 2 rfl rfl ?_;refine di rfl aw ?_;refine AK.cC 2 (λi=>i<=l.length) (λi:Nat=>p3F l x i (m0 x l i)) (λi=>Y8 x (m0 x l i).1) (λi=>l.length-i) 0 rfl ?_ rfl ?_ rfl (by omega) ?_
 .simp[m0]
 .simp[m0]
 intro i hi;by_cases h:i<l.length
 .have p:=yT (x:=x) h;have f:=sF x l i;have j:l.getD (i:Int).toNat dM.b7=l.getD i (0,[]):=by grind
  generalize m0 x l i=a at p f;obtain⟨a,b⟩:=a;simp only at f;have m:=dM.cj a (l.getD i (0,[]));have o:=dM.pH a x (l.getD i (0,[]));cases b with
  |true =>
   have c:m0 x l (i+1)=(a++[l.getD i (0,[])],ab):=p;have k:a.length+1=(a++[l.getD i (0,[])]).length:=by simp
   refine bL [(12,ab)] rfl ?_ (AK.aQ (i+1) rfl ?_ ?_ ?_ ?_)
   .simp only[ay,j,bA,show i76.bytes=24 from rfl,aZ,aF,aD];and_intros<;>omega
   .rw[c];simp only[ay.cat,ay,j,aF,aD];and_intros<;>first|exact k|exact m|exactλ_ _=>rfl|rfl|omega
   .rw[c];simp only[ay.cat,ay,j,aF,aD];and_intros<;>first|exact k|exact m|exactλ_ _=>rfl|rfl|omega
   .grind
   .omega
  |false =>
   by_cases g:x.1<(l.getD i (0,[])).1
   .have c:m0 x l (i+1)=(a++[x,l.getD i (0,[])],ab):=by rw[p];simp only[iM,bl g];rfl
    have k:a.length+1+1=(a++[x,l.getD i (0,[])]).length:=by simp
    refine bL [(12,ab),(25,ab)] rfl ?_ (AK.aQ (i+1) rfl ?_ ?_ ?_ ?_)
    .simp only[ay,j,bA,show i76.bytes=24 from rfl,g,kC,aZ,aF,aD];and_intros<;>omega
    .rw[c];simp only[ay.cat,ay,j,aF,aD];and_intros<;>first|exact k|exact o|exactλ_ _=>rfl|rfl|omega
    .rw[c];simp only[ay.cat,ay,j,aF,aD];and_intros<;>first|exact k|exact o|exactλ_ _=>rfl|rfl|omega
    .grind
    .omega
   .have c:m0 x l (i+1)=(a++[l.getD i (0,[])],ae):=by rw[p];simp only[iM,aY g];rfl
    have k:a.length+1=(a++[l.getD i (0,[])]).length:=by simp
    refine bL [(12,ab),(25,ae)] rfl ?_ (AK.aQ (i+1) rfl ?_ ?_ ?_ ?_)
    .simp only[ay,j,bA,show i76.bytes=24 from rfl,aZ,g,kA,n5,bM,aF,aD];and_intros<;>omega
    .rw[c];simp only[ay.cat,ay,j,aF,aD];and_intros<;>first|exact k|exact m|exactλ_ _=>rfl|rfl|omega
    .rw[c];simp only[ay.cat,ay,j,aF,aD];and_intros<;>first|exact k|exact m|exactλ_ _=>rfl|rfl|omega
    .grind
    .omega
 .obtain rfl:i=l.length:=by omega
  have d:=tN x l [];have f:=sF x l l.length;refine bL [(12,ae)] rfl (by simp) (AK.leaveD rfl rfl ?_);have q:m0 x l l.length=l.foldl (iM x) ([],ae):=by grind
  rw[q]at f⊢;generalize l.foldl (iM x) ([],ae)=a at *;obtain⟨a,b⟩:=a;simp only[ml]at d f;cases b with
  |true =>
   simp only[cn]at d;subst d;refine di rfl aw (AK.cY [1] rfl ?_ ?_ rfl rfl sD)
   .simp
   .rfl
  |false =>
   simp only[jy,b9]at d;have m:=dM.cj a x;refine bL [(1000012,ab)] rfl ?_ ?_
   .simp only[ay,show i76.bytes=24 from rfl,aF,aD];grind
   have n:(a++[x]).length=a.length+1:=by simp
   refine AK.BU (φ':=[(5,.e (.one (.vec 1 2 (a++[x]).length (dM.fn (a++[x])))))]) (σ':=Y8 x (a++[x])) ?_ rfl ?_ rfl ?_
   .rw[<-d];refine di rfl aw (AK.cY [1] rfl ?_ ?_ rfl rfl sD)
    .simp
    .rfl
   .simp only[ay.cat,ay,n,aF,aD];and_intros<;>first|exact m|rfl
   .simp only[ay.cat,ay,n,aF,aD];and_intros<;>first|exact m|rfl
def MJ[X.gZ](l:List bm)(x:bm)(a:l.length<=4000000):dZ (ι:=Own (gI l x)) X 117 [dM.sl l,SC x] [] (λq=>.e (.one (.c (AD (gI l x) q)))) (λq=>[H0 (gI l x) q]) :=
 Ev.thaw (MI l x a) Tryz.func117 rfl (by simp[vo,qu,mG]) λi hi=>⟨rfl,GD _ _ i hi⟩
def mkB(no:Int)(L:List bm):Option (Own L)->List bm->List aP
 |none,l=>[.cells 67 [.c (.int .i64 0),.c (.sl ab 0 0 λ_=>[])],pkB no l,.cf (fV 76 2 (.nil af) 0 [])]
 |some q,_=>[.cells 67 [.c (.int .i64 0),.c (.sl ab 0 0 λ_=>[])],.cells 67 [.c (.int .i64 no),.c (AD L q)],H0 L q]
def IF[X.gZ](no k:Int)(ps:List Bs)(hk:b6 k=ab)(u:∀p∈ps,bt p=ab)(z:ps.length<=4000000)(A:0<ps.length):
  dZ (ι:=Own (oY k ps)) X 66 [dI no,dI k,cS.sl ps] [] (λq=>.e (.agg [.c (.int .i64 no),.c (AD (oY k ps) q)])) (λq=>[H0 (oY k ps) q]):=by
 refine dZ.qJ tok Tryz.func66 rfl rfl rfl λB=>?_;have f:bF X [(113,tO),(118,Cu),(117,Lg)]:=.cons tJ (.cons GA (.cons QA .nil));refine bh f [(1000002,ab)] rfl aw ?_;refine AK.spare 76 2 ?_;refine cm f rfl aw ?_;refine AK.cC 3 (λx:Option (Own (oY k ps))×Nat=>x.2<=ps.length/\(x.1.isSome=ab↔x.2=ps.length)) (λx=>[(1,dI k),(2,cS.sl ps),(6,.e (.one (.ptr 0 0))),(7,.e (.one (.ptr 1 0))),(8,dI x.2)]) (λx=>mkB no (oY k ps) x.1 (oY k (ps.take x.2))) (λx=>ps.length-x.2) (af,0) rfl ?_ rfl ?_ rfl ⟨ll _,by grind⟩ ?_
 .simp
 .simp[oY]
 rintro⟨q,i⟩ ⟨hi,s⟩;simp only at hi s;cases q with
 |some q =>
  obtain rfl:i=ps.length:=s.1 rfl;refine bh f [(15,ae)] rfl (by simp) (AK.leaveD rfl rfl ?_);refine cm f rfl aw ?_;refine AK.l4 q [2] rfl rfl rfl rfl rfl rfl rfl rfl ?_ rfl rfl rfl rfl (λj w=>absurd w (by simp));simp
 |none =>
  have h:i<ps.length:=by grind
  have m:ps.getD (i:Int).toNat cS.b7=ps.getD i []:=by grind
  have d:bt (ps.getD i [])=ab:=u _ (by grind);have t:=Cv (k:=k) h;have o:=qx k (ps.take i);rw[List.length_take]at o;by_cases y:i+1<ps.length
  .refine bh f [(15,ab)] rfl ?_ (AK.aQ (af,i+1) rfl ?_ ?_ ?_ ?_)
   .simp only[ay,m,hk,d,bA,dM.list_fn,aZ,aF,aD];and_intros<;>first|exact dM.aM _|omega
   .simp
   .show ay _;rw[t];simp only[ay.cat,ay,m,dM.list_fn,aF,aD];and_intros<;>first|exactλ_ _=>rfl|rfl|omega
   .grind
   grind
  .have v:i+1=ps.length:=by omega
   have b:oY k ps=gI (oY k (ps.take i)) (ek k (ps.getD i []),eT (ps.getD i [])):=by grind
   refine bh f [(15,ab),(1000005,ab)] rfl ?_ ?_
   .simp only[ay,aZ];omega
   have g:=MJ (X:=X) (oY k (ps.take i)) (ek k (ps.getD i []),eT (ps.getD i [])) (by omega);rw[<-b]at g;have a:bF X [(113,tO),(118,Cu)]:=.cons tJ (.cons GA .nil);generalize n:ps.getD i []=p at *;generalize oY k (ps.take i)=l at *;refine AK.J7 (ι:=Own (oY k ps)) iZ 14 15 16 (λj=>bw j 13)
    (λj=>([.e (.one (.ptr 1 1)),dM.sl l,dI k,cS.sl ps,dI i,TZ [.str (ps.getD (i:Int).toNat cS.b7)],dS (ps.getD (i:Int).toNat cS.b7),dI (ek k (ps.getD (i:Int).toNat cS.b7)),cS.sl ps,dI i,TZ [.str (ps.getD (i:Int).toNat cS.b7)],dS (ps.getD (i:Int).toNat cS.b7),dS (eT (ps.getD (i:Int).toNat cS.b7)),.e (.agg [.c (.int .i64 (ek k (ps.getD (i:Int).toNat cS.b7))),.c (.str (eT (ps.getD (i:Int).toNat cS.b7)))])]:List D).getD j .any)
    (λq _=>.e (.one (.c (AD (oY k ps) q)))) (λq=>mkB no (oY k ps) af l++[H0 (oY k ps) q])
    rfl rfl rfl rfl rfl rfl rfl (λj h=>by have:=cZ h;omega) rfl
    ⟨OA.cV tok a rfl,OA.cV tok a rfl,OA.cV tok a rfl,OA.cV tok a rfl,OA.cV tok a rfl,OA.eval (ds:=[]) tok a rfl ?_,OA.cV tok a rfl,OA.eval (ds:=[]) tok a rfl ?_,OA.cV tok a rfl,OA.cV tok a rfl,OA.eval (ds:=[]) tok a rfl ?_,OA.cV tok a rfl,OA.eval (ds:=[]) tok a rfl ?_,OA.cV tok a rfl,aw,aw,aw,aw⟩
    (λq=>⟨OA.cV tok a rfl,OA.cV tok a rfl,OA.cV tok a rfl,OA.cV tok a rfl,OA.cV tok a rfl,OA.eval (ds:=[]) tok a rfl ?_,OA.cV tok a rfl,OA.eval (ds:=[]) tok a rfl ?_,OA.cV tok a rfl,OA.cV tok a rfl,OA.eval (ds:=[]) tok a rfl ?_,OA.cV tok a rfl,OA.eval (ds:=[]) tok a rfl ?_,OA.cV tok a rfl,aw,aw⟩)
    (mz.qg (n▸g) [] rfl rfl rfl rfl rfl rfl rfl (λ_=>rfl) rfl (λ_=>rfl)) ?_
   all_goals first|(simp only[ay,m,hk,d,aD,aF];omega)|(simp only[ay.cat,ay,m,hk,d,and_self];done)|skip
   intro r;refine bh a [(1000004,ab)] rfl aw ?_;refine AK.swap 2 3 (by decide) rfl rfl (λ_ _ h=>h.1) (λ_ _ h=>h.1) ?_;refine cm a rfl ?_ (AK.aQ (aa r,i+1) rfl ?_ ?_ ?_ ?_)
   .simp only[ay,bA];omega
   .simp
   .simp
   .grind
   grind
end
end Go.AM.R1
