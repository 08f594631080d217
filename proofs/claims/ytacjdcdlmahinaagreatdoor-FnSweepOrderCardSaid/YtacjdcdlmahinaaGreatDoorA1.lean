/- Part 1. No condition. -/
import Derived.KernelRfl
import Derived.Tactics2
import Derived.LaidSub
import Derived.LaidLaws
import Derived.LaidHandle
import Derived.Conc.Own
import Derived.Conc.Events
import Derived.Conc.Listed
import Derived.Laws.CopyRow
import Derived.Laws.AppendOwn
import Derived.Laws.Rows
import Derived.Laws.Strings
import Derived.Laws.Cells
import Derived.Lib.Strings
import Derived.Laws.Slices
import Derived.Orders
import Derived.Laws.StructEq
set_option linter.all false
set_option maxHeartbeats 8000000
open Go.Conc (G)
open List renaming length → V, getD_eq_getElem?_getD → aj, range → bl, all_eq_true → bL
open Go renaming Value → ah, TypeId → av, Frame → bd, FuncId → aO, execOp → ar, Event → bg, undef → ai, Operand → aG, World → aB, Program → aR, Oper → aJ, Goroutine → au, stepG → aU
open Option renaming some → O, none → af
open Bool renaming true → W, false → ae
open Go.Region renaming wanted → bn, ready → bo
open Go.World renaming cell? → a9
open Go.Sem renaming events_bind → aM, events_pure → bG
open Go.Result renaming evThen_ok → aP
open Go.Instr renaming sliceBounds → bk
open Nat renaming beq → aC, ble → bP
open Go.Op renaming equalIn → bx, bytesLess → bC
set_option linter.defProp false
set_option linter.deprecated false
namespace Go
def an:=@_root_.trivial
def bD:=@_root_.List.getElem?_eq_getElem
def bu:=@_root_.decide_eq_true_eq
def cO:=@_root_.List.getElem?_eq_some_iff
def b9:=@_root_.List.mem_of_getElem?
def dH:=@_root_.Nat.eq_of_beq_eq_true
def aW:=@_root_.and_true
def aX:=@_root_.true_and
def dm:=@_root_.decide_eq_false_iff_not
def cu:=@_root_.Bool.and_eq_true
def bZ:=@_root_.Int.toNat_natCast
def bm:=@_root_.Nat.le_refl
def cj:=@_root_.List.length_append
def cA:=@_root_.Go.Result.andThen_ok
def b8:=@_root_.Nat.zero_add
def cf:=@_root_.Go.Sem.run_bind
def gi:=@_root_.Array.getD_eq_getD_getElem?
def de:=@_root_.List.take_length
def eb:=@_root_.Nat.lt_of_lt_of_le
def bc:=@_root_.if_neg
def gM:=@_root_.List.getElem_of_mem
def eY:=@_root_.List.length_singleton
def eC:=@_root_.beq_eq_false_iff_ne
def bh:=@_root_.if_pos
def fY:=@_root_.Nat.le_of_ble_eq_true
def eF:=@_root_.Option.some.injEq
def gN:=@_root_.Array.getElem?_eq_some_iff
def iy:=@_root_.List.getElem?_append_right
def gX:=@_root_.Nat.mul_le_mul_right
def eU:=@_root_.List.length_cons
def dy:=@_root_.Nat.lt_or_ge
def dN:=@_root_.Go.Sem.run_pure
def jM:=@_root_.Array.getElem?_eq_getElem
def eZ:=@_root_.List.mem_append
def gj:=@_root_.List.mem_singleton
def kB:=@_root_.List.eq_nil_of_length_eq_zero
def eQ:=@_root_.List.mem_cons
def js:=@_root_.List.getElem?_set_self
def hO:=@_root_.List.mem_of_mem_take
def gx:=@_root_.not_true_eq_false
def hU:=@_root_.List.getElem?_take
def j8:=@_root_.List.getElem?_append_left
def cC:=@_root_.if_false
def oK:=@_root_.List.pairwise_iff_getElem
def ju:=@_root_.List.pairwise_cons
def gk:=@_root_.List.length_nil
def fQ:=@_root_.decide_eq_true
def cv:=@_root_.if_true
def iL:=@_root_.List.mem_cons_self
def lH:=@_root_.List.getElem?_cons_zero
def gm:=@_root_.Bool.not_false
def j9:=@_root_.List.getElem?_toArray
def fZ:=@_root_.Bool.not_true
def iM:=@_root_.Bool.not_eq_true'
def gy:=@_root_.Bool.true_and
def iz:=@_root_.List.mem_filter
def Az:=@_root_.List.take_append_drop
def iY:=@_root_.Option.getD_some
def jN:=@_root_.of_decide_eq_true
def iZ:=@_root_.List.append_nil
def tb:=@_root_.List.ext_getElem?
def AA:=@_root_.List.findIdx?_eq_some_iff_getElem
def kg:=@_root_.List.length_map
def jw:=@_root_.List.foldl_cons
def et:=@_root_.congrArg
def fR:=@_root_.beq_iff_eq
def kY:=@_root_.Bool.false_eq_true
def kh:=@_root_.beq_self_eq_true
def jO:=@_root_.Nat.not_lt_zero
def lY:=@_root_.List.mem_cons_of_mem
def rL:=@_root_.Array.getElem?_setIfInBounds_ne
def nS:=@_root_.List.getElem?_cons_succ
def hZ:=@_root_.Nat.le_trans
def kC:=@_root_.Bool.or_eq_true
def mz:=@_root_.List.pairwise_append
def mD:=@_root_.List.getElem?_set_ne
def iN:=@_root_.Nat.add_zero
def lZ:=@_root_.List.append_assoc
def oM:=@_root_.Array.length_toList
def ja:=@_root_.List.mem_map
def qm:=@_root_.Array.getElem?_replicate
def Kf:=@_root_.List.mem_iff_getElem
def nT:=@_root_.bne_self_eq_false
def ET:=@_root_.List.take_add_one
def jP:=@_root_.Nat.add_mul
def oN:=@_root_.Nat.eq_zero_or_pos
def oO:=@_root_.not_false_eq_true
def AB:=@_root_.Nat.beq_refl
def AD:=@_root_.Array.getElem?_setIfInBounds_self_of_lt
def oP:=@_root_.Option.bind_some
def EU:=@_root_.Array.mapM_eq_mapM_toList
def dO:=@_root_.ne_eq
def qn:=@_root_.List.getElem?_map
def EV:=@_root_.Option.isSome_iff_exists
def oQ:=@_root_.Option.map_some
def lI:=@_root_.decide_true
def tc:=@_root_.List.mem_of_mem_drop
def te:=@_root_.Array.toArray_toList
def vm:=@_root_.Option.map_eq_some_iff
def xS:=@_root_.List.map_congr_left
def kn:=@_root_.Nat.zero_le
def rM:=@_root_.List.getElem?_eq_none
def pH:=@_root_.Nat.add_sub_cancel
def wu:=@_root_.List.getElem_mem
def pJ:=@_root_.List.getElem?_drop
def lB:=@_root_.decide_false
def l0:=@_root_.Prod.mk.injEq
def pK:=@_root_.Nat.succ_mul
def ot:=@_root_.decide_eq_false
def ko:=@_root_.bne_iff_ne
def ou:=@_root_.Option.some.inj
def mR:=@_root_.List.map_cons
def pL:=@_root_.Bool.not_eq_true
def ov:=@_root_.List.mapM_cons
def EW:=@_root_.Bool.and_eq_false_iff
def zO:=@_root_.Array.mem_of_getElem?
def wv:=@_root_.List.mem_of_find?_eq_some
def pM:=@_root_.List.nil_append
def pO:=@_root_.Bool.eq_iff_iff
def rN:=@_root_.Nat.mod_lt
def rO:=@_root_.List.not_mem_nil
def pP:=@_root_.List.mem_range
def rP:=@_root_.List.mem_flatMap
def uc:=@_root_.List.find?_eq_none
def ud:=@_root_.Int.emod_lt_of_pos
def ue:=@_root_.Bool.not_eq_false'
def wx:=@_root_.UInt8.toNat_inj
def wy:=@_root_.Nat.ble_eq_true_of_le
def wz:=@_root_.List.length_filter_le
def wA:=@_root_.List.contains_iff_mem
def uf:=@_root_.List.flatMap_cons
def ow:=@_root_.Nat.mul_one
def wB:=@_root_.Nat.div_lt_of_lt_mul
def wC:=@_root_.Bool.or_eq_false_iff
def pQ:=@_root_.Nat.sub_zero
def zQ:=@_root_.List.mem_nil_iff
def ug:=@_root_.List.filter_cons
def uh:=@_root_.List.ext_getElem
def Wp:=@_root_.List.drop_eq_getElem_cons
def wD:=@_root_.Int.toNat_of_nonneg
def mS:=@_root_.or_false
def zR:=@_root_.Nat.lt_succ_iff_lt_or_eq
def ui:=@_root_.Int.emod_nonneg
def zT:=@_root_.Nat.le_mul_of_pos_right
def zU:=@_root_.List.range_succ_eq_map
def wE:=@_root_.List.pairwise_map
def uj:=@_root_.Bool.false_and
def pR:=@_root_.Nat.not_lt
def zV:=@_root_.Nat.div_add_mod'
def zW:=@_root_.List.length_drop
def Wq:=@_root_.List.find?_eq_some_iff_getElem
def wF:=@_root_.List.drop_length
def wG:=@_root_.List.cons_append
def zX:=@_root_.List.mem_append_left
def zY:=@_root_.bne_eq_false_iff_eq
def zZ:=@_root_.Nat.mul_le_mul_left
def z0:=@_root_.List.filter_eq_self
def My:=@_root_.List.length_eraseIdx_of_lt
def EX:=@_root_.List.findIdx?_eq_none_iff
def z8:=@_root_.List.foldl_append
def uk:=@_root_.Go.Sem.run_ite
def EY:=@_root_.Nat.add_sub_cancel_left
def ox:=@_root_.true_or
def Mz:=@_root_.List.take_of_length_le
def MA:=@_root_.List.drop_eq_nil_of_le
def EZ:=@_root_.Array.getElem?_eq_none
def MB:=@_root_.Array.getElem?_toList
def E3:=@_root_.Array.getElem?_modify
def wH:=@_root_.and_self
def z9:=@_root_.Option.some_or
def E4:=@_root_.List.getElem?_of_mem
def wI:=@_root_.Int.le_refl
def E5:=@_root_.Nat.add_sub_cancel'
def E6:=@_root_.List.length_pos_iff
def fe{α:Sort _}{β:α→Sort _}{f:(x:α)→β x}:∀x,f x=f x:=λ_=>rfl
def aK{α:Sort _}{a:α}:a=a:=rfl
def Z{α:Sort _}{a:α}:a=a:=rfl
section
variable{p:Prop}
def aq(h:p:=by omega):=h
def az(h:p:=by grind):=h
def ay(h:p:=by simp):=h
def bw(h:p:=by kernel_rfl):=h
def c6(h:p:=by simp;omega):=h
def fC(h:p:=by simp_all):=h
def ee(h:p:=by decide):=h
def nh(h:p:=by rw[hh.len];grind):=h
def Kg(h:p:=by simp only[aA,cd,bu,aX,aW];and_intros<;>omega):=h
def vn(h:p:=by grind[cW]):=h
def yV(h:p:=by simp[G,aU,stepG.exec,Frame.aT]):=h
def qI(h:p:=by simp only[phi];omega):=h
def QH(h:p:=by unfold Func.isWrapper;first|(rw[bh (by decide +kernel)];kernel_rfl)|(rw[bc (by decide +kernel)];exact⟨rfl,rfl⟩)):=h
def QI(h:p:=by simp[hU,r,bD (by omega:p<f.length)]at q;rw[<-q];simp[aj,bD (by omega:p<f.length)]):=h
def uY(h:p:=by decide +kernel):=h
def Zd(h:p:=by have k:x.data.toList.length=x.size:=oM;have j:y.data.toList.length=y.size:=oM;have e:IntKind.i64.max=9223372036854775807:=rfl;have g:x.data.toList.length+y.data.toList.length<=9223372036854775807:=ho;grind):=h
def tf(h:p:=by apply tb;grind):=h
def DD(h:p:=by simp only[aA,cd];omega):=h
def QJ(h:p:=by show(bx (9999+1) t _ _).run P s.w=_;unfold bx;simp[underlying,f]):=h
def QK(h:p:=by intro x o;simp only[eQ,zQ,mS]at o;rcases o with rfl|rfl|rfl<;>exact⟨_,_,rfl⟩):=h
def QL(h:p:=by simp only[Lit.wf,IntKind.min,IntKind.max,IntKind.signed,IntKind.bits]at h;simp at h;omega):=h
def kT(h:p:=by simp[h]):=h
def QM(h:p:=by simp only[cu]at *;simp only[joinedFacts,cu];simp only[*,cv,wH]):=h
def QN(h:p:=by rw[aj,bD (by omega:i<f.length)];exact wu _):=h
def yW(h:p:=by simp only[cd];omega):=h
def qJ(h:p:=by simp[cd]):=h
def MC(h:p:=by rw[a];simp only[iG,EW,dm];omega):=h
def DF(h:p:=by grind[List.getElem_of_mem]):=h
def DG(h:p:=by rw[<-hT];decide +kernel):=h
def wJ(h:p:=by grind[oy]):=h
def QO(h:p:=by rw[aj,bD hi];exact wu hi):=h
def QP(h:p:=by simp only[Go.AM.R1.xT,lH,eF]at o;exact o.symm):=h
def sx(h:p:=by cases he):=h
def DH(h:p:=by grind[qo]):=h
def QQ(h:p:=by have:=(cO.1 o).1;simp[Go.AM.R1.xT]at this;omega):=h
def QR(h:p:=by rw[<-touchAt_old (u:=u) (eb hi h.T0)];exact q):=h
def QS(h:p:=by rw[<-touchAt_old (u:=u) (eb hi h.T0)];exact e):=h
def DI(h:p:=by grind[tg]):=h
def Ze(h:p:=by simp[-bL,-List.all_eq_false,hk,c,b,a,cP.aE,dY.aE,cH.aE,e,f,g]):=h
def MD(h:p:=by intro D hT hF;grind[ahK,ad6]):=h
def Zf(h:p:=by show(bx (9999+1) t _ _).run P s.w=_;unfold bx;simp[underlying,m]):=h
def QT(h:p:=by simp[ar,ho,resolve,invoke,builtin]):=h
def Zg(h:p:=by rw[MB,jM (by omega:i<L.size)];simpa[gi,jM (by omega:i<L.size)]using E):=h
def DJ(h:p:=by grind[fK]):=h
def Zh(h:p:=by refine Ev.bQ Tryz.func259 rfl λa=>?_;exact dj rfl (by simp[cd]) (I.bE rfl)):=h
def QU(h:p:=by simp[G,aU,stepG.exec,Frame.aT,h]):=h
def QV(h:p:=by have:=zO b;simp at this⊢;exact this):=h
def uZ(h:p:=by simp;rfl):=h
def Zi(h:p:=by intro jx e c;match jx,c with|0,_=>exact .inr (by simp[deafBehind])|jx+1,c=>grind):=h
def QW(h:p:=by have:=(cO.1 q).1;simp at this;omega):=h
def Hm(h:p:=by simp[<-hh.len]):=h
def Zj(h:p:=by unfold ni;rw[lZ];congr 1;rw[cW (by grind) (0,0)];grind):=h
def ME(h:p:=by simp only[gi];grind):=h
def wK(h:p:=by rfl):=h
def Zk(h:p:=by simp[ar,ho,resolve,invoke,builtin,Builtin.len_,f,j,goInt,g]):=h
def MF(h:p:=by simp only[fz,AB]):=h
def Zl(h:p:=by grind[Array.mapM_eq_mapM_toList,Sem.run_map,Go.Result.andThen_ok]):=h
def Zm(h:p:=by rw[show((s.2.1.length:Int)-1).toNat=s.2.1.length-1 by omega];rfl):=h
def QX(h:p:=by rw[<-pK];exact gX _ hi):=h
def Hn(h:p:=by grind[iS]):=h
def Ho(h:p:=by grind[iT]):=h
def MG(h:p:=by simp[World.freeze,f]):=h
def DK(h:p:=by simp[eW,e]):=h
def QY(h:p:=by grind[List.take_append_drop]):=h
def yX(h:p:=by simp[a]):=h
def MH(h:p:=by unfold zt;grind):=h
def QZ(h:p:=by simp[kD,E7,th,sK]):=h
def AE(h:p:=by simp[hk]):=h
def Q0(h:p:=by unfold sL;split<;>omega):=h
def Zn(h:p:=by simp[hk,z,v,y,cP.aE,dY.aE,cH.aE,q]):=h
def ad7(h:p:=by simp[cP.aw,dY.aw,cH.aw,cI.aw]):=h
def Zo(h:p:=by simp only[aA,cd,aX,aW];and_intros<;>omega):=h
def Q1(h:p:=by simp[eW]):=h
def Zp(h:p:=by intro e c;simp at c;subst c;exact bk_cell _ _ rfl):=h
def Hp(h:p:=by simp[e]):=h
def Q2(h:p:=by rw[Op.bytesLess.eq_def]):=h
def MI(h:p:=by rw[<-f];exact h):=h
def Zq(h:p:=by rw[<-k.lJ b (λL D t=>c ⟨L,D,t⟩)];exact q):=h
def Zr(h:p:=by obtain⟨m,ak⟩:=N;exact DataW.trod_lt m _ _ _ ak):=h
def MJ(h:p:=by cases op<;>rfl):=h
def Zs(h:p:=by simp only[aA,cd,dm,aX,aW];omega):=h
def Zt(h:p:=by simp only[aA,cd,bu,aX,aW];omega):=h
def Zu(h:p:=by rw[show IntKind.u64.bits=64 from rfl];omega):=h
def Zv(h:p:=by unfold bT;grind[List.take_append_drop]):=h
def Zw(h:p:=by simp[ar,h,resolve,invoke,builtin]):=h
def Zx(h:p:=by unfold dC;grind[List.take_append_drop]):=h
def Q3(h:p:=by unfold dW;grind):=h
def MK(h:p:=by simp[ef]):=h
def Zy(h:p:=by simp only[look];cases aC u t<;>rfl):=h
def Q4(h:p:=by rw[AK.jq.size];omega):=h
def Q5(h:p:=by simp only[cG,b]):=h
def Q6(h:p:=by cases args;simp_all):=h
def Zz(h:p:=by simp only[aA.eu,aA,e,aX,aW]):=h
def ZA(h:p:=by show(s.w.drew.heap.push _).size=_;simp):=h
def ZB(h:p:=by rw[My (by simp;omega)];simp;omega):=h
def ZC(h:p:=by have:=DL F;simp only[cd];omega):=h
def Q7(h:p:=by unfold dM;omega):=h
def Q8(h:p:=by simp[Act.eval,stA]):=h
def Q9(h:p:=by simp only[fz,h2]):=h
def Ra(h:p:=by simp only[fz,h1]):=h
def Rb(h:p:=by rintro rfl;exact hb ((g.bs r).2 rfl)):=h
def Rc(h:p:=by have:=Vc_upd D (⟨1,0,1⟩:WD) hx;grind):=h
def E8(h:p:=by simp[dZ]):=h
def AF(h:p:=by simp[mk]):=h
def Re(h:p:=by simp only[fx,kC,bu];grind):=h
def Kh(h:p:=by rw[upd_same];simp):=h
def Rf(h:p:=by simp[World.shape?,r.heap _ _ r.ch]):=h
def Rg(h:p:=by grind[run_store,setCell_eq_setRow]):=h
def aaS(h:p:=by simp[deafBehind]):=h
def Ki(h:p:=by simp[dD];omega):=h
def Rh(h:p:=by unfold eD;rw[bc];grind):=h
def Ri(h:p:=by unfold eG Region.binds;grind):=h
def Rj(h:p:=by simp[ar,ho,f,d,e,rcase]):=h
def Rl(h:p:=by simp[hk,AK,cH.aw,cH.aE]):=h
def E9(h:p:=by simp[dD]):=h
def Rm(h:p:=by simp[kZ]):=h
def Rn(h:p:=by grind[List.drop_eq_getElem_cons]):=h
def AG(h:p:=by simp[d]):=h
def AH(h:p:=by simp[b]):=h
def Kj(h:p:=by grind[Ro]):=h
def Rp(h:p:=by grind[Option.isSome_iff_exists]):=h
def Rq(h:p:=by rw[<-pK];exact gX _ m):=h
def Rr(h:p:=by rw[<-pK];exact gX _ G):=h
def Rs(h:p:=by simpa using List.find?_some a):=h
def Kk(h:p:=by grind[ML]):=h
def Rt(h:p:=by simp only[dD,bZ];omega):=h
def Ru(h:p:=by grind[Nat.eq_of_beq_eq_true]):=h
def Kl(h:p:=by simpa using h):=h
def Rv(h:p:=by rw[<-l];simp only[KK];omega):=h
def Rw(h:p:=by unfold dW at a⊢;grind):=h
def Rx(h:p:=by simp[deafBehind,semEvents]):=h
def Ry(h:p:=by have:=(cO.1 hj).1;omega):=h
def Rz(h:p:=by unfold gz;split<;>rfl):=h
def Km(h:p:=by simp[bT]):=h
def RA(h:p:=by simp[zu,List.drop_take]):=h
def Kn(h:p:=by rw[o.1];simp):=h
def Ko(h:p:=by rw[js B]):=h
end
end Go
namespace Go.AM
inductive C where
  | int (k:IntKind) (n:Int)
  | bool (b:Bool)
  | du (s:List UInt8)
  | sl (tight:Bool) (k n:Nat) (es:Nat->List C)
  | rp (cs:List C)
  | ki
  | Fy (t:av) (c:C)
  | M0 (t:av) (cs:List C)
  | kG
  | fn (f:Fn) (first cap:List C)
  | C5
  | val (x:ah)
inductive BP where
  | sl (g k o n:Nat)
  | el (g k i f:Nat)
def BP.g:BP->Nat
  | .sl g _ _ _=>g
  | .el g _ _ _=>g
def BP.K:BP->ah->ah->Prop
  | .sl _ k o n,lv,v=>∃a a0 cap c0,v=.slice a n cap/\n<=cap/\o+cap=c0/\c0<=9223372036854775807/\lv=.slice a0 0 c0/\(0<cap->∃b,a0=O ⟨b,0,af⟩/\a=O ⟨b,o*k,af⟩)
  | .el _ k i f,lv,v=>∃b c0,lv=.slice (O ⟨b,0,af⟩) 0 c0/\v=.pointer (O ⟨b,i*k+f,af⟩)
inductive A where
  | c (x:C)
  | ptr (l off:Nat)
  | dk (l k n:Nat) (es:Nat->List C)
  | oY (l:Nat)
  | bp (l:Nat) (w:BP)
  | any
abbrev A.v(x:ah):A:=.c (.val x)
inductive E1 where
  | bX (a:A)
  | agg (cs:List A)
inductive D where
  | e (x:E1)
  | gI (xs:List E1)
  | any
abbrev Fr:=List (Nat×D)
def look:Fr->Nat->D
  | [],_=>.any
  | (i,d)::r,t=>cond (aC i t) d (look r t)
inductive bq where
  | cells (E:av) (cs:List A)
  | dk (E:av) (k n:Nat) (es:Nat->List C)
  | cJ (H:ah->(Nat->Option Obj)->Prop)
  | cg
  | loop (N:Nat) (J:Fr) (r:Loop)
  | vr
  | eX (E:av) (k n:Nat) (es:Nat->List C)
@[simp] def bq.gr:bq->Bool
  | .dk _ _ _ _=>W
  | .eX _ _ _ _=>W
  | _=>ae
structure Loc where
  v:ah
  bs:List Nat
abbrev Mem:=Nat->Nat->Option ah
structure St where
  β:List Loc
  M:Mem
  w:aB
  own:Nat->Prop
def cd:IntKind->Int->Prop
  | .i8,n=>-128<=n/\n<=127
  | .i16,n=>-32768<=n/\n<=32767
  | .i32,n=>-2147483648<=n/\n<=2147483647
  | .i64,n=>-9223372036854775808<=n/\n<=9223372036854775807
  | .u8,n=>0<=n/\n<=255
  | .u16,n=>0<=n/\n<=65535
  | .u32,n=>0<=n/\n<=4294967295
  | .u64,n=>0<=n/\n<=18446744073709551615
def dK:ah->Bool
  | .agg _|.tuple _=>ae
  | _=>W
def BP.K.cell{w:BP}{lv v:ah}(h:w.K lv v):dK v=W:=by
  cases w with
  | sl=>obtain⟨_,_,_,_,rfl,_⟩:=h;rfl
  | el=>obtain⟨_,_,_,rfl⟩:=h;rfl
inductive Rd (M:Mem):ah->C->Prop
  | int {k:IntKind} {n:Int} (h:cd k n):Rd M (.int k n) (.int k n)
  | bool {b:Bool}:Rd M (.bool b) (.bool b)
  | du {s:ByteArray} {l:List UInt8} (h:s.data.toList=l) (hl:V l<=9223372036854775807):Rd M (.string s) (.du l)
  | sl {a:Option Addr} {n cap:Nat} {tight:Bool} {k:Nat} {es:Nat->List C} (b off:Nat) (f:Nat->Nat->ah)
      (Ou:n<=cap) (hb:cap<=9223372036854775807) (ht:tight=W->cap=n) (hk:∀i,i<n->V (es i)=k)
      (ha:0<n->a=O ⟨b,off,af⟩)
      (hm:∀i,i<n->∀j c,(es i)[j]?=O c->M b (off+i*k+j)=O (f i j))
      (hr:∀i,i<n->∀j c,(es i)[j]?=O c->Rd M (f i j) c):Rd M (.slice a n cap) (.sl tight k n es)
  | rp {cs:List C} (b off:Nat) (f:Nat->ah)
      (hm:∀j c,cs[j]?=O c->M b (off+j)=O (f j))
      (hr:∀j c,cs[j]?=O c->Rd M (f j) c):Rd M (.pointer (O ⟨b,off,af⟩)) (.rp cs)
  | ki:Rd M (.pointer af) .ki
  | Fy {t:av} {v:ah} {c:C} (h:Rd M v c) (hc:dK v=W):Rd M (.iface t v) (.Fy t c)
  | M0 {t:av} {vs:List ah} {cs:List C} (hl:V vs=V cs)
      (f:Nat->ah) (hf:∀j,j<V vs->vs[j]?=O (f j)) (hr:∀j c,cs[j]?=O c->Rd M (f j) c):Rd M (.iface t (.agg vs.toArray)) (.M0 t cs)
  | kG:Rd M .nilIface .kG
  | fn {g:Fn} {first cap:List C} (fs cs:List ah) (hl:V fs=V first) (He:V cs=V cap) (f1 f2:Nat->ah)
      (h1:∀j,j<V fs->fs[j]?=O (f1 j)) (h2:∀j,j<V cs->cs[j]?=O (f2 j))
      (r1:∀j c,first[j]?=O c->Rd M (f1 j) c) (r2:∀j c,cap[j]?=O c->Rd M (f2 j) c):Rd M (.func g fs.toArray cs.toArray) (.fn g first cap)
  | C5:Rd M .nilFunc .C5
  | val {x:ah} (h:dK x=W):Rd M x (.val x)
theorem Rd.fM{M:Mem}{v x:ah}(h:Rd M v (.val x)):v=x:=by cases h;rfl
def Rd.cell{M:Mem}{v:ah}{c:C}(h:Rd M v c):dK v=W:=by cases h<;>first|rfl|assumption
def Rd.mono{M M':Mem}(d:∀b o v,M b o=O v->M' b o=O v){v:ah}{c:C}(h:Rd M v c):Rd M' v c:=by
  induction h with
  | int h=>exact .int h
  | bool=>exact .bool
  | du h hl=>exact .du h hl
  | sl b off f a hb ht hk ha hm hr ih =>
    exact .sl b off f a hb ht hk ha (λi hi j c hj=>d _ _ _ (hm i hi j c hj)) (λi hi j c hj=>ih i hi j c hj)
  | rp b off f hm hr ih=>exact .rp b off f (λj c hj=>d _ _ _ (hm j c hj)) (λj c hj=>ih j c hj)
  | ki=>exact .ki
  | Fy h g ih=>exact .Fy ih g
  | M0 hl f e hr ih=>exact .M0 hl f e (λj c hj=>ih j c hj)
  | kG=>exact .kG
  | fn fs cs hl He f1 f2 h1 h2 r1 r2 ih1 ih2=>exact .fn fs cs hl He f1 f2 h1 h2 (λj c hj=>ih1 j c hj) (λj c hj=>ih2 j c hj)
  | C5=>exact .C5
  | val h=>exact .val h
def jh(U:List bq)(s:St)(v:ah):A->Prop
  | .c x=>Rd s.M v x
  | .ptr l off=>(∀B,U[l]?=O B->B.gr=ae)/\∃L b,s.β[l]?=O L/\L.v=.pointer (O ⟨b,0,af⟩)/\v=.pointer (O ⟨b,off,af⟩)
  | .dk l k n es=>Rd s.M v (.sl ae k n es)/\l<V U/\∀E k' n' es',U[l]?=O (bq.dk E k' n' es')->n<=n'/\(n'=n->∃L,s.β[l]?=O L/\v=L.v)
  | .oY l=>(∀B,U[l]?=O B->B.gr=ae)/\∃L,s.β[l]?=O L/\v=L.v/\dK v=W
  | .bp l w=>∃a,w.K a v/\l<V U/\∀E k n es,U[l]?=O (bq.eX E k n es)->w.g<=n/\(w.g=n->∃L,s.β[l]?=O L/\L.v=a)
  | .any=>dK v=W
def fD(U:List bq)(s:St):List ah->List A->Prop
  | [],[]=>True
  | v::vs,a::al=>jh U s v a/\fD U s vs al
  | _,_=>False
def qF(U:List bq)(s:St)(v:ah):E1->Prop
  | .bX a=>jh U s v a
  | .agg cs=>∃vs:List ah,v=.agg vs.toArray/\fD U s vs cs
def j4(U:List bq)(s:St):List ah->List E1->Prop
  | [],[]=>True
  | v::vs,a::al=>qF U s v a/\j4 U s vs al
  | _,_=>False
def ey(U:List bq)(s:St)(v:ah):D->Prop
  | .e x=>qF U s v x
  | .gI xs=>∃vs:List ah,v=.tuple vs.toArray/\j4 U s vs xs
  | .any=>True
def cU(U:List bq)(s:St):List ah->List D->Prop
  | [],[]=>True
  | v::vs,a::al=>ey U s v a/\cU U s vs al
  | _,_=>False
structure ku(M:Mem)(k n:Nat)(es:Nat->List C)(vs:List ah):Prop where
  len:V vs=n*k
  jy:∀i,i<n->V (es i)=k
  rd:∀i,i<n->∀(j:Nat) (c:C),(es i)[j]?=O c->∃v,vs[i*k+j]?=O v/\Rd M v c
def ku.mono{M M':Mem}(a:∀b o v,M b o=O v->M' b o=O v){k n:Nat}{es:Nat->List C}{vs:List ah}(h:ku M k n es vs):ku M' k n es vs :=
  ⟨h.len,h.jy,λi hi j c hj=>let ⟨v,h1,h2⟩:=h.rd i hi j c hj;⟨v,h1,h2.mono a⟩⟩
def gb(U:List bq)(s:St):bq->Loc->Prop
  | .cells E cs,L=>∃b vs,L=⟨.pointer (O ⟨b,0,af⟩),[b]⟩/\s.w.heap[b]?=O (.cells (List.toArray vs) E (0,0))/\fD U s vs cs/\∀o,s.M b o=af
  | .dk E k n es,L=>Rd s.M L.v (.sl ae k n es) /\
      (((L.bs=[]/\n=0)/\Rd s.M L.v (.sl W k n es)) ∨
       ∃b cap vs,L=⟨.slice (O ⟨b,0,af⟩) n cap,[b]⟩/\s.w.heap[b]?=O (.cells (List.toArray vs) E (0,0))/\V vs=cap*k/\∀o,n*k<=o->s.M b o=af)
  | .cJ H,L=>∃c,H L.v c/\(∀(b:Nat) (o:Obj),c b=O o->s.w.heap[b]?=O o)/\(∀b,b∈L.bs↔(c b).isSome=W)/\∀b∈L.bs,∀o,s.M b o=af
  | .cg,_=>True
  | .loop N J r,L=>∃l tmps fn df,L=⟨.func (.yield l) #[] #[],[l]⟩/\s.w.heap[l]?=O (.loop {r with tmps:=tmps,fn:=fn,defers:=df})/\tmps.size=N/\(∀t,ey U s (tmps.getD t ai) (look J t))/\∀o,s.M l o=af
  | .vr,L=>∃r:Nat,L=⟨.int .i64 r,[r]⟩/\s.w.heap[r]?=O (.deferred (O []))/\∀o,s.M r o=af
  | .eX E k n es,L=>(n=0/\L=⟨.slice af 0 0,[]⟩)∨∃b a vs zs,L=⟨.slice (O ⟨b,0,af⟩) 0 a,[b]⟩/\s.w.heap[b]?=O (.cells (List.toArray (vs++zs)) E (0,0))/\V (vs++zs)=a*k/\n<=a/\a<=9223372036854775807/\ku s.M k n es vs/\∀o,s.M b o=af
structure aH(U:List bq)(s:St):Prop where
  mem:∀b o v,s.M b o=O v->s.w.cell? ⟨b,o,af⟩=O v
  len:V s.β=V U
  box:∀(l:Nat) (B:bq) (L:Loc),U[l]?=O B->s.β[l]?=O L->gb U s B L
  gY:∀(l l':Nat) (L L':Loc),s.β[l]?=O L->s.β[l']?=O L'->∀b∈L.bs,b∈L'.bs->l=l'
  lt:∀L∈s.β,∀b∈L.bs,b<s.w.heap.size
  own:∀b,s.own b->b<s.w.heap.size/\∀L∈s.β,b∉L.bs
def ji:bq->Loc->bq->Loc->Prop
  | .dk _ _ n _,L,.dk _ _ a _,L'=>(a=n->L'.v=L.v)/\n<=a
  | .dk _ _ _ _,_,.cg,_=>True
  | .dk _ _ _ _,_,_,_=>False
  | .eX _ _ n _,L,.eX _ _ a _,L'=>(a=n->L'.v=L.v)/\n<=a
  | .eX _ _ _ _,_,.cg,_=>True
  | .eX _ _ _ _,_,_,_=>False
  | _,_,.dk _ _ _ _,_=>False
  | _,_,.eX _ _ _ _,_=>False
  | .cg,L,.cg,L'=>L'.v=L.v
  | .cg,_,_,_=>False
  | .vr,L,.vr,L'=>L'.v=L.v
  | .vr,_,_,_=>False
  | _,_,.vr,_=>False
  | _,L,_,L'=>L'.v=L.v
structure sM(U:List bq)(s:St)(U':List bq)(s':St):Prop where
  mem:∀b o v,s.M b o=O v->s'.M b o=O v
  box:∀(l:Nat) (B:bq) (L:Loc),U[l]?=O B->s.β[l]?=O L->∃B' L',U'[l]?=O B'/\s'.β[l]?=O L'/\ji B L B' L'
structure eO(U:List bq)(s:St)(U':List bq)(s':St):Prop where
  size:s.w.heap.size<=s'.w.heap.size
  keep:∀b,b<s.w.heap.size->(∀L∈s.β,b∉L.bs)->s'.w.heap[b]?=s.w.heap[b]?
  mem:∀b o v,s.M b o=O v->s'.M b o=O v
  lJ:∀b,b<s.w.heap.size->(∀L∈s.β,b∉L.bs)->∀o,s'.M b o=s.M b o
  Ab:∀L'∈s'.β,∀b∈L'.bs,s.w.heap.size<=b∨∃L∈s.β,b∈L.bs
  box:∀(l:Nat) (B:bq) (L:Loc),U[l]?=O B->s.β[l]?=O L->∃B' L',U'[l]?=O B'/\s'.β[l]?=O L'/\ji B L B' L'
  os:s'.w.os=s.w.os
  tape:s'.w.tape=s.w.tape
  output:s'.w.output=s.w.output
  own:s'.own=s.own
structure dE(U:List bq)(s:St)(U':List bq)(s':St):Prop where
  size:s.w.heap.size<=s'.w.heap.size
  keep:∀b,s.own b->s'.w.heap[b]?=s.w.heap[b]?
  mem:∀b o v,s.M b o=O v->s'.M b o=O v
  lJ:∀b,b<s.w.heap.size->(∀L∈s.β,b∉L.bs)->∀o,s'.M b o=s.M b o
  Ab:∀L'∈s'.β,∀b∈L'.bs,s.w.heap.size<=b∨∃L∈s.β,b∈L.bs
  box:∀(l:Nat) (B:bq) (L:Loc),U[l]?=O B->s.β[l]?=O L->∃B' L',U'[l]?=O B'/\s'.β[l]?=O L'/\ji B L B' L'
  os:s'.w.os=s.w.os
  tape:s'.w.tape=s.w.tape
  output:s'.w.output=s.w.output
  own:s'.own=s.own
structure cK(s s':St):Prop where
  β:s'.β=s.β
  M:s'.M=s.M
  own:s'.own=s.own
  size:s.w.heap.size<=s'.w.heap.size
  keep:∀b,(s.own b∨∃L∈s.β,b∈L.bs)->s'.w.heap[b]?=s.w.heap[b]?
  mem:∀b o v,s.M b o=O v->s'.w.cell? ⟨b,o,af⟩=O v
  os:s'.w.os=s.w.os
  tape:s'.w.tape=s.w.tape
  output:s'.w.output=s.w.output
def pF(s:St)(e:bg):Prop :=
  match e.loc with
  | .cell a=>e.sync=ae/\a.spot=af/\(False∨((∃L∈s.β,a.block∈L.bs)/\(e.write=W->s.M a.block a.off=af))∨(e.write=ae/\∃v,s.M a.block a.off=O v))
  | .obj r=>e.sync=ae/\(False∨∃L∈s.β,r∈L.bs)
  | .mark m=>m=.noRoom∨∃f,m=.extern f
  | _=>False
def gA(s:St)(es:Array bg):Prop:=∀e∈es,pF s e
def gA.nil{s:St}:gA s #[]:=by intro e h;grind
def ji.refl(B:bq)(L:Loc):ji B L B L:=by cases B<;>simp[ji]
def ji.trans{B B' B'':bq}{L L' L'':Loc}(h:ji B L B' L')(a:ji B' L' B'' L''):ji B L B'' L'':=by
  cases B<;>cases B'<;>cases B''<;>simp_all[ji]
  all_goals
    grind
def eO.refl(U:List bq)(s:St):eO U s U s :=
  ⟨bm _,λ_ _ _=>rfl,λ_ _ _ h=>h,λ_ _ _ _=>rfl,λL h b hb=>.inr ⟨L,h,hb⟩,λ_ B L h a=>⟨B,L,h,a,.refl _ _⟩,rfl,rfl,rfl,rfl⟩
def eO.trans{U σ1 σ2:List bq}{s d s2:St}(h:eO U s σ1 d)(k:eO σ1 d σ2 s2):eO U s σ2 s2:=by
  have gf:∀b,b<s.w.heap.size->(∀L∈s.β,b∉L.bs)->∀L∈d.β,b∉L.bs:=by
    intro b hb hn L a c;rcases h.Ab L a b c with h1|⟨t,i,g⟩
    · omega
    grind
  refine⟨hZ h.size k.size,?_,λb o v n=>k.mem _ _ _ (h.mem _ _ _ n),?_,?_,?_,k.os.trans h.os,k.tape.trans h.tape,k.output.trans h.output,k.own.trans h.own⟩
  · intro b hb hn
    rw[k.keep b (eb hb h.size) (gf b hb hn),h.keep b hb hn]
  · intro b hb hn o
    rw[k.lJ b (eb hb h.size) (gf b hb hn),h.lJ b hb hn]
  · intro L a b hb
    rcases k.Ab L a b hb with h1|⟨L1,p,j⟩
    · exact .inl (hZ h.size h1)
    grind
  · intro l B L hB a
    obtain⟨B1,L1,h1,h2,e⟩:=h.box l B L hB a;obtain⟨r,f,k1,m,q⟩:=k.box l B1 L1 h1 h2;exact⟨r,f,k1,m,e.trans q⟩
def dE.refl(U:List bq)(s:St):dE U s U s :=
  ⟨bm _,λ_ _=>rfl,λ_ _ _ h=>h,λ_ _ _ _=>rfl,λL h b hb=>.inr ⟨L,h,hb⟩,λ_ B L h a=>⟨B,L,h,a,.refl _ _⟩,rfl,rfl,rfl,rfl⟩
def dE.trans{U σ1 σ2:List bq}{s d s2:St}(h:dE U s σ1 d)(k:dE σ1 d σ2 s2):dE U s σ2 s2:=by
  have gf:∀b,b<s.w.heap.size->(∀L∈s.β,b∉L.bs)->∀L∈d.β,b∉L.bs:=by
    intro b hb hn L a c;rcases h.Ab L a b c with h1|⟨t,i,g⟩
    · omega
    grind
  refine⟨hZ h.size k.size,?_,λb o v n=>k.mem _ _ _ (h.mem _ _ _ n),?_,?_,?_,k.os.trans h.os,k.tape.trans h.tape,k.output.trans h.output,k.own.trans h.own⟩
  · intro b hb
    rw[k.keep b (by rw[h.own];exact hb),h.keep b hb]
  · intro b hb hn o
    rw[k.lJ b (eb hb h.size) (gf b hb hn),h.lJ b hb hn]
  · intro L a b hb
    rcases k.Ab L a b hb with h1|⟨L1,p,j⟩
    · exact .inl (hZ h.size h1)
    grind
  · intro l B L hB a
    obtain⟨B1,L1,h1,h2,e⟩:=h.box l B L hB a;obtain⟨r,f,k1,m,q⟩:=k.box l B1 L1 h1 h2;exact⟨r,f,k1,m,e.trans q⟩
def eO.pC{U U':List bq}{s s':St}(hh:aH U s)(h:eO U s U' s'):dE U s U' s' :=
  ⟨h.size,λb hb=>h.keep b (hh.own b hb).1 (hh.own b hb).2,h.mem,h.lJ,h.Ab,h.box,h.os,h.tape,h.output,h.own⟩
def dE.ext{U U':List bq}{s s':St}(h:dE U s U' s'):sM U s U' s':=⟨h.mem,h.box⟩
def cK.refl{U:List bq}{s:St}(hh:aH U s):cK s s:=⟨rfl,rfl,rfl,bm _,λ_ _=>rfl,hh.mem,rfl,rfl,rfl⟩
def cK.db{U:List bq}{s s':St}(h:cK s s'):dE U s U s' :=
  ⟨h.size,λb hb=>h.keep b (.inl hb),λb o v c=>by rw[h.M];exact c,λ_ _ _ _=>by rw[h.M],λL a b hb=>.inr ⟨L,by rw[<-h.β];exact a,hb⟩,
    λl B L hB a=>⟨B,L,hB,by rw[h.β];exact a,.refl _ _⟩,h.os,h.tape,h.output,h.own⟩
def eO.ext{U U':List bq}{s s':St}(h:eO U s U' s'):sM U s U' s':=⟨h.mem,h.box⟩
section mono
variable {U U':List bq}{s s':St}
def sM.Wv(h:sM U s U' s'){l:Nat}{L:Loc}(b:s.β[l]?=O L)(hl:V s.β=V U)(d:∀B,U[l]?=O B->B.gr=ae):
    (∀B,U'[l]?=O B->B.gr=ae)/\∃L',s'.β[l]?=O L'/\L'.v=L.v:=by have a:l<V U:=az;obtain⟨B',L',k1,e,f⟩:=h.box l (U[l]) L (bD a) b;have c:=d _ (bD a);generalize U[l]=B at *;rw[k1];cases B<;>cases B'<;>simp_all[ji,bq.gr]
def jh.mono(h:sM U s U' s')(hl:V s.β=V U){v:ah}{a:A}(r:jh U s v a):jh U' s' v a:=by
  cases a with
  | c x=>exact Rd.mono h.mem r
  | any=>exact r
  | ptr l off =>
    obtain⟨o,L,b,h1,h2,i⟩:=r;obtain⟨g,L',k1,j⟩:=h.Wv h1 hl o;exact⟨g,L',b,k1,by grind,i⟩
  | dk l k n es =>
    obtain⟨m,d,p⟩:=r;obtain⟨B',L',k1,j,f⟩:=h.box l (U[l]) (s.β[l]'aq) (bD d) (bD aq);have e:l<V U':=(cO.1 k1).1;refine⟨Rd.mono h.mem m,e,λE k' g es' he=>?_⟩;rw[he]at k1;cases k1;have hB:=bD d;generalize U[l]=B at *;cases B with
    | dk E0 k0 n0 es0 =>
      obtain⟨q,q2⟩:=f;grind
    | _=>simp[ji]at f
  | oY l =>
    obtain⟨o,L,h1,h2,i⟩:=r;obtain⟨g,L',k1,j⟩:=h.Wv h1 hl o;exact⟨g,L',k1,by grind,i⟩
  | bp l w =>
    obtain⟨lv,m,d,p⟩:=r;obtain⟨B',L',k1,j,f⟩:=h.box l (U[l]) (s.β[l]'aq) (bD d) (bD aq);have e:l<V U':=(cO.1 k1).1;refine⟨lv,m,e,λE k' g es' he=>?_⟩;rw[he]at k1;cases k1;have hB:=bD d;generalize U[l]=B at *;cases B with
    | eX E0 k0 n0 es0 =>
      obtain⟨q,q2⟩:=f;grind
    | _=>simp[ji]at f
def fD.mono(h:sM U s U' s')(hl:V s.β=V U){vs:List ah}{cs:List A}(r:fD U s vs cs):fD U' s' vs cs:=by
  induction vs generalizing cs with
  | nil=>cases cs<;>simp_all[fD]
  | cons v vs ih =>
    cases cs with
    | nil=>simp[fD]at r
    | cons a cs=>exact⟨r.1.mono h hl,ih r.2⟩
def qF.mono(h:sM U s U' s')(hl:V s.β=V U){v:ah}{x:E1}(r:qF U s v x):qF U' s' v x:=by
  cases x with
  | bX a=>exact jh.mono h hl r
  | agg cs=>obtain⟨vs,h1,h2⟩:=r;exact⟨vs,h1,h2.mono h hl⟩
def j4.mono(h:sM U s U' s')(hl:V s.β=V U){vs:List ah}{xs:List E1}(r:j4 U s vs xs):j4 U' s' vs xs:=by
  induction vs generalizing xs with
  | nil=>cases xs<;>simp_all[j4]
  | cons v vs ih =>
    cases xs with
    | nil=>simp[j4]at r
    | cons a cs=>exact⟨r.1.mono h hl,ih r.2⟩
def ey.mono(h:sM U s U' s')(hl:V s.β=V U){v:ah}{d:D}(r:ey U s v d):ey U' s' v d:=by
  cases d with
  | e x=>exact qF.mono h hl r
  | gI xs=>obtain⟨vs,h1,h2⟩:=r;exact⟨vs,h1,h2.mono h hl⟩
  | any=>trivial
def cU.mono(h:sM U s U' s')(hl:V s.β=V U){vs:List ah}{xs:List D}(r:cU U s vs xs):cU U' s' vs xs:=by
  induction vs generalizing xs with
  | nil=>cases xs<;>simp_all[cU]
  | cons v vs ih =>
    cases xs with
    | nil=>simp[cU]at r
    | cons a cs=>exact⟨r.1.mono h hl,ih r.2⟩
end mono
def sR(U:List bq)(s:St):List Deferred->List Nat->Prop
  | [],[]=>True
  | d::ds,l::ls=>(U[l]?=O .vr/\∃(L:Loc) (r:Nat),s.β[l]?=O L/\L.v=.int .i64 r/\d={target:=.collected r,args:=#[]})/\l∉ls/\sR U s ds ls
  | _,_=>False
def sR.mono{U U':List bq}{s s':St}(h:sM U s U' s'):∀{ds:List Deferred} {ls:List Nat},sR U s ds ls->sR U' s' ds ls
  | [],[],_=>trivial
  | [],_::_,r=>r.elim
  | _::_,[],r=>r.elim
  | d::ds,l::ls,⟨⟨h1,L,r,h2,g,f⟩,c,a⟩=>by
    obtain⟨B',L',k1,b,e⟩:=h.box l _ L h1 h2;cases B'<;>simp[ji]at e
    exact⟨⟨k1,L',r,b,by grind,f⟩,c,sR.mono h a⟩
def oe:List bq->Bool
  | []=>W
  | .vr::_=>ae
  | _::r=>oe r
def qU:∀{l:List bq},oe l=W->∀B∈l,B≠.vr
  | [],_,B,hB=>by grind
  | b::r,h,B,hB=>by
    have a:b≠.vr/\oe r=W:=by cases b<;>simp_all[oe]
    rcases eQ.1 hB with rfl|hB
    · exact a.1
    · exact qU a.2 B hB
def o0{s:St}{r:Nat}{wr:Bool}{L:Loc}(a:L∈s.β)(b:r∈L.bs):pF s ⟨.obj r,wr,ae⟩:=⟨rfl,.inr ⟨L,a,b⟩⟩
def gA.bX{s:St}{e:bg}(h:pF s e):gA s #[e]:=by intro x a;grind
def gA.RY{s:St}{e a:bg}(h:pF s e)(b:pF s a):gA s #[e,a]:=by intro x c;grind
def c9{p:Prop}(h:p:=by simp<;>omega):p:=h
def j3{p:Prop}(h:p:=by((try simp only[aA,aA.eu,cd,bu,dm,bZ,b8,cj,eY,eU,gk,kg,List.length_take,dO,eC,fR,ko,cC,cv,kh,nT,fZ,gm,gx,oO,cu,kC,iM,lI,lB,ox,aW,aX]);and_intros<;>first|rfl|omega|trivial|assumption)):p:=h
def wj{p:Prop}(h:p:=by((try simp only[*,aA,aA.eu,cd,bu,dm,bZ,b8,cj,eY,eU,gk,kg,List.length_take,dO,eC,fR,ko,cC,cv,kh,nT,fZ,gm,gx,oO,cu,kC,iM,lI,lB,ox,aW,aX]);and_intros<;>first|rfl|omega|trivial|assumption)):p:=h
def KE{p:Prop}(h:p:=by(simp_all[aA,aA.eu,cd,bu,dm,bZ,b8,cj,eY,eU,gk,kg,List.length_take,dO,eC,fR,ko,cC,cv,kh,nT,fZ,gm,gx,oO,cu,kC,iM,lI,lB,ox,aW,aX]<;>omega)):p:=h
def ek{p:Prop}(h:p:=by((try simp only[*,aA,aA.eu,cd,bu,dm,bZ,b8,cj,eY,eU,gk,kg,List.length_take,dO,eC,fR,ko,cC,cv,kh,nT,fZ,gm,gx,oO,cu,kC,iM,lI,lB,ox,aW,aX,cP.aw,cH.aw,dY.aw,fO.aw,cI.aw,cF.aw,cS.aw,cL.aw,sS.aw,cP.aE,cH.aE,dY.aE,fO.aE,cI.aE,cF.aE,cS.aE,cL.aE,sS.aE]);and_intros<;>first|rfl|omega|trivial|assumption)):p:=h
abbrev b7(x:C):D:=.e (.bX (.c x))
abbrev cE(x y:Nat):D:=.e (.bX (.ptr x y))
abbrev mE(x:Nat)(y:BP):D:=.e (.bX (.bp x y))
abbrev jA(x:Value):D:=.e (.bX (.c (.val x)))
variable {n:Nat}{k:Int}{l b i j:Nat}{E:av}{L:Array Bool}{M:Mem}{N:Nat}{P:aR}{S:au->St->Prop}{c:Code}{g:au}{o:aJ}{s:St}{t:av}{v:ah}{w:aB}{x y:aG}{α:Type}{η:aG->D}{ι:Type}{U:List bq}{J:Fr}{all:List aJ}{lh:Array av}{cap:List C}{cR:List D}{cs:List bd}{ds:List (Nat×Bool)}{es:Nat->List C}{fo:aG}{gs:Array au}{ks:List Nat}{obs:List Prop}{off:Nat}{op:BinOp}{ops:Array aJ}{ps:List Prop}{rest:List aJ}{s':St}{tx:Bool}{ty:av}{val:Nat->Nat->ah}{vs:List ah}{w':aB}{xs:Array aG}{U' Us:List bq}{res:ι->D}{σ1:ι->List bq}
def xj{P:aR}{w:aB}:∀{l:List (String×DataW Unit)}{ps:List MemPlace},DataW.LaidVars P w l ps->∀{n:String}{d:DataW Unit},(n,d)∈l ->
  ∃g t cs fuel p,P.globalNamed n=O g/\(P.globals[g]?).map (·.type)=O t/\w.var? P n=O cs/\DataW.trod (λ_=>()) P w 0 (λ_=>W) ae fuel t cs.toList=O (d,p)
 |[],_,_,_,_,a=>by cases a
 |(i,m)::r,ps,h,n,d,a=>by
  obtain⟨g,t,cs,fuel,p,q,j,f,c,k,b,_⟩:=h;rcases eQ.1 a with e|e
  .grind
  exact xj b e
theorem BC{P:aR}{ab:aB}(a:ab.ShapedOpen P){g:Nat}{zero:Array ah}{t:av}(d:g<P.globals.size)(c:(((begin P (λ_ _=>0) default).world.heap[g]?).bind Obj.row?)=O (zero,t)){n:String}(f:P.globalNamed n=O g){cs:Array ah}(b:ab.var? P n=O cs):
  ab.heap[g]?=O (.cells cs t (0,0)):=by obtain⟨c2,e,_⟩:=a.1 g zero t d c;unfold World.var? at b;grind
def mK{P:aR}{ab:aB}{l:List (String×DataW Unit)}(h:laidMetH P l ab)(a:ab.ShapedOpen P){n q:String}{d:DataW Unit}(r:(n,.iface q d)∈l.filter λx=>x.2.handleName?.isNone){g t b:Nat}{ms:Array (String×av)}{zero:Array ah}(f:P.globalNamed n=O g)(o:(P.globals[g]?).map (·.type)=O t)(j:P.underlying t=O (.interface ms))(s:g<P.globals.size)(w:(((begin P (λ_ _=>0) default).world.heap[g]?).bind Obj.row?)=O (zero,b)):∃e:av×ah,ab.heap[g]?=O (.cells #[.iface e.1 e.2] b (0,0)):=by obtain⟨ps,i,_⟩:=(laidMetH_iff.1 h).1;obtain⟨g2,A,cs,c,p,y,k,m,z⟩:=xj i r;cases f.symm.trans y;cases o.symm.trans k;obtain⟨_,u,v,e,_⟩:=iface_of_trod j z;have:=BC a s w f m;rw[Array.eq_one_of_toList e]at this;exact⟨(u,v),this⟩
def tN{P:aR}{ab:aB}{l:List (String×DataW Unit)}(h:laidMetH P l ab)(p:ab.ShapedOpen P){n:String}{d:DataW Unit}{s:List UInt8}(i:(n,d)∈l.filter λx=>x.2.handleName?.isSome)(f:d.funcsIn?=af)(j:d.handleName?=O s){g b u ty:Nat}{zero:Array ah}(y:P.globalNamed n=O g)(k:(P.cutTypes.find? (·.1== "internal/reflectlite.rtype")).map (·.2)=O u)(v:((bl P.types.size).filter λt=>P.rowNamed t s)=[ty])(q:g<P.globals.size)(r:(((begin P (λ_ _=>0) default).world.heap[g]?).bind Obj.row?)=O (zero,b)):ab.heap[g]?=O (.cells #[.iface u (.agg #[typeHandle P ty])] b (0,0)):=by have:=(laidMetH_iff.1 h).2 _ i;rw[f]at this;obtain⟨name,w,a,m,e,o,c,A⟩:=this;cases j.symm.trans m;cases k.symm.trans e;have z:a∈(bl P.types.size).filter λt=>P.rowNamed t s:=iz.2 ⟨pP.2 o,c⟩;grind[BC]
section
open Go.Conc (G listed)
def vp(s s':St)(es:Array bg):Prop:=(∃U U',aH U s/\aH U' s'/\eO U s U' s')/\gA s es
structure Cx(P:aR) where
 main:Bool
 rely:St->St->Prop
 AL:au->St->(au->St->Prop)->Prop
 kq:∀{s s'},rely s s'->cK s s'
 Hs:Prop
class Cx.ln {P:aR} (X:Cx P):Prop where
 ok:X.Hs
structure gn(s s':St):Prop where
 w:s'.w=s.w
 mem:∀b o v,s.M b o=O v->s'.M b o=O v
 lJ:∀b,(∀L∈s.β,b∉L.bs)->∀o,s'.M b o=s.M b o
 cell:∀b o v,s'.M b o=O v->s.w.cell? ⟨b,o,af⟩=O v
 blk:∀b,(s'.own b∨∃L∈s'.β,b∈L.bs)->s.own b∨∃L∈s.β,b∈L.bs
structure qu(s s':St):Prop where
 w:s'.w=s.w
 β:s'.β=s.β
 own:s'.own=s.own
 RG:∀b o v,s'.M b o=O v->s.M b o=O v
 mem:∀b o v,s.M b o=O v->s'.M b o=O v∨s.own b
inductive ia {P:aR} (X:Cx P) (S:au->St->Prop):au->St->Prop
 |stop {g:au} {s:St}:S g s->ia X S g s
 |step {g:au} {s:St} (ng:St->au) (ns:St->St) (ne:St->Array bg):g.status=.running ->
   (∀s1,X.rely s s1->aU P X.main g s1.w=.go (ng s1) (ns s1).w (ne s1))->(∀s1,X.rely s s1->vp s1 (ns s1) (ne s1))->(∀s1,X.rely s s1->ia X S (ng s1) (ns s1))->ia X S g s
 |c8 {g:au} {s s':St}:gn s s'->ia X S g s'->ia X S g s
 |jz {g:au} {s s':St}:X.Hs->qu s s'->ia X S g s'->ia X S g s
 |AL {g:au} {s:St} {T:au->St->Prop}:X.AL g s T->(∀g' s',T g' s'->ia X S g' s')->ia X S g s
section
variable {X:Cx P}
def ia.next(f:g.status=.running)(h:∀c,X.rely s c->∃g' s' es,aU P X.main g c.w=.go g' s'.w es/\vp c s' es/\ia X S g' s'):ia X S g s:=by
 classical
 have hh:∀c,∃r:au×St×Array bg,X.rely s c->aU P X.main g c.w=.go r.1 r.2.1.w r.2.2/\vp c r.2.1 r.2.2/\ia X S r.1 r.2.1:=by
  intro c;by_cases e:X.rely s c
  .obtain⟨g',s',es,h1⟩:=h c e;exact⟨(g',s',es),λ_=>h1⟩
  exact⟨(g,c,#[]),λd=>absurd d e⟩
 refine .step (λc=>(Classical.choose (hh c)).1) (λc=>(Classical.choose (hh c)).2.1) (λc=>(Classical.choose (hh c)).2.2) f az az ?_;grind
def gn.of(hh:aH U s)(c:aH U' s')(f:s'.w=s.w)(st:dE U s U' s'):gn s s':=by
 have i:∀b o v,s'.M b o=O v->s.w.cell? ⟨b,o,af⟩=O v:=λb o v h=>by rw[<-f];exact c.mem b o v h
 have d:∀b o v,s.w.cell? ⟨b,o,af⟩=O v->b<s.w.heap.size:=by
  intro b o v h;rcases dy b s.w.heap.size with h1|h1
  .exact h1
  simp[a9,EZ h1]at h
 refine⟨f,st.mem,λb hb o=>?_,i,λb hb=>?_⟩
 .rcases dy b s.w.heap.size with h1|h1
  .exact st.lJ b h1 hb o
  cases h2:s'.M b o with
  |some v=>grind
  |none=>cases g:s.M b o with
   |none=>rfl
   |some v=>have:=d _ _ _ (hh.mem _ _ _ g);omega
 rcases hb with hb|⟨L,e,hb⟩
 .exact .inl (by rw[<-st.own];exact hb)
 rcases st.Ab L e b hb with h1|h1
 .have:=c.lt L e b hb;grind
 grind
def aH.rely(hh:aH U s)(h:cK s s'):aH U s':=by
 have ex:sM U s U s':=h.db.ext;have u:∀v a,jh U s v a->jh U s' v a:=λv a r=>r.mono ex hh.len;refine⟨λb o v hm=>h.mem b o v (by rw[<-h.M];exact hm),by rw[h.β];exact hh.len,?_,by rw[h.β];exact hh.gY,?_,?_⟩
 .intro l B L hB hL;rw[h.β]at hL;have hb:=hh.box l B L hB hL;have hk:∀b∈L.bs,s'.w.heap[b]?=s.w.heap[b]?:=λb hb=>h.keep b (.inr ⟨L,b9 hL,hb⟩);cases B with
  |cells E cs =>
   obtain⟨b,vs,h1,h2,c,d⟩:=hb;subst h1;exact⟨b,vs,Z,by grind,c.mono ex hh.len,λo=>by rw[h.M,d]⟩
  |dk E k n es =>
   obtain⟨h1,h2⟩:=hb;refine⟨by rw[h.M];exact h1,?_⟩;rcases h2 with⟨h2,c⟩|⟨b,cap,vs,h2,c,d,e⟩
   .exact .inl ⟨h2,by rw[h.M];exact c⟩
   subst h2;exact .inr ⟨b,cap,vs,Z,by grind,d,λo ho=>by rw[h.M,e o ho]⟩
  |cJ H =>
   obtain⟨ch,h1,h2,c,d⟩:=hb;refine⟨ch,h1,λb o m=>?_,c,λb f o=>by rw[h.M,d b f]⟩;grind
  |cg=>trivial
  |loop N J r =>
   obtain⟨l,tmps,fn,j,h1,h2,c,d,e⟩:=hb;subst h1;exact⟨l,tmps,fn,j,Z,by grind,c,λt=>(d t).mono ex hh.len,λo=>by rw[h.M,e]⟩
  |vr =>
   obtain⟨r,h1,h2,c⟩:=hb;subst h1;exact⟨r,Z,by grind,λo=>by rw[h.M,c]⟩
  |eX E k n es =>
   rcases hb with hb|⟨b,i,vs,q,h1,h2,c,d,e,g,p⟩
   .exact .inl hb
   subst h1;exact .inr ⟨b,i,vs,q,Z,by grind,c,d,e,by rw[h.M];exact g,λo=>by rw[h.M,p]⟩
 .intro L hL b hb;rw[h.β]at hL;exact eb (hh.lt L hL b hb) h.size
 intro b hb;rw[h.own]at hb;rw[h.β];exact⟨eb (hh.own b hb).1 h.size,(hh.own b hb).2⟩
def vp.dw(hh:aH U s):vp s s #[]:=⟨⟨U,U,hh,hh,.refl _ _⟩,.nil⟩
def _root_.Go.Frame.aT(b:bd)(a:Act)(todo:List Item):bd:={b with tmps:=a.tmps,todo:=todo,defers:=a.defers++b.defers,mode:=.run}
variable {b:bd}{a:Act}{k:List Item}{main:Bool}
def MN(b:bd)(a:Act)(c:List Item):(b.aT a c).eval=a.eval:=by funext x;cases x<;>rfl
def MO:aU P main (G (b.aT a (.code .skip::k)) cs) w=.go (G (b.aT a k) cs) w:=yV
def vt{id:Nat}:aU P main (G (b.aT a (.inBlock id::k)) cs) w=.go (G (b.aT a k) cs) w:=yV
theorem rQ{x y:Code}:aU P main (G (b.aT a (.code (.seq x y)::k)) cs) w=.go (G (b.aT a (.code x::.code y::k)) cs) w:=yV
def Ac{c:aG}{x y:Code}{t:Bool}(h:a.eval c=.bool t):
  aU P main (G (b.aT a (.code (.cond c x y)::k)) cs) w=.go (G (b.aT a (.code (if t then x else y)::k)) cs) w:=by
 have d:(b.aT a (.code (.cond c x y)::k)).eval c=.bool t:=by rw[MN];exact h
 simp only[Frame.aT]at d;simp[G,aU,stepG.exec,Frame.aT,d]
def wQ{id:Nat}:aU P main (G (b.aT a (.code (.block id c)::k)) cs) w=.go (G (b.aT a (.code c::.inBlock id::k)) cs) w:=yV
def MP:aU P main (G (b.aT a (.code (.loop c)::k)) cs) w=.go (G (b.aT a (.code c::.inLoop c::k)) cs) w:=yV
def DM:aU P main (G (b.aT a (.inLoop c::k)) cs) w=.go (G (b.aT a (.code c::.inLoop c::k)) cs) w:=yV
def Fe{id:Nat}{k':List Item}(h:exitTo id k=O k'):aU P main (G (b.aT a (.code (.exit id)::k)) cs) w=.go (G (b.aT a k') cs) w:=QU
def uq{id:Nat}:aU P main (G (b.aT a (.code (.region id ops ae)::k)) cs) w=.go (G (b.aT a (.inRegion ops (bl ops.size)::k)) cs) w:=yV
def oU{id:Nat}:aU P main (G (b.aT a (.code (.region id ops W)::k)) cs) w =
  .go (G (b.aT a (.inRegion ops (Region.schedule (P.follows .mixedOrders) ops (w.tape w.drawn (.order b.fn id)))::k)) cs) {w with drawn:=w.drawn+1}:=by simp[G,aU,stepG.exec,Frame.aT,choose,Sem.run,Question.forced,Question.cut]
def lq:aU P main (G (b.aT a (.inRegion ops []::k)) cs) w=.go (G (b.aT a k) cs) w:=yV
def Ku(h:b.roundOf=af):aU P main (G (b.aT a (.code .ret::k)) cs) w=.go (G {b.aT a (.code .ret::k)with mode:=.returning} cs) w:=QU
def Kv(h:b.roundOf=af):aU P main (G (b.aT a []) cs) w=.go (G {b.aT a []with mode:=.returning} cs) w:=QU
def kN(ops:Array aJ)(i:Nat)(rest:List Nat)(v:ah):
  (b.aT a (.inRegion ops (i::rest)::k)).finish v=b.aT (a.put ((ops[i]?).bind (·.dst)) v) (.inRegion ops rest::k):=by cases h:(ops[i]?).bind (·.dst)<;>simp[Frame.finish,Frame.aT,Act.put,h]
def Wt{rest:List Nat}(ho:ops[i]?=O o)(d:bn o (yielded ops a.tmps)=ae):
  aU P main (G (b.aT a (.inRegion ops (i::rest)::k)) cs) w=.go (G (b.aT (a.put o.dst ai) (.inRegion ops rest::k)) cs) w:=by have c:=kN (b:=b) (a:=a) (k:=k) ops i rest ai;rw[ho]at c;simp only[oP]at c;rw[<-c];simp[G,aU,stepG.exec,Frame.aT,ho,d]
theorem wR{f:aG->ah}{c:Call}(h:o.op=.defer c){g:Next}(e:(ar f o).run P w=.ok g w'):∃d,g=.defer d:=by
 simp only[ar,h,cf]at e;cases i:(resolve f c o.type).run P w with
 |ok d w2=>rw[i]at e;simp at e;grind
 |halt x w2=>simp_all
def ur{rest:List Nat}(ho:ops[i]?=O o)(e:bn o (yielded ops a.tmps)=W)(f:∀c,o.op≠.defer c):
  aU P main (G (b.aT a (.inRegion ops (i::rest)::k)) cs) w=stepG.apply P W (b.aT a (.inRegion ops (i::rest)::k)) cs af (ar a.eval o) w:=by have d:=MN b a (.inRegion ops (i::rest)::k);simp only[Frame.aT]at d;simp[G,aU,stepG.exec,stepG.oper,Frame.oper?,Frame.aT,ho,e,d];grind
theorem Ht{rest:List Nat}(ho:ops[i]?=O o)(g:bn o (yielded ops a.tmps)=W)(hk:b.kind≠.early)(f:(ar a.eval o).run P w=.ok (.value v) w'):
  aU P main (G (b.aT a (.inRegion ops (i::rest)::k)) cs) w=.go (G (b.aT (a.put o.dst v) (.inRegion ops rest::k)) cs) w' (listed P b.fn a o w):=by have d:=kN (b:=b) (a:=a) (k:=k) ops i rest v;rw[ho]at d;simp only[oP]at d;have e:(b.kind==CallKind.early)=ae:=az;rw[ur ho g (λc h=>by grind[wR]),<-d];simp[stepG.apply,f,G,Frame.aT,e,GStep.after,listed]
theorem MQ{rest:List Nat}(ho:ops[i]?=O o)(g:bn o (yielded ops a.tmps)=W)(hk:b.kind≠.early)(f:(ar a.eval o).run P w=.ok .skip w'):
  aU P main (G (b.aT a (.inRegion ops (i::rest)::k)) cs) w=.go (G (b.aT (a.put o.dst ai) (.inRegion ops rest::k)) cs) w' (listed P b.fn a o w):=by have d:=kN (b:=b) (a:=a) (k:=k) ops i rest ai;rw[ho]at d;simp only[oP]at d;have e:(b.kind==CallKind.early)=ae:=az;rw[ur ho g (λc h=>by grind[wR]),<-d];simp[stepG.apply,f,G,Frame.aT,e,GStep.after,listed]
def qK{rest:List Nat}{f:aO}{args:Array ah}(ho:ops[i]?=O o)(g:bn o (yielded ops a.tmps)=W)(hk:b.kind≠.early)(e:(ar a.eval o).run P w=.ok (.enter f args) w'):
  aU P main (G (b.aT a (.inRegion ops (i::rest)::k)) cs) w=.go (G (Frame.enter P f args .normal) (b.aT a (.inRegion ops (i::rest)::k)::cs)) w' (listed P b.fn a o w):=by have d:(b.kind==CallKind.early)=ae:=az;rw[ur ho g (λc h=>by grind[wR])];simp[stepG.apply,e,G,Frame.aT,d,GStep.after,listed]
structure zw(P:aR)(f:aO)(fr:bd)(v:ah)(s:St):Prop where
 isF:fr.fn=f
 mode:fr.mode=.returning
 defers:fr.defers=[]
 kind:fr.kind=.normal
 fn:∃fn,P.funcs[fr.fn]?=O fn/\∀w,(∀b o u,s.M b o=O u->w.cell? ⟨b,o,af⟩=O u)->(results fn fr.tmps).run P w=.ok v w/\∀e∈(results fn fr.tmps).events P w #[],∃b o u,e=⟨.cell ⟨b,o,af⟩,ae,ae⟩/\s.M b o=O u
def zw.mono{f:aO}{fr:bd}(h:zw P f fr v s)(j:∀b o u,s.M b o=O u->s'.M b o=O u):zw P f fr v s':=by obtain⟨h1,h2,c,e,fn,d,g⟩:=h;refine⟨h1,h2,c,e,fn,d,λw i=>?_⟩;grind
def gA.seen{s:St}{es:Array bg}{fn:aO}(h:gA s es):gA s (seen P fn es):=λe c=>h e (Go.Conc.mem_seen c)
def RH{f:aO}{g c:bd}(h:zw P f g v s)(w:aB)(m:∀b o u,s.M b o=O u->w.cell? ⟨b,o,af⟩=O u):∃es,aU P main (G g (c::cs)) w=.go (G (c.finish v) cs) w es/\∀e∈es,∃b o u,e=⟨.cell ⟨b,o,af⟩,ae,ae⟩/\s.M b o=O u:=by obtain⟨fn,l,d⟩:=h.fn;obtain⟨n,i⟩:=d w m;refine⟨seen P g.fn ((results fn g.tmps).events P w #[]),?_,λe j=>i e (Go.Conc.mem_seen j)⟩;simp[G,aU,unwind,doReturn,h.mode,h.defers,h.kind,l,n,GStep.after]
end
end
structure c7(N:Nat)(U:List bq)(s:St)(J:Fr)(a:Act):Prop where
 size:a.tmps.size=N
 defers:∃ls,sR U s a.defers ls
 ff:∀t,ey U s (a.tmps.getD t ai) (look J t)
def c7.mono{N:Nat}{U U':List bq}{s s':St}{J:Fr}{a:Act}(h:dE U s U' s')(hl:V s.β=V U)(f:c7 N U s J a):c7 N U' s' J a :=
 ⟨f.size,f.defers.imp λ_ h1=>h1.mono h.ext,λt=>(f.ff t).mono h.ext hl⟩
def c7.rely{a:Act}(h:cK s s')(hh:aH U s)(f:c7 N U s J a):c7 N U s' J a:=f.mono h.db hh.len
def c7.put{N:Nat}{U:List bq}{s:St}{J:Fr}{a:Act}(f:c7 N U s J a){d:Nat}(c:d<N){v:ah}{x:D}(r:ey U s v x):c7 N U s ((d,x)::J) (a.put (O d) v):=by
 refine⟨by simp[Act.put,f.size],f.defers,λt=>?_⟩;simp only[Act.put,look];by_cases e:d=t
 .subst e;rw[show aC d d=W from AB d];have g:d<a.tmps.size:=by rw[f.size];exact c
  simp only[gi,AD g,iY,cond];exact r
 have:aC d t=ae:=Ru;rw[this];have h:=f.ff t;simp only[gi]at h⊢;grind
def rS(J J':Fr):Prop:=∀U s v t,ey U s v (look J t)->ey U s v (look J' t)
def c7.le{J':Fr}{a:Act}(h:rS J J')(f:c7 N U s J a):c7 N U s J' a :=
 ⟨f.size,f.defers,λt=>h _ _ _ _ (f.ff t)⟩
abbrev Post:=Exit->Fr->List bq->Prop
def vJ(X:Cx P)(S:au->St->Prop)(b:bd)(k:List Item)(cs:List bd):Exit->Act->St->Prop
 |.normal,a,s=>ia X S (G (b.aT a k) cs) s
 |.exit id,a,s=>∀pre,(∀k',exitTo id (pre++k')=exitTo id k')->ia X S (G (b.aT a (.code (.exit id)::(pre++k))) cs) s
 |.ret,a,s=>∀pre,ia X S (G (b.aT a (.code .ret::pre)) cs) s
 |.panic ch,a,s=>∀c,ia X S (G {b.aT a c with mode:=.panicking ch} cs) s
 |_,_,_=>False
section
variable {X:Cx P}{b:bd}{k:List Item}{a:Act}
def vJ.cons{x:Item}(c:∀id k',exitTo id (x::k')=exitTo id k'){e:Exit}(d:e≠.normal)(h:vJ X S b k cs e a s):vJ X S b (x::k) cs e a s:=by
 cases e with
 |normal=>grind
 |exit id =>
  intro pre hp;have:=h (pre++[x]) (λk'=>by grind);grind
 |ret=>exact h
 |panic ch=>exact h
 |goto l=>exact h
 |outgrown=>exact h
def ia.ctl{g':au}(hh:aH U s)(d:g.status=.running)(e:∀w,aU P X.main g w=.go g' w #[])(h:∀c,cK s c->ia X S g' c):ia X S g s :=
 .next d λc h1=>⟨g',c,#[],e c.w,.dw (hh.rely (X.kq h1)),h c (X.kq h1)⟩
def qL{f:aO}{j c:bd}(p:aH U s)(h:zw P f j v s)(k:∀d,cK s d->ia X S (G (c.finish v) cs) d):ia X S (G j (c::cs)) s:=by refine .next Z λd q=>?_;have i:=X.kq q;have g:=p.rely i;obtain⟨es,r,m⟩:=RH (main:=X.main) (c:=c) (cs:=cs) h d.w i.mem;refine⟨_,d,es,r,⟨⟨U,U,g,g,.refl _ _⟩,λe n=>?_⟩,k d i⟩;obtain⟨b,o,u,rfl,l⟩:=m e n;exact⟨Z,Z,.inr (.inr ⟨Z,u,by rw[i.M];exact l⟩)⟩
def xf(AK:Nat->Act->St->Prop)(i:∀n a s,AK n a s->∃U,aH U s/\∀d,cK s d->AK n a d)(round:∀n a s,AK n a s->(∀a' s' m,m<n->AK m a' s'->ia X S (G (b.aT a' (.inLoop c::k)) cs) s')->ia X S (G (b.aT a (.code c::.inLoop c::k)) cs) s)(j:AK n a s):
  ia X S (G (b.aT a (.code (.loop c)::k)) cs) s:=by
 have key:∀n a s,AK n a s->ia X S (G (b.aT a (.inLoop c::k)) cs) s:=by
  intro n;induction n using Nat.strongRecOn with
  |_ n o =>
   intro a s hi;obtain⟨U,f,g⟩:=i n a s hi;exact .ctl f Z (λw=>DM) λd h=>round n a d (g d h) λa' s' m l e=>o m l a' s' e
 obtain⟨U,f,g⟩:=i n a s j;exact .ctl f Z (λw=>MP) λd h=>round n a d (g d h) λa' s' m _ e=>key m a' s' e
end
def AW(X:Cx P)(N:Nat)(c:Code)(Q:Post)(J:Fr)(U:List bq):Prop :=
 ∀s a,c7 N U s J a->aH U s->∀(b:bd) (k:List Item) (cs:List bd) (S:au->St->Prop),b.kind≠.early ->
  (∀e J' U' s' a',Q e J' U'->c7 N U' s' J' a'->aH U' s'->dE U s U' s'->vJ X S b k cs e a' s')->ia X S (G (b.aT a (.code c::k)) cs) s
def u5(all:List aJ):List Nat->List aJ->Prop
 |[],[]=>True
 |i::idx,o::rest=>all.toArray[i]?=O o/\u5 all idx rest
 |_,_=>False
def kA(X:Cx P)(N:Nat)(all rest:List aJ)(Q:Fr->List bq->Prop)(J:Fr)(U:List bq):Prop :=
 ∀s a,c7 N U s J a->aH U s->∀(b:bd) (k:List Item) (cs:List bd) (S:au->St->Prop) (idx:List Nat),b.kind≠.early->u5 all idx rest ->
  (∀J' U' s' a',Q J' U'->c7 N U' s' J' a'->aH U' s'->dE U s U' s'->ia X S (G (b.aT a' k) cs) s')->ia X S (G (b.aT a (.inRegion all.toArray idx::k)) cs) s
section rules
variable {X:Cx P}{Q:Post}
def AW.mono{d:Post}(h:AW X N c Q J U)(f:∀e J U,Q e J U->d e J U):AW X N c d J U :=
 λs a g hh b k cs S hb hQ=>h s a g hh b k cs S hb λe J' U' s' a' q i j st=>hQ e J' U' s' a' (f _ _ _ q) i j st
def AW.le{c:Code}{J':Fr}(h:AW X N c Q J' U)(hl:rS J J'):AW X N c Q J U :=
 λs a d hh b k cs S hb hQ=>h s a (d.le hl) hh b k cs S hb hQ
theorem AW.skip(h:Q .normal J U):AW X N .skip Q J U:=λs a c hh b k cs S _ d =>
 .ctl hh Z (λ_=>MO) λe h1=>d .normal J U e a h (c.rely h1 hh) (hh.rely h1) h1.db
def AW.ret(h:Q .ret J U):AW X N .ret Q J U:=λs a c hh b k cs S _ d=>d .ret J U s a h c hh (.refl _ _) k
theorem AW.exit{id:Nat}(h:Q (.exit id) J U):AW X N (.exit id) Q J U:=λs a c hh b k cs S _ d=>by have:=d (.exit id) J U s a h c hh (.refl _ _) [] fe;grind
def HY(next:Fr->List bq->Prop)(Q:Post):Post
 |.normal,J,U=>next J U
 |e,J,U=>Q e J U
theorem AW.seq{x y:Code}(h:AW X N x (HY (AW X N y Q) Q) J U):AW X N (.seq x y) Q J U:=by
 intro s a i hh b k cs S hb hQ;refine .ctl hh Z (λ_=>rQ) λj h1=>?_;refine h j a (i.rely h1 hh) (hh.rely h1) b (.code y::k) cs S hb ?_;intro e J' U' s' a' q f g st;have c:=h1.db.trans st;cases e with
 |normal=>exact q s' a' f g b k cs S hb λe d σ2 s2 a2 q2 f2 h2 pA=>hQ e d σ2 s2 a2 q2 f2 h2 (c.trans pA)
 |_=>exact vJ.cons (λ_ _=>rfl) ay (hQ _ _ _ _ _ q f g c)
theorem AW.cond{c:aG}{x y:Code}{t:Bool}{u:Nat}(l:c=.tmp u)(hl:look J u=b7 (.bool t))(j:t=W->AW X N x Q J U)(m:t=ae->AW X N y Q J U):AW X N (.cond c x y) Q J U:=by
 intro s a f hh b k cs S hb hQ;have g:=f.ff u;rw[hl]at g;have h:a.eval c=.bool t:=by subst l;generalize h:a.tmps.getD u ai=v at g;simp only[ey,qF,jh]at g;cases g;exact h
 refine .ctl hh Z (λ_=>Ac h) λi h1=>?_;have d:∀e J' U' s' a',Q e J' U'->c7 N U' s' J' a'->aH U' s'->dE U i U' s'->vJ X S b k cs e a' s':=λe J' U' s' a' q n o st=>hQ e J' U' s' a' q n o (h1.db.trans st);cases t
 .exact m Z i a (f.rely h1 hh) (hh.rely h1) b k cs S hb d
 exact j Z i a (f.rely h1 hh) (hh.rely h1) b k cs S hb d
def Bn(id:Nat)(Q:Post):Post
 |.exit QB,J,U=>if QB=id then Q .normal J U else Q (.exit QB) J U
 |e,J,U=>Q e J U
theorem AW.block{id:Nat}(h:AW X N c (Bn id Q) J U):AW X N (.block id c) Q J U:=by
 intro s a i hh b k cs S hb hQ;refine .ctl hh Z (λ_=>wQ) λm h1=>?_;refine h m a (i.rely h1 hh) (hh.rely h1) b (.inBlock id::k) cs S hb ?_;intro e J' U' s' a' q g f st;have d:=h1.db.trans st;cases e with
 |normal =>
  exact .ctl f Z (λ_=>vt) λs2 h2=>hQ .normal J' U' s2 a' q (g.rely h2 f) (f.rely h2) (d.trans h2.db)
 |exit QB =>
  simp only[Bn]at q;split at q
  .rename_i e;subst e;intro pre hp;refine .ctl f Z (λ_=>Fe (k':=k) (by rw[hp];simp[exitTo])) λs2 h2=>?_;exact hQ .normal J' U' s2 a' q (g.rely h2 f) (f.rely h2) (d.trans h2.db)
  .rename_i j
   intro pre hp;have:=hQ (.exit QB) J' U' s' a' q g f d (pre++[.inBlock id]) (λk'=>by
    rw[lZ,hp];have:(id==QB)=ae:=az
    simp[exitTo,this])
   grind
 |ret=>exact hQ _ _ _ _ _ q g f d
 |panic ch=>exact hQ _ _ _ _ _ q g f d
 |goto l=>exact hQ _ _ _ _ _ q g f d
 |outgrown=>exact hQ _ _ _ _ _ q g f d
def AW.loop{S:Type}(AK:S->Prop)(fr:S->Fr)(st:S->List bq)(h:S->Nat)(x:S)(t:AK x)(l:rS J (fr x))(i:st x=U)(round:∀x,AK x->AW X N c (HY (λJ' U'=>∃y,AK y/\h y<h x/\rS J' (fr y)/\U'=st y) Q) (fr x) (st x)):AW X N (.loop c) Q J U:=by
 intro s a r hh b k cs S hb hQ;subst i;refine xf (λn a' s'=>∃y,AK y/\c7 N (st y) s' (fr y) a'/\aH (st y) s'/\dE (st x) s (st y) s'/\h y=n) ?_ ?_ ⟨x,t,r.le l,hh,.refl _ _,Z⟩
 .rintro n a' s' ⟨y,o,m,g,d,e⟩;exact⟨st y,g,λA h1=>⟨y,o,m.rely h1 g,g.rely h1,d.trans h1.db,e⟩⟩
 rintro n a' s' ⟨y,o,m,g,d,rfl⟩ w;refine round y o s' a' m g b (.inLoop c::k) cs S hb ?_;intro e v σ2 s2 a2 q p h2 pA;cases e with
 |normal =>
  obtain⟨z,u,j,f,rfl⟩:=q;exact w a2 s2 (h z) j ⟨z,u,p.le f,h2,d.trans pA,Z⟩
 |_=>exact vJ.cons (λ_ _=>rfl) ay (hQ _ _ _ _ _ q p h2 (d.trans pA))
end rules
def fD.QA{cs:List A}(r:fD U s vs cs):V vs=V cs:=by
 induction vs generalizing cs with
 |nil=>cases cs<;>simp_all[fD]
 |cons v vs ih =>
  cases cs with
  |nil=>simp[fD]at r
  |cons a cs=>simp[ih r.2]
def jh.cell{U:List bq}{s:St}{v:ah}{a:A}(r:jh U s v a):dK v=W:=by
 cases a with
 |c x=>exact Rd.cell r
 |ptr l off=>obtain⟨_,_,_,_,_,rfl⟩:=r;rfl
 |dk l k n es=>exact Rd.cell r.1
 |oY l=>obtain⟨_,_,_,_,h⟩:=r;exact h
 |bp l w=>obtain⟨_,h,_⟩:=r;exact h.cell
 |any=>exact r
theorem fD.get{cs:List A}(r:fD U s vs cs){a:A}(h:cs[j]?=O a):∃v,vs[j]?=O v/\jh U s v a:=by
 induction vs generalizing cs j with
 |nil=>cases cs<;>simp_all[fD]
 |cons v vs ih =>
  cases cs with
  |nil=>grind
  |cons b cs =>
   cases j with
   |zero=>simp at h;subst h;exact⟨v,Z,r.1⟩
   |succ j=>simp at h;obtain⟨u,d,c⟩:=ih r.2 h;grind
def fD.cell{U:List bq}{s:St}{vs:List ah}{cs:List A}(r:fD U s vs cs):∀v∈vs,v.oneCell'=W:=by
 induction vs generalizing cs with
 |nil=>simp
 |cons v vs ih =>
  cases cs with
  |nil=>simp[fD]at r
  |cons a cs =>
   intro u b;rcases eQ.1 b with rfl|b
   .have:=jh.cell r.1;cases u<;>simp_all[dK,Value.oneCell']
   exact ih r.2 u b
def fD.append{b:List ah}{cs pE:List A}(r:fD U s vs cs)(r':fD U s b pE):fD U s (vs++b) (cs++pE):=by
 induction vs generalizing cs with
 |nil=>cases cs<;>simp_all[fD]
 |cons v vs ih =>
  cases cs with
  |nil=>simp[fD]at r
  |cons a cs=>exact⟨r.1,ih r.2⟩
def fD.take{U:List bq}{s:St}{vs:List ah}{cs:List A}(r:fD U s vs cs)(k:Nat):fD U s (vs.take k) (cs.take k):=by
 induction vs generalizing cs k with
 |nil=>cases cs<;>simp_all[fD]
 |cons v vs ih =>
  cases cs with
  |nil=>simp[fD]at r
  |cons a cs=>cases k with
   |zero=>simp[fD]
   |succ k=>exact⟨r.1,ih r.2 k⟩
def fD.drop{U:List bq}{s:St}{vs:List ah}{cs:List A}(r:fD U s vs cs)(k:Nat):fD U s (vs.drop k) (cs.drop k):=by
 induction vs generalizing cs k with
 |nil=>cases cs<;>simp_all[fD]
 |cons v vs ih =>
  cases cs with
  |nil=>simp[fD]at r
  |cons a cs=>cases k with
   |zero=>exact r
   |succ k=>simpa using ih r.2 k
theorem aH.block(h:aH U s){o:Nat}(hm:s.M b o=O v):b<s.w.heap.size:=by
 have:=h.mem b o v hm;rcases dy b s.w.heap.size with h|h
 .exact h
 simp[a9,EZ h]at this
def aH.same(h:aH U s)(f:w'.heap=s.w.heap):aH U {s with w:=w'}:=by
 have i:∀a,w'.cell? a=s.w.cell? a:=λa=>by simp[a9,f]
 have g:∀v a,jh U s v a->jh U {s with w:=w'} v a:=λv a r=>by cases a<;>exact r
 have e:∀vs al,fD U s vs al->fD U {s with w:=w'} vs al:=by
  intro vs;induction vs with
  |nil=>intro al r;cases al<;>simp_all[fD]
  |cons v vs ih=>intro al r;cases al with
   |nil=>simp[fD]at r
   |cons a al=>exact⟨g _ _ r.1,ih _ r.2⟩
 refine⟨λb o v hm=>by rw[i];exact h.mem b o v hm,h.len,?_,h.gY,λL e b hb=>by show b<w'.heap.size;rw[f];exact h.lt L e b hb,λb hb=>⟨by show b<w'.heap.size;rw[f];exact(h.own b hb).1,(h.own b hb).2⟩⟩;intro l B L hB im;have:=h.box l B L hB im;cases B with
 |cells E cs =>
  obtain⟨b,vs,h1,h2,c,d⟩:=this;exact⟨b,vs,h1,by grind,e _ _ c,d⟩
 |dk E k n es =>
  obtain⟨h1,h2⟩:=this;refine⟨h1,?_⟩;grind
 |cJ H =>
  obtain⟨ch,h1,h2,c,d⟩:=this;exact⟨ch,h1,λb o hb=>by grind,c,d⟩
 |cg=>trivial
 |loop N J r =>
  obtain⟨l,tmps,fn,p,h1,h2,c,d,j⟩:=this;exact⟨l,tmps,fn,p,h1,by grind,c,λt=>ey.mono (s:=s) (U':=U) (s':={s with w:=w'}) ⟨λ_ _ _ h=>h,λ_ B L h q=>⟨B,L,h,q,.refl _ _⟩⟩ h.len (d t),j⟩
 |vr =>
  obtain⟨r,h1,h2,c⟩:=this;exact⟨r,h1,by grind,c⟩
 |eX E k n es =>
  rcases this with h1|⟨b,m,vs,u,h1,h2,c⟩
  .exact .inl h1
  exact .inr ⟨b,m,vs,u,h1,by grind,c⟩
def eO.same(e:w'.heap=s.w.heap)(ho:w'.os=s.w.os)(d:w'.tape=s.w.tape)(c:w'.output=s.w.output):eO U s U {s with w:=w'} :=
 ⟨by grind,λb _ _=>by grind,λ_ _ _ h=>h,λ_ _ _ _=>rfl,λL h b hb=>.inr ⟨L,h,hb⟩,λ_ B L h a=>⟨B,L,h,a,.refl _ _⟩,ho,d,c,rfl⟩
def gb.nk{B:bq}{L:Loc}(d:sM U s U' s')(hl:V s.β=V U)(hb:∀b∈L.bs,s'.w.heap[b]?=s.w.heap[b]?/\∀o,s'.M b o=s.M b o)(h:gb U s B L):gb U' s' B L:=by
 cases B with
 |cells E cs =>
  obtain⟨b,vs,h1,h2,a,c⟩:=h;subst h1;obtain⟨k1,e⟩:=hb b ay;exact⟨b,vs,Z,by grind,a.mono d hl,λo=>by grind⟩
 |dk E k n es =>
  obtain⟨h1,h2⟩:=h;refine⟨h1.mono d.mem,?_⟩;rcases h2 with⟨h2,a⟩|⟨b,cap,vs,h2,a,c,f⟩
  .exact .inl ⟨h2,a.mono d.mem⟩
  grind
 |cJ H =>
  obtain⟨ch,h1,h2,a,c⟩:=h;refine⟨ch,h1,λb o p=>?_,a,λb j o=>by grind⟩;grind
 |cg=>trivial
 |loop N J r =>
  obtain⟨l,tmps,fn,m,h1,h2,a,c,f⟩:=h;subst h1;obtain⟨k1,e⟩:=hb l ay;exact⟨l,tmps,fn,m,Z,by grind,a,λt=>(c t).mono d hl,λo=>by grind⟩
 |vr =>
  obtain⟨r,h1,h2,a⟩:=h;subst h1;obtain⟨k1,e⟩:=hb r ay;exact⟨r,Z,by grind,λo=>by grind⟩
 |eX E k n es =>
  rcases h with h1|⟨b,i,vs,q,h1,h2,a,c,f,g,u⟩
  .exact .inl h1
  subst h1;obtain⟨k1,e⟩:=hb b ay;exact .inr ⟨b,i,vs,q,Z,by grind,a,c,f,g.mono d.mem,λo=>by grind⟩
def St.iO(s:St)(E:av)(vs:List ah):St :=
 {β:=s.β++[⟨.pointer (O ⟨s.w.heap.size,0,af⟩),[s.w.heap.size]⟩],M:=s.M,w:=s.w.alloc (.cells vs.toArray E),own:=s.own}
theorem dF(w:aB)(o:Obj)(h:b<w.heap.size):(w.alloc o).heap[b]?=w.heap[b]?:=by show(w.heap.push o)[b]?=w.heap[b]?;grind
theorem gg(w:aB)(o:Obj):(w.alloc o).heap[w.heap.size]?=O o:=by show(w.heap.push o)[w.heap.size]?=O o;simp
def eO.iO{U:List bq}(s:St)(E:av)(vs:List ah)(B:bq):eO U s (U++[B]) (s.iO E vs):=by
 refine⟨by simp[St.iO],?_,λ_ _ _ h=>h,λ_ _ _ _=>rfl,?_,?_,Z,Z,Z,Z⟩
 .intro b hb _;exact dF _ _ hb
 .intro L a b hb;simp only[St.iO,eZ,gj]at a;grind
 intro l B' L c a;have hl:l<V s.β:=(cO.1 a).1;have d:l<V U:=(cO.1 c).1;exact⟨B',L,by grind,by simp only[St.iO];grind,.refl _ _⟩
def aH.iO{U:List bq}{s:St}(h:aH U s){E:av}{vs:List ah}{cs:List A}(r:fD U s vs cs):aH (U++[.cells E cs]) (s.iO E vs):=by
 have st:=eO.iO (U:=U) s E vs (.cells E cs);have d:(s.iO E vs).w.heap.size=s.w.heap.size+1:=by simp[St.iO]
 refine⟨?_,by simp[St.iO,h.len],?_,?_,?_,?_⟩
 .intro b o v hm;have hb:=h.block hm;have:=h.mem b o v hm;rw[<-this];simp only[a9,St.iO];grind[dF]
 .intro l B L hB hL;rcases Nat.lt_trichotomy l (V U) with a|rfl|e
  .rw[j8 a]at hB;simp only[St.iO]at hL;rw[j8 (by rw[h.len];exact a)]at hL;refine(h.box l B L hB hL).nk st.ext h.len λb hb=>⟨?_,λ_=>rfl⟩
   have:=h.lt L (b9 hL) b hb;exact dF _ _ this
  .simp at hB;subst hB;simp only[St.iO]at hL;rw[iy (by rw[h.len];grind)]at hL;simp[h.len]at hL;subst hL;refine⟨s.w.heap.size,vs,Z,gg _ _,r.mono st.ext h.len,λo=>?_⟩;cases hm:s.M s.w.heap.size o with
   |none=>exact hm
   |some v=>have:=h.block hm;omega
  grind
 .intro l l' L L' hL im b hb qq;simp only[St.iO]at hL im;have c:∀l L,(s.β++[⟨.pointer (O ⟨s.w.heap.size,0,af⟩),[s.w.heap.size]⟩])[l]?=O L->(s.β[l]?=O L)∨(l=V s.β/\L.bs=[s.w.heap.size]):=az;rcases c l L hL with h1|⟨rfl,h1⟩<;>rcases c l' L' im with h2|⟨rfl,h2⟩
  .exact h.gY l l' L L' h1 h2 b hb qq
  .have:=h.lt L (b9 h1) b hb;grind
  .have:=h.lt L' (b9 h2) b qq;grind
  rfl
 .intro L hL b hb;rw[d];simp only[St.iO,eZ,gj]at hL;rcases hL with hL|rfl
  .have:=h.lt L hL b hb;omega
  grind
 intro b hb;obtain⟨g,f⟩:=h.own b hb;refine⟨by grind,λL hL=>?_⟩;simp only[St.iO,eZ,gj]at hL;grind
def aH.C4(h:aH U s){M':Mem}(a:s.w.heap.size<=w'.heap.size)(hk:∀b,b<s.w.heap.size->w'.heap[b]?=s.w.heap[b]?)(d:∀b,b<s.w.heap.size->∀o,M' b o=s.M b o)(i:∀b,s.w.heap.size<=b->∀o v,M' b o=O v->w'.cell? ⟨b,o,af⟩=O v)(ho:w'.os=s.w.os)(e:w'.tape=s.w.tape)(f:w'.output=s.w.output):aH U ⟨s.β,M',w',s.own⟩/\eO U s U ⟨s.β,M',w',s.own⟩:=by
 have st:eO U s U ⟨s.β,M',w',s.own⟩ :=
  ⟨a,λb hb _=>hk b hb,λb o v hm=>by rw[<-hm];exact d b (h.block hm) o,λb hb _ o=>d b hb o,λL h b hb=>.inr ⟨L,h,hb⟩,λ_ B L h g=>⟨B,L,h,g,.refl _ _⟩,ho,e,f,rfl⟩
 refine⟨⟨?_,h.len,?_,h.gY,λL c b hb=>eb (h.lt L c b hb) a,λb hb=>⟨eb (h.own b hb).1 a,(h.own b hb).2⟩⟩,st⟩
 .intro b o v hm;rcases dy b s.w.heap.size with hb|hb
  .have hm':s.M b o=O v:=az;rw[<-h.mem b o v hm'];simp only[a9];grind
  grind
 intro l B L hB c;exact(h.box l B L hB c).nk st.ext h.len λb hb=>⟨hk b (h.lt L (b9 c) b hb),λo=>d b (h.lt L (b9 c) b hb) o⟩
def aH.write(h:aH U s){L:Loc}{cs pE:List A}{a:List ah}(hB:U[l]?=O (.cells E cs))(c:s.β[l]?=O L)(f:L.bs=[b])(r:fD U s a pE):aH (U.set l (.cells E pE)) {s with w:=s.w.setRow b a.toArray}/\eO U s (U.set l (.cells E pE)) {s with w:=s.w.setRow b a.toArray}:=by
 have d:l<V U:=(cO.1 hB).1;obtain⟨g,vs,h1,h2,m,k⟩:=h.box l _ L hB c;subst h1;simp at f;subst f;have st:eO U s (U.set l (.cells E pE)) {s with w:=s.w.setRow g a.toArray}:=by
  refine⟨by simp,?_,λ_ _ _ h=>h,λ_ _ _ _=>rfl,λL h b hb=>.inr ⟨L,h,hb⟩,?_,Z,Z,Z,Z⟩
  .intro b hb hn;exact setRow_other _ _ _ _ (λe=>hn _ (b9 c) Hp)
  intro l' B L' mT im;by_cases e:l=l'
  .subst e;rw[hB]at mT;cases mT;exact⟨_,L',by rw[js d],im,by simp[ji]⟩
  exact⟨B,L',by grind,im,.refl _ _⟩
 refine⟨⟨?_,by simp[h.len],?_,h.gY,λL c b hb=>by simpa using h.lt L c b hb,λb hb=>by simpa using h.own b hb⟩,st⟩
 .intro b o v hm;have j:b≠g:=λe=>by grind
  rw[<-h.mem b o v hm];simp only[a9];grind[setRow_other]
 intro l' B L' mT im;by_cases e:l=l'
 .subst e;rw[js d]at mT;cases mT;rw[c]at im;cases im;exact⟨g,a,Z,setRow_heap _ _ _ _ _ _ h2,r.mono st.ext h.len,k⟩
 rw[mD e]at mT;refine(h.box l' B L' mT im).nk st.ext h.len λb hb=>⟨setRow_other _ _ _ _ λi=>?_,λ_=>rfl⟩
 subst i;exact e (h.gY l l' _ L' c im b ay hb)
def abQ(U:List bq)(s:St):Next->D->Prop
 |.value v,x=>ey U s v x
 |.skip,x=>x=.any
 |_,_=>False
def bU(P:aR)(o:aJ)(η:aG->D)(U:List bq)(x:D)(U':List bq):Prop :=
 ∀s a,aH U s->(∀y,ey U s (a y) (η y))->∃b s',(ar a o).run P s.w=.ok b s'.w/\abQ U' s' b x/\aH U' s'/\eO U s U' s'/\gA s ((ar a o).events P s.w #[])
def bU.qv{x:D}(h:∀s a,aH U s->(∀y,ey U s (a y) (η y))->∃v,(ar a o).run P s.w=.ok (.value v) s.w/\ey U s v x/\gA s ((ar a o).events P s.w #[])):bU P o η U x U :=
 λs a hh hr=>let ⟨v,h1,h2,b⟩:=h s a hh hr;⟨.value v,s,h1,h2,hh,.refl _ _,b⟩
def bU.dw{x:D}(h:∀s a,aH U s->(∀y,ey U s (a y) (η y))->∃v,(ar a o).run P s.w=.ok (.value v) s.w/\ey U s v x/\(ar a o).events P s.w #[]=#[]):bU P o η U x U :=
 λs a hh hr=>let ⟨v,h1,h2,b⟩:=h s a hh hr;⟨.value v,s,h1,h2,hh,.refl _ _,by rw[b];exact .nil⟩
def Xo:IntKind->Int->Bool
 |.i64,.ofNat m=>bP m 9223372036854775807
 |.i64,.negSucc m=>bP m 9223372036854775807
 |.u8,.ofNat m=>bP m 255
 |.i32,.ofNat m=>bP m 2147483647
 |.i32,.negSucc m=>bP m 2147483647
 |.u64,.ofNat m=>bP m 18446744073709551615
 |.u32,.ofNat m=>bP m 4294967295
 |_,_=>ae
def abS{k:IntKind}{n:Int}(h:Xo k n=W):cd k n:=by cases k<;>cases n<;>simp only[Xo,cd]at h⊢<;>first|(cases h;done)|(have:=fY h;grind)
def vB:ah->Option C
 |.int k n=>cond (Xo k n) (O (.int k n)) af
 |.bool b=>O (.bool b)
 |.string s=>cond (bP s.size 9223372036854775807) (O (.du s.data.toList)) af
 |.slice af 0 0=>O (.sl W 0 0 (λ_=>[]))
 |.pointer af=>O .ki
 |.nilIface=>O .kG
 |.nilFunc=>O .C5
 |.map m=>O (.val (.map m))
 |_=>af
theorem Rd.kF{t:Bool}{k:Nat}{a:Option Addr}:Rd M (.slice a 0 0) (.sl t k 0 es) :=
 Rd.sl 0 0 (λ_ _=>ai) (bm _) aq fe aq aq aq aq
def Rd.vB{M:Mem}{v:ah}{c:C}(h:vB v=O c):Rd M v c:=by
 unfold AM.vB at h;split at h<;>first
  |(rename_i k n;cases hb:Xo k n<;>rw[hb]at h<;>cases h;exact .int (abS hb))
  |(rename_i s;cases hb:bP s.size 9223372036854775807<;>rw[hb]at h<;>cases h;exact .du rfl (by rw[oM];exact fY hb))
  |(cases h;done)
  |(cases h;exact .bool)
  |(cases h;exact Rd.kF)
  |(cases h;exact .ki)
  |(cases h;exact .kG)
  |(cases h;exact .C5)
  |(cases h;exact .val rfl)
def dOf:Option C->D
 |some c=>b7 c
 |none=>.any
def ck(J:Fr):aG->D
 |.tmp t=>look J t
 |.const v=>dOf (vB v)
 |.func f=>b7 (.fn (.func f) [] [])
 |.global _=>.any
theorem dz{a:Act}(f:c7 N U s J a)(y:aG):ey U s (a.eval y) (ck J y):=by
 cases y with
 |tmp t=>exact f.ff t
 |const v =>
  simp only[ck,Act.eval];cases h:vB v with
  |none=>trivial
  |some c=>exact Rd.vB h
 |func g =>
  exact Rd.fn [] [] Z Z (λ_=>ai) (λ_=>ai) ay ay ay ay
 |global g=>trivial
def lU:Option Nat->D->Fr->Fr
 |some t,x,J=>(t,x)::J
 |none,_,J=>J
def vH{X:Cx P}{b:bd}{k:List Item}{a:Act}{rest:List Nat}(l:b.kind≠.early)(ho:ops[i]?=O o)(n:bn o (yielded ops a.tmps)=W)(h:∀c,cK s c->∃d s' v,(ar a.eval o).run P c.w=.ok d s'.w/\(d=.value v∨(d=.skip/\v=ai))/\vp c s' ((ar a.eval o).events P c.w #[])/\ia X S (G (b.aT (a.put o.dst v) (.inRegion ops rest::k)) cs) s'):
  ia X S (G (b.aT a (.inRegion ops (i::rest)::k)) cs) s:=by refine .next Z λc j=>?_;obtain⟨d,s',v,m,f,e,g⟩:=h c (X.kq j);refine⟨_,s',Go.Conc.listed P b.fn a o c.w,?_,⟨e.1,e.2.seen⟩,g⟩;grind[Ht,MQ]
theorem bU.move(h:o.op=.move x):bU P o η U (η x) U :=
 .dw λs b _ a=>⟨b x,by simp[ar,h,pure],a x,by simp[ar,h]⟩
theorem bU.assign(h:o.op=.assign x):bU P o η U (η x) U :=
 .dw λs b _ a=>⟨b x,by simp[ar,h,pure],a x,by simp[ar,h]⟩
def gG{c:C}(h:ey U s v (b7 c)):Rd s.M v c:=h
def bU.pick{c a b:aG}(h:o.op=.pick c a b){t:Bool}(i:η c=b7 (.bool t)):
  bU P o η U (match t with|true=>η a|false=>η b) U:=by
 refine .dw λs g _ f=>?_;have h1:=f c;rw[i]at h1;have h2:=gG h1;generalize d:g c=v at h2;cases h2;cases t
 .exact⟨g b,by simp[ar,h,d,asBool],f b,by simp[ar,h,d,asBool]⟩
 exact⟨g a,by simp[ar,h,d,asBool],f a,by simp[ar,h,d,asBool]⟩
def SY(op:BinOp)(k:IntKind)(x y:Int):Option (C×List Prop) :=
 match op with
 |.add=>O (.int k (x+y),[cd k (x+y)])
 |.sub=>O (.int k (x-y),[cd k (x-y)])
 |.mul=>O (.int k (x*y),[cd k (x*y)])
 |.quo=>O (.int k (x / y),[0<=x,0<y])
 |.rem=>O (.int k (x % y),[0<=x,0<y])
 |.eql=>O (.bool (x==y),[])
 |.neq=>O (.bool (x != y),[])
 |.lss=>O (.bool (decide (x<y)),[])
 |.leq=>O (.bool (decide (x<=y)),[])
 |.gtr=>O (.bool (decide (y<x)),[])
 |.geq=>O (.bool (decide (y<=x)),[])
 |_=>af
def SZ(op:BinOp)(x y:List UInt8):Option (C×List Prop) :=
 match op with
 |.add=>O (.du (x++y),[V x+V y<=9223372036854775807])
 |.eql=>O (.bool (x==y),[])
 |.neq=>O (.bool (!(x==y)),[])
 |.lss=>O (.bool (bC x y),[])
 |.leq=>O (.bool (bC x y||x==y),[])
 |.gtr=>O (.bool (!(bC x y||x==y)),[])
 |.geq=>O (.bool (!(bC x y)),[])
 |_=>af
@[simp] def aA:List Prop->Prop
 |[]=>True
 |[p]=>p
 |p::q::r=>p/\aA (q::r)
def aA.cons{p:Prop}{r:List Prop}:aA (p::r)↔p/\aA r:=by cases r<;>simp
theorem pT{k:IntKind}{n:Int}(h:cd k n):k.wrap n=n:=by cases k<;>simp only[cd,IntKind.wrap,IntKind.bits,IntKind.signed]at h⊢<;>simp<;>(try split)<;>omega
def S0{k:IntKind}{x y:Int}{c:C}(h:SY op k x y=O (c,obs))(ho:aA obs)(i:cd k x)(g:cd k y)(t:av)(M:Mem):
  ∃v,(binOp op t (.int k x) (.int k y)).run P w=.ok v w/\Rd M v c:=by
 cases op<;>simp only[SY,eF,l0,reduceCtorEq]at h
 case add=>obtain⟨rfl,rfl⟩:=h;exact⟨_,by simp only[binOp,dO,gx,cC,Op.intArith,pT ho];rfl,.int ho⟩
 case sub=>obtain⟨rfl,rfl⟩:=h;exact⟨_,by simp only[binOp,dO,gx,cC,Op.intArith,pT ho];rfl,.int ho⟩
 case mul=>obtain⟨rfl,rfl⟩:=h;exact⟨_,by simp only[binOp,dO,gx,cC,Op.intArith,pT ho];rfl,.int ho⟩
 case quo =>
  obtain⟨rfl,rfl⟩:=h;obtain⟨b,a⟩:=ho;replace a:0<y:=a;have e:x.tdiv y=x / y:=Int.tdiv_eq_ediv_of_nonneg b;have d:cd k (x / y):=by have f:0<=x / y:=Int.ediv_nonneg b aq;have j:x / y<=x:=Int.ediv_le_self _ b;cases k<;>simp only[cd]at i⊢<;>omega
  exact⟨_,by simp only[binOp,dO,gx,cC,Op.intDiv,show y≠0 by omega,e,pT d];rfl,.int d⟩
 case rem =>
  obtain⟨rfl,rfl⟩:=h;obtain⟨b,a⟩:=ho;replace a:0<y:=a;have e:x.tmod y=x % y:=Int.tmod_eq_emod_of_nonneg b;have d:cd k (x % y):=by have f:0<=x % y:=ui _ aq;have j:x % y<y:=ud _ a;cases k<;>simp only[cd]at g⊢<;>omega
  exact⟨_,by simp only[binOp,dO,gx,cC,Op.intDiv,show y≠0 by omega,e];rfl,.int d⟩
 all_goals (obtain⟨rfl,rfl⟩:=h;exact⟨_,by simp only[binOp,dO,gx,cC,Op.intCmp,gt_iff_lt,ge_iff_le];rfl,.bool⟩)
def S1{x y:ByteArray}{a b:List UInt8}{c:C}(h:SZ op a b=O (c,obs))(ho:aA obs)(i:x.data.toList=a)(f:y.data.toList=b)(t:av)(M:Mem):
  ∃v,(binOp op t (.string x) (.string y)).run P w=.ok v w/\Rd M v c:=by
 subst i f;cases op<;>simp only[SZ,eF,l0,reduceCtorEq]at h
 case add =>
  obtain⟨rfl,rfl⟩:=h;have d:¬((x.size+y.size:Nat):Int)>IntKind.i64.max:=Zd;refine⟨_,by simp only[binOp,Op.stringOp,d,cC];rfl,.du ay (by simpa using ho)⟩
 all_goals (obtain⟨rfl,rfl⟩:=h;exact⟨_,by simp only[binOp,Op.stringOp,ByteArray.toList_eq];rfl,.bool⟩)
def Xp{k:IntKind}{x y:Int}{c:C}(h:SY op k x y=O (c,obs))(ho:aA obs)(t:av):
  (binOp op t (.int k x) (.int k y)).events P w #[]=#[]:=by
 cases op<;>simp only[SY,eF,l0,reduceCtorEq]at h
 case quo =>
  obtain⟨rfl,rfl⟩:=h;obtain⟨b,a⟩:=ho;replace a:0<y:=a;simp only[binOp,dO,gx,cC,Op.intDiv,show y≠0 by omega];rfl
 case rem =>
  obtain⟨rfl,rfl⟩:=h;obtain⟨b,a⟩:=ho;replace a:0<y:=a;simp only[binOp,dO,gx,cC,Op.intDiv,show y≠0 by omega];rfl
 all_goals (simp only[binOp,dO,gx,cC,Op.intCmp,Op.intArith];rfl)
def Xq{x y:ByteArray}{a b:List UInt8}{c:C}(h:SZ op a b=O (c,obs))(ho:aA obs)(i:x.data.toList=a)(f:y.data.toList=b)(t:av):
  (binOp op t (.string x) (.string y)).events P w #[]=#[]:=by
 subst i f;cases op<;>simp only[SZ,eF,l0,reduceCtorEq]at h
 case add =>
  obtain⟨rfl,rfl⟩:=h;have d:¬((x.size+y.size:Nat):Int)>IntKind.i64.max:=Zd;simp only[binOp,Op.stringOp,d,cC];rfl
 all_goals (simp only[binOp,Op.stringOp];rfl)
def OP:IntKind->IntKind->Bool
 |.i8,.i8|.i16,.i16|.i32,.i32|.i64,.i64|.u8,.u8|.u16,.u16|.u32,.u32|.u64,.u64=>W
 |_,_=>ae
def FV{k k':IntKind}(h:OP k k'=W):k=k':=by cases k<;>cases k'<;>first|rfl|(cases h;done)
def WQ(op:BinOp):C->C->Option (C×List Prop)
 |.int k x,.int k' y=>cond (OP k k') (SY op k x y) af
 |.du a,.du b=>SZ op a b
 |_,_=>af
def jJ(op:BinOp)(t:av)(x y:aG)(k k':IntKind)(n a:Int)(u:aB):(eqGuard op t x y (.int k n) (.int k' a)).run P u=.ok () u:=MJ
def y9(op:BinOp)(t:av)(x y:aG)(a b:ByteArray)(u:aB):(eqGuard op t x y (.string a) (.string b)).run P u=.ok () u:=MJ
def l5(op:BinOp)(t:av)(x y:aG)(k k':IntKind)(n a:Int)(u:aB)(es:Array bg):(eqGuard op t x y (.int k n) (.int k' a)).events P u es=es:=MJ
def Bw(op:BinOp)(t:av)(x y:aG)(a b:ByteArray)(u:aB)(es:Array bg):(eqGuard op t x y (.string a) (.string b)).events P u es=es:=MJ
theorem bU.binOp(h:o.op=.binOp op t x y ty){a b c:C}(r:η x=b7 a)(hb:η y=b7 b)(g:WQ op a b=O (c,obs))(ho:aA obs):bU P o η U (b7 c) U:=by
 refine .dw λs p _ q=>?_;have h1:=q x;have h2:=q y;rw[r]at h1;rw[hb]at h2;replace h1:=gG h1;replace h2:=gG h2;generalize d:p x=vx at h1;generalize f:p y=vy at h2;cases h1<;>cases h2<;>simp only[WQ,reduceCtorEq]at g
 case int.int k n u k' n' hn' =>
  cases hk:OP k k'<;>simp only[hk,cond,reduceCtorEq]at g
  cases FV hk;obtain⟨v,i,j⟩:=S0 (P:=P) (w:=s.w) g ho u hn' t s.M;exact⟨v,by simp only[ar,h,cf,d,f,jJ,cA,i,dN],j,by simp[ar,h,d,f,jJ,l5,Xp g ho]⟩
 case du.du =>
  rename_i z l m hl y' l' hy He;obtain⟨v,i,j⟩:=S1 (P:=P) (w:=s.w) g ho m hy t s.M;exact⟨v,by simp only[ar,h,cf,d,f,y9,cA,i,dN],j,by simp[ar,h,d,f,y9,Bw,Xq g ho m hy]⟩
def unE(op:UnOp):C->Option C
 |.bool b=>match op with|.not=>O (.bool (!b))|_=>af
 |_=>af
theorem bU.unOp{op:UnOp}(h:o.op=.unOp op t x){a c:C}(g:η x=b7 a)(d:unE op a=O c):bU P o η U (b7 c) U:=by
 refine .dw λs f _ i=>?_;have h1:=i x;rw[g]at h1;replace h1:=gG h1;generalize b:f x=vx at h1;cases h1<;>simp only[unE,reduceCtorEq]at d
 cases op<;>simp only[reduceCtorEq,eF]at d
 subst d;exact⟨_,by simp only[ar,h,b,Op.unary,cf,dN,cA],Rd.bool,by simp[ar,h,b,Op.unary]⟩
theorem j4.get{xs:List E1}(r:j4 U s vs xs){x:E1}(h:xs[j]?=O x):∃v,vs[j]?=O v/\qF U s v x:=by
 induction vs generalizing xs j with
 |nil=>cases xs<;>simp_all[j4]
 |cons v vs ih =>
  cases xs with
  |nil=>grind
  |cons b cs =>
   cases j with
   |zero=>simp at h;subst h;exact⟨v,Z,r.1⟩
   |succ j=>simp at h;obtain⟨u,c,a⟩:=ih r.2 h;grind
theorem bU.extract{P:aR}{o:aJ}{η:aG->D}{U:List bq}{x:aG}{j:Nat}(h:o.op=.extract x j){xs:List E1}{e:E1}(g:η x=.gI xs)(c:xs[j]?=O e):bU P o η U (.e e) U:=by refine .dw λs k _ i=>?_;have h1:=i x;rw[g]at h1;obtain⟨vs,d,f⟩:=h1;obtain⟨v,b,a⟩:=f.get c;refine⟨v,?_,a,?_⟩<;>simp[ar,h,d,Instr.extract,b]
def Fc(b o:Nat):bg:=⟨.cell ⟨b,o,af⟩,ae,ae⟩
def Ot(b o:Nat):bg:=⟨.cell ⟨b,o,af⟩,W,ae⟩
theorem eg(b o n:Nat):(⟨b,o,af⟩:Addr).add n=⟨b,o+n,af⟩:=by unfold Addr.add;split<;>simp_all
section
def Fg{o:Nat}(h:w.cell? ⟨b,o,af⟩=O v)(es:Array bg):(load ⟨b,o,af⟩).events P w es=es.push (Fc b o):=by rw[events_load,h];rfl
def qY{w:aB}{b o:Nat}:∀(n i:Nat) (ir:Array ah) (es:Array bg),(∀j,j<n->∃v,w.cell? ⟨b,o+(i+j),af⟩=O v) ->
    ∀e∈(loadCellsFrom ⟨b,o,af⟩ i n ir).events P w es,e∈es∨∃j,j<i+n/\e=Fc b (o+j)
  | 0,i,ir,es,_=>λe h=>.inl (by simpa[loadCellsFrom]using h)
  | n+1,i,ir,es,d=>λe h=>by
    obtain⟨v,a⟩:=d 0 aq;simp only[iN]at a;simp only[loadCellsFrom,aM,eg,run_load,a,aP,Fg a]at h;rcases qY n (i+1) (ir.push v) _ (λj c=>by grind) e h with f|⟨j,c,rfl⟩
    · grind
    grind
def wO{o:Nat}{es:Array bg}(h:∀j,j<n->∃v,w.cell? ⟨b,o+j,af⟩=O v):∀e∈(loadCells ⟨b,o,af⟩ n).events P w es,e∈es∨∃j,j<n/\e=Fc b (o+j):=by intro e a;have:=qY (P:=P) n 0 #[] es az e a;grind
def fj{b o:Nat}{t:av}:∀(vs:List ah) (i:Nat) (a:Array ah) (w:aB) (es:Array bg),w.heap[b]?=O (.cells a t (0,0))->o+i+V vs<=a.size->(∀v∈vs,v.oneCell'=W) ->
    ∀e∈(storeCells ⟨b,o,af⟩ vs i).events P w es,e∈es∨∃j,i<=j/\j<i+V vs/\e=Ot b (o+j)
  | [],_,_,_,_,_,_,_=>λe h=>.inl (by simpa[storeCells]using h)
  | v::rest,i,a,w,es,k,m,l=>λe h=>by
    have hi:o+i<a.size:=az;have c:w.cell? ⟨b,o+i,af⟩=O a[o+i]:=by simp[a9,k,hi]
    have d:w.frozen? ⟨b,o+i,af⟩=ae:=by simp[World.frozen?,k]
    have f:(store (⟨b,o+i,af⟩:Addr) v).run P w=.ok () (w.setRow b (a.setIfInBounds (o+i) v)):=Rg;have g:(store (⟨b,o+i,af⟩:Addr) v).events P w es=es.push (Ot b (o+i)):=by rw[events_store P w es _ v _ (l v ay),c];simp only[d,kY,cC];rfl
    simp only[storeCells,aM,eg,f,g,aP]at h;rcases fj rest (i+1) (a.setIfInBounds (o+i) v) _ _ (setRow_heap _ _ _ _ _ _ k) az (λu n=>l u az) e h with p|⟨j,q,r,rfl⟩
    · grind
    grind
def er(P:aR)(m:Sem α):Prop:=∀w es,m.events P w es=es
def er.bind{β:Type}{m:Sem α}{f:α->Sem β}(h:er P m)(k:∀a,er P (f a)):er P (m >>= f):=by
  intro w es;rw[aM,h w es];cases m.run P w with
  | ok a w'=>exact k a w' es
  | halt x w'=>rfl
def er.pure{α:Type}{a:α}:er P (Pure.pure a:Sem α):=λ_ _=>rfl
def er.stuck{α:Type}{a:String}:er P (Go.stuck a:Sem α):=λ_ _=>rfl
def er.unsupported{α:Type}{u:Unsupported}:er P (Go.unsupported u:Sem α):=λ_ _=>rfl
def er.sizeOf{t:av}:er P (sizeOf t):=λ_ _=>events_sizeOf ..
def er.underlying{t:av}:er P (underlying t):=λ_ _=>events_underlying ..
def er.zeroValue{t:av}:er P (zeroValue t):=λ_ _=>events_zeroValue ..
def er.newObj{o:Obj}:er P (newObj o):=λ_ _=>rfl
def er.newRow{t:av}{c:Array ah}:er P (newRow t c):=.bind .newObj λ_=>.pure
def er.ZO{α β:Type}{f:α->Sem β}(h:∀a,er P (f a)):∀l:List α,er P (l.mapM f)
  | []=>by rw[List.mapM_nil];exact .pure
  | a::l=>by rw[ov];exact .bind (h a) λ_=>.bind (er.ZO h l) λ_=>.pure
def er.map{α β:Type}{f:α->β}{m:Sem α}(h:er P m):er P (Functor.map f m):=λw es=>by rw[Sem.events_map];exact h w es
def er.aeD{β:Type}{f:α->Sem β}(h:∀a,er P (f a))(l:Array α):er P (l.mapM f):=by rw[EU];exact .map (.ZO h _)
def er.Sb{α β:Type}{F:α->β->Sem (ForInStep β)}(h:∀a b,er P (F a b)):∀(l:List α) (b:β),er P (forIn l b F)
  | [],b=>by rw[List.forIn_nil];exact .pure
  | a::l,b=>by
    rw[List.forIn_cons];refine .bind (h a b) λr=>?_;cases r with
    | done b=>exact .pure
    | yield b=>exact er.Sb h l b
theorem er.build{t:av}{parts:Array (Nat×ah)}:er P (Instr.build t parts):=by
  unfold Instr.build;refine .bind .zeroValue λz=>.bind .underlying λd=>?_;cases d<;>first
    | exact .stuck
    | (refine .bind (.aeD (λ_=>.bind .sizeOf λ_=>.pure) _) λpl=>?_
       split
       · exact .pure
       · exact .stuck)
    | (refine .bind .sizeOf λn=>?_
       split
       · exact .pure
       · exact .stuck)
theorem er.buildSlice{t:av}{n:Nat}{parts:Array (Nat×ah)}:er P (Instr.buildSlice t n parts):=by
  unfold Instr.buildSlice;refine .bind .underlying λd=>?_;cases d<;>first
    | exact .stuck
    | (refine .bind .sizeOf λm=>?_
       dsimp only
       have hj:∀(elem:av) (zero:Array ah),er P (match Instr.fill (λi=>O (i*m,m)) (Array.map (λx=>zero[x % zero.size]!) (Array.range (n*m))) parts.toList with
          | some cells=>do
            let a<-Go.newRow elem cells
            Pure.pure (Value.slice (O a) n n)
          | _=>Go.stuck "buildSlice: a part of the wrong size"):=by
         intro elem zero;split
         · exact .bind .newRow λ_=>.pure
         · exact .stuck
       by_cases b:n*m=0
       · simp only[b,cv]
         rw[b]at hj;split
         · grind
         · exact .bind .pure λz=>hj _ z
       · simp only[b,cC]
         split
         · exact .bind .unsupported λ_=>.bind .zeroValue λz=>.bind .pure λz=>hj _ z
         · exact .bind .zeroValue λz=>.bind .pure λz=>hj _ z)
def nq{o:Nat}{L:Loc}(a:L∈s.β)(c:b∈L.bs):pF s (Fc b o):=⟨rfl,rfl,.inr (.inl ⟨⟨L,a,c⟩,λh=>by cases h⟩)⟩
def Hr{o:Nat}(h:s.M b o=O v):pF s (Fc b o):=⟨rfl,rfl,.inr (.inr ⟨rfl,v,h⟩)⟩
theorem l4{o:Nat}{L:Loc}(a:L∈s.β)(c:b∈L.bs)(d:s.M b o=af):pF s (Ot b o):=⟨rfl,rfl,.inr (.inl ⟨⟨L,a,c⟩,λ_=>d⟩)⟩
end
structure TI where
 size:Nat
 bytes:Nat
 agg:Bool
 desc:TypeDesc
 zero:List C
 eq:List TypeDesc:=[]
def vL:TypeDesc->ah->ah->Option Bool
 |.int _,.int k a,.int k' b=>if k=k' then O (a==b)else af
 |.string,.string a,.string b=>O (a.toList==b.toList)
 |.bool,.bool a,.bool b=>O (a==b)
 |_,_,_=>af
def mZ:List TypeDesc->List ah->List ah->Option Bool
 |[],[],[]=>O W
 |d::ds,v::vs,w::ws=>match vL d v w with
  |some a=>match mZ ds vs ws with
   |some b=>O (a&&b)
   |none=>af
  |none=>af
 |_,_,_=>af
def F2:TypeDesc->Bool
 |.struct _|.array _ _=>W
 |_=>ae
structure eN(P:aR)(t:av)(i:TI):Prop where
 und:P.underlying t=O i.desc
 agg:F2 i.desc=i.agg
 C3:∃inf z,P.info? t=O inf/\inf.size=i.size/\inf.bytes=i.bytes/\inf.zero=O z/\z.cells.toList.map vB=i.zero.map O/\(∃cs,z=if i.agg then .agg cs else z)/\V i.zero=i.size
 eqs:i.eq≠[]->P.eqGuardType P.depth t=ae/\∀(w:aB) (vs ws:List ah) (b:Bool),mZ i.eq vs ws=O b->(Op.equal t (.agg vs.toArray) (.agg ws.toArray)).run P w=.ok b w/\∀es,(Op.equal t (.agg vs.toArray) (.agg ws.toArray)).events P w es=es
def bY:List (Nat×TI)->Nat->Option TI
 |[],_=>af
 |(i,d)::r,t=>cond (aC i t) (O d) (bY r t)
def dA(P:aR)(T:List (Nat×TI)):Prop:=∀t i,bY T t=O i->eN P t i
section
variable {i:TI}
def eN.run_underlying(h:eN P t i):(underlying t).run P w=.ok i.desc w:=by simp[underlying,h.und]
def eN.mG(h:eN P t i):(isAgg t).run P w=.ok i.agg w:=by have:=h.agg;unfold Go.isAgg;rw[cf,h.run_underlying];cases a:i.desc<;>rw[a]at this<;>simp[F2]at this<;>simp[this]
def eN.b6(h:eN P t i):(sizeOf t).run P w=.ok i.size w:=by obtain⟨a,z,h1,h2,_⟩:=h.C3;simp[sizeOf,typeInfo,h1,h2]
def nt{U:List bq}{s:St}:∀{vs:List ah}{cs:List C},vs.map vB=cs.map O->fD U s vs (cs.map A.c)
 |[],[],_=>trivial
 |[],_::_,h=>by grind
 |_::_,[],h=>by grind
 |v::vs,c::cs,h=>by simp only[mR,List.cons.injEq]at h;exact⟨Rd.vB h.1,nt h.2⟩
def eN.H8(h:eN P t i)(U:List bq)(s:St):∃z,(zeroValue t).run P w=.ok z w/\fD U s z.cells.toList (i.zero.map A.c):=by obtain⟨b,z,h1,h2,e,a,d,_⟩:=h.C3;exact⟨z,by simp[zeroValue,typeInfo,h1,a],nt d⟩
end
def nU:D->Option (List A)
 |.e (.bX a)=>O [a]
 |.e (.agg cs)=>O cs
 |_=>af
theorem qP{d:D}{cs:List A}(h:nU d=O cs)(r:ey U s v d):fD U s v.cells.toList cs:=by
 cases d with
 |e x =>
  cases x with
  |bX a =>
   cases h;have:=jh.cell r;cases v<;>first|exact⟨r,an⟩|cases this
  |agg c =>
   cases h;obtain⟨vs,rfl,b⟩:=r;simpa[Value.cells]using b
 |gI xs=>cases h
 |any=>cases h
def bU.newVar{P:aR}{o:aJ}{η:aG->D}{U:List bq}{E:av}{cs:List A}(h:∀s a,aH U s->(∀y,ey U s (a y) (η y))->∃v:ah,(ar a o).run P s.w=((do pure (.value (.pointer (O (<-newVar E v))))):Sem Next).run P s.w/\fD U s v.cells.toList cs/\(ar a o).events P s.w #[]=#[]):
  bU P o η U (cE (V U) 0) (U++[.cells E cs]):=by
 intro s a hh hr;obtain⟨v,h1,h2,b⟩:=h s a hh hr;refine⟨.value (.pointer (O ⟨s.w.heap.size,0,af⟩)),s.iO E v.cells.toList,?_,?_,hh.iO h2,.iO s E _ _,by rw[b];exact .nil⟩
 .rw[h1];simp[Go.newVar,newRow,St.iO]
 refine⟨by simp,⟨.pointer (O ⟨s.w.heap.size,0,af⟩),[s.w.heap.size]⟩,s.w.heap.size,?_,Z,Z⟩;simp[St.iO,<-hh.len]
theorem bU.alloc{P:aR}{T:List (Nat×TI)}(hT:dA P T){o:aJ}{η:aG->D}{U:List bq}{E:av}(h:o.op=.alloc E){i:TI}(hi:bY T E=O i):
  bU P o η U (cE (V U) 0) (U++[.cells E (i.zero.map A.c)]):=by refine .newVar λs d _ _=>?_;obtain⟨z,a,b⟩:=(hT E i hi).H8 (w:=s.w) U s;exact⟨z,by simp[ar,h,Instr.alloc,a],b,by simp[ar,h,Instr.alloc,a,Go.newVar,newRow]⟩
theorem bU.box{P:aR}{o:aJ}{η:aG->D}{U:List bq}{E:av}{x:aG}(h:o.op=.box E x){cs:List A}(c:nU (η x)=O cs):
  bU P o η U (cE (V U) 0) (U++[.cells E cs]) :=
 .newVar λs b _ a=>⟨b x,by simp[ar,h,Instr.box],qP c (a x),by simp[ar,h,Instr.box,Go.newVar,newRow]⟩
def sC{α:Type}:Nat->List α->Option (List α)
 |0,_=>O []
 |n+1,x::xs=>match sC n xs with|some r=>O (x::r)|none=>af
 |_+1,[]=>af
def qR{α:Type}:∀{n:Nat}{l r:List α},sC n l=O r->r=l.take n/\V r=n
 |0,l,r,h=>by cases h;simp
 |n+1,[],r,h=>by simp[sC]at h
 |n+1,x::xs,r,h=>by
  simp only[sC]at h;cases a:sC n xs with
  |none=>grind
  |some q =>
   simp[a]at h;subst h;obtain⟨c,b⟩:=qR a;grind
def eH{α:Type}:Nat->List α->Option α
 |_,[]=>af
 |0,x::_=>O x
 |n+1,_::xs=>eH n xs
theorem cD{α:Type}:∀{n:Nat}{l:List α}{x:α},eH n l=O x->l[n]?=O x
 |_,[],_,h=>by simp[eH]at h
 |0,x::_,_,h=>by simpa[eH]using h
 |n+1,_::xs,_,h=>by simpa using cD (n:=n) (l:=xs) h
def iK{α:Type}:Nat->List α->List α
 |0,l=>l
 |_+1,[]=>[]
 |n+1,_::xs=>iK n xs
def o8{α:Type}:∀(n:Nat)(l:List α),iK n l=l.drop n
 |0,_=>by simp[iK]
 |_+1,[]=>by simp[iK]
 |n+1,_::xs=>by simp[iK,o8 n xs]
def nW(i:TI)(cs:List A):Option E1 :=
 match i.agg with
 |true=>match sC i.size cs with|some r=>O (.agg r)|none=>af
 |false=>match eH 0 cs with|some a=>O (.bX a)|none=>af
def lP{i:TI}(l:eN P t i){cs:List A}{e:E1}(u:∀(j:Nat) (v:ah),vs[j]?=O v->s.w.cell? ⟨b,off+j,af⟩=O v)(k:fD U s vs cs)(f:nW i cs=O e):
  ∃v,(loadVar t ⟨b,off,af⟩).run P s.w=.ok v s.w/\qF U s v e:=by
 simp only[loadVar,cf,l.mG,cA];cases o:i.agg<;>simp only[nW,o]at f
 .cases d:eH 0 cs with
  |none=>grind
  |some a =>
   simp[d]at f;subst f;obtain⟨v,x,h⟩:=k.get (cD d);refine⟨v,?_,h⟩;grind[run_load]
 cases d:sC i.size cs with
 |none=>grind
 |some r =>
  simp[d]at f;subst f;obtain⟨p,n⟩:=qR d;have c:=k.take i.size;rw[<-p]at c;have m:V (vs.take i.size)=i.size:=by rw[c.QA,n]
  have g:=run_loadCells_list (P:=P) s.w ⟨b,off,af⟩ (vs.take i.size) (λj v q=>by grind[eg]);rw[m]at g;refine⟨.agg (vs.take i.size).toArray,?_,vs.take i.size,Z,c⟩;simp[l.b6,g]
def jR{i:TI}(k:eN P t i)(d:∀j,j<n->∃v,w.cell? ⟨b,off+j,af⟩=O v)(c:(if i.agg then i.size else 1)<=n):
  ∀e∈(loadVar t ⟨b,off,af⟩).events P w #[],∃j,j<n/\e=Fc b (off+j):=by
 intro e a;simp only[loadVar,aM,k.mG,aP,events_isAgg]at a;cases g:i.agg
 .rw[g]at c a;obtain⟨v,f⟩:=d 0 az;simp only[iN]at f;simp only[kY,cC,Fg f]at a;rcases Array.mem_push.1 a with h|rfl
  .grind
  exact⟨0,by grind,Z⟩
 rw[g]at c a;simp only[cv]at c;simp only[cv,aM,k.b6,aP,events_sizeOf]at a;have key:∀e∈(loadCells ⟨b,off,af⟩ i.size).events P w #[],∃j,j<n/\e=Fc b (off+j):=by
  intro e a;rcases wO (P:=P) (λj l=>d j aq) e a with h|⟨j,l,rfl⟩
  .grind
  grind
 apply key;generalize(loadCells ⟨b,off,af⟩ i.size).run P w=r at a;cases r with
 |ok v w'=>simpa using a
 |halt x w'=>simpa using a
theorem oZ{i:TI}{cs:List A}{e:E1}(h:nW i cs=O e):(if i.agg then i.size else 1)<=V cs:=by
 unfold nW at h;cases b:i.agg<;>rw[b]at h
 .cases cs with
  |nil=>simp[eH]at h
  |cons c cs=>simp
 simp only at h;cases a:sC i.size cs with
 |none=>grind
 |some r =>
  obtain⟨f,d⟩:=qR a;grind
theorem bU.M8{T:List (Nat×TI)}(hT:dA P T)(h:o.op=.load t x){cs:List A}{i:TI}{e:E1}(B:η x=cE l off)(hB:U[l]?=O (.cells E cs))(hi:bY T t=O i)(p:nW i (iK off cs)=O e):bU P o η U (.e e) U:=by
 refine .qv λs C hh hr=>?_
 have h1:=hr x;rw[B]at h1;obtain⟨_,L,b,q,c,r⟩:=h1;obtain⟨k,vs,rfl,y,g,_⟩:=hh.box l _ L hB q;simp at c;subst c;rw[o8]at p;obtain⟨v,f,m⟩:=lP (s:=s) (U:=U) (P:=P) (hT t i hi) (b:=k) (off:=off) (vs:=vs.drop off) (cs:=cs.drop off) (e:=e) (λj v hj=>by
  simp only[a9,y]
  grind) (g.drop off) p
 refine⟨v,by simp[ar,h,r,Instr.loadAt,Instr.sureAddr,f],m,λz d=>?_⟩;have a:z∈(loadVar t ⟨k,off,af⟩).events P s.w #[]:=by
  have e:ar C o=(do pure (.value (<-loadVar t ⟨k,off,af⟩))):=by simp[ar,h,r,Instr.loadAt,Instr.sureAddr]
  rw[e]at d;simpa[f]using d
 have u:V (vs.drop off)=V (cs.drop off):=(g.drop off).QA;obtain⟨j,hj,rfl⟩:=jR (hT t i hi) (n:=V (vs.drop off)) (λj hj=>by refine⟨(vs.drop off)[j],?_⟩;simp only[a9,y];simp at hj⊢<;>omega) (by grind[oZ]) z a;exact nq (b9 q) ay
theorem bU.Sm{T:List (Nat×TI)}(hT:dA P T)(h:o.op=.load t x){cs:List C}{i:TI}{e:E1}(B:η x=b7 (.rp cs))(hi:bY T t=O i)(r:nW i (cs.map A.c)=O e):bU P o η U (.e e) U:=by
 refine .qv λs y hh hr=>?_;have h1:=hr x;rw[B]at h1;have h2:=gG h1;generalize g:y x=vx at h2;cases h2;rename_i b off f hm Qs;have p:∀(n:Nat) (ds:List C),(∀j c,ds[j]?=O c->Rd s.M (f (n+j)) c)->fD U s ((bl (V ds)).map λj=>f (n+j)) (ds.map A.c):=by
  intro n ds;induction ds generalizing n with
  |nil=>intro _;trivial
  |cons d ds ih =>
   intro u;rw[eU,zU];refine⟨u 0 d Z,?_⟩;have:=ih (n+1) (λj c hj=>by have:=u (j+1) c az;grind);grind[Function.comp_def]
 obtain⟨v,m,q⟩:=lP (s:=s) (U:=U) (P:=P) (hT t i hi) (b:=b) (off:=off) (vs:=(bl (V cs)).map λj=>f (0+j)) (cs:=cs.map A.c) (e:=e) (λj v hj=>by
  simp only[qn,b8]at hj;by_cases k:j<V cs
  .simp[k]at hj;subst hj;exact hh.mem _ _ _ (hm j cs[j] (bD k))
  grind) (p 0 cs az) r
 refine⟨v,by simp[ar,h,g,Instr.loadAt,Instr.sureAddr,m],q,λz l=>?_⟩;have a:z∈(loadVar t ⟨b,off,af⟩).events P s.w #[]:=by
  have e:ar y o=(do pure (.value (<-loadVar t ⟨b,off,af⟩))):=by simp[ar,h,g,Instr.loadAt,Instr.sureAddr]
  rw[e]at l;simpa[m]using l
 obtain⟨j,hj,rfl⟩:=jR (hT t i hi) (n:=V cs) (λj hj=>⟨f j,hh.mem _ _ _ (hm j cs[j] (bD hj))⟩) (by have:=oZ r;grind) z a;exact Hr (hm j cs[j] (bD hj))
def ic{α:Type}:Nat->List α->List α->Option (List α)
 |0,[],l=>O l
 |0,n::ns,_::cs=>match ic 0 ns cs with|some r=>O (n::r)|none=>af
 |k+1,ns,c::cs=>match ic k ns cs with|some r=>O (c::r)|none=>af
 |_,_,[]=>af
def uD{α:Type}:∀{off:Nat}{new l r:List α},ic off new l=O r->off+V new<=V l/\r=l.take off++new++l.drop (off+V new)
 |0,[],l,r,h=>by cases l<;>cases h<;>simp
 |0,n::ns,c::cs,r,h=>by
  simp only[ic]at h;cases a:ic 0 ns cs with
  |none=>grind
  |some q =>
   simp[a]at h;subst h;obtain⟨d,b⟩:=uD a;grind
 |0,n::ns,[],r,h=>by simp[ic]at h
 |k+1,ns,c::cs,r,h=>by
  simp only[ic]at h;cases a:ic k ns cs with
  |none=>grind
  |some q =>
   simp[a]at h;subst h;obtain⟨d,b⟩:=uD a;grind
 |k+1,ns,[],r,h=>by simp[ic]at h
def fD.ic{new:List ah}{cs abT r:List A}(h:AM.ic off abT cs=O r)(h1:fD U s vs cs)(h2:fD U s new abT):
  off+V new<=V vs/\fD U s (vs.take off++new++vs.drop (off+V new)) r:=by obtain⟨k1,rfl⟩:=uD h;rw[h2.QA,h1.QA];refine⟨k1,((h1.take off).append h2).append (by have:=h1.drop (off+V abT);exact this)⟩
theorem bU.store{T:List (Nat×TI)}(hT:dA P T)(h:o.op=.store t x y){cs new pE:List A}{i:TI}(F:η x=cE l off)(hB:U[l]?=O (.cells E cs))(hi:bY T t=O i)(J:nU (η y)=O new)(B:V new=i.size)(G:ic off new cs=O pE):
  bU P o η U .any (U.set l (.cells E pE)):=by
 intro s d hh hr;have h1:=hr x;rw[F]at h1;obtain⟨_,L,b,u,m,z⟩:=h1;obtain⟨p,vs,rfl,D,q,g⟩:=hh.box l _ L hB u;simp at m;subst m;have c:=qP J (hr y);obtain⟨k1,AK⟩:=fD.ic G q c;obtain⟨w1,w2⟩:=hh.write hB u rfl AK;refine⟨.skip,_,?_,Z,w1,w2,?_⟩
 rotate_left
 .intro C a;have f:(d y).cells.size=i.size:=by rw[<-B,<-c.QA,oM]
  have e:ar d o=(do storeVar t ⟨p,off,af⟩ (d y);pure .skip):=by simp[ar,h,z,Instr.storeAt,Instr.sureAddr]
  rw[e]at a;have k:C∈(storeCells ⟨p,off,af⟩ (d y).cells.toList).events P s.w #[]:=by
   simp only[storeVar,aM,(hT t i hi).b6,f,aP,events_sizeOf,dO,gx,cC,cf,cA,bG]at a;generalize(storeCells ⟨p,off,af⟩ (d y).cells.toList).run P s.w=r at a;cases r with
   |ok v w'=>simpa using a
   |halt x w'=>simpa using a
  rcases fj (d y).cells.toList 0 vs.toArray s.w #[] D az c.cell C k with H|⟨j,_,_,rfl⟩
  .grind
  exact l4 (b9 u) ay (g _)
 have n:=run_storeCells_at P p off E (d y).cells.toList 0 vs.toArray s.w D az (c.cell);have f:(d y).cells.size=i.size:=by rw[<-B,<-c.QA,oM]
 simp only[iN]at n;simp[ar,h,z,Instr.storeAt,Instr.sureAddr,storeVar,(hT t i hi).b6,f,n]
def l9(T:List (Nat×TI))(t:av)(f:Nat):Option (Nat×TI) :=
 match bY T t with
 |some i=>match i.desc with
  |.struct fs=>match eH f fs.toList with
   |some fl=>match bY T fl.type with
    |some j=>cond (aC j.size 0) af (O (fl.offset,j))
    |none=>af
   |none=>af
  |_=>af
 |none=>af
def yg{T:List (Nat×TI)}(hT:dA P T){f:Nat}{j:TI}(h:l9 T t f=O (off,j)):
  ∃i fs fl,bY T t=O i/\i.desc=.struct fs/\fs[f]?=O fl/\fl.offset=off/\bY T fl.type=O j/\j.size≠0/\eN P t i/\eN P fl.type j:=by
 unfold l9 at h;split at h
 .rename_i i hi;split at h
  .rename_i fs hfs;split at h
   .rename_i fl hfl;split at h
    .rename_i b a;cases c:aC b.size 0<;>simp[c]at h
     obtain⟨rfl,rfl⟩:=h;refine⟨i,fs,fl,hi,hfs,by simpa using cD hfl,Z,a,?_,hT _ _ hi,hT _ _ a⟩;intro e;simp_all
    grind
   grind
  grind
 grind
def p9{T:List (Nat×TI)}(hT:dA P T){f:Nat}{j:TI}(h:l9 T t f=O (off,j))(b o:Nat)(w:aB):
  (Instr.fieldAt t (.pointer (O ⟨b,o,af⟩)) f).run P w=.ok (.pointer (O ⟨b,o+off,af⟩)) w:=by obtain⟨i,fs,fl,l,c,a,g,k,d,e,g2⟩:=yg hT h;simp[Instr.fieldAt,e.run_underlying,c,a,Instr.sureAddr,fieldPlace,g2.b6,d,eg,g]
def r8{T:List (Nat×TI)}(hT:dA P T){f:Nat}{j:TI}(h:l9 T t f=O (off,j))(b o:Nat)(w:aB)(es:Array bg):
  (Instr.fieldAt t (.pointer (O ⟨b,o,af⟩)) f).events P w es=es:=by obtain⟨i,fs,fl,k,c,a,l,g,d,e,g2⟩:=yg hT h;simp[Instr.fieldAt,e.run_underlying,c,a,Instr.sureAddr,fieldPlace,g2.b6,d]
def bU.w6{T:List (Nat×TI)}(hT:dA P T){f:Nat}(h:o.op=.fieldAddr t x f){k:Nat}{j:TI}(i:η x=cE l off)(c:l9 T t f=O (k,j)):bU P o η U (cE l (off+k)) U:=by refine .dw λs n hh hr=>?_;have h1:=hr x;rw[i]at h1;obtain⟨m,L,b,g,a,d⟩:=h1;exact⟨.pointer (O ⟨b,off+k,af⟩),by simp[ar,h,d,p9 hT c],⟨m,L,b,g,a,Z⟩,by simp[ar,h,d,r8 hT c]⟩
theorem bU.y3{T:List (Nat×TI)}(hT:dA P T){f:Nat}(h:o.op=.fieldAddr t x f){cs:List C}{k:Nat}{j:TI}(g:η x=b7 (.rp cs))(d:l9 T t f=O (k,j)):bU P o η U (b7 (.rp (iK k cs))) U:=by refine .dw λs i hh hr=>?_;have h1:=hr x;rw[g]at h1;have h2:=gG h1;generalize a:i x=vx at h2;cases h2;rename_i b o l hm Qs;refine⟨.pointer (O ⟨b,o+k,af⟩),by simp[ar,h,a,p9 hT d],?_,by simp[ar,h,a,r8 hT d]⟩;rw[o8];refine Rd.rp b (o+k) (λj=>l (k+j)) (λj c hj=>az) (λj c hj=>?_);grind
def S4{i:TI}(g:eN P t i){cs:List A}(r:fD U s vs cs){e:E1}(b:nW i (iK off cs)=O e)(w:aB):
  ∃v,(part t vs.toArray off).run P w=.ok v w/\qF U s v e/\∀es,(part t vs.toArray off).events P w es=es:=by
 simp only[part,cf,g.mG,cA,aM,aP,events_isAgg];rw[o8]at b;cases j:i.agg<;>simp only[nW,j]at b
 .cases c:eH 0 (cs.drop off)with
  |none=>grind
  |some a =>
   simp[c]at b;subst b;obtain⟨v,h,f⟩:=(r.drop off).get (cD c);simp at h;refine⟨v,?_,f,λes=>?_⟩<;>simp[h]
 cases c:sC i.size (cs.drop off)with
 |none=>grind
 |some q =>
  simp[c]at b;subst b;obtain⟨k,l⟩:=qR c;have d:=(r.drop off).take i.size;rw[<-k]at d;refine⟨.agg (vs.toArray.extract off (off+i.size)),by simp[g.b6],⟨(vs.drop off).take i.size,?_,d⟩,λes=>by simp⟩;simp
theorem bU.field{P:aR}{T:List (Nat×TI)}(hT:dA P T){o:aJ}{η:aG->D}{U:List bq}{t:av}{x:aG}{f:Nat}(h:o.op=.field t x f){cs:List A}{k:Nat}{j:TI}{e:E1}(r:η x=.e (.agg cs))(q:l9 T t f=O (k,j))(p:nW j (iK k cs)=O e):bU P o η U (.e e) U:=by refine .dw λs z hh hr=>?_;have h1:=hr x;rw[r]at h1;obtain⟨vs,l,d⟩:=h1;obtain⟨i,fs,fl,h1,h2,g,n,y,u,m,g2⟩:=yg hT q;obtain⟨v,a,b,c⟩:=S4 g2 d p s.w;exact⟨v,by simp[ar,h,l,Instr.field,m.run_underlying,h2,g,asAgg,n,a],b,by simp[ar,h,l,Instr.field,m.run_underlying,h2,g,asAgg,n,c]⟩
theorem bU.y4(h:o.op=.nilCheck x)(f:η x=cE l off):bU P o η U (cE l off) U:=by refine .dw λs g hh hr=>?_;have h1:=hr x;rw[f]at h1;have a:=h1;obtain⟨j,L,b,i,d,c⟩:=h1;exact⟨g x,by simp[ar,h,c],a,by simp[ar,h,c]⟩
theorem bU.Bg(h:o.op=.nilCheck x){cs:List C}(b:η x=b7 (.rp cs)):bU P o η U (b7 (.rp cs)) U:=by refine .dw λs d hh hr=>?_;have h1:=hr x;rw[b]at h1;have h2:=gG h1;generalize a:d x=vx at h2;cases h2;exact⟨_,by simp[ar,h,a];rfl,by grind,by simp[ar,h,a]⟩
def OU(new:List ah):∀(j off:Nat)(cs:Array ah),off+j+V new<=cs.size ->
  ((new.zipIdx j).foldl (λcs (x:ah×Nat)=>cs.setIfInBounds (off+x.2) x.1) cs).toList=cs.toList.take (off+j)++new++cs.toList.drop (off+j+V new):=by
 induction new with
 |nil=>simp
 |cons v vs ih =>
  intro j off cs h;simp only[List.zipIdx_cons,jw];rw[ih (j+1) off _ az];have:=list_seg_step cs.toList (off+j) v vs az;simpa[Array.toList_setIfInBounds,Nat.add_assoc]using this
def D2(place:Nat->Option (Nat×Nat)):List (Nat×List A)->List A->Option (List A)
 |[],cs=>O cs
 |(i,new)::rest,cs=>match place i with
  |some (off,size)=>match aC (V new) size with
   |true=>match ic off new cs with
    |some r=>D2 place rest r
    |none=>af
   |false=>af
  |none=>af
def Bx{U:List bq}{s:St}{place place':Nat->Option (Nat×Nat)}(m:∀i p,place i=O p->place' i=O p):∀{parts:List (Nat×List A)}{vparts:List (Nat×ah)}{cs r:List A}{vs:Array ah},
  D2 place parts cs=O r->vparts.map (·.1)=parts.map (·.1)->(∀(k:Nat) (p:Nat×List A) (q:Nat×ah),parts[k]?=O p->vparts[k]?=O q->fD U s q.2.cells.toList p.2)->fD U s vs.toList cs ->
  ∃d,Instr.fill place' vs vparts=O d/\fD U s d.toList r
 |[],[],cs,r,vs,h,_,_,b=>by cases h;exact⟨vs,Z,b⟩
 |[],_::_,cs,r,vs,h,a,_,b=>by grind
 |_::_,[],cs,r,vs,h,a,_,b=>by grind
 |(i,new)::rest,(e,v)::ae6,cs,r,vs,h,a,hk,b=>by
  simp only[mR,List.cons.injEq]at a;obtain⟨rfl,a⟩:=a;simp only[D2]at h;cases c:place e with
  |none=>grind
  |some p =>
   obtain⟨off,size⟩:=p;simp only[c]at h;cases l:aC (V new) size with
   |false=>grind
   |true =>
    simp only[l]at h;cases n:ic off new cs with
    |none=>grind
    |some q =>
     simp only[n]at h;have g:=hk 0 (e,new) (e,v) Z Z;simp only at g;have w:=g.QA;have o:V new=size:=dH l;obtain⟨k1,y⟩:=fD.ic n b g;have z:=OU v.cells.toList 0 off vs az;have f:v.cells.size=size:=az;have t:off+size<=vs.size:=az;obtain⟨d,u,j⟩:=Bx (U:=U) (s:=s) m (parts:=rest) (vparts:=ae6) (cs:=q) (r:=r)
      (vs:=v.cells.zipIdx.foldl (λcs (x:ah×Nat)=>cs.setIfInBounds (off+x.2) x.1) vs) h a (λk p q u j=>hk (k+1) p q az az) (by grind[Array.toList_zipIdx])
     refine⟨d,?_,j⟩;simp only[Instr.fill,m _ _ c,f,dO,gx,lB,Bool.false_or,bu];grind
def uE(T:List (Nat×TI)):List Field->Option (List (Nat×Nat))
 |[]=>O []
 |f::fs=>match bY T f.type with
  |some j=>match uE T fs with
   |some r=>O ((f.offset,j.size)::r)
   |none=>af
  |none=>af
def By{P:aR}{T:List (Nat×TI)}(hT:dA P T):∀{fs:List Field}{r:List (Nat×Nat)},uE T fs=O r->fs.mapM (λf=>(P.info? f.type).map λi=>(f.offset,i.size))=O r
 |[],r,h=>by cases h;simp
 |f::fs,r,h=>by
  simp only[uE]at h;cases b:bY T f.type with
  |none=>grind
  |some j =>
   cases a:uE T fs with
   |none=>grind
   |some q =>
    simp[b,a]at h;subst h;obtain⟨d,z,e,c,_⟩:=(hT _ _ b).C3;simp[ov,e,c,By hT a]
def tI(η:aG->D):List (Nat×aG)->Option (List (Nat×List A))
 |[]=>O []
 |(i,x)::r=>match nU (η x)with
  |some cs=>match tI η r with
   |some q=>O ((i,cs)::q)
   |none=>af
  |none=>af
def yh{U:List bq}{s:St}{a:aG->ah}{η:aG->D}(d:∀y,ey U s (a y) (η y)):∀{l:List (Nat×aG)}{q:List (Nat×List A)},tI η l=O q ->
  (l.map λ(i,x)=>(i,a x)).map (·.1)=q.map (·.1)/\∀(k:Nat) (p:Nat×List A) (u:Nat×ah),q[k]?=O p->(l.map λ(i,x)=>(i,a x))[k]?=O u->fD U s u.2.cells.toList p.2
 |[],q,h=>by cases h;simp
 |(i,x)::r,q,h=>by
  simp only[tI]at h;cases c:nU (η x)with
  |none=>grind
  |some cs =>
   cases b:tI η r with
   |none=>grind
   |some q' =>
    simp[c,b]at h;subst h;obtain⟨f,e⟩:=yh d b;grind[qP]
def FF(T:List (Nat×TI))(η:aG->D)(t:av)(parts:List (Nat×aG)):Option (List A) :=
 match bY T t with
 |some i=>match i.desc with
  |.struct fs=>match uE T fs.toList with
   |some pl=>match tI η parts with
    |some ps=>D2 (λk=>eH k pl) ps (i.zero.map A.c)
    |none=>af
   |none=>af
  |_=>af
 |none=>af
theorem bU.build{P:aR}{T:List (Nat×TI)}(hT:dA P T){o:aJ}{η:aG->D}{U:List bq}{t:av}{parts:Array (Nat×aG)}(h:o.op=.build t parts){cs:List A}(b:FF T η t parts.toList=O cs):bU P o η U (.e (.agg cs)) U:=by
 refine .dw λs l hh hr=>?_;unfold FF at b;cases hi:bY T t with
 |none=>grind
 |some i =>
  simp only[hi]at b;cases g:i.desc with
  |struct fs =>
   simp only[g]at b;cases f:uE T fs.toList with
   |none=>grind
   |some pl =>
    simp only[f]at b;cases d:tI η parts.toList with
    |none=>grind
    |some ps =>
     simp only[d]at b;obtain⟨j,z,v,E,B,n,q,C,y⟩:=(hT t i hi).C3;obtain⟨u,p2⟩:=yh (U:=U) (s:=s) hr d;obtain⟨c,r,m⟩:=Bx (U:=U) (s:=s) (place':=λk=>pl.toArray[k]?) (λk p hk=>by grind[cD]) b u p2 (nt q);have hb:P.built t (parts.map λ(i,x)=>(i,l x)).toList=O c:=by unfold Program.built;have a:=(hT t i hi).und;rw[g]at a;simp only[v,a,n,By hT f];simpa using r
     refine⟨.agg c,?_,⟨c.toList,by simp,m⟩,?_⟩
     .simp only[ar,h,cf,run_build s.w t _ c hb,cA,dN]
     simp only[ar,h,aM,run_build s.w t _ c hb,aP,bG];exact er.build s.w #[]
  |_=>grind
theorem ab2{k:Nat}(hi:i<n)(b:j<k):i*k+j<n*k:=by have a:(i+1)*k<=n*k:=gX k aq;grind
theorem Xu{k:Nat}(a:j<k):(i*k+j) / k=i:=by grind[Nat.mul_comm,Nat.mul_add_div,Nat.div_eq_of_lt]
theorem Xv{k:Nat}(a:j<k):(i*k+j) % k=j:=by rw[Nat.mul_comm,Nat.mul_add_mod,Nat.mod_eq_of_lt a]
def ku.nil{k:Nat}:ku M k 0 es []:=⟨by simp,by omega,by omega⟩
def dv(n:Nat)(f g:Nat->List C):Nat->List C:=λi=>if i<n then f i else g (i-n)
def ku.append{k m:Nat}{es':Nat->List C}{b:List ah}(h:ku M k n es vs)(d:ku M k m es' b):ku M k (n+m) (dv n es es') (vs++b):=by
 refine⟨by simp[h.len,d.len,jP],λi hi=>?_,λi hi j c hj=>?_⟩
 .simp only[dv];split
  .rename_i a;exact h.jy i a
  exact d.jy _ aq
 simp only[dv]at hj;split at hj
 .rename_i a;obtain⟨v,h1,h2⟩:=h.rd i a j c hj;grind
 rename_i e;obtain⟨v,h1,h2⟩:=d.rd _ aq j c hj;refine⟨v,?_,h2⟩;have e1:i*k+j=V vs+((i-n)*k+j):=by rw[h.len,<-Nat.add_assoc,<-jP,E5 aq]
 grind
def ku.cell{M:Mem}{k n:Nat}{es:Nat->List C}{vs:List ah}(h:ku M k n es vs):∀v∈vs,v.oneCell'=W:=by intro v a;obtain⟨p,b,rfl⟩:=gM a;rw[h.len]at b;have hk:0<k:=az;have hi:p / k<n:=wB az;have hj:p % k<k:=rN _ hk;have c:=h.jy _ hi;obtain⟨v,h1,h2⟩:=h.rd (p / k) hi (p % k) ((es (p / k))[p % k]'aq) (bD aq);have e:p / k*k+p % k=p:=zV p k;rw[e]at h1;rw[bD az]at h1;simp at h1;rw[h1];have:=Rd.cell h2;cases v<;>simp_all[dK,Value.oneCell']
def Rd.qp{t:Bool}{k:Nat}(h:Rd M v (.sl t k n es)):
  ∃a cap vs,v=.slice a n cap/\n<=cap/\cap<=9223372036854775807/\(t=W->cap=n)/\ku M k n es vs/\∀p u,vs[p]?=O u->∃b off,a=O ⟨b,off,af⟩/\M b (off+p)=O u:=by
 cases h with
 |@sl a _ cap _ _ _ b off f c hb ht hk ha hm hr =>
  refine⟨a,cap,(bl (n*k)).map λp=>f (p / k) (p % k),Z,c,hb,ht,⟨by simp,hk,?_⟩,?_⟩
  .grind [ab2,Xu,Xv]
  intro p u g;simp only[qn]at g;by_cases e:p<n*k
  .simp[e]at g;subst g;have d:0<k:=az;have hi:p / k<n:=wB az;have hj:p % k<k:=rN _ d;have i:=hk _ hi;have:=hm (p / k) hi (p % k) ((es (p / k))[p % k]'aq) (bD aq);refine⟨b,off,ha (Nat.lt_of_le_of_lt (kn _) hi),?_⟩;grind[Nat.div_add_mod']
  grind
def Rd.qt{k:Nat}(h:ku M k n es vs){a:Option Addr}{cap:Nat}{t:Bool}(f:0<n->a=O ⟨b,off,af⟩)(d:n<=cap)(hb:cap<=9223372036854775807)(e:t=W->cap=n)(hm:∀p u,vs[p]?=O u->M b (off+p)=O u):Rd M (.slice a n cap) (.sl t k n es):=by
 refine .sl b off (λi j=>(vs[i*k+j]?).getD ai) d hb e h.jy f (λi hi j c hj=>?_) (λi hi j c hj=>?_)
 .obtain⟨v,h1,h2⟩:=h.rd i hi j c hj;grind
 obtain⟨v,h1,h2⟩:=h.rd i hi j c hj;grind
def fg(m:aH U s){t:Bool}{k:Nat}(h:Rd s.M v (.sl t k n es)):
  ∃vs,ku s.M k n es vs/\(Builtin.firstCells k n v).run P s.w=.ok vs.toArray s.w/\Builtin.lenOf v=pure n:=by
 obtain⟨a,cap,vs,rfl,d,o,p,f,e⟩:=h.qp;refine⟨vs,f,?_,Z⟩;have g:V vs=n*k:=f.len;cases a with
 |none =>
  have:vs=[]:=by
   cases vs with
   |nil=>rfl
   |cons u q=>obtain⟨b,off,c,_⟩:=e 0 u rfl;cases c
  subst this;rfl
 |some ad =>
  simp only[Builtin.firstCells];rw[<-g];refine run_loadCells_list s.w ad vs λj u l=>?_;obtain⟨b,off,c,i⟩:=e j u l;cases c;rw[eg];exact m.mem _ _ _ i
def bU.Sj{T:List (Nat×TI)}(hT:dA P T)(h:o.op=.index t x y){l:List UInt8}{j:Int}{k:IntKind}{i:TI}{m:Nat}(hi:bY T t=O i)(f:i.desc=.string)(r:η x=b7 (.du l))(p:η y=b7 (.int k j))(hj:j=m)(hm:m<V l):bU P o η U (b7 (.int .u8 (l[m]).toNat)) U:=by
 refine .dw λs g hh hr=>?_;have h1:=hr x;have h2:=hr y;rw[r]at h1;rw[p]at h2;replace h1:=gG h1;replace h2:=gG h2;generalize b:g x=vx at h1;generalize d:g y=vy at h2;cases h1 with
 |@du sb _ q hl =>
 cases h2;subst q;have n:sb[m]?=O (sb.data.toList[m]):=by have hm':m<sb.size:=fC;rw[getElem?_pos sb m hm'];congr 1
 refine⟨.int .u8 (sb.data.toList[m]).toNat,?_,Rd.int ?_,?_⟩
 rotate_left 2
 .have a:=(hT t i hi).run_underlying (w:=s.w);rw[f]at a;simp[ar,h,b,d,Instr.index,asIntOf,a,hj,n]
 .have a:=(hT t i hi).run_underlying (w:=s.w);rw[f]at a;simp[ar,h,b,d,Instr.index,asIntOf,a,hj,n]
 have:=(sb.data.toList[m]).toNat_lt;simp only[cd];omega
def bU.indexAddr{T:List (Nat×TI)}(hT:dA P T)(h:o.op=.indexAddr t x y){i ie:TI}(hi:bY T t=O i)(C:i.desc=.slice E)(F:bY T E=O ie){tt:Bool}{j:Int}{k:IntKind}{m:Nat}(D:∀s v,ey U s v (η x)->Rd s.M v (.sl tt ie.size n es))(B:η y=b7 (.int k j))(hj:j=m)(d:m<n):
  bU P o η U (b7 (.rp (es m))) U:=by
 refine .dw λs A hh hr=>?_;have h1:=D s _ (hr x);have h2:=hr y;rw[B]at h2;replace h2:=gG h2;generalize l:A x=vx at h1;generalize r:A y=vy at h2;cases h2;cases h1 with
 |@sl a _ cap _ _ _ b off f z hb ht hk ha hm' Qs =>
 have p:0<n:=aq;have u:=(hT t i hi).run_underlying (w:=s.w);rw[C]at u;refine⟨.pointer (O ⟨b,off+m*ie.size,af⟩),?_,Rd.rp b (off+m*ie.size) (f m) (λq c g=>hm' m d q c g) (λq c g=>Qs m d q c g),?_⟩<;>
 simp[ar,h,l,r,Instr.indexAt,asIntOf,u,hj,ha p,(hT E ie F).b6,eg,d]
def bU.aeE{T:List (Nat×TI)}(hT:dA P T)(h:o.op=.call {callee:=.builtin .len,args:=#[x],argTypes:=lh})(g:lh[0]?=O t){i:TI}(hi:bY T t=O i)(j:i.desc=.slice E){tt:Bool}{k:Nat}(l:∀s v,ey U s v (η x)->Rd s.M v (.sl tt k n es)):bU P o η U (b7 (.int .i64 n)) U:=by
 refine .dw λs p hh hr=>?_;obtain⟨a,cap,vs,m,f,hb,_⟩:=(l s _ (hr x)).qp;have d:=(hT t i hi).run_underlying (w:=s.w);rw[j]at d;have b:lh[0]?=O t:=g;refine⟨.int .i64 n,?_,Rd.int yW,?_⟩<;>
 simp[ar,h,resolve,invoke,builtin,Builtin.len_,m,d,goInt,b]
theorem bU.abm{T:List (Nat×TI)}(hT:dA P T)(h:o.op=.call {callee:=.builtin .len,args:=#[x],argTypes:=lh})(g:lh[0]?=O t){i:TI}(hi:bY T t=O i)(k:i.desc=.string){l:List UInt8}(m:η x=b7 (.du l)):bU P o η U (b7 (.int .i64 (V l))) U:=by
 refine .dw λs n hh hr=>?_;have h1:=hr x;rw[m]at h1;replace h1:=gG h1;generalize b:n x=vx at h1;cases h1 with
 |@du sb _ j hl =>
 have f:=(hT t i hi).run_underlying (w:=s.w);rw[k]at f;have a:lh[0]?=O t:=g;have d:sb.size=V l:=by rw[<-j];simp
 refine⟨.int .i64 (V l),?_,Rd.int yW,?_⟩<;>
 simp[ar,h,resolve,invoke,builtin,Builtin.len_,b,f,goInt,a,d]
def St.newRow(s:St)(E:av)(vs:List ah):St :=
 {β:=s.β,M:=λb o=>if b=s.w.heap.size then vs[o]? else s.M b o,w:=s.w.alloc (.cells vs.toArray E),own:=s.own}
def aH.newRow{U:List bq}{s:St}(h:aH U s)(E:av)(vs:List ah):aH U (s.newRow E vs)/\eO U s U (s.newRow E vs):=by
 refine h.C4 ay (λb hb=>dF _ _ hb) (λb hb o=>by grind) (λb hb o v hm=>?_) Z Z Z;by_cases e:b=s.w.heap.size
 .simp_all
 simp only[e,cC]at hm;have:=h.block hm;omega
def OV(s:St)(E:av)(vs:List ah):∀p u,vs[p]?=O u->(s.newRow E vs).M s.w.heap.size (0+p)=O u:=by intro p u h;simpa[St.newRow]using h
def jB:List A->Option (List C)
 |[]=>O []
 |.c c::r=>match jB r with|some q=>O (c::q)|none=>af
 |.dk _ k n es::r=>match jB r with|some q=>O (.sl ae k n es::q)|none=>af
 |_::_=>af
def oG{U:List bq}{s:St}:∀{cs:List A}{r:List C}{vs:List ah},jB cs=O r->fD U s vs cs->fD U s vs (r.map A.c)
 |[],r,vs,h,a=>by cases h;exact a
 |_::_,_,[],_,a=>a.elim
 |.c c::al,r,v::vs,h,a=>by
  simp only[jB]at h;cases b:jB al with
  |none=>grind
  |some q=>simp[b]at h;subst h;exact⟨a.1,oG b a.2⟩
 |.dk l k n es::al,r,v::vs,h,a=>by
  simp only[jB]at h;cases b:jB al with
  |none=>grind
  |some q=>simp[b]at h;subst h;exact⟨a.1.1,oG b a.2⟩
 |.ptr l o::al,r,v::vs,h,a=>by simp[jB]at h
 |.oY l::al,r,v::vs,h,a=>by simp[jB]at h
 |.bp l w::al,r,v::vs,h,a=>by simp[jB]at h
 |.any::al,r,v::vs,h,a=>by simp[jB]at h
def yi{α:Type}(k:Nat):Nat->List α->Option (List (List α))
 |0,[]=>O []
 |0,_::_=>af
 |n+1,l=>match sC k l with
  |some c=>match yi k n (iK k l)with
   |some r=>O (c::r)
   |none=>af
  |none=>af
def fD.qy:∀{vs:List ah}{cs:List C},fD U s vs (cs.map A.c)->∀(j:Nat)(c:C),cs[j]?=O c->∃v,vs[j]?=O v/\Rd s.M v c:=by intro vs cs h j c hj;obtain⟨v,h1,h2⟩:=h.get (j:=j) (a:=.c c) az;exact⟨v,h1,h2⟩
def D3{M:Mem}{k:Nat}:∀{n:Nat}{cs:List C}{es:List (List C)}{vs:List ah},yi k n cs=O es->V vs=V cs->(∀(j:Nat)(c:C),cs[j]?=O c->∃v,vs[j]?=O v/\Rd M v c)->V es=n/\ku M k n (λi=>es.getD i []) vs
 |0,[],es,vs,h,a,d=>by cases h;simp at a;subst a;exact⟨Z,.nil⟩
 |0,_::_,es,vs,h,a,d=>by cases h
 |n+1,cs,es,vs,h,a,d=>by
  simp only[yi]at h;cases g:sC k cs with
  |none=>grind
  |some c =>
   simp only[g]at h;cases b:yi k n (iK k cs)with
   |none=>grind
   |some q =>
    simp[b]at h;subst h;obtain⟨p,f⟩:=qR g;rw[o8]at b;obtain⟨r,l⟩:=D3 (vs:=vs.drop k) b az (λj c m=>by
     obtain⟨v,p,f⟩:=d (k+j) c az
     exact⟨v,by grind,f⟩)
    refine⟨by grind,?_⟩;have hk:k<=V cs:=az;have o:ku M k 1 (λ_=>c) (vs.take k):=by refine⟨by grind,by grind,λi hi j x m=>?_⟩;grind
    have:=o.append l;rw[Nat.add_comm 1 n]at this;have e:dv 1 (λ_=>c) (λi=>q.getD i [])=λi=>(c::q).getD i []:=by funext i;cases i<;>simp[dv]
    rw[e]at this;simpa using this
def WR(T:List (Nat×TI))(η:aG->D)(t:av)(n:Nat)(parts:List (Nat×aG)):Option (Nat×List (List C)) :=
 match bY T t with
 |some i=>match i.desc with
  |.slice E=>match bY T E with
   |some ie=>match aC ie.size 0 with
    |true=>af
    |false=>match bP (n*ie.size) 16777216 with
     |true=>match tI η parts with
      |some ps=>match D2 (λk=>O (k*ie.size,ie.size)) ps (List.replicate (n*ie.size) A.any)with
       |some cs=>match jB cs with
        |some r=>match yi ie.size n r with
         |some es=>O (ie.size,es)
         |none=>af
        |none=>af
       |none=>af
      |none=>af
     |false=>af
   |none=>af
  |_=>af
 |none=>af
theorem bU.buildSlice{P:aR}{T:List (Nat×TI)}(hT:dA P T){o:aJ}{η:aG->D}{U:List bq}{t:av}{n:Nat}{parts:Array (Nat×aG)}(h:o.op=.buildSlice t n parts){k:Nat}{es:List (List C)}(a:WR T η t n parts.toList=O (k,es)):bU P o η U (b7 (.sl W k n λi=>es.getD i [])) U:=by
 intro s N hh hr;unfold WR at a;cases hi:bY T t with
 |none=>grind
 |some i =>
  simp only[hi]at a;cases ak:i.desc with
  |slice E =>
   simp only[ak]at a;cases K:bY T E with
   |none=>grind
   |some ie =>
    simp only[K]at a;cases hz:aC ie.size 0 with
    |true=>grind
    |false =>
     simp only[hz]at a;cases F:bP (n*ie.size) 16777216 with
     |false=>grind
     |true =>
      simp only[F]at a;cases l:tI η parts.toList with
      |none=>grind
      |some ps =>
       simp only[l]at a;cases y:D2 (λk=>O (k*ie.size,ie.size)) ps (List.replicate (n*ie.size) A.any)with
       |none=>grind
       |some cs =>
        simp only[y]at a;cases H:jB cs with
        |none=>grind
        |some r =>
         simp only[H]at a;cases G:yi ie.size n r with
         |none=>grind
         |some es' =>
          simp only[G,eF,l0]at a;obtain⟨rfl,rfl⟩:=a;have hz0:ie.size≠0:=λe=>by simp_all
          have S:=fY F;obtain⟨Z,z,z1,z2,z3,z4,ab,z6,z7⟩:=(hT E ie K).C3;have hzs:z.cells.size=ie.size:=by have:=et List.length ab;grind
          have X:∀v∈z.cells.toList,dK v=W:=by intro v J;have d:vB v∈z.cells.toList.map vB:=ja.2 ⟨v,J,rfl⟩;rw[ab]at d;obtain⟨c,_,hc⟩:=ja.1 d;exact(Rd.vB (M:=s.M) hc.symm).cell
          have AK:∀m,(∀v∈(bl m).map (λq=>z.cells[q % z.cells.size]!),dK v=W):=by grind[Nat.mod_lt]
          have g:∀vs:List ah,(∀v∈vs,dK v=W)->fD U s vs (List.replicate (V vs) A.any):=by
           intro vs;induction vs with
           |nil=>intro _;trivial
           |cons v vs ih=>intro J;exact⟨J v ay,ih λu L=>J u az⟩
          obtain⟨p1,p2⟩:=yh (U:=U) (s:=s) hr l;have aa:fD U s ((Array.range (n*ie.size)).map (λq=>z.cells[q % z.cells.size]!)).toList (List.replicate (n*ie.size) A.any):=by have:=g _ (AK (n*ie.size));simpa using this
          obtain⟨j,u1,Y⟩:=Bx (U:=U) (s:=s) (place':=λk=>O (k*ie.size,ie.size)) (λk p hk=>hk) y p1 p2 aa;have u3:=oG H Y;obtain⟨c1,c2⟩:=D3 (M:=s.M) (vs:=j.toList) G (by simpa using u3.QA) u3.qy;obtain⟨g1,g2⟩:=hh.newRow E j.toList;refine⟨.value (.slice (O ⟨s.w.heap.size,0,af⟩) n n),s.newRow E j.toList,?_,?_,g1,g2,?_⟩
          rotate_left 2
          .have e:(ar N o).events P s.w #[]=#[]:=by simp only[ar,h];exact er.bind er.buildSlice (λ_=>er.pure) _ _
           rw[e];exact .nil
          .have L:=(hT t i hi).run_underlying (w:=s.w);rw[ak]at L;have Q:(zeroValue E).run P s.w=.ok z s.w:=by simp[zeroValue,typeInfo,z1,z4]
           have f:Instr.fill (λk=>O (k*ie.size,ie.size)) ((Array.range (n*ie.size)).map (λq=>z.cells[q % z.cells.size]!)) (parts.map λ(i,x)=>(i,N x)).toList=O j:=c9;by_cases h0:n*ie.size=0
           .have R:n=0:=by grind[Nat.mul_eq_zero]
            subst R;have B:Array.range 0=#[]:=rfl;simp[B]at f;simp[ar,h,Instr.buildSlice,L,(hT E ie K).b6,B,f,Go.newRow,St.newRow]
           rw[show ar N o=(do pure (.value (<-Instr.buildSlice t n (parts.map λ(i,x)=>(i,N x))))) by simp[ar,h]];simp only[Instr.buildSlice,cf,L,cA,(hT E ie K).b6,h0,cC,Q,show¬n*ie.size>2 ^ 24 by omega,uk,f,dN];simp[Go.newRow,St.newRow]
          refine Rd.qt (c2.mono g2.mem) (b:=s.w.heap.size) (off:=0) fe (bm _) ?_ fe (OV s E j.toList);have:n<=n*ie.size:=zT n aq;omega
  |_=>grind
def sM.trans{U σ1 σ2:List bq}{s a s2:St}(h:sM U s σ1 a)(k:sM σ1 a σ2 s2):sM U s σ2 s2:=by refine⟨λb o v g=>k.mem _ _ _ (h.mem _ _ _ g),λl B L hB hL=>?_⟩;obtain⟨B1,L1,h1,h2,c⟩:=h.box l B L hB hL;obtain⟨m,e,k1,f,j⟩:=k.box l B1 L1 h1 h2;exact⟨m,e,k1,f,c.trans j⟩
def jd{l:List α}{x y:α}{i:Nat}(h:(l++[x])[i]?=O y):l[i]?=O y∨(i=V l/\y=x):=az
def aH.jQ{a:St}(h1:aH U a)(st:eO U s U a)(k:a.β=s.β)(hh:aH U s){B:bq}{L:Loc}(hB:gb (U++[B]) {a with β:=a.β++[L]} B L)(f:∀b∈L.bs,s.w.heap.size<=b/\b<a.w.heap.size):aH (U++[B]) {a with β:=a.β++[L]}/\eO U s (U++[B]) {a with β:=a.β++[L]}:=by
 have ex:sM U a (U++[B]) {a with β:=a.β++[L]}:=by refine⟨λ_ _ _ h=>h,λl B' L' mT im=>?_⟩;have hl:l<V a.β:=(cO.1 im).1;have n:l<V U:=(cO.1 mT).1;exact⟨B',L',by grind,by grind,.refl _ _⟩
 have e2:=st.ext.trans ex;refine⟨⟨h1.mem,by simp[h1.len],?_,?_,?_,?_⟩,⟨st.size,st.keep,st.mem,st.lJ,?_,e2.box,st.os,st.tape,st.output,st.own⟩⟩
 .intro l B' L' mT im;rcases jd mT with j|⟨rfl,rfl⟩
  .have hl:l<V a.β:=by rw[h1.len];grind
   rw[j8 hl]at im;exact(h1.box l B' L' j im).nk ex h1.len λ_ _=>⟨Z,λ_=>rfl⟩
  rcases jd im with c|⟨_,rfl⟩
  .have:=(cO.1 c).1;rw[h1.len]at this;omega
  grind
 .intro l l' L1 L2 c g b hb qq;rcases jd c with k1|⟨rfl,rfl⟩<;>rcases jd g with m|⟨rfl,rfl⟩
  .exact h1.gY l l' L1 L2 k1 m b hb qq
  .have a1:=f b qq;have a2:=hh.lt L1 az b hb;omega
  .have a1:=f b hb;have a2:=hh.lt L2 az b qq;omega
  simp
 .intro L' im b hb;simp only[eZ,gj]at im;rcases im with im|rfl
  .exact h1.lt L' im b hb
  grind
 .intro b hb;refine⟨(h1.own b hb).1,λL' im Wr=>?_⟩;simp only[eZ,gj]at im;rcases im with im|rfl
  .exact(h1.own b hb).2 L' im Wr
  have e:=st.own;simp only at hb;rw[e]at hb;have:=(hh.own b hb).1;grind
 grind
def aH.iA{M':Mem}(hh:aH U s){B B':bq}{L L':Loc}(m:U[l]?=O B)(f:s.β[l]?=O L)(D:ji B L B' L')(n:s.w.heap.size<=w'.heap.size)(hk:∀b,b<s.w.heap.size->b∉L.bs->w'.heap[b]?=s.w.heap[b]?)(F:∀b,b<s.w.heap.size->b∉L.bs->∀o,M' b o=s.M b o)(j:∀b o v,s.M b o=O v->M' b o=O v)(A:∀b o v,M' b o=O v->w'.cell? ⟨b,o,af⟩=O v)(C:∀b∈L'.bs,(b∈L.bs∨s.w.heap.size<=b)/\b<w'.heap.size)(ho:w'.os=s.w.os)(z:w'.tape=s.w.tape)(E:w'.output=s.w.output)(hB:gb (U.set l B') ⟨s.β.set l L',M',w',s.own⟩ B' L'):aH (U.set l B') ⟨s.β.set l L',M',w',s.own⟩/\eO U s (U.set l B') ⟨s.β.set l L',M',w',s.own⟩:=by
 have y:l<V U:=(cO.1 m).1;have t:l<V s.β:=(cO.1 f).1;have a:∀i X,(s.β.set l L')[i]?=O X->(i=l/\X=L')∨(i≠l/\s.β[i]?=O X):=az;have ex:sM U s (U.set l B') ⟨s.β.set l L',M',w',s.own⟩:=by
  refine⟨j,λi X Y c k=>?_⟩;by_cases e:l=i
  .grind
  exact⟨X,Y,by grind,by grind,.refl _ _⟩
 have gf:∀i X,i≠l->s.β[i]?=O X->∀b∈X.bs,b<s.w.heap.size/\b∉L.bs:=by intro i X hi c b hb;exact⟨hh.lt X (b9 c) b hb,λp=>hi (hh.gY i l X L c f b hb p)⟩
 refine⟨⟨A,by simp[hh.len],?_,?_,?_,?_⟩,⟨n,?_,j,?_,?_,ex.box,ho,z,E,Z⟩⟩
 .intro i X Y c k;rcases a i Y k with⟨rfl,rfl⟩|⟨hi,k⟩
  .grind
  rw[mD (λe=>hi e.symm)]at c;refine(hh.box i X Y c k).nk ex hh.len λb hb=>?_;grind
 .intro i x X u c h b hb qq;rcases a i X c with⟨rfl,rfl⟩|⟨hi,q⟩<;>rcases a x u h with⟨rfl,rfl⟩|⟨r,g⟩
  .rfl
  .grind
  .grind
  exact hh.gY i x X u q g b hb qq
 .intro X c b hb;obtain⟨i,hi,rfl⟩:=gM c;rcases a i _ (bD hi)with⟨rfl,e⟩|⟨r,h⟩
  .grind
  grind
 .intro b hb;obtain⟨H,G⟩:=hh.own b hb;grind
 .grind
 .grind
 grind
def wN{a old bytes:Nat}(h:old<a)(b:a*bytes<=140737488355328):¬Builtin.nextslicecap a old*bytes>2 ^ 48:=by have:=growslice_fits h b;omega
section
variable {T:List (Nat×TI)}(hT:dA P T){d:av}{i i2 ie:TI}
def lC(hi:eN P t i)(o:i.desc=.slice E)(f:eN P d i2)(g:i2.desc=.slice E)(r:eN P E ie)(q:aH U s){a:Option Addr}{cap:Nat}(b:n<=cap){x:ah}{es':Nat->List C}(k:Rd s.M x (.sl tx ie.size 0 es')):
  (Builtin.append_ #[t,d] ty #[.slice a n cap,x]).run P s.w=.ok (.slice a n cap) s.w:=by obtain⟨c,u,p,l⟩:=fg (P:=P) q k;have j:=hi.run_underlying (w:=s.w);have e:=f.run_underlying (w:=s.w);rw[o]at j;rw[g]at e;obtain⟨a',m,vs,rfl,_⟩:=k.qp;have h:c=[]:=kB (by simpa using u.len);subst h;cases a<;>simp[Builtin.append_,j,e,r.b6,Builtin.lenOf,b,p,storeCells]
def kE(hi:eN P t i)(Y:i.desc=.slice E)(r:eN P d i2)(A:i2.desc=.slice E)(AK:eN P E ie)(R:aH U s){a:Option Addr}{cap m:Nat}{X:Bool}{es':Nat->List C}{x:ah}(ak:Rd s.M (.slice a n cap) (.sl X ie.size n es))(aa:Rd s.M x (.sl tx ie.size m es'))(hg:cap<n+m)(J:(n+m)*ie.bytes<=140737488355328)(H:ie.bytes≠0):
  ∃vs zs On,ku s.M ie.size (n+m) (dv n es es') vs/\n+m<=On/\On<=9223372036854775807/\V (vs++zs)=On*ie.size /\
   (Builtin.append_ #[t,d] ty #[.slice a n cap,x]).run P s.w=.ok (.slice (O ⟨s.w.heap.size,0,af⟩) (n+m) On) (s.w.drew.alloc (.cells (vs++zs).toArray E)):=by
 have q:aH U {s with w:=s.w.drew}:=R.same rfl;obtain⟨c,N,D,p⟩:=fg (P:=P) q (v:=x) aa;obtain⟨b,l,f,Q⟩:=fg (P:=P) q (v:=.slice a n cap) ak;have L:=hi.run_underlying (w:=s.w);have o:=r.run_underlying (w:=s.w);rw[Y]at L;rw[A]at o;obtain⟨h,z,K,z2,z3,z4,z5,z6,z7⟩:=AK.C3;have hle:n+m<=140737488355328:=hZ (zT _ (Nat.pos_of_ne_zero H)) J;have G:z.cells.size=ie.size:=by have:=et List.length z5;grind
 refine⟨b++c,(Builtin.zeroCells z.cells (grownCap s.w (n+m) cap E-(n+m))).toList,grownCap s.w (n+m) cap E,l.append N,grownCap_ge _ _ _ _,?_,?_,?_⟩
 .have:=grownCap_le_maxLen s.w (n+m) cap E (by unfold maxLen;omega);unfold maxLen at this;omega
 .have ab:=grownCap_ge s.w (n+m) cap E;simp only[cj,l.len,N.len,oM,size_zeroCells,G,<-jP];grind
 .have S:=wN hg J;have j:¬Builtin.nextslicecap (n+m) cap*h.bytes>2 ^ 48:=az;have k:¬n+m<=cap:=aq;have F:¬((n+m:Nat):Int)>IntKind.i64.max:=c9;have y:∀u,(typeInfo E).run P u=.ok h u:=λu=>by simp[typeInfo,K]
  have B:∀u,(zeroValue E).run P u=.ok z u:=λu=>by simp[zeroValue,typeInfo,K,z4]
  have g:(Builtin.lenOf x).run P s.w=.ok m s.w:=by rw[p];rfl
  replace D:(Builtin.firstCells ie.size m x).run P s.w.drew=.ok c.toArray s.w.drew:=D;replace f:(Builtin.firstCells ie.size n (.slice a n cap)).run P s.w.drew=.ok b.toArray s.w.drew:=f
  unfold Builtin.append_;simp only[j9,lH,nS,cf,L,o,cA,AK.b6,dN,kY,cC,g,k,
   F,false_and,y,j,run_choose,Question.forced,run_askRoom,uk,World.drew_eq,f,D,gm,cv,B]
  simp[Go.newRow,grownCap];have e:∀Z:Array ah,(b++c).toArray++Z=(b++(c++Z.toList)).toArray:=λZ=>by grind
  rw[e];rfl
def mF(hi:eN P t i)(B:i.desc=.slice E)(j:eN P d i2)(k:i2.desc=.slice E)(A:eN P E ie)(y:aH U s){cap m:Nat}{o:av}{c:List ah}(D:s.w.heap[b]?=O (.cells c.toArray o (0,0)))(f:V c=cap*ie.size){es':Nat->List C}{x:ah}(v:Rd s.M x (.sl tx ie.size m es'))(p:n+m<=cap):
  ∃a,ku s.M ie.size m es' a/\(Builtin.append_ #[t,d] ty #[.slice (O ⟨b,0,af⟩) n cap,x]).run P s.w=.ok (.slice (O ⟨b,0,af⟩) (n+m) cap) (s.w.setRow b (c.take (n*ie.size)++a++c.drop (n*ie.size+V a)).toArray):=by
 obtain⟨a,l,z,u⟩:=fg (P:=P) y v;have r:=hi.run_underlying (w:=s.w);have h:=j.run_underlying (w:=s.w);rw[B]at r;rw[k]at h;have q:n*ie.size+V a<=V c:=by rw[l.len,f,<-jP];exact gX _ p
 have g:=run_storeCells_at P b (n*ie.size) o a 0 c.toArray s.w D az l.cell;simp only[iN]at g;have e:(Builtin.lenOf x).run P s.w=.ok m s.w:=fC;refine⟨a,l,?_⟩;unfold Builtin.append_;simp only[j9,lH,nS,cf,r,h,cA,A.b6,dN,kY,cC,e,p,cv,gm,z,eg,b8,g]
end
def Ks{x:Sem α}{es:Array bg}{e:bg}(h:e∈x.events P w es):e∈es∨e∈x.events P w #[]:=by grind[Sem.events_acc]
def rdM(s:St)(e:bg):Prop:=∃b o u,e=Fc b o/\s.M b o=O u
def jc(y:aH U s){t:Bool}{k:Nat}(h:Rd s.M v (.sl t k n es))(z:w.heap=s.w.heap):
  ∀e∈(Builtin.firstCells k n v).events P w #[],rdM s e:=by
 obtain⟨a,cap,vs,rfl,p,D,E,B,A⟩:=h.qp;have C:V vs=n*k:=B.len;intro e g;cases a with
 |none=>simp[Builtin.firstCells]at g
 |some ad =>
  simp only[Builtin.firstCells]at g;have c:∀j,j<n*k->∃b off u,ad=⟨b,off,af⟩/\s.M b (off+j)=O u:=by intro j m;obtain⟨b,off,F,l⟩:=A j (vs[j]'aq) (bD aq);grind
  by_cases x:n*k=0
  .rw[x]at g;simp[loadCells,loadCellsFrom]at g
  obtain⟨b,off,_,rfl,_⟩:=c 0 aq;have r:∀j,j<n*k->∃v,w.cell? ⟨b,off+j,af⟩=O v:=by intro j m;obtain⟨q,f,u,o,l⟩:=c j m;cases o;have:=y.mem _ _ _ l;exact⟨u,by simp only[a9,z]at this⊢;omega⟩
  rcases wO (P:=P) r e g with h|⟨j,m,rfl⟩
  .grind
  obtain⟨q,f,u,o,l⟩:=c j m;cases o;exact⟨_,_,u,Z,l⟩
theorem vo{e:bg}(h:rdM s e):pF s e:=by obtain⟨b,o,u,rfl,a⟩:=h;exact Hr a
section
variable {d:av}{i i2 ie:TI}
def l3(hi:eN P t i)(u:i.desc=.slice E)(g:eN P d i2)(j:i2.desc=.slice E)(y:eN P E ie)(o:aH U s){a:Option Addr}{cap:Nat}(b:n<=cap){x:ah}{es':Nat->List C}(h:Rd s.M x (.sl tx ie.size 0 es')):
  gA s ((Builtin.append_ #[t,d] ty #[.slice a n cap,x]).events P s.w #[]):=by obtain⟨c,z,v,p⟩:=fg (P:=P) o h;have k:=jc (P:=P) o h (w:=s.w) Z;have m:=hi.run_underlying (w:=s.w);have f:=g.run_underlying (w:=s.w);rw[u]at m;rw[j]at f;obtain⟨a',q,vs,rfl,_⟩:=h.qp;have l:c=[]:=kB (by simpa using z.len);subst l;intro e r;refine vo (k e ?_);cases a<;>simpa[Builtin.append_,m,f,y.b6,Builtin.lenOf,b,v,storeCells]using r
def ll(hi:eN P t i)(hd:i.desc=.slice E)(D:eN P d i2)(G:i2.desc=.slice E)(R:eN P E ie)(H:aH U s){a:Option Addr}{cap m:Nat}{td:Bool}{es':Nat->List C}{x:ah}(Q:Rd s.M (.slice a n cap) (.sl td ie.size n es))(aa:Rd s.M x (.sl tx ie.size m es'))(hg:cap<n+m)(S:(n+m)*ie.bytes<=140737488355328)(N:ie.bytes≠0):
  gA s ((Builtin.append_ #[t,d] ty #[.slice a n cap,x]).events P s.w #[]):=by
 have B:aH U {s with w:=s.w.drew}:=H.same rfl;obtain⟨y,hF,K,b⟩:=fg (P:=P) B (v:=x) aa;obtain⟨o,hFo,j,Y⟩:=fg (P:=P) B (v:=.slice a n cap) Q;have Z:=jc (P:=P) H aa (w:=s.w.drew) aK;have X:=jc (P:=P) H Q (w:=s.w.drew) aK;have ab:=hi.run_underlying (w:=s.w);have A:=D.run_underlying (w:=s.w);rw[hd]at ab;rw[G]at A;obtain⟨f,z,ak,z2,z3,z4,z5,z6,z7⟩:=R.C3;have hle:n+m<=140737488355328:=hZ (zT _ (Nat.pos_of_ne_zero N)) S;have hnx:=wN hg S;have p:¬Builtin.nextslicecap (n+m) cap*f.bytes>2 ^ 48:=az;have q:¬n+m<=cap:=aq;have L:¬((n+m:Nat):Int)>IntKind.i64.max:=c9;have F:∀u,(typeInfo E).run P u=.ok f u:=λu=>by simp[typeInfo,ak]
 have J:∀u,(zeroValue E).run P u=.ok z u:=λu=>by simp[zeroValue,typeInfo,ak,z4]
 have k:(Builtin.lenOf x).run P s.w=.ok m s.w:=by rw[b];rfl
 have g:(Builtin.lenOf x).events P s.w #[]=#[]:=by rw[b];rfl
 replace K:(Builtin.firstCells ie.size m x).run P s.w.drew=.ok y.toArray s.w.drew:=K;replace j:(Builtin.firstCells ie.size n (.slice a n cap)).run P s.w.drew=.ok o.toArray s.w.drew:=j
 intro e l;unfold Builtin.append_ at l;simp only[j9,lH,nS,aM,cf,ab,A,cA,aP,R.b6,dN,kY,cC,k,g,q,
  L,false_and,F,p,run_choose,Question.forced,run_askRoom,uk,Sem.events_ite,World.drew_eq,j,K,gm,cv,J,events_underlying,events_sizeOf,events_typeInfo,events_choose,events_zeroValue,bG]at l
 have AK:∀(x:Nat) (w:aB) (e:bg),e∈(askRoom x).events P w #[]->e=⟨.mark .noRoom,ae,W⟩:=by intro x w e h;unfold askRoom at h;simp_all
 rw[er.newRow (P:=P)]at l;generalize(Go.newRow E _).run P s.w.drew=r at l;have c:e∈(Builtin.firstCells ie.size m x).events P s.w.drew ((Builtin.firstCells ie.size n (.slice a n cap)).events P s.w.drew ((askRoom ((Question.appendCap (n+m) cap E).cut (s.w.tape s.w.drawn (Question.appendCap (n+m) cap E))*f.bytes)).events P s.w.drew #[])):=by
  cases r with
  |ok v w'=>simpa using l
  |halt v w'=>simpa using l
 rcases Ks c with c|c
 .rcases Ks c with c|c
  .rw[AK _ _ _ c];exact .inl aK
  grind[vo]
 grind[vo]
def oT(hi:eN P t i)(aa:i.desc=.slice E)(q:eN P d i2)(r:i2.desc=.slice E)(N:eN P E ie)(A:aH U s){cap m:Nat}{B:av}{a:List ah}(AK:s.w.heap[b]?=O (.cells a.toArray B (0,0)))(k:V a=cap*ie.size){es':Nat->List C}{x:ah}(z:Rd s.M x (.sl tx ie.size m es'))(D:n+m<=cap){L:Loc}(ak:L∈s.β)(Q:b∈L.bs)(v:∀o,n*ie.size<=o->s.M b o=af):
  gA s ((Builtin.append_ #[t,d] ty #[.slice (O ⟨b,0,af⟩) n cap,x]).events P s.w #[]):=by
 obtain⟨c,y,K,H⟩:=fg (P:=P) A z;have J:=jc (P:=P) A z (w:=s.w) Z;have G:=hi.run_underlying (w:=s.w);have p:=q.run_underlying (w:=s.w);rw[aa]at G;rw[r]at p;have F:n*ie.size+V c<=V a:=by rw[y.len,k,<-jP];exact gX _ D
 have l:=run_storeCells_at P b (n*ie.size) B c 0 a.toArray s.w AK az y.cell;simp only[iN]at l;have g:(Builtin.lenOf x).run P s.w=.ok m s.w:=fC;have f:(Builtin.lenOf x).events P s.w #[]=#[]:=fC
 intro e u;unfold Builtin.append_ at u;simp only[j9,lH,nS,aM,cf,G,p,aP,N.b6,dN,kY,cC,g,f,D,cv,gm,K,eg,b8,l,
  uk,Sem.events_ite,events_underlying,events_sizeOf,bG]at u
 rcases fj c 0 a.toArray s.w _ AK az y.cell e u with h|⟨j,S,R,rfl⟩
 .grind [vo]
 grind[l4]
end
structure oc(P:aR)(o:aJ)(x y:aG)(E:av)(ie:TI):Prop where
 op:∃t d i i2,o.op=.call {callee:=.builtin .append,args:=#[x,y],argTypes:=#[t,d]}/\eN P t i/\i.desc=.slice E/\eN P d i2/\i2.desc=.slice E
 elem:eN P E ie
 bytes:ie.bytes≠0
 size:ie.size≠0
def St.wP(s:St)(E:av)(vs zs:List ah)(β:List Loc):St :=
 {β:=β,M:=λb o=>if b=s.w.heap.size then vs[o]? else s.M b o,w:=s.w.drew.alloc (.cells (vs++zs).toArray E),own:=s.own}
def xU(h:aH U s)(E:av)(vs zs:List ah):∀b o v,(if b=s.w.heap.size then vs[o]? else s.M b o)=O v->(s.w.drew.alloc (.cells (vs++zs).toArray E)).cell? ⟨b,o,af⟩=O v:=by
 intro b o v a;by_cases e:b=s.w.heap.size
 .subst e;simp only[cv]at a;unfold a9;have:(s.w.drew.alloc (.cells (vs++zs).toArray E)).heap[s.w.heap.size]?=O (.cells (vs++zs).toArray E):=gg s.w.drew _;grind
 simp only[e,cC]at a;have c:=h.block a;rw[<-h.mem b o v a];unfold a9;have:(s.w.drew.alloc (.cells (vs++zs).toArray E)).heap[b]?=s.w.heap[b]?:=dF s.w.drew _ c;grind
def xX(h:aH U s)(vs:List ah):∀b o v,s.M b o=O v->(if b=s.w.heap.size then vs[o]? else s.M b o)=O v:=by intro b o v a;have:=h.block a;grind
theorem gD{m:Sem ah}(h:gA s (m.events P s.w #[])):gA s ((do pure (.value (<-m)):Sem Next).events P s.w #[]):=fC
theorem dT{d:av}(h:o.op=.call {callee:=.builtin .append,args:=#[x,y],argTypes:=#[t,d]})(a:aG->ah):
  ar a o=(do pure (.value (<-Builtin.append_ #[t,d] o.type #[a x,a y]))):=Zw
def Rd.AI{t:Bool}{k:Nat}(h:Rd M v (.sl t k n es)):Rd M v (.sl ae k n es):=by
 cases h with
 |sl b off f a hb ht hk ha hm hr=>exact .sl b off f a hb ay hk ha hm hr
def Rd.Kp{t:Bool}{k:Nat}{es':Nat->List C}(e:∀i,i<n->es i=es' i)(h:Rd M v (.sl t k n es)):Rd M v (.sl t k n es'):=by
 cases h with
 |sl b off f a hb ht hk ha hm hr=>exact .sl b off f a hb ht (λi hi=>by grind) ha (λi hi j c hj=>hm i hi j c az) (λi hi j c hj=>hr i hi j c az)
def Rd.Fa{k k':Nat}(hk:k=k'∨n=0)(h:Rd M v (.sl W k n es)):Rd M v (.sl W k' n es):=by
 rcases hk with rfl|rfl
 .exact h
 obtain⟨a,cap,vs,e,f,b,c,_⟩:=h.qp;grind[Rd.kF]
def uo{k:Nat}{L:Loc}(hB:U[l]?=O (.dk E k n es))(a:s.β[l]?=O L)(h:gb U s (.dk E k n es) L):jh U s L.v (.dk l k n es):=by refine⟨h.1,(cO.1 hB).1,λb k' n' es' he=>?_⟩;grind
def bU.tj{ie:TI}(h:oc P o x y E ie){m k:Nat}{es':Nat->List C}(R:η x=b7 (.sl W k n es))(hk:k=ie.size∨n=0)(ak:∀s v,ey U s v (η y)->Rd s.M v (.sl tx ie.size m es'))(hb:(n+m)*ie.bytes<=140737488355328)(Z:n=0∨0<m):
  bU P o η U (.e (.bX (.dk (V U) ie.size (n+m) (dv n es es')))) (U++[.dk E ie.size (n+m) (dv n es es')]):=by
 intro s ρ hh hr;obtain⟨t,d,i,i2,ho,hi,G,q,r⟩:=h.op;have h1:=hr x;rw[R]at h1;have g:=Rd.Fa hk (gG h1);have h2:=ak s _ (hr y);obtain⟨a,cap,vs,S,z,aa,Q,Y,hm⟩:=g.qp;have L:cap=n:=Q aK;subst L;rw[dT ho];rw[S]at g⊢;by_cases X:m=0
 .subst X;have l:=lC (P:=P) (ty:=o.type) hi G q r h.elem hh (a:=a) z h2;simp only[iN];have g:=Rd.Kp (es':=dv cap es es') (λi hi=>by grind) g;have hB:gb (U++[.dk E ie.size cap (dv cap es es')]) {s with β:=s.β++[⟨.slice a cap cap,[]⟩]} (.dk E ie.size cap (dv cap es es')) ⟨.slice a cap cap,[]⟩:=⟨g.AI,.inl ⟨⟨rfl,by omega⟩,g⟩⟩
  obtain⟨K,g2⟩:=hh.jQ (.refl _ _) rfl hh hB ay;refine⟨.value (.slice a cap cap),_,?_,?_,K,g2,gD (l3 hi G q r h.elem hh z h2)⟩
  .simp[l]
  exact uo ay Hm hB
 have N:cap<cap+m:=aq;obtain⟨j,B,f,D,H,J,F,l⟩:=kE (P:=P) (ty:=o.type) hi G q r h.elem hh g h2 N hb h.bytes;have A:aH U (s.wP E j B s.β)/\eO U s U (s.wP E j B s.β) :=
  hh.C4 ay (λb hb=>dF s.w.drew _ hb) (λb hb o=>by grind)
   (λb hb o v hm=>xU hh E j B b o v hm) aK aK aK
 have AK:Rd (s.wP E j B s.β).M (.slice (O ⟨s.w.heap.size,0,af⟩) (cap+m) f) (.sl ae ie.size (cap+m) (dv cap es es')) :=
  Rd.qt (D.mono A.2.mem) (b:=s.w.heap.size) (off:=0) fe H J ay (λp u ab=>by simpa[St.wP]using ab)
 have hB:gb (U++[.dk E ie.size (cap+m) (dv cap es es')]) {(s.wP E j B s.β)with β:=(s.wP E j B s.β).β++[⟨.slice (O ⟨s.w.heap.size,0,af⟩) (cap+m) f,[s.w.heap.size]⟩]} (.dk E ie.size (cap+m) (dv cap es es')) ⟨.slice (O ⟨s.w.heap.size,0,af⟩) (cap+m) f,[s.w.heap.size]⟩:=by
  refine⟨AK,.inr ⟨s.w.heap.size,f,j++B,aK,gg s.w.drew _,F,λo ho=>?_⟩⟩;have hl:V j<=o:=by rw[D.len];exact ho
  simp[St.wP,rM hl]
 obtain⟨K,g2⟩:=A.1.jQ A.2 rfl hh hB (λb hb=>by simp at hb;subst hb;refine⟨bm _,?_⟩;simp[St.wP]);refine⟨.value (.slice (O ⟨s.w.heap.size,0,af⟩) (cap+m) f),_,?_,?_,K,g2,gD (ll hi G q r h.elem hh g h2 N hb h.bytes)⟩
 .simp[l];rfl
 exact uo ay (by simp[St.wP,<-hh.len]) hB
def bU.Oo{ie:TI}(h:oc P o x y E ie){m:Nat}{es':Nat->List C}(hx:η x=.e (.bX (.dk l ie.size n es)))(hl:U[l]?=O (.dk E ie.size n es))(hy:∀s v,ey U s v (η y)->Rd s.M v (.sl tx ie.size m es'))(hb:(n+m)*ie.bytes<=140737488355328):
  bU P o η U (.e (.bX (.dk l ie.size (n+m) (dv n es es')))) (U.set l (.dk E ie.size (n+m) (dv n es es'))):=by
 intro s ρ hh hr;obtain⟨t,d,i,i2,ho,hi,X,D,F⟩:=h.op;have hlσ:l<V U:=(cO.1 hl).1;have h1:=hr x;rw[hx]at h1;obtain⟨N,_,h1v⟩:=h1;obtain⟨L,R,hv⟩:=(h1v _ _ _ _ hl).2 rfl;have h2:=hy s _ (hr y);have RF:l<V s.β:=(cO.1 R).1;have AK:=hh.box l _ L hl R;obtain⟨a,cap,vs,Ws,Q,ZE,ht,hF,hm⟩:=N.qp;rw[dT ho,Ws];rw[Ws]at N;have aa:L.v=.slice a n cap:=az;by_cases h0:m=0
 .subst h0;have z:=lC (P:=P) (ty:=o.type) hi X D F h.elem hh (a:=a) Q h2;simp only[iN];have ha:∀i,i<n->es i=dv n es es' i:=λi hi=>by simp[dv,hi]
  have hLB:gb (U.set l (.dk E ie.size n (dv n es es'))) ⟨s.β.set l L,s.M,s.w,s.own⟩ (.dk E ie.size n (dv n es es')) L:=by
   refine⟨AK.1.Kp ha,?_⟩;rcases AK.2 with⟨h3,h4⟩|h3
   .exact .inl ⟨h3,h4.Kp ha⟩
   grind
  have f:=hh.iA (M':=s.M) (w':=s.w) (B':=.dk E ie.size n (dv n es es')) (L':=L) hl R ⟨λ_=>rfl,bm _⟩ (bm _) (λ_ _ _=>rfl) (λ_ _ _ _=>rfl) (λ_ _ _ h=>h) hh.mem
   (λb hb=>⟨.inl hb,hh.lt L (b9 R) b hb⟩) aK aK aK hLB
  refine⟨.value (.slice a n cap),_,?_,?_,f.1,f.2,gD (l3 hi X D F h.elem hh Q h2)⟩
  .simp[z]
  rw[<-aa];exact uo (E:=E) az az hLB
 .have K:¬(n+m=n):=aq;by_cases g:n+m<=cap
  .rcases AK.2 with⟨hbs,A⟩|⟨b,RB,k,rfl,hw,J,ab⟩
   .rw[aa]at A;obtain⟨_,_,_,e,_,_,ht2,_⟩:=A.qp;grind
   .simp only at aa;cases aa;obtain⟨c,Y,z⟩:=mF (P:=P) (ty:=o.type) hi X D F h.elem hh hw J h2 g;have hnl:V c=m*ie.size:=Y.len;have am8:b<s.w.heap.size:=(gN.1 hw).1;let M':Mem:=λB o=>if B=b/\n*ie.size<=o/\o<(n+m)*ie.size then c[o-n*ie.size]? else s.M B o;have Kt:V k=cap*ie.size:=J;have hnm:(n+m)*ie.size=n*ie.size+m*ie.size:=jP _ _ _;have hnc:(n+m)*ie.size<=cap*ie.size:=gX _ g;have hmm:∀B o v,s.M B o=O v->M' B o=O v:=az;have RE:∀p u,c[p]?=O u->M' b (n*ie.size+p)=O u:=az;have S:Rd M' (.slice (O ⟨b,0,af⟩) (n+m) cap) (.sl ae ie.size (n+m) (dv n es es')):=by refine Rd.qt (vs:=vs++c) ((hF.append Y).mono hmm) (b:=b) (off:=0) fe g ZE ay (λp u hp=>?_);have hvl:V vs=n*ie.size:=hF.len;grind
    have f:=hh.iA (M':=M') (w':=s.w.setRow b (k.take (n*ie.size)++c++k.drop (n*ie.size+V c)).toArray) (B':=.dk E ie.size (n+m) (dv n es es')) (L':=⟨.slice (O ⟨b,0,af⟩) (n+m) cap,[b]⟩) hl R
     ⟨λe=>absurd e K,by omega⟩ ay (λB _ H=>setRow_other _ _ _ _ az) (λB _ H o=>by grind) hmm ?_ (λB H=>by simp at H;exact c9) aK aK aK ?_
    .refine⟨.value (.slice (O ⟨b,0,af⟩) (n+m) cap),_,?_,?_,f.1,f.2,gD (oT hi X D F h.elem hh hw J h2 g (b9 R) ay ab)⟩
     .simp[z]
     exact uo (L:=⟨.slice (O ⟨b,0,af⟩) (n+m) cap,[b]⟩) (E:=E) az az (f.1.box l _ _ az az)
    .intro B o v G;by_cases H:B=b
     .subst H;have ak:∀j,(s.w.setRow B (k.take (n*ie.size)++c++k.drop (n*ie.size+V c)).toArray).cell? ⟨B,j,af⟩=(k.take (n*ie.size)++c++k.drop (n*ie.size+V c))[j]?:=by grind[cell_setRow_same]
      rw[ak];simp only[M']at G;have hkl:V (k.take (n*ie.size))=n*ie.size:=by rw[List.length_take];omega
      split at G
      .grind
      rename_i hc;have h3:=hh.mem B o v G;have ho:o<n*ie.size:=az;rw[lZ,j8 aq,hU,bh ho];simp only[a9,hw]at h3;grind
     simp only[M']at G;rw[bc aq]at G;rw[<-hh.mem B o v G];simp only[a9];grind[setRow_other]
    refine⟨S,.inr ⟨b,cap,_,aK,setRow_heap _ _ _ _ _ _ hw,az,λo ho=>?_⟩⟩;grind
  .have hg:cap<n+m:=aq;obtain⟨q,zs,r,Z,hn1,hn2,hlen,z⟩:=kE (P:=P) (ty:=o.type) hi X D F h.elem hh N h2 hg hb h.bytes;have hbl:∀b∈L.bs,b<s.w.heap.size:=hh.lt L (b9 R);have S:Rd (λb o=>if b=s.w.heap.size then q[o]? else s.M b o) (.slice (O ⟨s.w.heap.size,0,af⟩) (n+m) r) (.sl ae ie.size (n+m) (dv n es es')) :=
    Rd.qt (Z.mono (xX hh q)) (b:=s.w.heap.size) (off:=0) fe hn1 hn2 ay (λp u hp=>by grind)
   have f:=hh.iA (M':=λb o=>if b=s.w.heap.size then q[o]? else s.M b o) (w':=s.w.drew.alloc (.cells (q++zs).toArray E)) (B':=.dk E ie.size (n+m) (dv n es es')) (L':=⟨.slice (O ⟨s.w.heap.size,0,af⟩) (n+m) r,[s.w.heap.size]⟩) hl R
    ⟨λe=>absurd e K,by omega⟩ ay (λb hb _=>dF s.w.drew _ hb) (λb hb _ o=>by grind) (xX hh q) (xU hh E q zs) (λb hb=>by
     simp at hb;exact c9) aK aK aK ⟨S,.inr ⟨s.w.heap.size,r,q++zs,aK,gg s.w.drew _,hlen,λo ho=>by
      have hl:V q<=o:=by rw[Z.len];exact ho
      grind⟩⟩
   refine⟨.value (.slice (O ⟨s.w.heap.size,0,af⟩) (n+m) r),_,?_,?_,f.1,f.2,gD (ll hi X D F h.elem hh N h2 hg hb h.bytes)⟩
   .simp[z]
   exact uo (L:=⟨.slice (O ⟨s.w.heap.size,0,af⟩) (n+m) r,[s.w.heap.size]⟩) (E:=E) az az (f.1.box l _ _ az az)
def l6{α:Type}:List Nat->List α->Option (List α)
  | [],_=>O []
  | k::ks,l=>match eH k l with
    | some x=>match l6 ks l with
      | some r=>O (x::r)
      | none=>af
    | none=>af
def g8{α:Type}:∀(n:Nat) (l:List α),eH n l=l[n]?
  | _,[]=>by simp[eH]
  | 0,x::_=>by simp[eH]
  | n+1,_::xs=>by simpa[eH]using g8 n xs
def kP{α:Type}:∀{ks:List Nat} {l r:List α},l6 ks l=O r->V r=V ks/\∀(j k:Nat),ks[j]?=O k->∃x,r[j]?=O x/\l[k]?=O x
  | [],l,r,h=>by cases h;simp
  | k::ks,l,r,h=>by
    simp only[l6]at h;cases b:eH k l with
    | none=>grind
    | some x =>
      cases a:l6 ks l with
      | none=>grind
      | some q =>
        simp[b,a]at h;subst h;obtain⟨d,c⟩:=kP a;grind[cD]
def AR{α c:Type}:∀{ks:List Nat} {l r:List α} {l':List c},l6 ks l=O r->V l'=V l->∃r',l6 ks l'=O r'
  | [],l,r,l',_,_=>⟨[],rfl⟩
  | k::ks,l,r,l',h,b=>by
    simp only[l6]at h;cases d:eH k l with
    | none=>grind
    | some x =>
      cases e:l6 ks l with
      | none=>grind
      | some q =>
        obtain⟨r',a⟩:=AR (l':=l') e b;have hk:k<V l':=by rw[b];exact(cO.1 (cD d)).1
        exact⟨l'[k]::r',by simp[l6,g8,hk,a]⟩
def sQ(ks:List Nat):A->A
  | .ptr l o=>match eH l ks with|some k=>.ptr k o|none=>.any
  | .dk l k n es=>match eH l ks with|some m=>.dk m k n es|none=>.c (.sl ae k n es)
  | .oY l=>match eH l ks with|some k=>.oY k|none=>.any
  | .bp l w=>match eH l ks with|some k=>.bp k w|none=>.any
  | .c x=>.c x
  | .any=>.any
def HD(ks:List Nat):List A->List A
  | []=>[]
  | a::r=>sQ ks a::HD ks r
def Fl(ks:List Nat):E1->E1
  | .bX a=>.bX (sQ ks a)
  | .agg cs=>.agg (HD ks cs)
def DO(ks:List Nat):List E1->List E1
  | []=>[]
  | a::r=>Fl ks a::DO ks r
def ky(ks:List Nat):D->D
  | .e x=>.e (Fl ks x)
  | .gI xs=>.gI (DO ks xs)
  | .any=>.any
def iJ(ks:List Nat):List D->List D
  | []=>[]
  | a::r=>ky ks a::iJ ks r
def Ky:A->Bool
  | .c _|.any=>W
  | _=>ae
def Fo:List A->Bool
  | []=>W
  | a::r=>match Ky a with|true=>Fo r|false=>ae
def AS:bq->Bool
  | .cells _ cs=>Fo cs
  | .loop ..=>ae
  | _=>W
def dg:List bq->Bool
  | []=>W
  | a::r=>match AS a with|true=>dg r|false=>ae
def nv:∀{l:List bq},dg l=W->∀B∈l,AS B=W
  | [],_,B,hB=>by grind
  | b::r,h,B,hB=>by
    simp only[dg]at h;cases a:AS b with
    | false=>grind
    | true =>
      simp only[a]at h;rcases eQ.1 hB with rfl|hB
      · exact a
      · exact nv h B hB
def fD.plain{U U':List bq}{s s':St}(e:s'.M=s.M):∀{vs:List ah} {cs:List A},Fo cs=W->fD U s vs cs->fD U' s' vs cs
  | [],[],_,_=>trivial
  | [],_::_,_,h=>h.elim
  | _::_,[],_,h=>h.elim
  | v::vs,a::al,b,h=>by
    simp only[Fo]at b;cases d:Ky a with
    | false=>grind
    | true =>
      simp only[d]at b;refine⟨?_,fD.plain e b h.2⟩;cases a with
      | c x=>have:=h.1;simp only[jh]at this⊢;grind
      | any=>exact h.1
      | _=>simp[Ky]at d
def gb.plain{U U':List bq}{s s':St}(a:s'.M=s.M)(c:s'.w=s.w){B:bq}{L:Loc}(d:AS B=W)(h:gb U s B L):gb U' s' B L:=by
  cases B with
  | cells E cs =>
    obtain⟨b,vs,h1,h2,e,f⟩:=h;exact⟨b,vs,h1,by grind,e.plain a d,λo=>by simp_all⟩
  | dk E k n es=>simp only[gb,a,c]at h⊢;exact h
  | cJ H=>simp only[gb,a,c]at h⊢;exact h
  | cg=>trivial
  | loop N J r=>simp[AS]at d
  | vr=>simp only[gb,a,c]at h⊢;exact h
  | eX E k n es=>simp only[gb,a,c]at h⊢;exact h
def kz:Nat->List Nat->Bool
  | _,[]=>ae
  | k,x::r=>match aC k x with|true=>W|false=>kz k r
def fa:List Nat->Bool
  | []=>W
  | k::r=>match kz k r with|true=>ae|false=>fa r
theorem Af:∀{k:Nat} {l:List Nat},k∈l->kz k l=W
  | k,[],h=>by grind
  | k,x::r,h=>by
    simp only[kz];cases a:aC k x with
    | true=>rfl
    | false =>
      rcases eQ.1 h with rfl|h
      · grind[Nat.beq_refl]
      · exact Af h
def AT:∀{l:List Nat},fa l=W->∀(i j k:Nat),l[i]?=O k->l[j]?=O k->i=j
  | [],_,i,j,k,hi,_=>by grind
  | x::r,h,i,j,k,hi,a=>by
    simp only[fa]at h;cases c:kz x r with
    | true=>grind
    | false =>
      simp only[c]at h;have no:∀q,r[q]?=O x->False:=λq b=>by have:=Af (b9 b);grind
      cases i with
      | zero =>
        grind
      | succ i =>
        cases j with
        | zero =>
          grind
        | succ j =>
          simp at hi a;rw[AT h i j k hi a]
def Ov(n:Nat):A->Bool
  | .ptr l _|.dk l _ _ _|.oY l|.bp l _=>bP (l+1) n
  | _=>W
def MV(n:Nat):List A->Bool
  | []=>W
  | a::r=>match Ov n a with|true=>MV n r|false=>ae
def Kz(n:Nat):E1->Bool
  | .bX a=>Ov n a
  | .agg cs=>MV n cs
def C6(n:Nat):List E1->Bool
  | []=>W
  | a::r=>match Kz n a with|true=>C6 n r|false=>ae
def C7(n:Nat):D->Bool
  | .e x=>Kz n x
  | .gI xs=>C6 n xs
  | .any=>W
def nV(n:Nat):List D->Bool
  | []=>W
  | a::r=>match C7 n a with|true=>nV n r|false=>ae
section sub
variable {β':List Loc}
def jh.sub(t:l6 ks U=O U')(m:l6 ks s.β=O β'){a:A}(d:jh U s v (sQ ks a))(e:Ov (V ks) a=W):jh U' {s with β:=β'} v a:=by
  obtain⟨u,i⟩:=kP t;obtain⟨z,g2⟩:=kP m;cases a with
  | c x=>exact d
  | any=>exact d
  | ptr l o =>
    have hl:l<V ks:=fY e;simp only[sQ,g8,bD hl]at d;obtain⟨h1,L,b,h2,f,p⟩:=d;obtain⟨x,j,r⟩:=i l _ (bD hl);obtain⟨y,h,g⟩:=g2 l _ (bD hl);rw[g]at h2;cases h2;exact⟨λB q=>h1 B az,L,b,h,f,p⟩
  | dk l k n es =>
    have hl:l<V ks:=fY e;simp only[sQ,g8,bD hl]at d;obtain⟨h1,h2,f⟩:=d;obtain⟨x,j,r⟩:=i l _ (bD hl);obtain⟨y,h,g⟩:=g2 l _ (bD hl);refine⟨h1,by grind,λE k' n' es' q=>?_⟩;grind
  | oY l =>
    have hl:l<V ks:=fY e;simp only[sQ,g8,bD hl]at d;obtain⟨h1,L,h2,f,p⟩:=d;obtain⟨x,j,r⟩:=i l _ (bD hl);obtain⟨y,h,g⟩:=g2 l _ (bD hl);rw[g]at h2;cases h2;exact⟨λB q=>h1 B az,L,h,f,p⟩
  | bp l w =>
    have hl:l<V ks:=fY e;simp only[sQ,g8,bD hl]at d;obtain⟨lv,h1,h2,f⟩:=d;obtain⟨x,j,r⟩:=i l _ (bD hl);obtain⟨y,h,g⟩:=g2 l _ (bD hl);refine⟨lv,h1,(cO.1 j).1,λE k n es q=>?_⟩;grind
def jh.qQ{σ2:List bq}{s2:St}(u:s2.M=s.M)(e:∀(j:Nat) (B:bq),U[j]?=O B->∃k,ks[j]?=O k/\σ2[k]?=O B)(h:∀(j:Nat) (L:Loc),s.β[j]?=O L->∃k,ks[j]?=O k/\s2.β[k]?=O L)(t:V s.β=V U){a:A}(f:jh U s v a):jh σ2 s2 v (sQ ks a):=by
  cases a with
  | c x=>simp only[sQ,jh,u];exact f
  | any=>exact f
  | ptr l o =>
    obtain⟨h1,L,b,h2,g,m⟩:=f;obtain⟨k,k1,p⟩:=h l L h2;have hl:l<V U:=az;obtain⟨k',d,i⟩:=e l _ (bD hl);rw[k1]at d;cases d;simp only[sQ,g8,k1];refine⟨λB q=>?_,L,b,p,g,m⟩;grind
  | dk l k n es =>
    obtain⟨h1,h2,g⟩:=f;obtain⟨k1,r,p2⟩:=e l _ (bD h2);simp only[sQ,g8,r];refine⟨by grind,(cO.1 p2).1,λE k' n' es' q=>?_⟩;grind
  | oY l =>
    obtain⟨h1,L,h2,g,m⟩:=f;obtain⟨k,k1,p⟩:=h l L h2;have hl:l<V U:=az;obtain⟨k',d,i⟩:=e l _ (bD hl);rw[k1]at d;cases d;simp only[sQ,g8,k1];refine⟨λB q=>?_,L,p,g,m⟩;grind
  | bp l w =>
    obtain⟨lv,h1,h2,g⟩:=f;obtain⟨k1,r,p2⟩:=e l _ (bD h2);simp only[sQ,g8,r];refine⟨lv,h1,(cO.1 p2).1,λE k' n' es' q=>?_⟩;grind
def fD.sub(c:l6 ks U=O U')(b:l6 ks s.β=O β'):∀{vs:List ah} {cs:List A},fD U s vs (HD ks cs)->MV (V ks) cs=W->fD U' {s with β:=β'} vs cs
  | [],[],_,_=>trivial
  | [],_::_,h,_=>h.elim
  | _::_,[],h,_=>h.elim
  | v::vs,a::al,h,d=>by
    simp only[MV]at d;cases e:Ov (V ks) a with
    | false=>grind
    | true=>simp only[e]at d;exact⟨h.1.sub c b e,fD.sub c b h.2 d⟩
def qF.sub(c:l6 ks U=O U')(b:l6 ks s.β=O β'){v:ah}{x:E1}(h:qF U s v (Fl ks x))(d:Kz (V ks) x=W):qF U' {s with β:=β'} v x:=by
  cases x with
  | bX a=>exact jh.sub c b h d
  | agg cs=>obtain⟨vs,h1,h2⟩:=h;exact⟨vs,h1,h2.sub c b d⟩
def j4.sub(c:l6 ks U=O U')(b:l6 ks s.β=O β'):∀{vs:List ah} {xs:List E1},j4 U s vs (DO ks xs)->C6 (V ks) xs=W->j4 U' {s with β:=β'} vs xs
  | [],[],_,_=>trivial
  | [],_::_,h,_=>h.elim
  | _::_,[],h,_=>h.elim
  | v::vs,a::al,h,d=>by
    simp only[C6]at d;cases e:Kz (V ks) a with
    | false=>grind
    | true=>simp only[e]at d;exact⟨h.1.sub c b e,j4.sub c b h.2 d⟩
def ey.sub(b:l6 ks U=O U')(a:l6 ks s.β=O β'){v:ah}{d:D}(h:ey U s v (ky ks d))(c:C7 (V ks) d=W):ey U' {s with β:=β'} v d:=by
  cases d with
  | e x=>exact qF.sub b a h c
  | gI xs=>obtain⟨vs,h1,h2⟩:=h;exact⟨vs,h1,h2.sub b a c⟩
  | any=>trivial
def cU.sub(c:l6 ks U=O U')(b:l6 ks s.β=O β'):∀{vs:List ah} {ds:List D},cU U s vs (iJ ks ds)->nV (V ks) ds=W->cU U' {s with β:=β'} vs ds
  | [],[],_,_=>trivial
  | [],_::_,h,_=>h.elim
  | _::_,[],h,_=>h.elim
  | v::vs,a::al,h,d=>by
    simp only[nV]at d;cases e:C7 (V ks) a with
    | false=>grind
    | true=>simp only[e]at d;exact⟨h.1.sub c b e,cU.sub c b h.2 d⟩
variable {σ2:List bq}{s2:St}
def fD.qQ(d:s2.M=s.M)(c:∀(j:Nat) (B:bq),U[j]?=O B->∃k,ks[j]?=O k/\σ2[k]?=O B)(b:∀(j:Nat) (L:Loc),s.β[j]?=O L->∃k,ks[j]?=O k/\s2.β[k]?=O L)(a:V s.β=V U):
    ∀{vs:List ah} {cs:List A},fD U s vs cs->fD σ2 s2 vs (HD ks cs)
  | [],[],_=>trivial
  | [],_::_,h=>h.elim
  | _::_,[],h=>h.elim
  | _::_,_::_,h=>⟨h.1.qQ d c b a,fD.qQ d c b a h.2⟩
def qF.qQ(e:s2.M=s.M)(d:∀(j:Nat) (B:bq),U[j]?=O B->∃k,ks[j]?=O k/\σ2[k]?=O B)(c:∀(j:Nat) (L:Loc),s.β[j]?=O L->∃k,ks[j]?=O k/\s2.β[k]?=O L)(b:V s.β=V U){v:ah}{x:E1}(h:qF U s v x):qF σ2 s2 v (Fl ks x):=by
  cases x with
  | bX a=>exact jh.qQ e d c b h
  | agg cs=>obtain⟨vs,h1,h2⟩:=h;exact⟨vs,h1,h2.qQ e d c b⟩
def j4.qQ(d:s2.M=s.M)(c:∀(j:Nat) (B:bq),U[j]?=O B->∃k,ks[j]?=O k/\σ2[k]?=O B)(b:∀(j:Nat) (L:Loc),s.β[j]?=O L->∃k,ks[j]?=O k/\s2.β[k]?=O L)(a:V s.β=V U):
    ∀{vs:List ah} {xs:List E1},j4 U s vs xs->j4 σ2 s2 vs (DO ks xs)
  | [],[],_=>trivial
  | [],_::_,h=>h.elim
  | _::_,[],h=>h.elim
  | _::_,_::_,h=>⟨h.1.qQ d c b a,j4.qQ d c b a h.2⟩
def ey.qQ(f:s2.M=s.M)(c:∀(j:Nat) (B:bq),U[j]?=O B->∃k,ks[j]?=O k/\σ2[k]?=O B)(b:∀(j:Nat) (L:Loc),s.β[j]?=O L->∃k,ks[j]?=O k/\s2.β[k]?=O L)(a:V s.β=V U){v:ah}{d:D}(h:ey U s v d):ey σ2 s2 v (ky ks d):=by
  cases d with
  | e x=>exact qF.qQ f c b a h
  | gI xs=>obtain⟨vs,h1,h2⟩:=h;exact⟨vs,h1,h2.qQ f c b a⟩
  | any=>trivial
end sub
def ft.uV{α:Type}:Nat->α->List α->List α
  | _,_,[]=>[]
  | 0,x,_::r=>x::r
  | k+1,x,y::r=>y::ft.uV k x r
def ft{α:Type}:List Nat->List α->List α->List α
  | [],new,old=>old++new
  | k::ks,x::new,old=>ft ks new (ft.uV k x old)
  | _::_,[],old=>old
theorem lE{α:Type}:∀(k:Nat) (x:α) (l:List α),ft.uV k x l=l.set k x
  | _,_,[]=>by simp[ft.uV]
  | 0,x,_::r=>by simp[ft.uV]
  | k+1,x,y::r=>by simp[ft.uV,lE k x r]
def AU{α:Type}:∀{ks:List Nat} {new old:List α},fa ks=W->(∀k∈ks,k<V old)->V ks<=V new ->
    V (ft ks new old)=V old+(V new-V ks)/\(∀(j k:Nat),ks[j]?=O k->(ft ks new old)[k]?=new[j]?) /\
    (∀j,(ft ks new old)[V old+j]?=new[V ks+j]?)/\(∀l,l<V old->l∉ks->(ft ks new old)[l]?=old[l]?)
  | [],new,old,_,_,_=>by
    refine⟨by simp[ft],by simp,λj=>?_,λl c _=>?_⟩
    · simp only[ft,gk,b8]
      grind
    · simp[ft,j8 c]
  | k::ks,[],old,_,_,h=>by grind
  | k::ks,x::new,old,a,b,e=>by
    have g:=a;simp only[fa]at a;cases d:kz k ks with
    | true=>grind
    | false =>
      simp only[d]at a;have hk:k<V old:=b k ay;have f:k∉ks:=λh=>by grind[Af]
      obtain⟨n,i,m,o⟩:=AU (ks:=ks) (new:=new) (old:=old.set k x) a (λk' hk'=>by grind) az;simp only[ft,lE];grind
def Ev(X:Cx P)(f:aO)(args:List D)(U:List bq)(res:D)(U':List bq):Prop :=
  (∃fn,P.funcs[f]?=O fn/\(fn.name== "runtime.NumGoroutine")=ae/\fn.body.isNone=ae) /\
  ∀s (vs:List ah),cU U s vs args->aH U s->∀(S:au->St->Prop) (cs:List bd),
    (∀a v s',zw P f a v s'->ey U' s' v res->aH U' s'->dE U s U' s'->ia X S (G a cs) s')->ia X S (G (Frame.enter P f vs.toArray .normal) cs) s
def e9(X:Cx P)(f:aO)(args:List D)(U:List bq)(res:ι->D)(U':ι->List bq):Prop :=
  (∃fn,P.funcs[f]?=O fn/\(fn.name== "runtime.NumGoroutine")=ae/\fn.body.isNone=ae) /\
  ∀s (vs:List ah),cU U s vs args->aH U s->∀(S:au->St->Prop) (cs:List bd),
    (∀i a v s',zw P f a v s'->ey (U' i) s' v (res i)->aH (U' i) s'->dE U s (U' i) s'->ia X S (G a cs) s')->ia X S (G (Frame.enter P f vs.toArray .normal) cs) s
def Ev.uW{X:Cx P}{f:aO}{args:List D}{res:D}(h:Ev X f args U res U'):e9 (ι:=Unit) X f args U (λ_=>res) (λ_=>U') :=
  ⟨h.1,λs vs hr hh S cs hS=>h.2 s vs hr hh S cs (hS ())⟩
def e9.KA{X:Cx P}{f:aO}{args:List D}{res:D}(h:e9 (ι:=Unit) X f args U (λ_=>res) (λ_=>U')):Ev X f args U res U' :=
  ⟨h.1,λs vs hr hh S cs hS=>h.2 s vs hr hh S cs (λ_=>hS)⟩
def AV(s:St)(a:List Loc):Nat->Prop:=λb=>s.own b∨((∃L∈s.β,b∈L.bs)/\∀L∈a,b∉L.bs)
def nw(n:Nat):Nat->List Nat
  | 0=>[]
  | m+1=>n::nw (n+1) m
def HE:∀(m n j:Nat),(nw n m)[j]?=if j<m then O (n+j)else af
  | 0,n,j=>by simp[nw]
  | m+1,n,0=>by simp[nw]
  | m+1,n,j+1=>by simp only[nw,nS,HE m (n+1) j,Nat.add_lt_add_iff_right];grind
def frame{σ1:List bq}{a:St}{n:List Loc}(p:aH U s)(aa:l6 ks U=O Us)(ak:l6 ks s.β=O n)(hn:fa ks=W)(hp:dg σ1=W)(t:aH σ1 a)(st:dE Us {s with β:=n,own:=AV s n} σ1 a)(ab:V ks<=V σ1){res:D}(hr:ey σ1 a v res):
    ∃s2:St,s2.w=a.w/\ey (ft ks σ1 U) s2 v (ky (ks++nw (V U) (V σ1-V ks)) res)/\aH (ft ks σ1 U) s2/\dE U s (ft ks σ1 U) s2/\s2.M=a.M/\s2.own=s.own/\∀L∈s2.β,L∈a.β∨(L∈s.β/\∀b∈L.bs,∀L'∈n,b∉L'.bs):=by
  have J:∀k∈ks,k<V U:=by intro k hk;obtain⟨j,m,rfl⟩:=gM hk;obtain⟨x,_,h2⟩:=(kP aa).2 j _ (bD m);grind
  have z:∀k∈ks,k<V s.β:=by rw[p.len];omega
  have H:V ks<=V a.β:=by rw[t.len];omega
  obtain⟨a1,a2,a3,a4⟩:=AU (new:=σ1) (old:=U) hn J ab;obtain⟨b1,b2,b3,b4⟩:=AU (new:=a.β) (old:=s.β) hn z H;obtain⟨c1,c2⟩:=kP aa;obtain⟨d1,d2⟩:=kP ak;let AK:=ks++nw (V U) (V σ1-V ks);have P:∀j,j<V σ1->∃k,AK[j]?=O k/\(ft ks σ1 U)[k]?=σ1[j]?/\(ft ks a.β s.β)[k]?=a.β[j]?:=by
    intro j m;rcases dy j (V ks) with q|C
    · refine⟨ks[j],?_,a2 j _ (bD q),b2 j _ (bD q)⟩
      grind
    · refine⟨V U+(j-V ks),?_,?_,?_⟩
      · simp only[AK]
        rw[iy C,HE,bh aq]
      · rw[a3];grind
      · rw[<-p.len,b3];grind
  have f:∀l L,(ft ks a.β s.β)[l]?=O L->(∃j,j<V σ1/\a.β[j]?=O L/\(∀B,(ft ks σ1 U)[l]?=O B->σ1[j]?=O B)/\(∀k,ks[j]?=O k->k=l)/\(j≥V ks->l=V U+(j-V ks))) ∨
      (l<V U/\l∉ks/\s.β[l]?=O L/\(ft ks σ1 U)[l]?=U[l]?):=by
    intro l L c;have Y:l<V (ft ks a.β s.β):=(cO.1 c).1;rcases dy l (V U) with q|C
    · by_cases r:l∈ks
      · obtain⟨j,m,rfl⟩:=gM r
        have hk:=bD m;grind
      · exact .inr ⟨q,r,by rw[<-b4 l (by rw[p.len];omega) r];exact c,a4 l q r⟩
    · rw[b1,t.len,p.len]at Y
      refine .inl ⟨V ks+(l-V U),by omega,?_,λB hB=>?_,λk hk=>?_,λ_=>by omega⟩
      · rw[<-b3,p.len,E5 C];exact c
      · rw[<-a3,E5 C];exact hB
      grind
  have A:∀L∈n,L∈s.β:=by intro L c;obtain⟨j,m,rfl⟩:=gM c;have E:j<V ks:=az;obtain⟨x,S,N⟩:=d2 j _ (bD E);grind
  have other:∀l L,l∉ks->s.β[l]?=O L->∀b∈L.bs,b<s.w.heap.size/\∀L'∈n,b∉L'.bs:=by intro l L u c b d;refine⟨p.lt L (b9 c) b d,λL' im qq=>?_⟩;obtain⟨j,m,rfl⟩:=gM im;have E:j<V ks:=az;obtain⟨x,S,N⟩:=d2 j _ (bD E);rw[bD m]at S;cases S;have:=p.gY l ks[j] L _ c N b d qq;grind
  have gf:∀b,b<s.w.heap.size->(∀L∈s.β,b∉L.bs)->∀L∈n,b∉L.bs:=λb _ h L c=>h L (A L c);have ex:sM U s (ft ks σ1 U) ⟨ft ks a.β s.β,a.M,a.w,s.own⟩:=by
    refine⟨st.mem,λl B L hB c=>?_⟩;have q:l<V U:=(cO.1 hB).1;by_cases r:l∈ks
    · obtain⟨j,m,rfl⟩:=gM r
      have hk:=bD m;obtain⟨x,S,N⟩:=c2 j _ hk;obtain⟨y,y1,y2⟩:=d2 j _ hk;rw[hB]at N;cases N;rw[c]at y2;cases y2;obtain⟨B',L',p1,p2,p3⟩:=st.box j B L S y1;grind
    · exact⟨B,L,by grind,by grind,.refl _ _⟩
  refine⟨⟨ft ks a.β s.β,a.M,a.w,s.own⟩,aK,?_,⟨t.mem,?_,?_,?_,?_,?_⟩,⟨st.size,?_,st.mem,?_,?_,ex.box,st.os,st.tape,st.output,aK⟩,aK,aK,?_⟩
  · refine ey.qQ (s:=a) (s2:=⟨ft ks a.β s.β,a.M,a.w,s.own⟩) (σ2:=ft ks σ1 U) (ks:=AK) aK (λj B hB=>?_) (λj L c=>?_) t.len hr
    · grind
    · obtain⟨k,k1,_,k3⟩:=P j (by rw[<-t.len];grind)
      grind
  · simp only;rw[a1,b1,t.len,p.len]
  · intro l B L hB c
    rcases f l L c with⟨j,m,g,R,_⟩|⟨u,r,im,Z⟩
    · exact gb.plain (U:=σ1) (s:=a) (s':=⟨ft ks a.β s.β,a.M,a.w,s.own⟩) aK aK (nv hp B (b9 (R B hB))) (t.box j B L (R B hB) g)
    · rw[Z]at hB
      refine(p.box l B L hB im).nk ex p.len λb d=>?_;obtain⟨o1,T⟩:=other l L r im b d;exact⟨st.keep b (.inr ⟨⟨L,b9 im,d⟩,T⟩),st.lJ b o1 T⟩
  · intro l l' L L' c im b d qq
    rcases f l L c with⟨j,m,g,_,hjk,hjn⟩|⟨u,r,i,_⟩<;>rcases f l' L' im with⟨j',E,G,_,anq,anr⟩|⟨He,hm',F,_⟩
    · have e:=t.gY j j' L L' g G b d qq
      grind
    · obtain⟨o1,T⟩:=other l' L' hm' F b qq
      rcases st.Ab L (b9 g) b d with h|⟨L0,h0,K⟩
      · grind
      grind
    · obtain⟨o1,T⟩:=other l L r i b d
      rcases st.Ab L' (b9 G) b qq with h|⟨L0,h0,K⟩
      · grind
      grind
    · exact p.gY l l' L L' i F b d qq
  · intro L c b d
    obtain⟨l,u,rfl⟩:=gM c;rcases f l _ (bD u)with⟨j,m,g,_⟩|⟨_,_,i,_⟩
    · exact t.lt _ (b9 g) b d
    · have:=p.lt _ (b9 i) b d
      have:=st.size;grind
  · intro b d
    refine⟨?_,λL c Q=>?_⟩
    · have:=(p.own b d).1
      have:=st.size;grind
    · obtain⟨l,u,rfl⟩:=gM c
      rcases f l _ (bD u)with⟨j,m,g,_⟩|⟨_,_,i,_⟩
      · have ho:a.own b:=by rw[st.own];exact .inl d
        exact(t.own b ho).2 _ (b9 g) Q
      · exact(p.own b d).2 _ (b9 i) Q
  · intro b d
    exact st.keep b (.inl d)
  · intro b d X o
    exact st.lJ b d (gf b d X) o
  · intro L c b d
    obtain⟨l,u,rfl⟩:=gM c;rcases f l _ (bD u)with⟨j,m,g,_⟩|⟨_,_,i,_⟩
    · rcases st.Ab _ (b9 g) b d with h|⟨L0,h0,K⟩
      · grind
      grind
    grind
  · intro L c
    obtain⟨l,u,rfl⟩:=gM c;rcases f l _ (bD u)with⟨j,m,g,_⟩|⟨_,r,i,_⟩
    · grind
    grind
def fV:D->Option (aO×List C)
 |.e (.bX (.c (.fn (.func f) [] cap)))=>O (f,cap)
 |_=>af
theorem mU{U:List bq}{s:St}{b:aG->ah}{η:aG->D}(a:∀y,ey U s (b y) (η y)):∀l:List aG,cU U s (l.map b) (l.map η)
 |[]=>trivial
 |x::r=>⟨a x,mU a r⟩
def cU.append{U:List bq}{s:St}:∀{vs vs':List ah}{ds MU:List D},cU U s vs ds->cU U s vs' MU->cU U s (vs++vs') (ds++MU)
 |[],_,[],_,_,h=>h
 |[],_,_::_,_,h,_=>h.elim
 |_::_,_,[],_,h,_=>h.elim
 |_::_,_,_::_,_,h,a=>⟨h.1,cU.append h.2 a⟩
def aa6:A->A
 |.dk _ k n es=>.c (.sl ae k n es)
 |.c (.sl _ k n es)=>.c (.sl ae k n es)
 |a=>a
def MW{a:A}(h:jh U s v a):jh U s v (aa6 a):=by
 cases a with
 |dk l k n es=>exact h.1
 |c x=>cases x<;>first|exact h|exact Rd.AI h
 |_=>exact h
def aa7:List A->List A
 |[]=>[]
 |a::r=>aa6 a::aa7 r
def MX{U:List bq}{s:St}:∀{vs:List ah}{cs:List A},fD U s vs cs->fD U s vs (aa7 cs)
 |[],[],_=>trivial
 |[],_::_,h=>h.elim
 |_::_,[],h=>h.elim
 |_::_,_::_,h=>⟨MW h.1,MX h.2⟩
def aes:D->D
 |.e (.bX a)=>.e (.bX (aa6 a))
 |.e (.agg cs)=>.e (.agg (aa7 cs))
 |d=>d
def WI{d:D}(h:ey U s v d):ey U s v (aes d):=by
 cases d with
 |e x=>cases x with
  |bX a=>exact MW h
  |agg cs=>obtain⟨vs,c,b⟩:=h;exact⟨vs,c,MX b⟩
 |gI xs=>exact h
 |any=>trivial
def pU:List D->List D
 |[]=>[]
 |a::r=>aes a::pU r
theorem tp{U:List bq}{s:St}:∀{vs:List ah}{ds:List D},cU U s vs ds->cU U s vs (pU ds)
 |[],[],_=>trivial
 |[],_::_,h=>h.elim
 |_::_,[],h=>h.elim
 |_::_,_::_,h=>⟨WI h.1,tp h.2⟩
def iq:List C->List D
 |[]=>[]
 |c::r=>b7 c::iq r
theorem oS{U:List bq}{s:St}:∀{vs:List ah}{cs:List C},(∀(j:Nat)(c:C),cs[j]?=O c->∃v,vs[j]?=O v/\Rd s.M v c)->V vs=V cs->cU U s vs (iq cs)
 |[],[],_,_=>trivial
 |[],_::_,_,h=>by grind
 |_::_,[],_,h=>by grind
 |v::vs,c::cs,h,d=>by obtain⟨u,a,b⟩:=h 0 c rfl;simp at a;subst a;exact⟨b,oS (λj c e=>by simpa using h (j+1) c az) az⟩
def Fp{l r:List α}(h:l6 ks l=O r):∀x∈r,x∈l:=by intro x b;obtain⟨d,a⟩:=kP h;obtain⟨j,c,rfl⟩:=gM b;obtain⟨y,f,e⟩:=a j _ (bD aq);grind
def aH.sub{a:List Loc}(hh:aH U s)(l:l6 ks U=O Us)(c:l6 ks s.β=O a)(p:dg Us=W)(r:fa ks=W):
  aH Us {s with β:=a,own:=AV s a}/\gn s {s with β:=a,own:=AV s a}:=by
 obtain⟨c1,c2⟩:=kP l;obtain⟨d1,d2⟩:=kP c;have e:∀L∈a,L∈s.β:=Fp c;refine⟨⟨hh.mem,by grind,?_,?_,?_,?_⟩,⟨Z,λ_ _ _ h=>h,λ_ _ _=>rfl,hh.mem,?_⟩⟩
 .intro j B L hB hL;have hj:j<V ks:=az;obtain⟨x,o,q⟩:=c2 j _ (bD hj);obtain⟨y,f,i⟩:=d2 j _ (bD hj);rw[hB]at o;cases o;simp only at hL;rw[hL]at f;cases f;exact gb.plain (U:=U) (s:=s) (s':={s with β:=a,own:=AV s a}) rfl rfl (nv p B (b9 hB)) (hh.box _ B L q i)
 .intro j m L L' hL im b hb qq;simp only at hL im;have hj:j<V ks:=az;have k:m<V ks:=az;obtain⟨y,f,i⟩:=d2 j _ (bD hj);obtain⟨t,d,g⟩:=d2 m _ (bD k);rw[hL]at f;cases f;rw[im]at d;cases d;have:=hh.gY _ _ L L' i g b hb qq;exact AT r j m ks[j] (bD hj) az
 .intro L hL b hb;exact hh.lt _ (e L hL) b hb
 .rintro b (hb|⟨⟨L,hL,hb⟩,n⟩)
  .exact⟨(hh.own b hb).1,λL hL=>(hh.own b hb).2 L (e L hL)⟩
  exact⟨hh.lt L hL b hb,n⟩
 rintro b ((hb|⟨⟨L,hL,hb⟩,_⟩)|⟨L,hL,hb⟩)
 .grind
 .grind
 grind
def gn.back{σ1:List bq}{c s2:St}{a:List Loc}(hh:aH U s)(h1:aH σ1 c)(st:dE Us {s with β:=a,own:=AV s a} σ1 c)(i:s2.w=c.w)(e:s2.M=c.M)(ho:s2.own=s.own)(d:∀L∈s2.β,L∈c.β∨(L∈s.β/\∀b∈L.bs,∀L'∈a,b∉L'.bs)):gn c s2:=by
 refine⟨i,λb o v h=>by grind,λb _ o=>by rw[e],λb o v h=>by rw[e]at h;exact h1.mem b o v h,?_⟩;rintro b (hb|⟨L,g,hb⟩)
 .left;rw[st.own];exact .inl az
 rcases d L g with h|⟨h,f⟩
 .grind
 left;rw[st.own];exact .inr ⟨⟨L,h,hb⟩,f b hb⟩
def x4{X:Cx P}{b:bd}{k:List Item}{a:Act}{rest:List Nat}{f:aO}(hb:b.kind≠.early)(ho:ops[i]?=O o)(hw:bn o (yielded ops a.tmps)=W)(Y:aH U s)(D:∀w,(ar a.eval o).run P w=.ok (.enter f vs.toArray) w)(u:∀w,(ar a.eval o).events P w #[]=#[])(H:e9 X f cR Us res σ1)(t:cU U s vs (iJ ks cR))(ab:nV (V ks) cR=W)(n:l6 ks U=O Us)(hp:dg Us=W)(M:∀j,dg (σ1 j)=W)(Z:fa ks=W)(F:∀j,V ks<=V (σ1 j))(h:∀j v s',ey (ft ks (σ1 j) U) s' v (ky (ks++nw (V U) (V (σ1 j)-V ks)) (res j))->aH (ft ks (σ1 j) U) s'->dE U s (ft ks (σ1 j) U) s'->ia X S (G (b.aT (a.put o.dst v) (.inRegion ops rest::k)) cs) s'):
  ia X S (G (b.aT a (.inRegion ops (i::rest)::k)) cs) s:=by
 obtain⟨_,q⟩:=H;refine .next aK λg ak=>?_;have T:=X.kq ak;have d:=Y.rely T;obtain⟨e,p⟩:=AR (l':=g.β) n d.len;obtain⟨z,E⟩:=d.sub n p hp Z;have m:cU U g vs (iJ ks cR):=t.mono T.db.ext Y.len;have A:cU Us {g with β:=e,own:=AV g e} vs cR:=(m.sub (s:=g) n p ab).mono (U:=Us) (s:={g with β:=e}) (U':=Us) (s':={g with β:=e,own:=AV g e}) ⟨λ_ _ _ h=>h,λl B L hB hL=>⟨B,L,hB,hL,.refl _ _⟩⟩ z.len;refine⟨_,g,_,qK ho hw hb (D g.w),?_,.c8 E (q _ vs A z S _ λj fr v s2 hl nj J7 pA=>?_)⟩
 .refine⟨⟨U,U,d,d,.refl _ _⟩,gA.seen ?_⟩;rw[u];exact .nil
 refine qL (cs:=cs) (c:=b.aT a (.inRegion ops (i::rest)::k)) J7 hl λs3 r=>?_;have C:=J7.rely r;have y:=pA.trans r.db;obtain⟨s4,N,J,AK,aa,Q,R,x⟩:=frame d n p Z (M j) C y (F j) (nj.mono r.db.ext J7.len);refine .c8 (gn.back d C y N Q R x) ?_;have K:=kN (b:=b) (a:=a) (k:=k) ops i rest v;rw[ho]at K;simp only[oP]at K;rw[K];exact h j v s4 J AK (T.db.trans aa)
def RQ{X:Cx P}{b:bd}{k:List Item}{a:Act}{rest:List Nat}{σ1:List bq}{f:aO}{res:D}(p:b.kind≠.early)(ho:ops[i]?=O o)(t:bn o (yielded ops a.tmps)=W)(r:aH U s)(e:∀w,(ar a.eval o).run P w=.ok (.enter f vs.toArray) w)(d:∀w,(ar a.eval o).events P w #[]=#[])(j:Ev X f cR Us res σ1)(c:cU U s vs (iJ ks cR))(l:nV (V ks) cR=W)(m:l6 ks U=O Us)(q:dg Us=W)(n:dg σ1=W)(u:fa ks=W)(g:V ks<=V σ1)(h:∀v s',ey (ft ks σ1 U) s' v (ky (ks++nw (V U) (V σ1-V ks)) res)->aH (ft ks σ1 U) s'->dE U s (ft ks σ1 U) s'->ia X S (G (b.aT (a.put o.dst v) (.inRegion ops rest::k)) cs) s'):
  ia X S (G (b.aT a (.inRegion ops (i::rest)::k)) cs) s :=
 x4 p ho t r e d j.uW c l m q (λ_=>n) u (λ_=>g) (λ_=>h)
theorem j7(ho:o.op=.call {callee:=.value fo,args:=xs,argTypes:=lh}){f:aO}{fn:Func}(d:P.funcs[f]?=O fn)(i:(fn.name== "runtime.NumGoroutine")=ae)(g:fn.body.isNone=ae){a:Act}{cs:List ah}(h:a.eval fo=.func (.func f) #[] cs.toArray)(w:aB):
  (ar a.eval o).run P w=.ok (.enter f (xs.toList.map a.eval++cs).toArray) w/\(ar a.eval o).events P w #[]=#[]:=by
 have e:(xs.map a.eval++cs.toArray)=(xs.toList.map a.eval++cs).toArray:=az;have c:fn.name≠ "runtime.NumGoroutine":=az;have b:fn.body≠af:=az;constructor
 .simp[ar,ho,resolve,h,Deferred.ofValue,invoke,callFunc,d,c,b,e]
 simp[ar,ho,resolve,h,Deferred.ofValue,invoke,callFunc,d,c,b]
def kA.HF{X:Cx P}{Q:Fr->List bq->Prop}(aa:∀U s a,c7 N U s J a->bn o (yielded all.toArray a.tmps)=W)(ho:o.op=.call {callee:=.value fo,args:=xs,argTypes:=lh}){f:aO}(y:fV (ck J fo)=O (f,cap))(ks:List Nat)(p:e9 X f cR Us res σ1)(m:∀s vs,cU U s vs (xs.toList.map (ck J)++iq cap)->cU U s vs (iJ ks cR))(F:nV (V ks) cR=W)(B:l6 ks U=O Us)(ab:dg Us=W)(C:∀j,dg (σ1 j)=W)(R:fa ks=W)(z:∀j,V ks<=V (σ1 j))(d:Option Nat)(M:o.dst=d)(K:∀t,d=O t->t<N)(k:∀j,kA X N all rest Q (lU d (ky (ks++nw (V U) (V (σ1 j)-V ks)) (res j)) J) (ft ks (σ1 j) U)):kA X N all (o::rest) Q J U:=by
 subst M;intro s a e hh b kk cs S idx hb jb hQ;cases idx with
 |nil=>exact jb.elim
 |cons i idx =>
 obtain⟨hi,jb⟩:=jb;have u:=dz e fo;unfold fV at y;split at y
 case h_2=>cases y
 case h_1 f' RB he =>
  cases y;rw[he]at u;have l:=gG u;generalize H:a.eval fo=fv at l;cases l with
  |fn fs pE hl He f1 f2 h1 h2 r1 r2 =>
   have E:fs=[]:=kB hl;subst E;have n:cU U s pE (iq cap):=oS (λj c hj=>⟨f2 j,h2 j az,r2 j c hj⟩) He;have x:cU U s (xs.toList.map a.eval++pE) (iJ ks cR):=by exact m _ _ ((mU (dz e) xs.toList).append n)
   obtain⟨fn,r,h,g⟩:=p.1;refine x4 hb hi (aa _ _ _ e) hh (λw=>(j7 ho r h g H w).1) (λw=>(j7 ho r h g H w).2) p x F B ab C R z λj v s' hr lj st=>?_;refine k j s' _ ?_ lj b kk cs S idx hb jb λT G ak a3 q L AK A=>hQ T G ak a3 q L AK (st.trans A);cases D:o.dst with
   |none=>exact e.mono st hh.len
   |some t=>exact(e.mono st hh.len).put (K t D) hr
def kA.ZH{X:Cx P}{Q:Fr->List bq->Prop}(r:∀U s a,c7 N U s J a->bn o (yielded all.toArray a.tmps)=W)(ho:o.op=.call {callee:=.value fo,args:=xs,argTypes:=lh}){f:aO}(n:fV (ck J fo)=O (f,cap))(ks:List Nat)(c:e9 X f cR Us res σ1)(i:pU (xs.toList.map (ck J)++iq cap)=iJ ks cR)(e:nV (V ks) cR=W)(g:l6 ks U=O Us)(q:dg Us=W)(l:∀j,dg (σ1 j)=W)(u:fa ks=W)(b:∀j,V ks<=V (σ1 j))(d:Option Nat)(p:o.dst=d)(m:∀t,d=O t->t<N)(k:∀j,kA X N all rest Q (lU d (ky (ks++nw (V U) (V (σ1 j)-V ks)) (res j)) J) (ft ks (σ1 j) U)):kA X N all (o::rest) Q J U :=
 kA.HF r ho n ks c (λs vs h=>by grind[tp]) e g q l u b d p m k
theorem kA.call{X:Cx P}{Q:Fr->List bq->Prop}(p:∀U s a,c7 N U s J a->bn o (yielded all.toArray a.tmps)=W)(ho:o.op=.call {callee:=.value fo,args:=xs,argTypes:=lh}){f:aO}(l:fV (ck J fo)=O (f,cap))(ks:List Nat){σ1:List bq}{res:D}(e:Ev X f cR Us res σ1)(b:pU (xs.toList.map (ck J)++iq cap)=iJ ks cR)(g:nV (V ks) cR=W)(h:l6 ks U=O Us)(n:dg Us=W)(i:dg σ1=W)(q:fa ks=W)(c:V ks<=V σ1)(d:Option Nat)(m:o.dst=d)(j:∀t,d=O t->t<N)(k:kA X N all rest Q (lU d (ky (ks++nw (V U) (V σ1-V ks)) res) J) (ft ks σ1 U)):kA X N all (o::rest) Q J U :=
 kA.ZH p ho l ks e.uW b g h n (λ_=>i) q (λ_=>c) d m j (λ_=>k)
def u5.range(all:List aJ):u5 all (bl all.toArray.size) all:=by
 have key:∀(l:List aJ) (n:Nat),(∀j o,l[j]?=O o->all[n+j]?=O o)->u5 all (List.range' n (V l)) l:=by
  intro l;induction l with
  |nil=>intro n _;trivial
  |cons o r a =>
   intro n h;rw[eU,List.range'_succ];refine⟨by simpa using h 0 o Z,a (n+1) λj b hj=>?_⟩;have:=h (j+1) b az;grind
 grind[List.range_eq_range']
theorem AW.region{X:Cx P}{Q:Post}{id:Nat}(h:kA X N ops.toList ops.toList (λJ U=>Q .normal J U) J U):AW X N (.region id ops ae) Q J U:=by intro s a f hh b k cs S hb hQ;refine .ctl hh Z (λ_=>uq) λe h1=>?_;have:=h e a (f.rely h1 hh) (hh.rely h1) b k cs S (bl ops.size) hb (by simpa using u5.range ops.toList) λJ' U' s' a' q d c st=>hQ .normal J' U' s' a' q d c (h1.db.trans st);omega
def kA.nil{P:aR}{X:Cx P}{N:Nat}{all:List aJ}{Q:Fr->List bq->Prop}{J:Fr}{U:List bq}(h:Q J U):kA X N all [] Q J U:=by
 intro s a f hh b k cs S idx _ c d;cases idx with
 |cons i idx=>exact c.elim
 |nil=>exact .ctl hh rfl (λ_=>lq) λe h1=>d J U e a h (f.rely h1 hh) (hh.rely h1) h1.db
def kA.mono{X:Cx P}{Q c:Fr->List bq->Prop}(h:kA X N all rest Q J U)(e:∀J U,Q J U->c J U):kA X N all rest c J U :=
 λs a f hh b k cs S idx hb hi hQ=>h s a f hh b k cs S idx hb hi λJ' U' s' a' q g d st=>hQ J' U' s' a' (e _ _ q) g d st
def kA.le{P:aR}{X:Cx P}{N:Nat}{all rest:List aJ}{Q:Fr->List bq->Prop}{J J':Fr}{U:List bq}(h:kA X N all rest Q J' U)(hl:rS J J'):kA X N all rest Q J U :=
 λs a f hh b k cs S idx hb hi hQ=>h s a (f.le hl) hh b k cs S idx hb hi hQ
def lu:Nat->List D->Fr
 |_,[]=>[]
 |i,d::r=>(i,d)::lu (i+1) r
def rU:∀(ds:List D)(i t:Nat),look (lu i ds) t=if i<=t then(ds[t-i]?).getD .any else .any
 |[],i,t=>by simp[lu,look]
 |d::r,i,t=>by
  simp only[lu,look];by_cases e:i=t
  .grind [Nat.beq_refl]
  have:aC i t=ae:=Ru;rw[this];simp only[cond,rU r (i+1) t];grind
theorem cU.get{U:List bq}{s:St}:∀{vs:List ah}{ds:List D},cU U s vs ds->V vs=V ds/\∀(j:Nat),ey U s ((vs[j]?).getD ai) ((ds[j]?).getD .any)
 |[],[],_=>⟨rfl,λj=>by simp[ey]⟩
 |[],_::_,h=>h.elim
 |_::_,[],h=>h.elim
 |v::vs,d::ds,h=>by
  obtain⟨h1,h2⟩:=cU.get h.2;refine⟨by grind,λj=>?_⟩;cases j with
  |zero=>simpa using h.1
  |succ j=>grind
def C8(J:Fr):List ResultVar->Option (List D)
 |[]=>O []
 |.tmp t::r=>match C8 J r with
  |some q=>O (look J t::q)
  |none=>af
 |.cell _ _::_=>af
def yY:List D->Option (List E1)
 |[]=>O []
 |.e x::r=>match yY r with
  |some q=>O (x::q)
  |none=>af
 |_::_=>af
def wS:List D->Option D
 |[d]=>O d
 |ds=>match yY ds with
  |some es=>O (.gI es)
  |none=>af
def je(a:Act):ResultVar->Sem ah
 |ResultVar.tmp t=>pure (a.tmps.getD t ai)
 |ResultVar.cell ad t=>do loadVar t (<-asAddr (a.tmps.getD ad ai))
def MY(P:aR){N:Nat}{U:List bq}{s:St}{J:Fr}{a:Act}(f:c7 N U s J a):∀{rs:List ResultVar}{ds:List D},C8 J rs=O ds ->
  ∃vs,(∀w,(rs.mapM (je a)).run P w=Result.ok vs w)/\cU U s vs ds/\er P (rs.mapM (je a))
 |[],ds,h=>by cases h;exact⟨[],by simp,an,by rw[List.mapM_nil];exact .pure⟩
 |.tmp t::r,ds,h=>by
  simp only[C8]at h;cases b:C8 J r with
  |none=>grind
  |some q =>
   simp[b]at h;subst h;obtain⟨vs,e,d,c⟩:=MY P f b;refine⟨a.tmps.getD t ai::vs,?_,⟨f.ff t,d⟩,?_⟩
   .intro w;simp only[ov,cf,je,dN,cA,e]
   rw[ov];exact .bind .pure λ_=>.bind c λ_=>.pure
 |.cell ad t::r,ds,h=>by simp[C8]at h
def HG{U:List bq}{s:St}:∀{vs:List ah}{ds:List D}{es:List E1},yY ds=O es->cU U s vs ds->j4 U s vs es
 |[],[],es,h,_=>by cases h;trivial
 |[],_::_,_,_,h=>h.elim
 |_::_,[],_,_,h=>h.elim
 |v::vs,.e x::r,es,h,a=>by
  simp only[yY]at h;cases b:yY r with
  |none=>grind
  |some q=>simp[b]at h;subst h;exact⟨a.1,HG b a.2⟩
 |_::_,.gI _::_,es,h,_=>by simp[yY]at h
 |_::_,.any::_,es,h,_=>by simp[yY]at h
def HH{ds:List D}{d:D}(h:wS ds=O d)(a:cU U s vs ds):ey U s (if h:V vs=1 then vs[0]else .tuple vs.toArray) d:=by
 unfold wS at h;split at h
 .rename_i g;cases h
  match vs,a with
  |[v],a=>simpa using a.1
 rename_i f;cases b:yY ds with
 |none=>grind
 |some es =>
  simp[b]at h;subst h;have c:V vs≠1:=by
   intro e;rw[(cU.get a).1]at e
   match ds,e with
   |[x],_=>grind
  rw[dif_neg c];exact⟨vs,Z,HG b a⟩
def Fq(P:aR)(fn:Func)(J:Fr)(d:D):Prop:=∀{N:Nat}{U:List bq}{s:St}{a:Act},c7 N U s J a->∃v,ey U s v d/\∀w,(∀b o u,s.M b o=O u->w.cell? ⟨b,o,af⟩=O u)->(results fn a.tmps).run P w=.ok v w/\∀e∈(results fn a.tmps).events P w #[],∃b o u,e=⟨.cell ⟨b,o,af⟩,ae,ae⟩/\s.M b o=O u
def yZ{a:Act}(f:c7 N U s J a){fn:Func}{ds:List D}{d:D}(h:C8 J fn.results.toList=O ds)(g:wS ds=O d):
  ∃v,(∀w,(results fn a.tmps).run P w=.ok v w)/\ey U s v d/\er P (results fn a.tmps):=by
 obtain⟨vs,i,c,b⟩:=MY P f h;refine⟨_,λw=>?_,HH g c,?_⟩
 .have e:(fn.results.mapM (je a)).run P w=Result.ok vs.toArray w:=Zl;unfold results;rw[cf];refine(et (λr=>Result.andThen r _) (Eq.trans ?_ e)).trans ?_
  .congr 2
  simp
 unfold results;have e:er P (fn.results.mapM (je a)):=by rw[EU];exact .map b
 exact .bind e λ_=>.pure
def Fq.of{fn:Func}{ds:List D}{d:D}(h:C8 J fn.results.toList=O ds)(hj:wS ds=O d):Fq P fn J d:=by intro N U s a f;obtain⟨v,h1,h2,b⟩:=yZ (P:=P) f h hj;exact⟨v,h2,λw _=>⟨h1 w,λe c=>by rw[b w #[]]at c;grind⟩⟩
section
def aH.mV(h:aH U s):aH (U.map λ_=>.cg) s:=by
 refine⟨h.mem,by simp[h.len],λl B L hB hL=>?_,h.gY,h.lt,h.own⟩;simp only[qn]at hB;cases a:U[l]? with
 |none=>grind
 |some x=>rw[a]at hB;cases hB;trivial
structure ZK(ls:List Nat)(s s':St):Prop where
 β:s'.β=s.β
 M:s'.M=s.M
 own:s'.own=s.own
 size:s.w.heap.size<=s'.w.heap.size
 keep:∀b,(s.own b∨∃(l:Nat) (L:Loc),s.β[l]?=O L/\l∉ls/\b∈L.bs)->s'.w.heap[b]?=s.w.heap[b]?
 mem:∀b o v,s.M b o=O v->s'.w.cell? ⟨b,o,af⟩=O v
 os:s'.w.os=s.w.os
 tape:s'.w.tape=s.w.tape
 output:s'.w.output=s.w.output
def cK.unR(h:cK s s')(ls:List Nat):ZK ls s s' :=
 ⟨h.β,h.M,h.own,h.size,λb hb=>h.keep b (hb.imp id λ⟨l,L,h1,_,a⟩=>⟨L,b9 h1,a⟩),h.mem,h.os,h.tape,h.output⟩
theorem ZK.eu{ls:List Nat}{a s2:St}(h:ZK [l] s a)(k:ZK ls a s2):ZK (l::ls) s s2:=by refine⟨k.β.trans h.β,k.M.trans h.M,k.own.trans h.own,hZ h.size k.size,λb hb=>?_,λb o v d=>k.mem b o v (by rw[h.M];exact d),k.os.trans h.os,k.tape.trans h.tape,k.output.trans h.output⟩;rw[k.keep b,h.keep b (hb.imp id λ⟨l',L,h1,h2,c⟩=>⟨l',L,h1,λe=>h2 az,c⟩)];rw[h.own,h.β];grind
def RZ{r:Nat}(a:w.heap[r]?=O (.deferred (O []))):
  (Instr.takeDeferred r).run P w=.ok [] {w with heap:=w.heap.setIfInBounds r (.deferred af)}/\(Instr.takeDeferred r).events P w #[]=#[⟨.obj r,ae,ae⟩,⟨.obj r,W,ae⟩]:=by
 have b:(getObj r).run P w=.ok (.deferred (O [])) w:=by simp only[getObj,Sem.run,a]
 have d:(setObj r (.deferred af)).run P w=.ok () {w with heap:=w.heap.setIfInBounds r (.deferred af)}:=by simp only[setObj,Sem.run,a]
 have c:∀es,(getObj r).events P w es=es.push ⟨.obj r,ae,ae⟩:=λes=>by simp only[getObj,Sem.events,Sem.runT,a];rfl
 have e:∀es,(setObj r (.deferred af)).events P w es=es.push ⟨.obj r,W,ae⟩:=λes=>by simp only[setObj,Sem.events,Sem.runT,a];rfl
 constructor
 .simp[Instr.takeDeferred,b,d]
 simp[Instr.takeDeferred,b,c,e]
variable {X:Cx P}{main:Bool}
def WK{a:bd}{r:Nat}{ds:List Deferred}(f:a.mode=.returning)(c:a.defers={target:=.collected r,args:=#[]}::ds)(d:w.heap[r]?=O (.deferred (O []))):
  aU P main (G a cs) w=.go (G {a with defers:=ds} cs) {w with heap:=w.heap.setIfInBounds r (.deferred af)} (seen P a.fn #[⟨.obj r,ae,ae⟩,⟨.obj r,W,ae⟩]):=by obtain⟨e,b⟩:=RZ (P:=P) d;simp[G,aU,unwind,f,c,e,b,GStep.after]
def A2(s:St):List Deferred->List Nat->Prop
 |[],[]=>True
 |d::ds,l::ls=>(∃r:Nat,s.β[l]?=O ⟨.int .i64 r,[r]⟩/\s.w.heap[r]?=O (.deferred (O []))/\(∀o,s.M r o=af)/\d={target:=.collected r,args:=#[]})/\l∉ls/\A2 s ds ls
 |_,_=>False
def sR.R0{U:List bq}{s:St}(hh:aH U s):∀{ds:List Deferred}{ls:List Nat},sR U s ds ls->A2 s ds ls
 |[],[],_=>trivial
 |[],_::_,r=>r.elim
 |_::_,[],r=>r.elim
 |d::ds,l::ls,⟨⟨h1,L,r,h2,a,h⟩,f,b⟩=>by obtain⟨r',k1,c,g⟩:=hh.box l _ L h1 h2;subst k1;simp at a;have e:r'=r:=aq;subst e;exact⟨⟨r',h2,c,g,h⟩,f,sR.R0 hh b⟩
def A2.mono{s s':St}{b:Nat}(h:ZK [b] s s'):∀{ds:List Deferred}{ls:List Nat},b∉ls->A2 s ds ls->A2 s' ds ls
 |[],[],_,_=>trivial
 |[],_::_,_,r=>r.elim
 |_::_,[],_,r=>r.elim
 |d::ds,l::ls,a,⟨⟨r,h1,h2,g,f⟩,e,c⟩=>by simp only[eQ,not_or]at a;refine⟨⟨r,by rw[h.β];exact h1,by rw[h.keep r (.inr ⟨l,_,h1,by grind,by simp⟩)];exact h2,λo=>by rw[h.M];grind,f⟩,e,A2.mono h a.2 c⟩
def vE:∀(ls:List Nat)(c:bd)(s:St)(U:List bq),aH U s->(∀B∈U,B=.cg)->c.mode=.returning->A2 s c.defers ls ->
  (∀s',ZK ls s s'->ia X S (G {c with defers:=[]} cs) s')->ia X S (G c cs) s
 |[],c,s,U,q,n,A,m,k=>by
  have p:c.defers=[]:=by
   cases p:c.defers with
   |nil=>rfl
   |cons d ds=>rw[p]at m;exact m.elim
  have:=k s ((cK.refl q).unR _);have e:{c with defers:=[]}=c:=by cases c;simp_all
  grind
 |l::ls,c,s,U,q,n,A,m,k=>by
  cases p:c.defers with
  |nil=>rw[p]at m;exact m.elim
  |cons d ds =>
   rw[p]at m;obtain⟨⟨r,y,K,Q,AK⟩,aa,H⟩:=m;subst AK;refine .next Z λi F=>?_;have g:=X.kq F;have a:=q.rely g;have D:i.β[l]?=O ⟨.int .i64 r,[r]⟩:=by rw[g.β];exact y
   have z:i.w.heap[r]?=O (.deferred (O [])):=by rw[g.keep r (.inr ⟨_,b9 y,by simp⟩)];exact K
   have N:∀o,i.M r o=af:=λo=>by rw[g.M];grind
   let s2:St:={i with w:={i.w with heap:=i.w.heap.setIfInBounds r (.deferred af)}}
   have hk:∀b,b≠r->s2.w.heap[b]?=i.w.heap[b]?:=λb f=>by grind
   have j:∀b o v,i.M b o=O v->s2.w.cell? ⟨b,o,af⟩=O v:=by intro b o v C;have u:b≠r:=az;rw[<-a.mem b o v C];simp only[a9];grind
   have t:aH U s2:=by
    refine⟨j,a.len,λl' B L hB hL=>?_,a.gY,λL hL b f=>?_,λb f=>⟨?_,(a.own b f).2⟩⟩
    .rw[n B (b9 hB)];trivial
    .have:=a.lt L hL b f;grind
    have:=(a.own b f).1;grind
   have x:∃L∈i.β,r∈L.bs:=⟨_,b9 D,by simp⟩
   have st:eO U i U s2:=by refine⟨by grind,λb _ f=>hk b ?_,λ_ _ _ h=>h,λ_ _ _ _=>rfl,λL hL b f=>.inr ⟨L,hL,f⟩,λ_ B L h J=>⟨B,L,h,J,.refl _ _⟩,rfl,rfl,rfl,rfl⟩;grind
   have un:ZK [l] s s2:=by
    refine⟨g.β,g.M,g.own,hZ g.size az,λb f=>?_,λb o v C=>j b o v (by rw[g.M];exact C),g.os,g.tape,g.output⟩;have u:b≠r:=by
     rintro rfl;rcases f with f|⟨l',L',E,p2,p3⟩
     .exact(q.own b f).2 _ (b9 y) ay
     exact p2 (by simp;exact q.gY l' l L' _ E y b p3 ay)
    rw[hk b u];exact g.keep b (f.imp id λ⟨l',L',E,_,p3⟩=>⟨L',b9 E,p3⟩)
   refine⟨_,s2,_,WK A p z,⟨⟨U,U,a,t,st⟩,gA.seen (.RY ?_ ?_)⟩,?_⟩
   .exact⟨Z,.inr x⟩
   .exact⟨Z,.inr x⟩
   refine vE ls {c with defers:=ds} s2 U t n A (H.mono un aa) λs' hu=>?_;exact k s' (un.eu hu)
end
def eW(n:Nat)(f g:Nat->List C):Prop:=∀i,i<n->f i=g i
def ku.Kp{k:Nat}{es':Nat->List C}(h:ku M k n es vs)(a:eW n es es'):ku M k n es' vs :=
 ⟨h.len,λi hi=>by rw[<-a i hi];exact h.jy i hi,λi hi j c hj=>h.rd i hi j c (by rw[a i hi];exact hj)⟩
def leC:C->C->Option (List Prop)
 |.int k n,.int k' n'=>match OP k k' with|true=>O [n=n']|false=>af
 |.bool b,.bool b'=>O [b=b']
 |.du s,.du s'=>O [s=s']
 |.sl t k n es,.sl t' k' n' es'=>match aC k k' with
  |true=>match t,t' with
   |false,W=>af
   |_,_=>O [n=n',eW n es es']
  |false=>match t,t' with
   |true,_=>O [n=0,n'=0]
   |_,_=>af
 |.val x,.val y=>O [x=y]
 |x,y=>O [x=y]
def SM{x y:C}(h:leC x y=O ps)(c:aA ps)(r:Rd M v x):Rd M v y:=by
 unfold leC at h;split at h
 .rename_i k n k' n';cases hk:OP k k'<;>simp[hk]at h
  subst h;cases FV hk;cases(show n=n' from c);exact r
 .cases h;rename_i b d;cases(show b=d from c);exact r
 .cases h;rename_i b d;cases(show b=d from c);exact r
 .rename_i t k n es t' k' n' es';cases hk:aC k k' with
  |true =>
   simp only[hk]at h;have e:=dH hk;subst e;cases t<;>cases t'<;>simp at h
   all_goals (subst h;obtain⟨rfl,f⟩:=(show n=n'/\eW n es es' from c);first|exact r.Kp f|exact r.AI.Kp f)
  |false =>
   simp only[hk]at h;cases t<;>simp at h
   subst h;obtain⟨rfl,rfl⟩:=(show n=0/\n'=0 from c)
   obtain⟨a,cap,vs,rfl,_,_,g,_⟩:=r.qp;grind[Rd.kF]
 .cases h;rename_i x y;cases(show x=y from c);exact r
 cases h;cases c;exact r
def leA:A->A->Option (List Prop)
 |.c x,.c y=>leC x y
 |.dk _ k n es,.c (.sl ae k' n' es')=>match aC k k' with|true=>O [n=n',eW n es es']|false=>af
 |.dk l k n es,.dk l' k' n' es'=>match aC l l' with
  |true=>match aC k k' with|true=>O [n=n',eW n es es']|false=>af
  |false=>af
 |.ptr l o,.ptr l' o'=>match aC l l' with|true=>(match aC o o' with|true=>O []|false=>af)|false=>af
 |.oY l,.oY l'=>match aC l l' with|true=>O []|false=>af
 |.bp l w,.bp l' w'=>match aC l l' with|true=>O [w=w']|false=>af
 |_,.any=>O []
 |_,_=>af
def SN{x y:A}(h:leA x y=O ps)(b:aA ps)(r:jh U s v x):jh U s v y:=by
 unfold leA at h;split at h
 .exact SM h b r
 .rename_i k n es k' n' es';cases hk:aC k k'<;>simp[hk]at h
  subst h;have e:=dH hk;subst e;obtain⟨rfl,d⟩:=(show n=n'/\eW n es es' from b)
  exact r.1.Kp d
 .rename_i l k n es l' k' n' es';cases a:aC l l'<;>simp[a]at h
  cases hk:aC k k'<;>simp[hk]at h
  subst h;have e:=dH hk;have c:=dH a;subst e c;obtain⟨rfl,d⟩:=(show n=n'/\eW n es es' from b)
  exact⟨r.1.Kp d,r.2.1,r.2.2⟩
 .grind [Nat.eq_of_beq_eq_true]
 .grind [Nat.eq_of_beq_eq_true]
 .rename_i l w l' w';cases a:aC l l'<;>simp[a]at h
  have c:=dH a;subst c;subst h;cases(show w=w' from b);exact r
 .exact jh.cell r
 grind
def mH:List Prop->List Prop->List Prop
 |[],q=>q
 |p::r,q=>p::mH r q
@[simp] theorem aA.eu{p q:List Prop}:aA (mH p q)↔aA p/\aA q:=by
 induction p with
 |nil=>simp[mH]
 |cons x r a=>simp only[mH,aA.cons,a,and_assoc]
def Z6:List A->List A->Option (List Prop)
 |[],[]=>O []
 |a::al,b::bs=>match leA a b with
  |some p=>match Z6 al bs with
   |some q=>O (mH p q)
   |none=>af
  |none=>af
 |_,_=>af
def K1{U:List bq}{s:St}:∀{vs:List ah}{xs ys:List A}{ps:List Prop},Z6 xs ys=O ps->aA ps->fD U s vs xs->fD U s vs ys
 |[],[],[],_,_,_,_=>trivial
 |_::_,[],_,_,_,_,h=>h.elim
 |[],_::_,_,_,_,_,h=>h.elim
 |[],[],_::_,_,h,_,_=>by simp[Z6]at h
 |_::_,_::_,[],_,h,_,_=>by simp[Z6]at h
 |v::vs,a::al,b::bs,ps,h,c,d=>by
  simp only[Z6]at h;cases f:leA a b with
  |none=>grind
  |some p =>
   cases e:Z6 al bs with
   |none=>grind
   |some q =>
    simp[f,e]at h;subst h;rw[aA.eu]at c;exact⟨SN f c.1 d.1,K1 e c.2 d.2⟩
def leE:E1->E1->Option (List Prop)
 |.bX a,.bX b=>leA a b
 |.agg al,.agg bs=>Z6 al bs
 |_,_=>af
def SO{x y:E1}(h:leE x y=O ps)(a:aA ps)(r:qF U s v x):qF U s v y:=by
 cases x<;>cases y<;>simp only[leE,reduceCtorEq]at h
 .exact SN h a r
 obtain⟨vs,c,b⟩:=r;exact⟨vs,c,K1 h a b⟩
def K2:List E1->List E1->Option (List Prop)
 |[],[]=>O []
 |a::al,b::bs=>match leE a b with
  |some p=>match K2 al bs with
   |some q=>O (mH p q)
   |none=>af
  |none=>af
 |_,_=>af
def Nk{U:List bq}{s:St}:∀{vs:List ah}{xs ys:List E1}{ps:List Prop},K2 xs ys=O ps->aA ps->j4 U s vs xs->j4 U s vs ys
 |[],[],[],_,_,_,_=>trivial
 |_::_,[],_,_,_,_,h=>h.elim
 |[],_::_,_,_,_,_,h=>h.elim
 |[],[],_::_,_,h,_,_=>by simp[K2]at h
 |_::_,_::_,[],_,h,_,_=>by simp[K2]at h
 |v::vs,a::al,b::bs,ps,h,c,d=>by
  simp only[K2]at h;cases f:leE a b with
  |none=>grind
  |some p =>
   cases e:K2 al bs with
   |none=>grind
   |some q =>
    simp[f,e]at h;subst h;rw[aA.eu]at c;exact⟨SO f c.1 d.1,Nk e c.2 d.2⟩
def J8:D->D->Option (List Prop)
 |.e x,.e y=>leE x y
 |.gI xs,.gI ys=>K2 xs ys
 |_,.any=>O []
 |_,_=>af
theorem rV{x y:D}(h:J8 x y=O ps)(a:aA ps)(r:ey U s v x):ey U s v y:=by
 cases x<;>cases y<;>simp only[J8,reduceCtorEq]at h
 .exact SO h a r
 .trivial
 .obtain⟨vs,c,b⟩:=r;exact⟨vs,c,Nk h a b⟩
 .trivial
 trivial
def rf(J:Fr):Fr->Option (List Prop)
 |[]=>O []
 |(i,d)::r=>match J8 (look J i) d with
  |some p=>match rf J r with
   |some q=>O (mH p q)
   |none=>af
  |none=>af
def dJ{J:Fr}:∀{J':Fr}{ps:List Prop},rf J J'=O ps->aA ps->rS J J'
 |[],_,_,_=>λ_ _ _ _ _=>trivial
 |(i,d)::r,ps,h,b=>by
  simp only[rf]at h;cases e:J8 (look J i) d with
  |none=>grind
  |some p =>
   cases a:rf J r with
   |none=>grind
   |some q =>
    simp[e,a]at h;subst h;rw[aA.eu]at b;intro U s v t c;simp only[look];cases f:aC i t with
    |true =>
     grind[Nat.eq_of_beq_eq_true,rV]
    |false=>exact dJ a b.2 U s v t c
def mI(U:List bq):Bool:=match dg U with|true=>oe U|false=>ae
def DW(h:mI U=W):dg U=W/\oe U=W:=by unfold mI at h;grind
def sR.HZ{U:List bq}{s:St}:∀{ds:List Deferred}{ls:List Nat},sR U s ds ls->∀l∈ls,U[l]?=O .vr
 |[],[],_,l,hl=>by grind
 |[],_::_,r,_,_=>r.elim
 |_::_,[],r,_,_=>r.elim
 |d::ds,b::ls,⟨⟨h1,_⟩,_,a⟩,l,hl=>by
  rcases eQ.1 hl with rfl|hl
  .exact h1
  exact sR.HZ a l hl
def cM(fn:Func)(a:Nat)(res:D)(U':List bq):Post:=λe J σ1 =>
 (e=.ret∨e=.normal)/\∃ks ds d ps,C8 J fn.results.toList=O ds/\wS ds=O d/\J8 d (ky ks res)=O ps/\aA ps/\C7 (V ks) res=W /\
  l6 ks σ1=O U'/\mI U'=W/\fa ks=W/\(∀j,j<a->ks[j]?=O j)
def vv(P:aR)(fn:Func)(a:Nat)(res:D)(U':List bq):Post:=λe J σ1 =>
 (e=.ret∨e=.normal)/\∃ks d ps,Fq P fn J d/\J8 d (ky ks res)=O ps/\aA ps/\C7 (V ks) res=W /\
  l6 ks σ1=O U'/\mI U'=W/\fa ks=W/\(∀j,j<a->ks[j]?=O j)
def cM.toJ{fn:Func}{a:Nat}{res:D}{e:Exit}{σ1:List bq}(h:cM fn a res U' e J σ1):vv P fn a res U' e J σ1:=by obtain⟨c,ks,ds,d,ps,h1,h2,b⟩:=h;exact⟨c,ks,d,ps,Fq.of h1 h2,b⟩
def e9.KW{X:Cx P}{f:aO}{fn:Func}{args:List D}{U':ι->List bq}(ab:P.funcs[f]?=O fn)(z:(fn.name== "runtime.NumGoroutine")=ae)(hb:fn.body=O c)(hlen:args.length<=fn.ntmps)(h:∀s a,c7 fn.ntmps U s (lu 0 args) a->aH U s->∀(b:bd) (k:List Item) (cs:List bd) (S:au->St->Prop),b.kind≠.early->b.roundOf=af ->
  (∀e J' σ1 s' a',(∃j,vv P fn (V U) (res j) (U' j) e J' σ1)->c7 fn.ntmps σ1 s' J' a'->aH σ1 s'->dE U s σ1 s'->vJ X S b k cs e a' s')->ia X S (G (b.aT a (.code c::k)) cs) s):e9 X f args U res U':=by
 refine⟨⟨fn,ab,z,by grind⟩,λs vs hr hh S cs hS=>?_⟩;obtain⟨hl,hg⟩:=cU.get hr;let b:bd:={fn:=f,tmps:=#[],todo:=[],defers:=[],mode:=.run,kind:=.normal,roundOf:=af}
 have r:Frame.enter P f vs.toArray .normal=b.aT {tmps:=vs.toArray++Array.replicate (fn.ntmps-vs.toArray.size) ai,defers:=[]} [.code c]:=by simp[Frame.enter,Frame.aT,ab,hb,b]
 rw[r];refine h s {tmps:=vs.toArray++Array.replicate (fn.ntmps-vs.toArray.size) ai,defers:=[]} ⟨by grind,⟨[],an⟩,λt=>?_⟩ hh b [] cs S AH rfl ?_
 .rw[rU];simp only[kn,cv,pQ];have:=hg t;rcases dy t (V vs) with xZ|hge
  .have e:(vs.toArray++Array.replicate (fn.ntmps-vs.toArray.size) ai).getD t ai=(vs[t]?).getD ai:=ME;grind
  rw[rM aq];trivial
 rintro e J' σ1 s1 a1 ⟨aa,ak,ks,d,ps,h1,h3,h4,h5,K,Q,h8,h9⟩ f' N st;obtain⟨h7,R⟩:=DW Q;have fin:∀(fr:bd) s2,cK s1 s2->fr.fn=f->fr.tmps=a1.tmps->fr.defers=a1.defers->fr.mode=.returning->fr.kind=.normal->ia X S (G fr cs) s2:=by
  intro fr s2 wm e1 e2 e3 e4 e5;have Y:=f'.rely wm N;have m:=N.rely wm;have g:=st.trans wm.db;obtain⟨v,r2,r1⟩:=h1 Y;obtain⟨i,q⟩:=AR (l':=s2.β) K m.len;have r4:=(rV h3 h4 r2).sub K q h5;obtain⟨c1,c2⟩:=kP K;obtain⟨d1,d2⟩:=kP q;have AK:∀L∈i,L∈s2.β:=Fp q;have J:aH (U' aa) {s2 with β:=i}:=by obtain⟨A,_⟩:=m.sub K q h7 h8;refine⟨A.mem,A.len,λj B L hB hL=>?_,A.gY,A.lt,λb hb=>⟨(m.own b hb).1,λL hL=>(m.own b hb).2 L (AK L hL)⟩⟩;exact gb.plain (U:=U' aa) (s:={s2 with β:=i,own:=AV s2 i}) (s':={s2 with β:=i}) rfl rfl (nv h7 B (b9 hB)) (A.box j B L hB hL)
  have T:dE U s (U' aa) {s2 with β:=i}:=by refine⟨g.size,g.keep,g.mem,g.lJ,λL hL b hb=>g.Ab _ (AK L hL) b hb,λl B L hB hL=>?_,g.os,g.tape,g.output,g.own⟩;have hl:l<V U:=(cO.1 hB).1;obtain⟨B',L',p1,p2,p3⟩:=g.box l B L hB hL;grind
  obtain⟨ls,C⟩:=Y.defers;refine vE ls fr s2 _ m.mV ay e4 (by rw[e3];exact C.R0 m) λF n=>?_;have p:cK {s2 with β:=i} {F with β:=i}:=by refine⟨rfl,n.M,n.own,n.size,λb hb=>n.keep b (hb.imp id ?_),n.mem,n.os,n.tape,n.output⟩;rintro⟨L,hL,hb⟩;obtain⟨j,hj,rfl⟩:=gM hL;have E:j<V ks:=az;obtain⟨y,y1,y2⟩:=d2 j _ (bD E);obtain⟨x,x1,Z⟩:=c2 j _ (bD E);rw[bD hj]at y1;cases y1;refine⟨_,_,y2,λhc=>?_,hb⟩;rw[C.HZ _ hc]at Z;cases Z;exact qU R _ (b9 x1) rfl
  have hG:gn F {F with β:=i}:=⟨rfl,λ_ _ _ h=>h,λ_ _ _=>rfl,λb o v hv=>n.mem b o v (by rw[<-n.M];exact hv),λb hb=>hb.imp id λ⟨L,hL,hb⟩=>⟨L,by rw[n.β];grind,hb⟩⟩
  refine .c8 hG (hS aa _ v _ ⟨e1,e4,rfl,e5,fn,by grind,λw hw=>?_⟩ (r4.mono p.db.ext J.len) (J.rely p) (T.trans p.db));show(results fn fr.tmps).run P w=_/\∀e∈(results fn fr.tmps).events P w #[],_;rw[e2];have H:∀b o u,s2.M b o=O u->w.cell? ⟨b,o,af⟩=O u:=λb o u h=>hw b o u (by show F.M b o=O u;rw[n.M];exact h);refine⟨(r1 w H).1,λe ak=>?_⟩;obtain⟨b,o,u,q1,q2⟩:=(r1 w H).2 e ak;exact⟨b,o,u,q1,by show F.M b o=O u;rw[n.M];exact q2⟩
 rcases ak with rfl|rfl
 .intro pre;exact .ctl N rfl (λ_=>Ku rfl) λs2 wm=>fin _ s2 wm rfl rfl (iZ _) rfl rfl
 exact .ctl N rfl (λ_=>Kv rfl) λs2 wm=>fin _ s2 wm rfl rfl (iZ _) rfl rfl
def e9.Z5{X:Cx P}{f:aO}{fn:Func}{args:List D}{U':ι->List bq}(i:P.funcs[f]?=O fn)(g:(fn.name== "runtime.NumGoroutine")=ae)(hb:fn.body=O c)(d:args.length<=fn.ntmps)(h:∀s a,c7 fn.ntmps U s (lu 0 args) a->aH U s->∀(b:bd) (k:List Item) (cs:List bd) (S:au->St->Prop),b.kind≠.early->b.roundOf=af ->
  (∀e J' σ1 s' a',(∃j,cM fn (V U) (res j) (U' j) e J' σ1)->c7 fn.ntmps σ1 s' J' a'->aH σ1 s'->dE U s σ1 s'->vJ X S b k cs e a' s')->ia X S (G (b.aT a (.code c::k)) cs) s):e9 X f args U res U' :=
 e9.KW i g hb d λs a f hh b k cs S h1 h2 hQ=>h s a f hh b k cs S h1 h2 λe J' σ1 s' a' ⟨j,q⟩=>hQ e J' σ1 s' a' ⟨j,q.toJ⟩
def e9.RS{X:Cx P}{f:aO}{fn:Func}{args:List D}{U':ι->List bq}(i:P.funcs[f]?=O fn)(g:(fn.name== "runtime.NumGoroutine")=ae)(hb:fn.body=O c)(d:args.length<=fn.ntmps)(h:AW X fn.ntmps c (λe J σ1=>∃j,vv P fn U.length (res j) (U' j) e J σ1) (lu 0 args) U):e9 X f args U res U' :=
 e9.KW i g hb d λs a f hh b k cs S hk _ l=>h s a f hh b k cs S hk l
def e9.intro{X:Cx P}{f:aO}{fn:Func}{args:List D}{U':ι->List bq}(i:P.funcs[f]?=O fn)(g:(fn.name== "runtime.NumGoroutine")=ae)(hb:fn.body=O c)(d:args.length<=fn.ntmps)(h:AW X fn.ntmps c (λe J σ1=>∃j,cM fn U.length (res j) (U' j) e J σ1) (lu 0 args) U):e9 X f args U res U' :=
 e9.Z5 i g hb d λs a f hh b k cs S hk _ l=>h s a f hh b k cs S hk l
def Ev.intro{P:aR}{X:Cx P}{f:aO}{fn:Func}{c:Code}{args:List D}{U U':List bq}{res:D}(d:P.funcs[f]?=O fn)(b:(fn.name== "runtime.NumGoroutine")=ae)(hb:fn.body=O c)(a:args.length<=fn.ntmps)(h:AW X fn.ntmps c (cM fn U.length res U') (lu 0 args) U):Ev X f args U res U' :=
 (e9.intro d b hb a (AW.mono h λ_ _ _ q=>⟨(),q⟩)).KA
inductive It where
 |code (c:Code)
 |blk (id:Nat)
 |ops (all rest:List aJ)
def I{P:aR}(X:Cx P)(N:Nat)(Qf:Post):List It->Post
 |[],e,J,U=>Qf e J U
 |.code c::K,.normal,J,U=>AW X N c (I X N Qf K) J U
 |.code _::K,e,J,U=>I X N Qf K e J U
 |.blk id::K,.exit QB,J,U=>if QB=id then I X N Qf K .normal J U else I X N Qf K (.exit QB) J U
 |.blk _::K,e,J,U=>I X N Qf K e J U
 |.ops all rest::K,.normal,J,U=>kA X N all rest (I X N Qf K .normal) J U
 |.ops _ _::K,e,J,U=>I X N Qf K e J U
section
variable {X:Cx P}{Qf:Post}{K:List It}
def I.dX(h:I X N Qf [.code c] .normal J U):AW X N c Qf J U:=h
theorem I.skip(h:I X N Qf K .normal J U):I X N Qf (.code .skip::K) .normal J U:=AW.skip h
theorem I.seq{x y:Code}(h:I X N Qf (.code x::.code y::K) .normal J U):I X N Qf (.code (.seq x y)::K) .normal J U:=by refine AW.seq (AW.mono h ?_);intro e J' U' q;cases e<;>exact q
theorem I.block{id:Nat}{c:Code}(h:I X N Qf (.code c::.blk id::K) .normal J U):I X N Qf (.code (.block id c)::K) .normal J U:=by refine AW.block (AW.mono h ?_);intro e J' U' q;cases e<;>exact q
theorem I.ab1{id:Nat}(h:I X N Qf K .normal J U):I X N Qf (.blk id::K) .normal J U:=h
theorem I.region{id:Nat}{ops:Array aJ}(h:I X N Qf (.ops ops.toList ops.toList::K) .normal J U):I X N Qf (.code (.region id ops ae)::K) .normal J U:=AW.region h
theorem I.Tb(h:I X N Qf K .normal J U):I X N Qf (.ops all []::K) .normal J U:=kA.nil h
def I.xe:∀{K:List It},Qf .ret J U->I X N Qf K .ret J U
 |[],h=>h
 |.code _::K,h=>I.xe (K:=K) h
 |.blk _::K,h=>I.xe (K:=K) h
 |.ops _ _::K,h=>I.xe (K:=K) h
def I.ret(h:Qf .ret J U):I X N Qf (.code .ret::K) .normal J U:=AW.ret (I.xe h)
def me(id:Nat):List It->Option (List It)
 |[]=>af
 |.blk i::K=>match aC id i with|true=>O K|false=>me id K
 |_::K=>me id K
def I.Bo{id:Nat}:∀{K a:List It},me id K=O a->I X N Qf a .normal J U->I X N Qf K (.exit id) J U
 |[],_,h,_=>by cases h
 |.blk i::K,a,h,q=>by
  simp only[me]at h;cases hb:aC id i with
  |true =>
   simp[hb]at h;subst h;have e:=dH hb;simp only[I,e,cv];exact q
  |false =>
   simp[hb]at h;have b:id≠i:=λe=>by grind[Nat.beq_refl]
   simp only[I,b,cC];exact I.Bo h q
 |.code _::K,a,h,q=>I.Bo (K:=K) h q
 |.ops _ _::K,a,h,q=>I.Bo (K:=K) h q
theorem I.exit{id:Nat}{a:List It}(hk:me id K=O a)(h:I X N Qf a .normal J U):I X N Qf (.code (.exit id)::K) .normal J U:=AW.exit (I.Bo hk h)
theorem I.cond{c:aG}{x y:Code}{b:Bool}{t:Nat}(f:c=.tmp t)(hl:look J t=b7 (.bool b))(d:b=W->I X N Qf (.code x::K) .normal J U)(a:b=ae->I X N Qf (.code y::K) .normal J U):I X N Qf (.code (.cond c x y)::K) .normal J U:=AW.cond f hl d a
def I.loop{S:Type}{c:Code}(AK:S->Prop)(fr:S->Fr)(st:S->List bq)(b:S->Nat)(x:S)(g:AK x)(d:rS J (fr x))(a:st x=U)(round:∀x,AK x->I X N (λe J' U'=>match e with
   |.normal=>∃y,AK y/\b y<b x/\rS J' (fr y)/\U'=st y
   |e=>I X N Qf K e J' U') [.code c] .normal (fr x) (st x)):I X N Qf (.code (.loop c)::K) .normal J U:=by refine AW.loop AK fr st b x g d a λy f=>AW.mono (round y f) ?_;intro e J' U' q;cases e<;>exact q
end
def eT{α a:Type}:List α->(List α->Option a)->Option a
 |[],k=>k []
 |x::r,k=>eT r λq=>k (x::q)
theorem en{b:Type}(l:List α)(k:List α->Option b):eT l k=k l:=by
 induction l generalizing k with
 |nil=>rfl
 |cons x r a=>simp[eT,a]
def FH(J:Fr)(all:List aJ)(j:Nat):Option (Option Bool) :=
 match eH j all with
 |some oj=>match oj.dst with
  |some d=>match look J d with
   |.e (.bX (.c (.bool W)))=>O (O W)
   |.e (.bX (.c (.bool ae)))=>O (O ae)
   |.gI []=>O af
   |_=>af
  |none=>af
 |none=>af
def uA{r:Option Bool}(h:FH J all j=O r){a:Act}(f:c7 N U s J a):yielded all.toArray a.tmps j=r:=by
 unfold FH at h;rw[g8]at h;unfold yielded;cases ho:all[j]? with
 |none=>grind
 |some oj =>
  simp only[ho]at h;simp only[j9,ho,oP];cases l:oj.dst with
  |none=>grind
  |some d =>
   simp only[l]at h;simp only[oP];have c:=f.ff d;have key:∀v,a.tmps.getD d ai=v->v≠ai->a.tmps[d]?=O v:=by intro v g m;simp only[gi]at g;grind
   split at h
   .rename_i e;cases h;rw[e]at c;have b:=gG c;generalize g:a.tmps.getD d ai=v at b;cases b;rw[key _ g (by simp[ai])]
   .rename_i e;cases h;rw[e]at c;have b:=gG c;generalize g:a.tmps.getD d ai=v at b;cases b;rw[key _ g (by simp[ai])]
   .rename_i e;cases h;rw[e]at c;obtain⟨vs,n,k⟩:=c;have i:vs=[]:=by cases vs with
     |nil=>rfl
     |cons _ _=>exact k.elim
    subst i;simp only[gi]at n;grind
   grind
def opE(T:List (Nat×TI))(J:Fr)(U:List bq)(o:aJ):Option (D×List bq×List Prop) :=
 match o.op with
 |.move x|.assign x=>O (ck J x,U,[])
 |.pick c a b=>match ck J c with
  |.e (.bX (.c (.bool W)))=>O (ck J a,U,[])
  |.e (.bX (.c (.bool ae)))=>O (ck J b,U,[])
  |_=>af
 |.binOp op _ x y _=>match ck J x,ck J y with
  |.e (.bX (.c a)),.e (.bX (.c b))=>match WQ op a b with
   |some (c,obs)=>O (b7 c,U,obs)
   |none=>af
  |_,_=>af
 |.unOp op _ x=>match ck J x with
  |.e (.bX (.c a))=>match unE op a with
   |some c=>O (b7 c,U,[])
   |none=>af
  |_=>af
 |.extract x j=>match ck J x with
  |.gI xs=>match eH j xs with
   |some e=>O (.e e,U,[])
   |none=>af
  |_=>af
 |.alloc E=>match bY T E with
  |some i=>eT (U++[.cells E (i.zero.map A.c)]) λU'=>O (cE (V U) 0,U',[])
  |none=>af
 |.box E x=>match nU (ck J x)with
  |some cs=>eT (U++[.cells E cs]) λU'=>O (cE (V U) 0,U',[])
  |none=>af
 |.load t x=>match bY T t with
  |some i=>match ck J x with
   |.e (.bX (.ptr l off))=>match eH l U with
    |some (.cells _ cs)=>match nW i (iK off cs)with
     |some e=>O (.e e,U,[])
     |none=>af
    |_=>af
   |.e (.bX (.c (.rp cs)))=>match nW i (cs.map A.c)with
    |some e=>O (.e e,U,[])
    |none=>af
   |_=>af
  |none=>af
 |.store t x y=>match bY T t with
  |some i=>match ck J x with
   |.e (.bX (.ptr l off))=>match eH l U with
    |some (.cells E cs)=>match nU (ck J y)with
     |some new=>match aC (V new) i.size with
      |true=>match ic off new cs with
       |some pE=>eT (ft.uV l (.cells E pE) U) λU'=>O (.any,U',[])
       |none=>af
      |false=>af
     |none=>af
    |_=>af
   |_=>af
  |none=>af
 |.fieldAddr t x f=>match l9 T t f with
  |some (k,_)=>match ck J x with
   |.e (.bX (.ptr l off))=>O (cE l (off+k),U,[])
   |.e (.bX (.c (.rp cs)))=>O (b7 (.rp (iK k cs)),U,[])
   |_=>af
  |none=>af
 |.field t x f=>match l9 T t f with
  |some (k,j)=>match ck J x with
   |.e (.agg cs)=>match nW j (iK k cs)with
    |some e=>O (.e e,U,[])
    |none=>af
   |_=>af
  |none=>af
 |.nilCheck x=>match ck J x with
  |.e (.bX (.ptr l off))=>O (cE l off,U,[])
  |.e (.bX (.c (.rp cs)))=>O (b7 (.rp cs),U,[])
  |_=>af
 |.build t parts=>match FF T (ck J) t parts.toList with
  |some cs=>O (.e (.agg cs),U,[])
  |none=>af
 |.buildSlice t n parts=>match WR T (ck J) t n parts.toList with
  |some (k,es)=>O (b7 (.sl W k n λi=>es.getD i []),U,[])
  |none=>af
 |_=>af
theorem KM{T:List (Nat×TI)}(hT:dA P T){x:D}(h:opE T J U o=O (x,U',obs))(ho:aA obs):bU P o (ck J) U x U':=by
 unfold opE at h;split at h
 .grind [bU.move]
 .grind [bU.assign]
 .rename_i c a b d;split at h
  .rename_i e;cases h;exact bU.pick d e
  .rename_i e;cases h;exact bU.pick d e
  grind
 .grind [bU.binOp]
 .grind [bU.unOp]
 .grind [bU.extract,cD]
 .grind [en,bU.alloc]
 .grind [en,bU.box]
 .rename_i t y d;split at h
  .grind [bU.M8,cD,bU.Sm]
  grind
 .rename_i t y z d;split at h
  .rename_i i hi;split at h
   .rename_i l off hx;split at h
    .grind [en,lE,bU.store,cD,Nat.eq_of_beq_eq_true]
    grind
   grind
  grind
 .rename_i t y f d;split at h
  .rename_i k j g;split at h
   .rename_i l off hx;cases h;exact bU.w6 hT d hx g
   .grind [bU.y3]
   grind
  grind
 .grind [bU.field]
 .grind [bU.y4,bU.Bg]
 .grind [bU.build]
 .grind [bU.buildSlice]
 grind
def g7(N:Nat):Option Nat->Bool
 |some d=>bP (d+1) N
 |none=>W
def iB{d:Option Nat}(h:g7 N d=W):∀t,d=O t->t<N:=by intro t a;subst a;exact fY h
theorem eE(h:o.guard=af){a:Act}:bn o (yielded all.toArray a.tmps)=W:=by simp[bn,h]
section
variable {T:List (Nat×TI)}
def vF(η:aG->D):Option aG->Option (Option Int)
 |none=>O af
 |some x=>match η x with
  |.e (.bX (.c (.int _ j)))=>O (O j)
  |_=>af
def jr{a:aG->ah}(c:∀y,ey U s (a y) (η y)){x:Option aG}{b:Option Int}(h:vF η x=O b):(x.map a=af/\b=af)∨∃k j,x.map a=O (.int k j)/\b=O j:=by
 cases x with
 |none=>cases h;grind
 |some y =>
  right;simp only[vF]at h;split at h
  .rename_i k j d;cases h;have:=c y;rw[d]at this;have:=gG this;generalize e:a y=v at this;cases this;grind
  grind
def dD(d:Nat):Option Int->Nat
 |none=>d
 |some j=>j.toNat
def lK(n:Nat):Option Int->Option Int->List Prop
 |none,af=>[]
 |some l,af=>[0<=l,l<=n]
 |none,O h=>[0<=h,h<=n]
 |some l,O h=>[0<=l,l<=h,h<=n]
def oV{isS:Bool}{cap:Nat}(m:n<=cap){lo hi:Option ah}{l h:Option Int}(f:(lo=af/\l=af)∨∃k j,lo=O (.int k j)/\l=O j)(g:(hi=af/\h=af)∨∃k j,hi=O (.int k j)/\h=O j)(ho:aA (lK n l h))(w:aB):(bk isS n cap lo hi af).run P w=.ok (dD 0 l,dD n h,cap) w/\dD 0 l<=dD n h/\dD n h<=n:=by
 rcases f with⟨rfl,rfl⟩|⟨c,l,rfl,rfl⟩<;>rcases g with⟨rfl,rfl⟩|⟨d,h,rfl,rfl⟩
 .exact⟨by simp[bk,dD],by simp[dD],by simp[dD]⟩
 .obtain⟨a,b⟩:0<=h/\h<=(n:Int):=ho;refine⟨?_,by simp[dD],by simp only[dD];omega⟩;simp[bk,dD,run_sliceBound (P:=P) w d h cap _ a aq]
 .obtain⟨a,b⟩:0<=l/\l<=(n:Int):=ho;refine⟨?_,by simp only[dD];omega,by simp[dD]⟩;simp[bk,dD,run_sliceBound (P:=P) w c l n _ a b]
 obtain⟨a,b,i⟩:0<=l/\l<=h/\h<=(n:Int):=ho;have e:((h.toNat:Nat):Int)=h:=wD aq;refine⟨?_,by simp only[dD];omega,by simp only[dD];omega⟩;simp[bk,dD,run_sliceBound (P:=P) w d h cap _ aq aq,run_sliceBound (P:=P) w c l h.toNat _ a aq]
def eB(w:aB)(k:IntKind)(i:Int)(y:Nat)(code:BoundsCode)(b:0<=i)(a:i<=(y:Int))(es:Array bg):(Instr.sliceBound (.int k i) y code).events P w es=es:=by simp[Instr.sliceBound,asIntOf,b,a]
def qN{isS:Bool}{cap:Nat}{lo hi:Option ah}{l h:Option Int}(o:n<=cap)(g:(lo=af/\l=af)∨∃k j,lo=O (.int k j)/\l=O j)(i:(hi=af/\h=af)∨∃k j,hi=O (.int k j)/\h=O j)(ho:aA (lK n l h))(w:aB)(es:Array bg):(bk isS n cap lo hi af).events P w es=es:=by
 have p:∀(isS:Bool) (v:Option ah) (d:Nat) (w:aB) (es:Array bg),v=af->(bk isS n cap af af af).events P w es=es:=λisS v d w es _=>by simp[bk]
 rcases g with⟨rfl,rfl⟩|⟨f,l,rfl,rfl⟩<;>rcases i with⟨rfl,rfl⟩|⟨c,h,rfl,rfl⟩
 .simp[bk]
 .obtain⟨a,b⟩:0<=h/\h<=(n:Int):=ho;simp[bk,eB (P:=P) w c h cap _ a aq]
 .obtain⟨a,b⟩:0<=l/\l<=(n:Int):=ho;simp[bk,eB (P:=P) w f l n _ a b]
 obtain⟨a,b,m⟩:0<=l/\l<=h/\h<=(n:Int):=ho;have e:((h.toNat:Nat):Int)=h:=wD aq;simp[bk,run_sliceBound (P:=P) w c h cap _ aq aq,eB (P:=P) w c h cap _ aq aq,eB (P:=P) w f l h.toNat _ a aq]
def zu(s:List UInt8):Option Int->Option Int->List UInt8
 |none,af=>s
 |some l,af=>s.drop l.toNat
 |none,O h=>s.take h.toNat
 |some l,O h=>(s.take h.toNat).drop l.toNat
theorem bU.Si(hT:dA P T){lo hi:Option aG}(h:o.op=.slice t x lo hi af){i:TI}(j:bY T t=O i)(r:i.desc=.string){s:List UInt8}{l u:Option Int}(v:η x=b7 (.du s))(hl:vF η lo=O l)(m:vF η hi=O u)(ho:aA (lK (V s) l u)):bU P o η U (b7 (.du (zu s l u))) U:=by
 refine .dw λst ρ hh hr=>?_;have h1:=hr x;rw[v]at h1;replace h1:=gG h1;generalize b:ρ x=vx at h1;cases h1 with
 |@du sb _ p q =>
 have d:sb.size=V s:=by rw[<-p];exact oM.symm
 obtain⟨hb,f,g⟩:=oV (P:=P) (isS:=ae) (n:=sb.size) (cap:=sb.size) (bm _) (jr hr hl) (jr hr m) az st.w;have a:=(hT t i j).run_underlying (w:=st.w);rw[r]at a;have k:=qN (P:=P) (isS:=ae) (n:=sb.size) (cap:=sb.size) (bm _) (jr hr hl) (jr hr m) az st.w;refine⟨.string (sb.extract (dD 0 l) (dD sb.size u)),?_,Rd.du ?_ ?_,by simp[ar,h,b,Instr.sliceAt,a,Instr.slice,k]⟩
 .simp[ar,h,b,Instr.sliceAt,a,Instr.slice,hb]
 .rw[Lib.extract_data,p,d];rw[d]at f g;cases l<;>cases u<;>simp only[zu,dD]at f g⊢
  .simp
  .simp
  .grind [List.take_of_length_le]
  rw[List.drop_take]
 cases l<;>cases u<;>simp only[zu,zW,List.length_take]<;>omega
def nY(l:Nat)(f:Nat->List C):Nat->List C:=λi=>f (l+i)
def abh(tt:Bool):Option Int->Bool
 |none=>tt
 |some _=>ae
theorem bU.W1(hT:dA P T){lo hi:Option aG}(h:o.op=.slice t x lo hi af){i ie:TI}(p:bY T t=O i)(B:i.desc=.slice E)(D:bY T E=O ie){tt:Bool}{l u:Option Int}(C:∀s v,ey U s v (η x)->Rd s.M v (.sl tt ie.size n es))(hl:vF η lo=O l)(q:vF η hi=O u)(ho:aA (lK n l u)):
  bU P o η U (b7 (.sl (abh tt u) ie.size (dD n u-dD 0 l) (nY (dD 0 l) es))) U:=by
 refine .dw λst ρ hh hr=>?_;have h1:=C st _ (hr x);obtain⟨a,cap,vs,m,g,y,z,G,hm⟩:=h1.qp;rw[m]at h1;obtain⟨hb,A,F⟩:=oV (P:=P) (isS:=W) g (jr hr hl) (jr hr q) ho st.w;have d:=(hT t i p).run_underlying (w:=st.w);rw[B]at d;refine⟨.slice (if cap=dD 0 l then a else a.map (·.add (dD 0 l*ie.size))) (dD n u-dD 0 l) (cap-dD 0 l),?_,?_,by simp[ar,h,m,Instr.sliceAt,d,Instr.slice,hb,qN (P:=P) (isS:=W) g (jr hr hl) (jr hr q) ho st.w]⟩
 .simp[ar,h,m,Instr.sliceAt,d,Instr.slice,hb,(hT E ie D).b6]
 cases h1 with
 |sl b off f _ _ _ hk ha hm' Qs =>
  refine Rd.sl b (off+dD 0 l*ie.size) (λi j=>f (dD 0 l+i) j) aq aq ?_ (λi hi=>hk _ aq) (λr=>?_) (λi hi j c hj=>?_) (λi hi j c hj=>Qs _ aq j c hj)
  .intro k;cases u with
   |none=>simp only[abh]at k;have:=z k;simp only[dD];omega
   |some u=>cases k
  .rw[bc aq,ha aq];simp[eg]
  have:=hm' (dD 0 l+i) aq j c hj;grind
def bU.WZ(hT:dA P T){a dst:av}(h:o.op=.convert a dst x){i i2:TI}{k k':IntKind}{j:Int}(hi:bY T a=O i)(g:bY T dst=O i2)(l:i2.desc=.int k')(m:η x=b7 (.int k j))(ho:cd k' j):
  bU P o η U (b7 (.int k' j)) U:=by refine .dw λst ρ hh hr=>?_;have h1:=hr x;rw[m]at h1;replace h1:=gG h1;generalize d:ρ x=vx at h1;cases h1;have f:=(hT a i hi).run_underlying (w:=st.w);have b:=(hT dst i2 g).run_underlying (w:=st.w);rw[l]at b;exact⟨.int k' j,by simp[ar,h,d,convert,f,b,Conv.intToInt,pT ho],Rd.int ho,by simp[ar,h,d,convert,f,b,Conv.intToInt]⟩
theorem bU.W0(hT:dA P T){a dst:av}(h:o.op=.convert a dst x){i i2:TI}{s:List UInt8}(hi:bY T a=O i)(j:bY T dst=O i2)(k:i2.desc=.string)(l:η x=b7 (.du s)):
  bU P o η U (b7 (.du s)) U:=by refine .dw λst ρ hh hr=>?_;have h1:=hr x;rw[l]at h1;have g:=gG h1;generalize d:ρ x=vx at g;cases g;have f:=(hT a i hi).run_underlying (w:=st.w);have b:=(hT dst i2 j).run_underlying (w:=st.w);rw[k]at b;exact⟨_,by simp[ar,h,d,convert,f,b];rfl,by grind,by simp[ar,h,d,convert,f,b]⟩
def Bc(f:Nat->List C):Nat->Nat->Option (List UInt8)
 |_,0=>O []
 |i,n+1=>match f i with
  |[.int .u8 v]=>match Bc f (i+1) n with
   |some r=>O (UInt8.ofNat v.toNat::r)
   |none=>af
  |_=>af
def D4{M:Mem}{f:Nat->List C}:∀{n i:Nat}{r:List UInt8}{vs:List ah},Bc f i n=O r->V vs=n->(∀j,j<n->∀c,(f (i+j))[0]?=O c->∃v,vs[j]?=O v/\Rd M v c) ->
  ∃xs:List Int,vs=xs.map (Value.int .u8)/\r=xs.map (λx=>UInt8.ofNat x.toNat)
 |0,i,r,vs,h,a,_=>by cases h;exact⟨[],by grind,Z⟩
 |n+1,i,r,[],h,a,_=>by grind
 |n+1,i,r,v::vs,h,a,b=>by
  simp only[Bc]at h;split at h
  .rename_i x o;split at h
   .rename_i q g;cases h;obtain⟨u,d,e⟩:=b 0 aq (.int .u8 x) az
    simp at d;subst d;cases e;obtain⟨xs,k,p⟩:=D4 (vs:=vs) g az (λj l c m=>by
     have:=b (j+1) aq c az
     simpa using this)
    exact⟨x::xs,by grind,by grind⟩
   grind
  grind
def sE{P:aR}(w:aB){F:ah->ByteArray->Sem (ForInStep ByteArray)}(a:∀x s,F (.int .u8 x) s=pure (.yield (s.push (UInt8.ofNat x.toNat)))):∀(xs:List Int)(s:ByteArray),
  (forIn (m:=Sem) (xs.map (Value.int .u8)) s F).run P w=.ok ⟨s.data++(xs.map λx=>UInt8.ofNat x.toNat).toArray⟩ w
 |[],s=>by simp
 |x::xs,s=>by simp only[mR,List.forIn_cons,a,cf,dN,cA];rw[sE w a xs];congr 2;apply Array.ext';simp[ByteArray.push]
end
def OA(X:Cx P)(N:Nat)(all:List aJ)(o:aJ)(J:Fr)(U:List bq)(x:D)(U':List bq):Prop :=
  ∀s a,c7 N U s J a->aH U s->∀(b:bd) (k:List Item) (cs:List bd) (S:au->St->Prop) (i:Nat) (rest:List Nat),b.kind≠.early->all.toArray[i]?=O o ->
    (∀v s',ey U' s' v x->aH U' s'->dE U s U' s'->ia X S (G (b.aT (a.put o.dst v) (.inRegion all.toArray rest::k)) cs) s')->ia X S (G (b.aT a (.inRegion all.toArray (i::rest)::k)) cs) s
section
variable {X:Cx P}{J':Fr}{x:D}
theorem OA.nB(p:∀U s a,c7 N U s J a->bn o (yielded all.toArray a.tmps)=W)(h:bU P o (ck J) U x U'):OA X N all o J U x U':=by
  intro s a f hh b k cs S i rest hb hi hK;refine vH hb hi (p _ _ _ f) λg c=>?_;have d:=hh.rely c;obtain⟨q,s',h1,h2,e,j,n⟩:=h g a.eval d (dz (f.rely c hh));have m:=c.db.trans (j.pC d);have l:vp g s' ((ar a.eval o).events P g.w #[]):=⟨⟨U,U',d,e,j⟩,n⟩;cases q with
  | value v=>exact⟨_,s',v,h1,.inl rfl,l,hK v s' h2 e m⟩
  | skip=>simp only[abQ]at h2;subst h2;exact⟨_,s',ai,h1,.inr ⟨Z,Z⟩,l,hK ai s' an e m⟩
  | _=>exact h2.elim
def OA.aeH(e:∀U s a,c7 N U s J a->bn o (yielded all.toArray a.tmps)=ae):OA X N all o J U (.gI []) U:=by intro s a f hh b k cs S i rest hb hi hK;exact .ctl hh Z (λ_=>Wt hi (e _ _ _ f)) λd c=>hK ai d ⟨[],Z,an⟩ (hh.rely c) c.db
def kA.FU{Q:Fr->List bq->Prop}(h:OA X N all o J U x U')(d:∀t,o.dst=O t->t<N)(k:kA X N all rest Q (lU o.dst x J) U'):kA X N all (o::rest) Q J U:=by
  intro s a f hh b kk cs S idx hb jb hQ;cases idx with
  | nil=>exact jb.elim
  | cons i idx =>
  refine h s a f hh b kk cs S i idx hb jb.1 λv s' hv lj st=>k s' _ ?_ lj b kk cs S idx hb jb.2 λc σ2 s2 a2 q e h2 pA=>hQ c σ2 s2 a2 q e h2 (st.trans pA);cases g:o.dst with
  | none=>exact f.mono st hh.len
  | some t=>exact(f.mono st hh.len).put (d t g) hv
end
abbrev eP:=List D->List bq->Option (D×List bq×List Prop)
def DY:List (Nat×eP)->Nat->Option eP
  | [],_=>af
  | (i,g)::r,f=>cond (aC i f) (O g) (DY r f)
def fp(X:Cx P)(f:aO)(g:eP):Prop:=∀args U res U' obs,g args U=O (res,U',obs)->aA obs->Ev X f args U res U'
def b5(X:Cx P)(CT:List (Nat×eP)):Prop:=∀f g,DY CT f=O g->fp X f g
def b5.nil{X:Cx P}:b5 X []:=λ_ _ h=>by cases h
def b5.cons{X:Cx P}{f:aO}{g:eP}{CT:List (Nat×eP)}(h:fp X f g)(r:b5 X CT):b5 X ((f,g)::CT):=by
  intro a g2 h2;simp only[DY]at h2;cases hb:aC f a with
  | true=>grind[Nat.eq_of_beq_eq_true]
  | false=>rw[hb]at h2;exact r a g2 h2
def bxA:A->List Nat->List Nat
  | .ptr l _,ks=>cond (kz l ks) ks (ks++[l])
  | .dk l _ _ _,ks=>cond (kz l ks) ks (ks++[l])
  | .oY l,ks=>cond (kz l ks) ks (ks++[l])
  | .bp l _,ks=>cond (kz l ks) ks (ks++[l])
  | _,ks=>ks
def bxL:List A->List Nat->List Nat
  | [],ks=>ks
  | a::r,ks=>bxL r (bxA a ks)
def bxD:D->List Nat->List Nat
  | .e (.bX a),ks=>bxA a ks
  | .e (.agg cs),ks=>bxL cs ks
  | _,ks=>ks
def ae4:List D->List Nat->List Nat
  | [],ks=>ks
  | a::r,ks=>ae4 r (bxD a ks)
def HP(l:Nat):List Nat->Nat->Option Nat
  | [],_=>af
  | k::r,i=>match aC k l with|true=>O i|false=>HP l r (i+1)
def xg{l:Nat}:∀{ks:List Nat} {i j:Nat},HP l ks i=O j->i<=j/\ks[j-i]?=O l
  | [],_,_,h=>by cases h
  | k::r,i,j,h=>by
    simp only[HP]at h;cases a:aC k l with
    | true=>simp_all
    | false =>
      rw[a]at h;obtain⟨c,b⟩:=xg h;grind
def unA(ks:List Nat):A->Option A
  | .ptr l o=>match HP l ks 0 with|some i=>O (.ptr i o)|none=>af
  | .oY l=>match HP l ks 0 with|some i=>O (.oY i)|none=>af
  | .bp l w=>match HP l ks 0 with|some i=>O (.bp i w)|none=>af
  | .dk _ _ _ _=>af
  | .c x=>O (.c x)
  | .any=>O .any
def unL(ks:List Nat):List A->Option (List A)
  | []=>O []
  | a::r=>match unA ks a with
    | some b=>match unL ks r with
      | some q=>O (b::q)
      | none=>af
    | none=>af
def unD(ks:List Nat):D->Option D
  | .e (.bX a)=>match unA ks a with|some b=>O (.e (.bX b))|none=>af
  | .e (.agg cs)=>match unL ks cs with|some b=>O (.e (.agg b))|none=>af
  | .gI _=>af
  | .any=>O .any
def OR(ks:List Nat):List D->Option (List D)
  | []=>O []
  | a::r=>match unD ks a with
    | some b=>match OR ks r with
      | some q=>O (b::q)
      | none=>af
    | none=>af
def SU{a b:A}(h:unA ks a=O b):sQ ks b=a/\Ov (V ks) b=W:=by
  cases a with
  | ptr l o =>
    simp only[unA]at h;split at h
    · rename_i i hi
      cases h;obtain⟨_,d⟩:=xg hi;simp only[pQ]at d;have e:i<V ks:=(cO.1 d).1;exact⟨by simp[sQ,g8,d],wy e⟩
    grind
  | oY l =>
    simp only[unA]at h;split at h
    · rename_i i hi
      cases h;obtain⟨_,d⟩:=xg hi;simp only[pQ]at d;have e:i<V ks:=(cO.1 d).1;exact⟨by simp[sQ,g8,d],wy e⟩
    grind
  | bp l w =>
    simp only[unA]at h;split at h
    · rename_i i hi
      cases h;obtain⟨_,d⟩:=xg hi;simp only[pQ]at d;have e:i<V ks:=(cO.1 d).1;exact⟨by simp[sQ,g8,d],wy e⟩
    grind
  | dk l k n es=>cases h
  | c x=>cases h;exact j3
  | any=>cases h;exact j3
def SW{ks:List Nat}:∀{a b:List A},unL ks a=O b->HD ks b=a/\MV (V ks) b=W
  | [],b,h=>by cases h;exact j3
  | a::r,b,h=>by
    simp only[unL]at h;split at h
    · rename_i x f
      split at h
      · rename_i q e
        cases h;obtain⟨g,d⟩:=SU f;obtain⟨c,i⟩:=SW e;exact⟨by simp[HD,g,c],by simp[MV,d,i]⟩
      grind
    grind
def abR{a b:D}(h:unD ks a=O b):ky ks b=a/\C7 (V ks) b=W:=by
  unfold unD at h;split at h
  · rename_i a
    split at h
    · rename_i x c;cases h;obtain⟨d,e⟩:=SU c;exact⟨by simp[ky,Fl,d],by exact j3⟩
    grind
  · rename_i cs
    split at h
    · rename_i x c;cases h;obtain⟨d,e⟩:=SW c;exact⟨by simp[ky,Fl,d],by exact j3⟩
    grind
  · cases h
  · cases h;exact j3
def Nm{ks:List Nat}:∀{a b:List D},OR ks a=O b->iJ ks b=a/\nV (V ks) b=W
  | [],b,h=>by cases h;exact j3
  | a::r,b,h=>by
    simp only[OR]at h;split at h
    · rename_i x f
      split at h
      · rename_i q e
        cases h;obtain⟨g,d⟩:=abR f;obtain⟨c,i⟩:=Nm e;exact⟨by simp[iJ,g,c],by simp[nV,d,i]⟩
      grind
    grind
def Se(CT:List (Nat×eP))(J:Fr)(U:List bq)(fo:aG)(xs:List aG):Option (D×List bq×List Prop) :=
  match fV (ck J fo)with
  | none=>af
  | some (f,cap)=>match DY CT f with
    | none=>af
    | some g =>
      let args:=pU (xs.map (ck J)++iq cap);let ks:=ae4 args []
      match OR ks args with
      | none=>af
      | some cR=>match l6 ks U with
        | none=>af
        | some Us=>match g cR Us with
          | none=>af
          | some (res,σ1,obs)=>match dg Us,dg σ1,fa ks,bP (V ks) (V σ1) with
            | true,W,W,W=>O (ky (ks++nw (V U) (V σ1-V ks)) res,ft ks σ1 U,obs)
            | _,_,_,_=>af
theorem OA.Z9{X:Cx P}{CT:List (Nat×eP)}(hC:b5 X CT)(H:∀U s a,c7 N U s J a->bn o (yielded all.toArray a.tmps)=W)(ho:o.op=.call {callee:=.value fo,args:=xs,argTypes:=lh}){f:aO}(v:fV (ck J fo)=O (f,cap)){g:eP}(z:DY CT f=O g){σ1:List bq}{res:D}(C:OR ks (pU (xs.toList.map (ck J)++iq cap))=O cR)(A:l6 ks U=O Us)(p:g cR Us=O (res,σ1,obs))(K:dg Us=W)(B:dg σ1=W)(AK:fa ks=W)(y:V ks<=V σ1)(r:aA obs):OA X N all o J U (ky (ks++nw (V U) (V σ1-V ks)) res) (ft ks σ1 U):=by
  obtain⟨k,F⟩:=Nm C;intro s a m hh b kk cs S i rest hb hi hK;have n:=hC f g z _ _ _ _ _ p r;have t:=dz m fo;unfold fV at v;split at v
  case h_2=>cases v
  case h_1 f' RB he =>
    cases v;rw[he]at t;have h:=gG t;generalize G:a.eval fo=fv at h;cases h with
    | fn fs pE hl He f1 f2 h1 h2 r1 r2 =>
      have E:fs=[]:=kB hl;subst E;have l:cU U s pE (iq cap):=oS (λj c hj=>⟨f2 j,h2 j az,r2 j c hj⟩) He;have u:cU U s (xs.toList.map a.eval++pE) (iJ ks cR):=by rw[k];exact tp ((mU (dz m) xs.toList).append l)
      obtain⟨fn,q,e,d⟩:=n.1;exact RQ hb hi (H _ _ _ m) hh (λw=>(j7 ho q e d G w).1) (λw=>(j7 ho q e d G w).2) n u F A K B AK y hK
theorem OA.call{X:Cx P}{CT:List (Nat×eP)}(hC:b5 X CT){x:D}(e:∀U s a,c7 N U s J a->bn o (yielded all.toArray a.tmps)=W)(ho:o.op=.call {callee:=.value fo,args:=xs,argTypes:=lh})(b:Se CT J U fo xs.toList=O (x,U',obs))(c:aA obs):OA X N all o J U x U':=by
  unfold Se at b;split at b
  · cases b
  rename_i f cap hf;split at b
  · cases b
  rename_i g d;simp only at b;split at b
  · cases b
  grind[OA.Z9,Nat.le_of_ble_eq_true]
def H3{d:D}(h:C7 0 d=W):ky [] d=d:=by
  have g:∀{a:A},Ov 0 a=W->sQ [] a=a:=by intro a b;cases a<;>simp only[Ov]at b<;>first|rfl|simp_all
  have j:∀{l:List A},MV 0 l=W->HD [] l=l:=by
    intro l;induction l with
    | nil=>exact j3
    | cons a r f =>
      intro h;simp only[MV]at h;cases b:Ov 0 a with
      | false=>grind
      | true=>simp only[b]at h;simp[HD,g b,f h]
  have i:∀{a:E1},Kz 0 a=W->Fl [] a=a:=by
    intro a b;cases a with
    | bX a=>simp[Fl,g b]
    | agg cs=>simp[Fl,j b]
  have c:∀{l:List E1},C6 0 l=W->DO [] l=l:=by
    intro l;induction l with
    | nil=>exact j3
    | cons a r f =>
      intro h;simp only[C6]at h;cases b:Kz 0 a with
      | false=>grind
      | true=>simp only[b]at h;simp[DO,i b,f h]
  cases d with
  | e x=>simp[ky,i h]
  | gI xs=>simp[ky,c h]
  | any=>rfl
def HN(CT:List (Nat×eP))(J:Fr)(fo:aG)(xs:List aG):Option (D×List Prop) :=
  match fV (ck J fo)with
  | none=>af
  | some (f,cap)=>match DY CT f with
    | none=>af
    | some g=>match OR [] (pU (xs.map (ck J)++iq cap))with
      | none=>af
      | some cR=>match g cR []with
        | some (res,[],obs)=>match C7 0 res with
          | true=>O (res,obs)
          | false=>af
        | _=>af
theorem OA.HN{P:aR}{X:Cx P}{N:Nat}{all:List aJ}{J:Fr}{U:List bq}{o:aJ}{CT:List (Nat×eP)}(hC:b5 X CT){fo:aG}{xs:Array aG}{lh:Array av}{x:D}{obs:List Prop}(h:∀U s a,c7 N U s J a->bn o (yielded all.toArray a.tmps)=W)(ho:o.op=.call {callee:=.value fo,args:=xs,argTypes:=lh})(b:AM.HN CT J fo xs.toList=O (x,obs))(c:aA obs):OA X N all o J U x U:=by
  unfold AM.HN at b;split at b
  · cases b
  rename_i f cap hf;split at b
  · cases b
  rename_i g e;split at b
  · cases b
  rename_i cR hun;split at b
  case h_2=>cases b
  rename_i res aoA aiU;split at b
  case h_2=>cases b
  rename_i d;cases b;have:=OA.Z9 (U:=U) hC h ho hf e hun Z aiU Z Z Z (bm _) c;simpa[nw,H3 d,ft]using this
structure Qt(N:Nat)(U:List bq)(s:St)(ak:Nat->D)(a:Act):Prop where
 size:a.tmps.size=N
 defers:∃ls,sR U s a.defers ls
 ff:∀t,ey U s (a.tmps.getD t ai) (ak t)
def Qt.R2{ak:Nat->D}{a:Act}(f:Qt N U s ak a)(h:∀t U s v,ey U s v (ak t)->ey U s v (look J t)):c7 N U s J a :=
 ⟨f.size,f.defers,λt=>h t _ _ _ (f.ff t)⟩
def eG(e:Edge):Bool:=Region.binds .any e
structure A3{P:aR}(X:Cx P)(N:Nat)(ops:Array aJ)(J:Fr)(S:Nat->List bq)(x:Nat->D)(m:Nat->Fr)(C9 c:Nat->Bool)(p:Nat->Nat->Prop)(idx:Nat->Option Nat)(J':Fr):Prop where
 gB:P.follows Departure.mixedOrders=W
 back:∀i o,ops[i]?=O o->∀e∈o.after,eG e=W->e.on<i
 R3:∀i o d,ops[i]?=O o->o.dst=O d->idx d=O i/\d<N
 Da:∀d i,idx d=O i->∃o,ops[i]?=O o/\o.dst=O d
 dw:∀i,c i=ae->S (i+1)=S i
 bX:∀i o,ops[i]?=O o->C9 i=ae->OA X N ops.toList o (m i) (S i) (x i) (S (i+1))
 all:∀i o,ops[i]?=O o->C9 i=W->c i=ae/\∀k,OA X N ops.toList o (m i) (S k) (x i) (S k)
 cl:∀L:Nat->Prop,(∀i o,ops[i]?=O o->L i->∀e∈o.after,eG e=W->L e.on)->∀i j,p i j->(L i->L j)/\∃o,ops[i]?=O o/\((∀e∈o.after,eG e=W->L e.on)->L j)
 comp:∀i f,i<ops.size->f<ops.size->c f=W->i≠f->C9 i=ae->(f<i/\p i f)∨(i<f/\p f i)
 frl:∀i o,ops[i]?=O o->∀t U s v,ey U s v (match idx t with|some j=>(if ∃e∈o.after,eG e=W/\e.on=j then x j else if ∃oj,ops[j]?=O oj/\∃e∈oj.after,eG e=W/\e.on=i then look J t else .any)|none=>look J t)->ey U s v (look (m i) t)
 fin:∀t U s v,ey U s v (match idx t with|some j=>x j|none=>look J t)->ey U s v (look J' t)
open Classical in
noncomputable def jm(J:Fr)(x:Nat->D)(idx:Nat->Option Nat)(L:Array Bool)(t:Nat):D :=
 match idx t with
 |some j=>if L.getD j ae=W then x j else look J t
 |none=>look J t
theorem kQ:i∈bo .any ops L↔∃o,ops[i]?=O o/\L.getD i W=ae/\∀e∈o.after,eG e=W->L.getD e.on ae=W:=by
 unfold bo;simp only[iz,pP,cu,iM];constructor
 .rintro⟨b,d,a⟩;rw[jM b]at a;simp only[oQ,iY,Array.all_eq_true',kC,iM]at a;refine⟨ops[i],jM b,d,λe g f=>?_⟩;rcases a e g with h|h
  .unfold eG at f;grind
  grind
 rintro⟨o,b,d,a⟩;have j:i<ops.size:=(gN.1 b).1;refine⟨j,d,?_⟩;rw[b];simp only[oQ,iY,Array.all_eq_true',kC,iM];intro e g;cases f:Region.binds .any e with
 |false=>grind
 |true=>exact .inr (a e g f)
section
variable {X:Cx P}{J':Fr}{S:Nat->List bq}{x:Nat->D}{m:Nat->Fr}{C9 c:Nat->Bool}{p:Nat->Nat->Prop}{idx:Nat->Option Nat}
def A3.chain(h:A3 X N ops J S x m C9 c p idx J'){i:Nat}:∀{k:Nat},i<=k->(∀g,i<=g->g<k->c g=ae)->S k=S i
 |0,hk,_=>by grind
 |k+1,hk,a=>by
  rcases dy k i with hl|hl
  .grind
  rw[h.dw k (a k hl aq),h.chain (k:=k) hl (λg h1 h2=>a g h1 aq)]
def A3.last(h:A3 X N ops J S x m C9 c p idx J')(l:∀i,i<ops.size->L.getD i ae=W){k:Nat}{s0:St}{a:Act}(hk:k<=ops.size)(n:∀f,f<ops.size->c f=W->(L.getD f ae=W↔f<k))(b:Qt N (S k) s (jm J x idx L) a)(hh:aH (S k) s)(st:dE (S 0) s0 (S k) s):
  c7 N (S ops.size) s J' a/\aH (S ops.size) s/\dE (S 0) s0 (S ops.size) s:=by
 have d:S ops.size=S k:=h.chain hk (λg h1 h2=>by grind);rw[<-d]at b hh st;refine⟨b.R2 λt U s v e=>h.fin t U s v ?_,hh,st⟩;unfold jm at e;cases hi:idx t with
 |none=>grind
 |some j =>
  simp only[hi]at e⊢;obtain⟨o,ho,_⟩:=h.Da _ _ hi;grind
theorem iT(hi:i<L.size):(L.setIfInBounds i W).getD j ae=W↔j=i∨L.getD j ae=W:=ME
theorem uv:∀{l:List Bool}{i:Nat},l[i]?=O ae->V ((l.set i W).filter (λb=>!b))+1=V (l.filter (λb=>!b))
 |[],_,h=>by grind
 |b::r,0,h=>by grind
 |b::r,i+1,h=>by simp at h;have:=uv (l:=r) h;cases b<;>simp[List.set_cons_succ]<;>omega
theorem A4(t:Nat)(L:Array Bool):Region.linearise.go .any ops 0 t L []=[]:=by simp[Region.linearise.go]
theorem tv(n t:Nat)(L:Array Bool):Region.linearise.go .any ops (n+1) t L []=match(bo .any ops L)[t % V (bo .any ops L)]? with
  |some i=>i::Region.linearise.go .any ops n (t / V (bo .any ops L)) (L.setIfInBounds i W) []
  |none=>[]:=by
 simp only[Region.linearise.go]
 change (match(bo .any ops L)[t % V (bo .any ops L)]? with
   |some i=>Region.linearise.go .any ops n (t / V (bo .any ops L)) (L.setIfInBounds i W) [i]
   |none=>[].reverse)=_
 grind[linearise_go_acc]
def A3.arr(h:A3 X N ops J S x m C9 c p idx J'){Y:au->St->Prop}{b:bd}{kk:List Item}(hb:b.kind≠.early){s0:St}(hQ:∀s a,c7 N (S ops.size) s J' a->aH (S ops.size) s->dE (S 0) s0 (S ops.size) s->ia X Y (G (b.aT a kk) cs) s):
  ∀(l:Nat) (L:Array Bool),L.size=ops.size->V (L.toList.filter (λb=>!b))<=l ->
   (∀i o,ops[i]?=O o->L.getD i ae=W->∀e∈o.after,eG e=W->L.getD e.on ae=W) ->
   ∀(k:Nat) (s:St) (a:Act),k<=ops.size->(∀f,f<ops.size->c f=W->(L.getD f ae=W↔f<k))->Qt N (S k) s (jm J x idx L) a->aH (S k) s->dE (S 0) s0 (S k) s ->
   ∀t,ia X Y (G (b.aT a (.inRegion ops (Region.linearise.go .any ops l t L [])::kk)) cs) s:=by
 have fin:∀(s:St) (a:Act),c7 N (S ops.size) s J' a->aH (S ops.size) s->dE (S 0) s0 (S ops.size) s->ia X Y (G (b.aT a (.inRegion ops []::kk)) cs) s :=
  λs a a1 a2 a3=>.ctl a2 aK (λ_=>lq) λs1 Q=>hQ s1 a (a1.rely Q a2) (a2.rely Q) (a3.trans Q.db)
 intro l;induction l with
 |zero =>
  intro L hs hf Kt k s a hk hkk J9 hh st;have A:∀i,i<ops.size->L.getD i ae=W:=by
   intro i hi;have hm:L[i]'aq∈L.toList:=ay;cases hb:L[i]'aq with
   |true=>simp[gi,jM (by omega:i<L.size),hb]
   |false =>
    have:L[i]'aq∈L.toList.filter (λb=>!b):=iz.2 ⟨hm,by grind⟩;grind
  intro t;rw[A4];obtain⟨a1,a2,a3⟩:=h.last A hk hkk J9 hh st;grind
 |succ l ih =>
  intro L hs hf Kt k s a hk hkk J9 hh st;intro t;rw[tv];cases ab:(bo .any ops L)[t % V (bo .any ops L)]? with
  |none =>
   have hr:bo .any ops L=[]:=by
    cases hr:bo .any ops L with
    |nil=>rfl
    |cons y ys =>
     grind[Nat.mod_lt]
   have A:∀i,i<ops.size->L.getD i ae=W:=by
    intro i;induction i using Nat.strongRecOn with
    |_ i ihi =>
     intro hi;cases hb:L.getD i ae with
     |true=>rfl
     |false =>
      have hm:i∈bo .any ops L:=kQ.2 ⟨ops[i],jM hi,by
       grind,λe T hbe=>by
       have:=h.back i _ (jM hi) e T hbe
       grind⟩
      grind
   obtain⟨a1,a2,a3⟩:=h.last A hk hkk J9 hh st;grind
  |some i =>
   have hi:=b9 ab;obtain⟨o,ho,hli,WL⟩:=kQ.1 hi;have K:i<ops.size:=(gN.1 ho).1;have E:¬L.getD i ae=W:=az;have ahY:=h.cl (λj=>L.getD j ae=W) Kt;have aly:∀g,p g i->¬L.getD g ae=W:=λg hg hL=>E ((ahY g i hg).1 hL);have hup:∀g,p i g->L.getD g ae=W:=λg hg=>by grind
   have C:(L.setIfInBounds i W).size=ops.size:=az;have B:V ((L.setIfInBounds i W).toList.filter (λb=>!b))<=l:=by have h1:L.toList[i]?=O ae:=Zg;grind[uv]
   have Z:∀j o',ops[j]?=O o'->(L.setIfInBounds i W).getD j ae=W->∀e∈o'.after,eG e=W->(L.setIfInBounds i W).getD e.on ae=W:=Ho
   have hfi:c7 N (S k) s (m i) a:=J9.R2 λt U s v R=>h.frl i o ho t U s v (by
    unfold jm at R;cases q:idx t with
    |none=>grind
    |some j =>
     simp only[q]at R⊢;split
     .grind
     .split
      .grind
      .trivial)
   have M:∀(U':List bq) (s':St) (v:ah),dE (S k) s U' s'->ey U' s' v (x i)->Qt N U' s' (jm J x idx (L.setIfInBounds i W)) (a.put o.dst v):=by
    intro U' s' v r R;cases hd:o.dst with
    |none =>
     refine⟨J9.size,J9.defers.imp λ_ h1=>h1.mono r.ext,λt=>?_⟩;have w:=(J9.ff t).mono r.ext hh.len;simp only[Act.put];unfold jm at w⊢;cases q:idx t with
     |none=>grind
     |some j =>
      simp only[q]at w⊢;obtain⟨oj,hoj,hdj⟩:=h.Da _ _ q;grind[iT]
    |some d =>
     obtain⟨hid,hdN⟩:=h.R3 i o d ho hd;refine⟨by simp[Act.put,J9.size],J9.defers.imp λ_ h1=>h1.mono r.ext,λt=>?_⟩;simp only[Act.put];by_cases e:d=t
     .subst e;have hs2:d<a.tmps.size:=by rw[J9.size];omega
      simp only[gi,AD hs2,iY];unfold jm;simp only[hid];rw[bh ((iT aq).2 (.inl aK))];exact R
     have w:=(J9.ff t).mono r.ext hh.len;simp only[gi]at w⊢;rw[rL e];unfold jm at w⊢;cases q:idx t with
     |none=>grind
     |some j =>
      simp only[q]at w⊢;obtain⟨oj,hoj,hdj⟩:=h.Da _ _ q;grind[iT]
   have z:∀(k':Nat),k'<=ops.size->OA X N ops.toList o (m i) (S k) (x i) (S k')->(∀f,f<ops.size->c f=W->((L.setIfInBounds i W).getD f ae=W↔f<k')) ->
     ia X Y (G (b.aT a (.inRegion ops (i::Region.linearise.go .any ops l (t / V (bo .any ops L)) (L.setIfInBounds i W) [])::kk)) cs) s:=by intro k' hk' hoa ah1;have:=hoa s a hfi hh b kk cs Y i (Region.linearise.go .any ops l (t / V (bo .any ops L)) (L.setIfInBounds i W) []) hb az;simp only[te]at this;exact this λv s' R lj r=>ih _ C B Z k' s' _ hk' ah1 (M _ _ _ r R) lj (st.trans r) _
   have same:c i=ae->∀f,f<ops.size->c f=W->((L.setIfInBounds i W).getD f ae=W↔f<k):=Ho;cases n:C9 i with
   |true =>
    obtain⟨hq,ah2⟩:=h.all i o ho n;exact z k hk (ah2 k) (same hq)
   |false =>
    have u:=h.bX i o ho n;have H:S i=S k:=by
     rcases Nat.le_total k i with aa|aa
     .refine h.chain aa λg h1 h2=>?_;cases T:c g with
      |false=>rfl
      |true =>
       exfalso;rcases h.comp i g K aq T aq n with⟨_,ak⟩|⟨ak,_⟩
       .grind
       omega
     refine(h.chain aa λg h1 h2=>?_).symm;cases T:c g with
     |false=>rfl
     |true =>
      exfalso;have hLg:=(hkk g aq T).2 h2;by_cases hgi:g=i
      .grind
      rcases h.comp i g K aq T (λe=>hgi e.symm) n with⟨ak,_⟩|⟨_,ak⟩
      .omega
      grind
    rw[H]at u;cases AK:c i with
    |false =>
     rw[h.dw i AK,H]at u;exact z k hk u (same AK)
    |true =>
     refine z (i+1) aq u λf hf1 hf2=>?_;rw[iT aq];by_cases F:f=i
     .grind
     simp only[F,false_or];rcases h.comp i f K hf1 hf2 (λe=>F e.symm) n with⟨h1,ak⟩|⟨h1,ak⟩
     .grind
     grind
end
def S5(P:aR):List TypeDesc->List Field->Nat->Prop
 |[],[],_=>True
 |d::ds,f::fs,i=>f.name≠ "_"/\f.offset=i/\P.underlying f.type=O d/\(match d with|.int _|.string|.bool=>True|_=>False)/\S5 P ds fs (i+1)
 |_,_,_=>False
def eqF(d:Nat)(xs ys:Array ah)(f:Field)(_:Option Bool×Unit):Sem (ForInStep (Option Bool×Unit)) :=
 if f.name= "_" then pure (ForInStep.yield (af,()))
 else do
  let a<-part f.type xs f.offset;let b<-part f.type ys f.offset;let r<-bx d f.type a b
  if r=ae then pure (ForInStep.done (O ae,()))else pure (ForInStep.yield (af,()))
def xh{P:aR}(w:aB)(d:Nat)(xs ys:Array ah):∀{ds:List TypeDesc}{fs:List Field}{i:Nat}{vs ws:List ah}{b:Bool},S5 P ds fs i->mZ ds vs ws=O b->(∀j v,vs[j]?=O v->xs[i+j]?=O v)->(∀j v,ws[j]?=O v->ys[i+j]?=O v) ->
  (Op.eqFields (d+1) xs ys fs).run P w=.ok b w/\∀es,(forIn fs (af,()) (eqF (d+1) xs ys)).events P w es=es
 |[],[],i,[],[],b,_,h,_,_=>by cases h;simp[Op.eqFields]
 |[],[],i,_::_,_,b,_,h,_,_=>by cases h
 |[],[],i,[],_::_,b,_,h,_,_=>by cases h
 |[],_::_,i,_,_,b,q,_,_,_=>q.elim
 |_::_,[],i,_,_,b,q,_,_,_=>q.elim
 |t::ds,f::fs,i,[],_,b,_,h,_,_=>by cases h
 |t::ds,f::fs,i,_::_,[],b,_,h,_,_=>by cases h
 |t::ds,f::fs,i,v::vs,u::us,b,⟨A,y,o,F,G⟩,h,x,D=>by
  simp only[mZ]at h;cases k:vL t v u with
  |none=>grind
  |some a =>
   cases B:mZ ds vs us with
   |none=>grind
   |some b' =>
    simp[k,B]at h;subst h;obtain⟨H,p⟩:=xh w d xs ys G B (λj v E=>by have:=x (j+1) v az;grind) (λj v E=>by have:=D (j+1) v az;grind);have c:xs[i]?=O v:=by simpa using x 0 v Z
    have e:ys[i]?=O u:=by simpa using D 0 u Z
    have l:(isAgg f.type).run P w=.ok ae w:=by unfold isAgg underlying;cases t<;>simp at F<;>simp[o]
    have n:∀(g:Array ah) (z:ah),g[i]?=O z->(part f.type g f.offset).run P w=.ok z w:=by intro g z r;unfold part;simp[l,y,r]
    have m:∀(g:Array ah) (z:ah),g[i]?=O z->∀es,(part f.type g f.offset).events P w es=es:=by intro g z r es;unfold part;simp[l,y,r]
    have s:∀es,(bx (d+1) f.type v u).events P w es=es:=by
     intro es;unfold vL at k;split at k<;>first
      |(cases k;done)
      |(unfold bx;simp[underlying,o];done)
      |(unfold bx;simp[underlying,o];split<;>rfl)
    have C:(bx (d+1) f.type v u).run P w=.ok a w:=by unfold vL at k;grind[run_equalIn_int,run_equalIn_string,run_equalIn_bool]
    refine⟨?_,λes=>?_⟩
    .rw[Op.eqFields.eq_2,bh A];simp only[cf,n xs v c,n ys u e,C,cA];cases a
     .simp
     grind
    rw[List.forIn_cons];simp only[eqF,A,cC,aM,cf,n xs v c,n ys u e,C,cA,aP,m xs v c,m ys u e,s];cases a
    .simp
    simpa using p es
def nI{fs:List Field}{ds:List TypeDesc}(d:P.underlying t=O (.struct fs.toArray))(c:P.stoodInHeld t=ae)(k:P.eqGuardType P.depth t=ae)(i:S5 P ds fs 0):
  P.eqGuardType P.depth t=ae/\∀(w:aB) (vs ws:List ah) (b:Bool),mZ ds vs ws=O b->(Op.equal t (.agg vs.toArray) (.agg ws.toArray)).run P w=.ok b w/\∀es,(Op.equal t (.agg vs.toArray) (.agg ws.toArray)).events P w es=es:=by
 refine⟨k,λw vs ws b h=>?_⟩;have f:P.fieldsOf t=fs.toArray:=by unfold Program.fieldsOf;rw[d]
 have key:=xh w 9998 vs.toArray ws.toArray i h (λj v g=>by grind) (λj v g=>by grind);refine⟨?_,λes=>?_⟩
 rotate_left
 .show (bx (9999+1) t _ _).events P w es=es;have e:=key.2 es;unfold bx;simp[underlying,d,c];show Result.evThen ((forIn fs (af,()) (eqF 9999 vs.toArray ws.toArray)).run P w) ((forIn fs (af,()) (eqF (9998+1) vs.toArray ws.toArray)).events P w es) _=es;rw[e];cases(forIn fs (af,()) (eqF 9999 vs.toArray ws.toArray)).run P w with
  |ok a w'=>obtain⟨o,_⟩:=a;cases o<;>rfl
  |halt x w'=>rfl
 show(bx (9999+1) t _ _).run P w=_;grind[run_equalIn_agg]
def ZQ:List TypeDesc->List A->List A->Option Bool
 |[],[],[]=>O W
 |.int _::ds,.c (.int k a)::cs,.c (.int k' b)::es=>match OP k k' with
  |true=>match ZQ ds cs es with
   |some r=>O ((a==b)&&r)
   |none=>af
  |false=>af
 |.string::ds,.c (.du a)::cs,.c (.du b)::es=>match ZQ ds cs es with
  |some r=>O ((a==b)&&r)
  |none=>af
 |.bool::ds,.c (.bool a)::cs,.c (.bool b)::es=>match ZQ ds cs es with
  |some r=>O ((a==b)&&r)
  |none=>af
 |_,_,_=>af
def K6:∀{ds:List TypeDesc}{cs es:List A}{b:Bool}{vs ws:List ah},ZQ ds cs es=O b->fD U s vs cs->fD U s ws es->mZ ds vs ws=O b:=by
 intro ds;induction ds with
 |nil =>
  intro cs es b vs ws h c e;cases cs<;>cases es<;>simp only[ZQ,reduceCtorEq]at h
  cases vs<;>cases ws<;>first|exact c.elim|exact e.elim|exact j3
 |cons d ds ih =>
  intro cs es b vs ws h c e;unfold ZQ at h;split at h
  .grind
  .rename_i l j k a i k' b' es' heq;cases heq;split at h
   .rename_i hk;cases FV hk;split at h
    .rename_i r f;cases h;cases vs with
     |nil=>exact c.elim
     |cons v vs=>cases ws with
      |nil=>exact e.elim
      |cons w ws =>
       obtain⟨v1,g⟩:=c;obtain⟨w1,w2⟩:=e;cases(show Rd s.M v (.int k a)from v1);cases(show Rd s.M w (.int k b')from w1);simp[mZ,vL,ih f g w2]
    grind
   grind
  .rename_i j a i b' es' heq;cases heq;split at h
   .rename_i r f;cases h;cases vs with
    |nil=>exact c.elim
    |cons v vs=>cases ws with
     |nil=>exact e.elim
     |cons w ws =>
      obtain⟨v1,g⟩:=c;obtain⟨w1,w2⟩:=e;cases(show Rd s.M v (.du a)from v1)with
      |du hx _ =>
      cases(show Rd s.M w (.du b')from w1)with
      |du hy _ =>
      simp only[mZ,vL,ih f g w2];grind[ByteArray.toList_eq]
   grind
  .rename_i j a i b' es' heq;cases heq;split at h
   .rename_i r f;cases h;cases vs with
    |nil=>exact c.elim
    |cons v vs=>cases ws with
     |nil=>exact e.elim
     |cons w ws =>
      obtain⟨v1,g⟩:=c;obtain⟨w1,w2⟩:=e;cases(show Rd s.M v (.bool a)from v1);cases(show Rd s.M w (.bool b')from w1);simp[mZ,vL,ih f g w2]
   grind
  grind
section
variable {T:List (Nat×TI)}
def lx:BinOp->Bool->Option Bool
 |.eql,b=>O b
 |.neq,b=>O (!b)
 |_,_=>af
def za{x y:ah}{b c:Bool}(a:match x,y with|.agg _,.agg _=>True|.bool _,.bool _=>True|_,_=>False)(d:(Op.equal t x y).run P w=.ok b w)(h:lx op b=O c):
  (binOp op t x y).run P w=.ok (.bool c) w:=by
 cases op<;>simp only[lx,reduceCtorEq,eF]at h
 .subst h;cases x<;>cases y<;>simp only at a<;>simp[binOp,d]
 subst h;cases x<;>cases y<;>simp only at a<;>simp[binOp,d]
def tJ{x y:ah}{b c:Bool}(d:match x,y with|.agg _,.agg _=>True|.bool _,.bool _=>True|_,_=>False)(e:(Op.equal t x y).run P w=.ok b w)(a:∀es,(Op.equal t x y).events P w es=es)(h:lx op b=O c)(es:Array bg):
  (binOp op t x y).events P w es=es:=by cases op<;>simp only[lx,reduceCtorEq,eF]at h<;>(cases x<;>cases y<;>simp only at d<;>simp[binOp,a])
def Bz(op:BinOp)(t:av)(x y:aG)(xs ys:Array ah)(w:aB)(a:P.eqGuardType P.depth t=ae)(es:Array bg):(eqGuard op t x y (.agg xs) (.agg ys)).events P w es=es:=by cases op<;>simp[eqGuard,a]
theorem bU.Sk(hT:dA P T)(h:o.op=.binOp op t x y ty){i:TI}(hi:bY T t=O i)(l:i.eq≠[]){cs es:List A}{b c:Bool}(u:η x=.e (.agg cs))(r:η y=.e (.agg es))(k:ZQ i.eq cs es=O b)(n:lx op b=O c):bU P o η U (b7 (.bool c)) U:=by refine .dw λs v hh hr=>?_;have h1:=hr x;have h2:=hr y;rw[u]at h1;rw[r]at h2;obtain⟨vs,p,f⟩:=h1;obtain⟨j,q,d⟩:=h2;obtain⟨m,heq⟩:=(hT t i hi).eqs l;have a:=za (x:=.agg vs.toArray) (y:=.agg j.toArray) an (heq s.w vs j b (K6 k f d)).1 n;have g:=tJ (x:=.agg vs.toArray) (y:=.agg j.toArray) an (heq s.w vs j b (K6 k f d)).1 (heq s.w vs j b (K6 k f d)).2 n;refine⟨.bool c,?_,Rd.bool,by simp only[ar,h,p,q,aM,run_eqGuard_agg s.w op t x y _ _ m,Bz op t x y _ _ s.w m,aP,cf,cA,a,g,bG]⟩;simp only[ar,h,p,q,cf,run_eqGuard_agg s.w op t x y _ _ m,cA,a,dN]
theorem bU.abo(hT:dA P T)(h:o.op=.binOp op t x y ty){i:TI}(hi:bY T t=O i)(q:i.desc=.bool){a b c:Bool}(r:η x=b7 (.bool a))(p:η y=b7 (.bool b))(m:lx op (a==b)=O c):bU P o η U (b7 (.bool c)) U:=by
 refine .dw λs n hh hr=>?_;have h1:=hr x;have h2:=hr y;rw[r]at h1;rw[p]at h2;replace h1:=gG h1;replace h2:=gG h2;generalize g:n x=vx at h1;generalize j:n y=vy at h2;cases h1;cases h2;have k:P.underlying t=O .bool:=by rw[(hT t i hi).und,q]
 have d:=za (P:=P) (w:=s.w) (x:=.bool a) (y:=.bool b) an (run_equal_bool s.w t a b k) m;have l:∀es,(Op.equal t (.bool a) (.bool b)).events P s.w es=es:=λes=>by show(bx (9999+1) t _ _).events P s.w es=es;unfold bx;simp[underlying,k]
 have f:=tJ (P:=P) (w:=s.w) (x:=.bool a) (y:=.bool b) an (run_equal_bool s.w t a b k) l m;refine⟨.bool c,?_,Rd.bool,by simp only[ar,h,g,j,aM,eqGuard_at_bool,bG,dN,aP,cf,cA,d,f]⟩;simp only[ar,h,g,j,cf,eqGuard_at_bool,dN,cA,d]
def bU.aeF(h:o.op=.binOp .xor t x y ty){a b:Int}(p:η x=b7 (.int .i64 a))(m:η y=b7 (.int .i64 b))(q:0<=a)(h1:0<=b):
  bU P o η U (b7 (.int .i64 ((a.toNat ^^^ b.toNat:Nat):Int))) U:=by
 refine .dw λs l hh hr=>?_;have e1:=hr x;have e2:=hr y;rw[p]at e1;rw[m]at e2;replace e1:=gG e1;replace e2:=gG e2;generalize f:l x=vx at e1;generalize g:l y=vy at e2;cases e1 with|int ha =>
 cases e2 with|int hb =>
 have n:a.toNat ^^^ b.toNat<2 ^ 63:=by apply Nat.xor_lt_two_pow<;>simp only[cd]at ha hb<;>omega
 have j:cd .i64 ((a.toNat ^^^ b.toNat:Nat):Int):=j3;refine⟨.int .i64 ((a.toNat ^^^ b.toNat:Nat):Int),?_,.int j,?_⟩
 rotate_left
 .simp only[ar,h,f,g,aM,jJ,l5,aP,Go.binOp,dO,gx,cC,Op.intBits,cf,cA,dN,bG]
 have d:((BitVec.ofInt 64 a) ^^^ (BitVec.ofInt 64 b)).toNat=a.toNat ^^^ b.toNat:=by rw[BitVec.toNat_xor,BitVec.toNat_ofInt,BitVec.toNat_ofInt];simp only[cd]at ha hb;congr 1<;>omega
 have i:(BitVec.ofInt IntKind.i64.bits a ^^^ BitVec.ofInt IntKind.i64.bits b).toNat=a.toNat ^^^ b.toNat:=d;have k:(Go.binOp .xor t (.int .i64 a) (.int .i64 b)).run P s.w=.ok (.int .i64 ((a.toNat ^^^ b.toNat:Nat):Int)) s.w:=by simp only[Go.binOp,dO,gx,cC,Op.intBits,dN];grind[pT]
 simp only[ar,h,f,g,cf,jJ,cA,k,dN]
def bU.Oz(hT:dA P T){g dst:av}(h:o.op=.convert g dst x){i i2 ie:TI}(hi:bY T g=O i)(y:bY T dst=O i2)(N:i.desc=.slice E)(z:i2.desc=.string)(L:bY T E=O ie)(u:ie.desc=.int .u8){tt:Bool}{r:List UInt8}(K:∀s v,ey U s v (η x)->Rd s.M v (.sl tt 1 n es))(hb:Bc es 0 n=O r):bU P o η U (b7 (.du r)) U:=by
 refine .qv λs S hh hr=>?_;have h1:=K s _ (hr x);obtain⟨vs,F,b⟩:=fg (P:=P) hh h1;obtain⟨a,cap,aa,m,G,J,_⟩:=h1.qp;have AK:n<=9223372036854775807:=aq;have D:V vs=n:=by rw[F.len];omega
 obtain⟨xs,e1,e2⟩:=D4 (M:=s.M) (vs:=vs) hb D (λj hj c Q=>by
  obtain⟨v,R,p2⟩:=F.rd j hj 0 c az
  grind)
 have C:=(hT g i hi).run_underlying (w:=s.w);have l:=(hT dst i2 y).run_underlying (w:=s.w);have f:=(hT E ie L).run_underlying (w:=s.w);rw[N]at C;rw[z]at l;rw[u]at f;have B:V r<=9223372036854775807:=az;have k:∃t:ByteArray,(Conv.bytesToString (.slice a n cap)).run P s.w=.ok (.string t) s.w/\t.data.toList=r:=by
  cases a with
  |none =>
   have H:r=[]:=by
    have:vs=[]:=by rw[m]at b;have h2:=b.1;simp[Builtin.firstCells]at h2;grind
    grind
   exact⟨ByteArray.empty,by simp[Conv.bytesToString],by exact c9⟩
  |some ad =>
   rw[m]at b;have h2:=b.1;simp only[Builtin.firstCells,ow]at h2;refine⟨⟨#[]++(xs.map λx=>UInt8.ofNat x.toNat).toArray⟩,?_,by grind⟩;simp only[Conv.bytesToString,cf,h2,cA,e1];rw[List.forIn_toArray,sE (P:=P) s.w (λ_ _=>rfl) xs ByteArray.empty];rfl
 obtain⟨t,q,A⟩:=k;refine⟨.string t,?_,Rd.du A B,?_⟩
 rotate_left
 .intro e d;simp only[ar,h,m,aM,convert,C,l,aP,cA,f,q,cf,events_underlying,bG]at d;cases a with
  |none=>simp[Conv.bytesToString]at d
  |some ad =>
   have p:=jc (P:=P) hh (h1.Kp (λ_ _=>rfl)) (w:=s.w) Z;rw[m]at b p;have h2:=b.1;simp only[Builtin.firstCells,ow]at h2 p;unfold Conv.bytesToString at d;simp only at d;rw[aM,h2,aP,er.bind (P:=P) ?_ λ_=>.pure]at d
   .grind [vo]
   rw[List.forIn_toArray];refine er.Sb (λx s=>?_) _ _;split
   .exact .pure
   exact .bind .stuck λ_=>.pure
 simp only[ar,h,m,cf,convert,C,l,cA,f,q,dN]
end
def Bd(η:aG->D):List aG->Option (List C)
 |[]=>O []
 |x::r=>match η x with
  |.e (.bX (.c c))=>match Bd η r with
   |some q=>O (c::q)
   |none=>af
  |_=>af
def BA{U:List bq}{s:St}{a:aG->ah}{η:aG->D}(d:∀y,ey U s (a y) (η y)):∀{xs:List aG}{cs:List C},Bd η xs=O cs->V xs=V cs/\∀(j:Nat)(c:C),cs[j]?=O c->∃v,(xs.map a)[j]?=O v/\Rd s.M v c
 |[],cs,h=>by cases h;grind
 |x::r,cs,h=>by
  simp only[Bd]at h;split at h
  .rename_i c f;split at h
   .rename_i q e;cases h;obtain⟨i,g⟩:=BA d e;refine⟨by grind,λj k b=>?_⟩;cases j with
    |zero =>
     simp at b;subst b;have:=d x;rw[f]at this;exact⟨a x,by simp,gG this⟩
    |succ j=>grind
   grind
  grind
section
variable {T:List (Nat×TI)}
theorem bU.makeFunc{fn:Fn}{a b:Array aG}(h:o.op=.makeFunc fn a b){g f:List C}(i:Bd η a.toList=O g)(hb:Bd η b.toList=O f):bU P o η U (b7 (.fn fn g f)) U:=by
 refine .dw λs d hh hr=>?_;obtain⟨a1,a2⟩:=BA hr i;obtain⟨m,n⟩:=BA hr hb;have k:a.map d=(a.toList.map d).toArray:=az;have l:b.map d=(b.toList.map d).toArray:=az;refine⟨.func fn (a.toList.map d).toArray (b.toList.map d).toArray,?_,?_,by simp only[ar,h,Instr.makeFunc];rfl⟩
 .simp only[ar,h,Instr.makeFunc,k,l];rfl
 refine Rd.fn _ _ az az (λj=>((a.toList.map d)[j]?).getD ai) (λj=>((b.toList.map d)[j]?).getD ai) az az az ?_;grind
def tA:TypeDesc->Bool
 |.interface _=>W
 |_=>ae
def Aj(t:av):D->Option C
 |.e (.bX (.c c))=>O (.Fy t c)
 |.e (.agg cs)=>match jB cs with
  |some q=>O (.M0 t q)
  |none=>af
 |_=>af
def K7{d:D}{c:C}(h:Aj t d=O c)(r:ey U s v d):Rd s.M (.iface t v) c:=by
 unfold Aj at h;split at h
 .cases h;exact Rd.Fy (gG r) (gG r).cell
 .split at h
  .rename_i q g;cases h;obtain⟨vs,rfl,e⟩:=r;have b:=oG g e;refine Rd.M0 (by have:=b.QA;grind) (λj=>(vs[j]?).getD ai) (λj i=>by grind) λj c i=>?_;obtain⟨v,k,f⟩:=b.get (j:=j) (a:=.c c) az;rw[k];exact f
  grind
 grind
theorem bU.makeInterface(hT:dA P T){t:av}{x:aG}(h:o.op=.makeInterface t x){i:TI}(hi:bY T t=O i)(b:tA i.desc=ae){c:C}(f:Aj t (η x)=O c):bU P o η U (b7 c) U:=by
 refine .dw λs g hh hr=>?_;have d:=(hT t i hi).run_underlying (w:=s.w);refine⟨.iface t (g x),?_,K7 f (hr x),?_⟩
 rotate_left
 .simp only[ar,h,Instr.makeInterface,aM,cf,d,aP,cA,events_underlying];cases a:i.desc<;>rw[a]at b<;>first|(cases b;done)|simp
 simp only[ar,h,Instr.makeInterface,cf,d,cA];cases a:i.desc<;>rw[a]at b<;>first|(cases b;done)|simp
def D5(i:TI):Option E1:=match i.agg with
 |true=>O (.agg (i.zero.map A.c))
 |false=>af
def S6{i:TI}(f:eN P t i){e:E1}(c:D5 i=O e):∃z,(zeroValue t).run P s.w=.ok z s.w/\qF U s z e:=by
 obtain⟨z,j,a⟩:=f.H8 U s;refine⟨z,j,?_⟩;obtain⟨h,g,k,o,n,m,p,⟨cs,b⟩,q⟩:=f.C3;have d:g=z:=by
  have:(zeroValue t).run P s.w=.ok g s.w:=by simp[zeroValue,typeInfo,k,m]
  grind
 subst d;unfold D5 at c;cases l:i.agg with
 |true =>
  rw[l]at c b;simp only[cv]at b;cases c;rw[b]at a⊢;exact⟨cs.toList,by simp,by simpa[Value.cells]using a⟩
 |false=>grind
def uz(t:av)(i:TI):C->Option (E1×Bool)
 |.Fy t' c=>match aC t' t with
  |true=>O (.bX (.c c),W)
  |false=>match D5 i with
   |some e=>O (e,ae)
   |none=>af
 |.M0 t' cs=>match aC t' t with
  |true=>O (.agg (cs.map A.c),W)
  |false=>match D5 i with
   |some e=>O (e,ae)
   |none=>af
 |.kG=>match D5 i with
  |some e=>O (e,ae)
  |none=>af
 |_=>af
theorem bU.typeAssert(hT:dA P T){x:aG}{r t:av}(h:o.op=.typeAssert x r t W){i:TI}(hi:bY T t=O i)(F:tA i.desc=ae){c:C}(H:η x=b7 c){e:E1}{b:Bool}(g:uz t i c=O (e,b)):
  bU P o η U (.gI [e,.bX (.c (.bool b))]) U:=by
 refine .dw λs y hh hr=>?_;have h1:=hr x;rw[H]at h1;replace h1:=gG h1;generalize q:y x=vx at h1;have p:=(hT t i hi).run_underlying (w:=s.w);have key:∀(v:ah) (b:Bool),(Instr.typeAssert vx r t W).run P s.w=.ok (.tuple #[v,.bool b]) s.w->qF U s v e->(Instr.typeAssert vx r t W).events P s.w #[]=#[]->∃v,(ar y o).run P s.w=.ok (.value v) s.w/\ey U s v (.gI [e,.bX (.c (.bool b))])/\(ar y o).events P s.w #[]=#[]:=by intro v b h1 h2 h3;refine⟨.tuple #[v,.bool b],?_,⟨[v,.bool b],Z,h2,Rd.bool,an⟩,by simp only[ar,h,q,aM,h1,h3,aP,bG]⟩;simp only[ar,h,q,cf,h1,cA,dN]
 have fail:∀n,D5 i=O n->(∀z,(zeroValue t).run P s.w=.ok z s.w->(Instr.typeAssert vx r t W).run P s.w=.ok (.tuple #[z,.bool ae]) s.w/\(Instr.typeAssert vx r t W).events P s.w #[]=#[])->e=n->b=ae->∃v,(ar y o).run P s.w=.ok (.value v) s.w/\ey U s v (.gI [e,.bX (.c (.bool b))])/\(ar y o).events P s.w #[]=#[]:=by intro n k G B hb;subst B hb;obtain⟨z,h3,J⟩:=S6 (U:=U) (hT t i hi) (s:=s) k;grind
 have d:∀m,i.desc≠.interface m:=by intro m e;rw[e]at F;cases F
 cases h1 with
 |@Fy t' v c h2 hc =>
  simp only[uz]at g;cases hb:aC t' t with
  |true =>
   rw[hb]at g;cases g;have D:=dH hb;subst D;refine key v W ?_ h2 ?_<;>
   .unfold Instr.typeAssert;simp only[cf,p,cA,aM,aP,events_underlying];cases a:i.desc<;>first|(exact absurd a (d _))|simp
  |false =>
   rw[hb]at g;have l:t'≠t:=λe=>by grind[Nat.beq_refl]
   simp only at g;split at g
   .rename_i n k;cases g;refine fail _ k (λz h3=>⟨?_,?_⟩) Z Z<;>
    .unfold Instr.typeAssert;simp only[cf,p,cA,aM,aP,events_underlying];cases a:i.desc<;>first|(exact absurd a (d _))|simp[l,h3]
   grind
 |@M0 t' vs cs hl f K AK =>
  simp only[uz]at g;cases hb:aC t' t with
  |true =>
   rw[hb]at g;cases g;have D:=dH hb;subst D;refine key (.agg vs.toArray) W ?_ ⟨vs,Z,?_⟩ ?_
   rotate_left 2
   .unfold Instr.typeAssert;simp only[p,aM,aP,events_underlying];cases a:i.desc<;>first|(exact absurd a (d _))|simp
   .unfold Instr.typeAssert;simp only[cf,p,cA];cases a:i.desc<;>first|(exact absurd a (d _))|simp
   have go:∀(vs:List ah) (cs:List C),V vs=V cs->(∀(j:Nat) (c:C),cs[j]?=O c->∃v,vs[j]?=O v/\Rd s.M v c)->fD U s vs (cs.map A.c):=by
    intro vs;induction vs with
    |nil=>intro cs hl _;cases cs with|nil=>trivial|cons _ _=>grind
    |cons v vs ih =>
     intro cs hl hg;cases cs with
     |nil=>grind
     |cons c cs =>
      obtain⟨u,E,p2⟩:=hg 0 c rfl;simp at E;subst E;exact⟨p2,ih cs az (λj c hj=>by simpa using hg (j+1) c az)⟩
   grind
  |false =>
   rw[hb]at g;have l:t'≠t:=λe=>by grind[Nat.beq_refl]
   simp only at g;split at g
   .rename_i n k;cases g;refine fail _ k (λz h3=>⟨?_,?_⟩) Z Z<;>
    .unfold Instr.typeAssert;simp only[cf,p,cA,aM,aP,events_underlying];cases a:i.desc<;>first|(exact absurd a (d _))|simp[l,h3]
   grind
 |kG =>
  simp only[uz]at g;split at g
  .rename_i n k;cases g;refine fail _ k (λz h3=>⟨?_,?_⟩) Z Z<;>
   .unfold Instr.typeAssert;simp only[cf,p,cA,aM,aP,events_underlying];cases a:i.desc<;>first|(exact absurd a (d _))|simp[h3]
  grind
 |_=>simp[uz]at g
end
def Hu(op:BinOp)(k:IntKind)(a:Int)(k':IntKind)(b:Int):Option (Int×List Prop) :=
 match k with
 |.u64=>match op with
  |.shl=>O (((a.toNat*2 ^ b.toNat % 18446744073709551616:Nat):Int),[0<=b,b<=64])
  |.shr=>O (((a.toNat / 2 ^ b.toNat:Nat):Int),[0<=b,b<=64])
  |.and=>match k' with|.u64=>O (((a.toNat &&& b.toNat:Nat):Int),[])|_=>af
  |.xor=>match k' with|.u64=>O (((a.toNat ^^^ b.toNat:Nat):Int),[])|_=>af
  |_=>af
 |_=>af
section
variable {T:List (Nat×TI)}
theorem Hv{a:Int}(h:cd .u64 a):(BitVec.ofInt IntKind.u64.bits a).toNat=a.toNat:=by rw[BitVec.toNat_ofInt];simp only[cd]at h;simp only[IntKind.bits];omega
def Oq{k k':IntKind}{a b c:Int}(t:av)(f:Hu op k a k' b=O (c,obs))(ho:aA obs)(g:cd k a)(m:cd k' b)(w:aB):
  cd k c/\(Go.binOp op t (.int k a) (.int k' b)).run P w=.ok (.int k c) w/\(Go.binOp op t (.int k a) (.int k' b)).events P w #[]=#[]:=by
 unfold Hu at f;split at f
 .split at f
  .cases f;obtain⟨n,i⟩:0<=b/\b<=64:=ho;have p:a.toNat*2 ^ b.toNat % 18446744073709551616<18446744073709551616:=rN _ ee;simp only[cd]at g;refine⟨by simp only[cd];omega,?_⟩;have h:IntKind.wrap .u64 (a*2 ^ (min b.toNat IntKind.u64.bits))=((a.toNat*2 ^ b.toNat % 18446744073709551616:Nat):Int):=by have j:min b.toNat IntKind.u64.bits=b.toNat:=Zu;have l:a=(a.toNat:Int):=aq;rw[j,l];simp only[IntKind.wrap,IntKind.bits,IntKind.signed,bZ];grind
   simp only[Go.binOp,Op.shift,bc (show¬b<0 by omega),h];exact⟨Z,Z⟩
  .cases f;obtain⟨n,i⟩:0<=b/\b<=64:=ho;simp only[cd]at g;have o:a.toNat / 2 ^ b.toNat<=a.toNat:=Nat.div_le_self _ _;refine⟨by simp only[cd];grind,?_⟩;have h:a.fdiv (2 ^ (min b.toNat IntKind.u64.bits))=((a.toNat / 2 ^ b.toNat:Nat):Int):=by have j:min b.toNat IntKind.u64.bits=b.toNat:=Zu;grind
   simp only[Go.binOp,Op.shift,bc (show¬b<0 by omega),h];exact⟨Z,Z⟩
  .split at f
   .cases f;have i:a.toNat &&& b.toNat<=a.toNat:=Nat.and_le_left;have d:cd .u64 ((a.toNat &&& b.toNat:Nat):Int):=by simp only[cd]at g⊢;omega
    refine⟨d,?_⟩;have e:(BitVec.ofInt IntKind.u64.bits a &&& BitVec.ofInt IntKind.u64.bits b).toNat=a.toNat &&& b.toNat:=by grind[Hv]
    simp only[Go.binOp,dO,gx,cC,Op.intBits,e,pT d];exact⟨Z,Z⟩
   grind
  .split at f
   .cases f;have d:cd .u64 ((a.toNat ^^^ b.toNat:Nat):Int):=by simp only[cd]at g m⊢;have:a.toNat ^^^ b.toNat<2 ^ 64:=Nat.xor_lt_two_pow aq aq;omega
    refine⟨d,?_⟩;have e:(BitVec.ofInt IntKind.u64.bits a ^^^ BitVec.ofInt IntKind.u64.bits b).toNat=a.toNat ^^^ b.toNat:=by grind[Hv]
    simp only[Go.binOp,dO,gx,cC,Op.intBits,e,pT d];exact⟨Z,Z⟩
   grind
  grind
 grind
theorem bU.bits{k k':IntKind}{a b c:Int}(h:o.op=.binOp op t x y ty)(p:η x=b7 (.int k a))(l:η y=b7 (.int k' b))(m:Hu op k a k' b=O (c,obs))(ho:aA obs):
  bU P o η U (b7 (.int k c)) U:=by
 refine .dw λs g hh hr=>?_;have h1:=hr x;have h2:=hr y;rw[p]at h1;rw[l]at h2;replace h1:=gG h1;replace h2:=gG h2;generalize d:g x=vx at h1;generalize f:g y=vy at h2;cases h1 with|int ha =>
 cases h2 with|int hb =>
 obtain⟨n,i,j⟩:=Oq (P:=P) t m ho ha hb s.w;exact⟨.int k c,by simp only[ar,h,cf,d,f,jJ,cA,i,dN],.int n,by simp[ar,h,d,f,jJ,l5,i,j]⟩
end
def qZ(i:Nat)(ci:List C)(es:Nat->List C):Nat->List C:=λj=>if j=i then ci else es j
def rX(lo hi:Nat)(z:List C)(es:Nat->List C):Nat->List C:=λj=>if lo<=j/\j<hi then z else es j
section
variable {T:List (Nat×TI)}{g:Nat}{k:Nat}
def Tj(x:aH U s)(e:U[l]?=O (.eX E k n es)){k' f:Nat}(r:jh U s v (.bp l (.el g k' i f)))(u:g=n):
  ∃b c vs zs,s.β[l]?=O ⟨.slice (O ⟨b,0,af⟩) 0 c,[b]⟩/\v=.pointer (O ⟨b,i*k'+f,af⟩)/\s.w.heap[b]?=O (.cells (vs++zs).toArray E (0,0))/\V (vs++zs)=c*k/\n<=c/\c<=9223372036854775807/\ku s.M k n es vs/\∀o,s.M b o=af:=by
 obtain⟨C,⟨b,c,d,j⟩,_,q⟩:=r;obtain⟨L,h,a⟩:=(q _ _ _ _ e).2 u;rw[d]at a;rcases x.box l _ L e h with⟨_,rfl⟩|⟨B,c1,vs,zs,rfl,m,z,t,p,A,y⟩
 .cases a
 cases a;exact⟨b,c,vs,zs,h,j,m,z,t,p,A,y⟩
def K8{g:Nat->ah}:∀{ds:List C}{m:Nat},(∀j c,ds[j]?=O c->Rd s.M (g (m+j)) c)->fD U s ((bl (V ds)).map λj=>g (m+j)) (ds.map A.c)
 |[],m,_=>trivial
 |d::ds,m,h=>by rw[eU,zU];refine⟨h 0 d Z,?_⟩;have:=K8 (ds:=ds) (m:=m+1) (λj c a=>by have:=h (j+1) c az;rwa [show m+1+j=m+(j+1) by omega]);grind[Function.comp_def]
theorem bU.aii(hT:dA P T)(h:o.op=.indexAddr t x y){i ie:TI}(hi:bY T t=O i)(K:i.desc=.slice E)(AK:bY T E=O ie){q m:Nat}{j:Int}{kk:IntKind}(D:η x=mE l (.sl g ie.size q m))(M:η y=b7 (.int kk j))(N:0<=j)(h1:j<m):bU P o η U (mE l (.el g ie.size (q+j.toNat) 0)) U:=by
 refine .dw λs C hh hr=>?_;have f:=hr x;rw[D]at f;have h2:=hr y;rw[M]at h2;replace h2:=gG h2;generalize z:C y=vy at h2;cases h2;have d:=f;change jh U s (C x) (.bp l _)at d;obtain⟨lv,⟨a,a0,cap,F,H,J,G,L,u,A⟩,p,v⟩:=d;obtain⟨b,rfl,rfl⟩:=A aq;have B:=(hT t i hi).run_underlying (w:=s.w);rw[K]at B;obtain⟨n,rfl⟩:∃n:Nat,j=n:=⟨j.toNat,by omega⟩
 have r:n<m:=aq;refine⟨.pointer (O ⟨b,(q+n)*ie.size,af⟩),?_,⟨lv,⟨b,F,u,by simp⟩,p,v⟩,?_⟩<;>
 simp[ar,h,H,z,Instr.indexAt,asIntOf,B,(hT E ie AK).b6,eg,r,jP]
def bU.abq(hT:dA P T){f:Nat}(h:o.op=.fieldAddr t x f){m q:Nat}{j:TI}(u:η x=mE l (.el g m i q))(p:l9 T t f=O (off,j)):bU P o η U (mE l (.el g m i (q+off))) U:=by refine .dw λs v hh hr=>?_;have h1:=hr x;rw[u]at h1;have a:=h1;change jh U s (v x) (.bp l _)at a;obtain⟨lv,⟨b,w,c,r⟩,d,n⟩:=a;exact⟨.pointer (O ⟨b,i*m+q+off,af⟩),by simp[ar,h,r,p9 hT p],⟨lv,⟨b,w,c,by grind⟩,d,n⟩,by simp[ar,h,r,r8 hT p]⟩
theorem bU.aij(h:o.op=.nilCheck x){j q:Nat}(m:η x=mE l (.el g j i q)):bU P o η U (mE l (.el g j i q)) U:=by refine .dw λs d hh hr=>?_;have h1:=hr x;rw[m]at h1;have c:=h1;have a:=h1;change jh U s (d x) (.bp l _)at a;obtain⟨lv,⟨b,t,n,f⟩,p,r⟩:=a;exact⟨d x,by simp[ar,h,f],c,by simp[ar,h,f]⟩
theorem bU.aik(hT:dA P T)(h:o.op=.call {callee:=.builtin .len,args:=#[x],argTypes:=lh})(f:lh[0]?=O t){i:TI}(hi:bY T t=O i)(n:i.desc=.slice E){z q m:Nat}(p:η x=mE l (.sl g z q m)):bU P o η U (b7 (.int .i64 m)) U:=by
 refine .dw λs r hh hr=>?_;have h1:=hr x;rw[p]at h1;have b:=h1;change jh U s (r x) (.bp l _)at b;obtain⟨lv,⟨a,a0,cap,F,u,j,v,C,y,B⟩,A,D⟩:=b;have d:=(hT t i hi).run_underlying (w:=s.w);rw[n]at d;refine⟨.int .i64 m,?_,Rd.int j3,?_⟩<;>
 simp[ar,h,resolve,invoke,builtin,Builtin.len_,u,d,goInt,f]
theorem bU.sliceB(hT:dA P T){lo hi:Option aG}(h:o.op=.slice t x lo hi af){i ie:TI}(y:bY T t=O i)(H:i.desc=.slice E)(G:bY T E=O ie){q m:Nat}{d u:Option Int}(C:η x=mE l (.sl g ie.size q m))(hl:vF η lo=O d)(B:vF η hi=O u)(ho:aA (lK m d u)):bU P o η U (mE l (.sl g ie.size (q+dD 0 d) (dD m u-dD 0 d))) U:=by
 refine .dw λst ρ hh hr=>?_;have h1:=hr x;rw[C]at h1;have f:=h1;change jh U st (ρ x) (.bp l _)at f;obtain⟨lv,⟨a,a0,cap,D,z,j,F,r,p,v⟩,n,s⟩:=f;obtain⟨hb,J,AK⟩:=oV (P:=P) (isS:=W) j (jr hr hl) (jr hr B) ho st.w;have c:=(hT t i y).run_underlying (w:=st.w);rw[H]at c;refine⟨.slice (if cap=dD 0 d then a else a.map (·.add (dD 0 d*ie.size))) (dD m u-dD 0 d) (cap-dD 0 d),?_,⟨lv,⟨_,a0,_,D,Z,by omega,by omega,r,p,λA=>?_⟩,n,s⟩,by simp[ar,h,z,Instr.sliceAt,c,Instr.slice,hb,qN (P:=P) (isS:=W) j (jr hr hl) (jr hr B) ho st.w]⟩
 .simp[ar,h,z,Instr.sliceAt,c,Instr.slice,hb,(hT E ie G).b6]
 obtain⟨b,rfl,rfl⟩:=v aq;refine⟨b,Z,?_⟩;rw[bc aq];simp[eg,jP]
def bU.aeG(hT:dA P T)(h:o.op=.load t x){f:Nat}{z:TI}{e:E1}(J:η x=mE l (.el g k i f))(B:g=n)(hl:U[l]?=O (.eX E k n es))(hi:bY T t=O z)(G:nW z ((iK f (es i)).map A.c)=O e)(y:i<n):bU P o η U (.e e) U:=by
 refine .qv λs aa hh hr=>?_;have h1:=hr x;rw[J]at h1;obtain⟨b,R,vs,X,N,F,d,L,K,Q,AK,S⟩:=Tj hh hl h1 B;have ab:=AK.jy i y;let g:Nat->ah:=λj=>vs.getD (i*k+j) ai;have B:∀j c,(iK f (es i))[j]?=O c->vs[i*k+(f+j)]?=O (g (f+j))/\Rd s.M (g (f+j)) c:=by intro j c hj;rw[o8,pJ]at hj;obtain⟨v,v1,ak⟩:=AK.rd i y (f+j) c hj;grind
 have C:=K8 (U:=U) (s:=s) (g:=g) (ds:=iK f (es i)) (m:=f) (λj c hj=>(B j c hj).2);have a:∀(j:Nat) (v:ah),((bl (V (iK f (es i)))).map λj=>g (f+j))[j]?=O v->s.w.cell? ⟨b,i*k+f+j,af⟩=O v:=by
  intro j v hj;simp only[qn]at hj;by_cases p:j<V (iK f (es i))
  .simp[p]at hj;subst hj;have h2:=(B j _ (bD p)).1;simp only[a9,d];grind
  grind
 obtain⟨v,r,D⟩:=lP (s:=s) (U:=U) (P:=P) (hT t z hi) (b:=b) (off:=i*k+f) (e:=e) a C G;refine⟨v,by simp[ar,h,F,Instr.loadAt,Instr.sureAddr,r],D,λH q=>?_⟩;have u:H∈(loadVar t ⟨b,i*k+f,af⟩).events P s.w #[]:=by
  have e:ar aa o=(do pure (.value (<-loadVar t ⟨b,i*k+f,af⟩))):=by simp[ar,h,F,Instr.loadAt,Instr.sureAddr]
  rw[e]at q;simpa[r]using q
 obtain⟨j,hj,rfl⟩:=jR (hT t z hi) (n:=V (iK f (es i))) (λj hj=>⟨_,a j (g (f+j)) az⟩) (by have:=oZ G;grind) H u;exact nq (b9 N) ay
def ku.put{sO:List ah}{f:Nat}{cc ci:List C}(h:ku M k n es vs)(hi:i<n)(s:ic f cc (es i)=O ci)(hl:V sO=V cc)(q:∀(j:Nat)(c:C),cc[j]?=O c->∃v,sO[j]?=O v/\Rd M v c):
  i*k+f+V sO<=V vs/\ku M k n (qZ i ci es) (vs.take (i*k+f)++sO++vs.drop (i*k+f+V sO)):=by
 obtain⟨h1,h2⟩:=uD s;have x:=h.jy i hi;have hb:i*k+k<=n*k:=by have:=gX k (show i+1<=n by omega);grind
 have r:=h.len;have m:i*k+f+V sO<=V vs:=aq;have d:∀p,(vs.take (i*k+f)++sO++vs.drop (i*k+f+V sO))[p]?=if p<i*k+f then vs[p]? else if p<i*k+f+V sO then sO[p-(i*k+f)]? else vs[p]?:=by
  intro p;have w:V (vs.take (i*k+f))=i*k+f:=az;by_cases c1:p<i*k+f
  .grind
  rw[bc c1];by_cases c2:p<i*k+f+V sO
  .grind
  rw[bc c2,iy az,pJ];grind
 refine⟨m,⟨by grind,λb a=>?_,λb a j c hj=>?_⟩⟩
 .simp only[qZ];split
  .grind
  exact h.jy b a
 simp only[qZ]at hj;rw[d];split at hj
 .rename_i e;subst e;rw[h2]at hj;by_cases c1:j<f
  .rw[lZ,j8 az,hU,bh c1]at hj;rw[bh aq];exact h.rd b hi j c hj
  by_cases c2:j<f+V cc
  .rw[lZ,iy az,j8 az]at hj;obtain⟨v,v1,t⟩:=q _ c hj;refine⟨v,?_,t⟩;rw[bc aq,bh aq,<-v1];congr 1;grind
  rw[iy az,pJ]at hj;rw[bc aq,bc aq];refine h.rd b hi j c ?_;grind
 rename_i e;have o:j<k:=by have:=(cO.1 hj).1;have:=h.jy b a;omega
 rcases dy b i with l|u
 .have:(b+1)*k<=i*k:=gX k l;rw[jP,Nat.one_mul]at this;rw[bh aq];exact h.rd b a j c hj
 have:(i+1)*k<=b*k:=gX k aq;rw[jP,Nat.one_mul]at this;rw[bc aq,bc aq];exact h.rd b a j c hj
def aH.ft(hh:aH U s)(hl:U[l]?=O (.eX E k n es)){e a:List ah}{f:Nat}(A:s.β[l]?=O ⟨.slice (O ⟨b,0,af⟩) 0 f,[b]⟩)(y:V (vs++e)=f*k)(p:n<=f)(q:f<=9223372036854775807){es':Nat->List C}(i:s.w.heap[b]?=O (.cells (vs++e).toArray E (0,0)))(D:ku s.M k n es' a)(B:V a=V vs)(u:∀o,s.M b o=af):
  aH (U.set l (.eX E k n es')) {s with w:=s.w.setRow b (a++e).toArray}/\eO U s (U.set l (.eX E k n es')) {s with w:=s.w.setRow b (a++e).toArray}:=by
 have j:(s.w.setRow b (a++e).toArray).heap[b]?=O (.cells (a++e).toArray E (0,0)):=setRow_heap s.w b _ _ E _ i;have m:∀c,c≠b->(s.w.setRow b (a++e).toArray).heap[c]?=s.w.heap[c]?:=λc d=>setRow_other s.w b c _ d;have r:s.β.set l ⟨.slice (O ⟨b,0,af⟩) 0 f,[b]⟩=s.β:=tf;obtain⟨H,F⟩:=hh.iA (M':=s.M) (w':=s.w.setRow b (a++e).toArray) (B':=.eX E k n es') (L':=⟨.slice (O ⟨b,0,af⟩) 0 f,[b]⟩) hl A ⟨λ_=>rfl,bm _⟩ ay
  (λc d G=>m c az) (λ_ _ _ _=>rfl) (λ_ _ _ h=>h) (λc z v t=>by
   have x:c≠b:=az;have:=hh.mem c z v t;rw[<-this];simp only[a9]
   grind) (λc d=>⟨.inl d,by grind⟩) Z Z Z
  (.inr ⟨b,f,a,e,rfl,j,by grind,p,q,D,u⟩)
 grind
def w7{α:Type}:∀{new l:List α},V new=V l->ic 0 new l=O new
 |[],[],_=>rfl
 |[],_::_,h=>by grind
 |_::_,[],h=>by grind
 |n::ns,c::cs,h=>by simp only[ic,w7 (new:=ns) (l:=cs) az]
def bU.Sl(hT:dA P T)(h:o.op=.store t x y){f:Nat}{p:TI}{new:List A}{cc ci:List C}(ab:η x=mE l (.el g k i f))(Y:g=n)(hl:U[l]?=O (.eX E k n es))(hi:bY T t=O p)(hy:nU (η y)=O new)(Z:V new=p.size)(K:jB new=O cc)(L:V (es i)=k->ic f cc (es i)=O ci)(G:i<n):
  bU P o η U .any (U.set l (.eX E k n (qZ i ci es))):=by
 intro s c hh hr;have h1:=hr x;rw[ab]at h1;obtain⟨b,c0,vs,H,S,aa,a,J,AK,M,ak,Q⟩:=Tj hh hl h1 Y;have m:=qP hy (hr y);have z:=oG K m;have N:=fD.qy z;have F:(c y).cells.toList.length=V cc:=by have:=z.QA;grind
 replace L:=L (ak.jy i G);obtain⟨q1,q2⟩:=ak.put G L F N;have q:(c y).cells.size=p.size:=by rw[<-Z,<-m.QA,oM]
 obtain⟨t1,X⟩:=hh.ft hl S J AK M a q2 az Q;have D:=run_storeCells_at P b (i*k+f) E (c y).cells.toList 0 (vs++H).toArray s.w a az m.cell;have u:((vs++H).toArray.toList.take (i*k+f+0)++(c y).cells.toList++(vs++H).toArray.toList.drop (i*k+f+0+(c y).cells.toList.length))=vs.take (i*k+f)++(c y).cells.toList++vs.drop (i*k+f+(c y).cells.toList.length)++H:=az;rw[u]at D;refine⟨.skip,_,?_,aK,t1,X,?_⟩
 .simp[ar,h,aa,Instr.storeAt,Instr.sureAddr,storeVar,(hT t p hi).b6,q,D]
 intro R d;have e:ar c o=(do storeVar t ⟨b,i*k+f,af⟩ (c y);pure .skip):=by simp[ar,h,aa,Instr.storeAt,Instr.sureAddr]
 rw[e]at d;have B:R∈(storeCells ⟨b,i*k+f,af⟩ (c y).cells.toList).events P s.w #[]:=by
  simp only[storeVar,aM,(hT t p hi).b6,q,aP,events_sizeOf,dO,gx,cC,cf,cA,bG]at d;generalize(storeCells ⟨b,i*k+f,af⟩ (c y).cells.toList).run P s.w=r at d;cases r with
  |ok v w'=>simpa using d
  |halt x w'=>simpa using d
 rcases fj (c y).cells.toList 0 (vs++H).toArray s.w #[] a az m.cell R B with Wa|⟨j,_,_,rfl⟩
 .grind
 exact l4 (b9 S) ay (Q _)
end
section
def aH.Fb(hh:aH U s)(g:∀o,s.M b o=af)(f:∀o v,vs[o]?=O v->s.w.cell? ⟨b,o,af⟩=O v):
  aH (U.map λ_=>.cg) {s with M:=λa o=>if a=b then vs[o]? else s.M a o}/\∀a o v,s.M a o=O v->(if a=b then vs[o]? else s.M a o)=O v:=by
 have c:=hh.mV;refine⟨⟨λa o v d=>?_,c.len,λl B L hB hL=>?_,c.gY,c.lt,c.own⟩,λa o v d=>?_⟩
 .by_cases e:a=b
  .grind
  simp only[e,cC]at d;exact c.mem a o v d
 .have:=b9 hB;simp at this;rw[<-this.2];trivial
 grind
def gA.AJ{M':Mem}{es:Array bg}(h:gA {s with M:=M'} es){L:Loc}(i:L∈s.β)(hb:b∈L.bs)(j:∀c o v,s.M c o=O v->M' c o=O v)(f:∀c o v,M' c o=O v->c=b∨s.M c o=O v):gA s es:=by
 intro e d;have h1:=h e d;unfold pF at h1⊢;split at h1
 .obtain⟨a1,a2,a3⟩:=h1;refine⟨a1,a2,?_⟩;rcases a3 with a3|⟨a3,a4⟩|⟨a3,v,a4⟩
  .grind
  .refine .inr (.inl ⟨a3,λg=>?_⟩);have:=a4 g;rename_i a _;cases hm:s.M a.block a.off with
   |none=>rfl
   |some v=>grind
  grind
 all_goals exact h1
end
def Qp(k:Nat)(f:Nat->Nat->ah):Nat->List C:=λi=>(bl k).map λj=>.val (f i j)
theorem um{k:Nat}{f:Nat->Nat->ah}{c:C}(h:(Qp k f i)[j]?=O c):j<k/\c=.val (f i j):=by
 have a:j<k:=by have:=(cO.1 h).1;simpa[Qp]using this
 simp[Qp,a]at h;grind
def Kr{k:Nat}{f:Nat->Nat->ah}(h:j<k):(Qp k f i)[j]?=O (.val (f i j)):=by simp[Qp,h]
def Rd.exact{M:Mem}{v:ah}{t:Bool}{k n:Nat}{es:Nat->List C}(h:Rd M v (.sl t k n es)):
  ∃f:Nat->Nat->ah,Rd M v (.sl t k n (Qp k f))/\(∀i,i<n->V (es i)=k)/\∀i,i<n->∀j c,(es i)[j]?=O c->Rd M (f i j) c:=by
 cases h with
 |sl b off f a hb ht hk ha hm hr =>
  have d:∀i,i<n->∀j,j<k->∃c,(es i)[j]?=O c:=λi hi j hj=>⟨_,bD az⟩
  refine⟨f,.sl b off f a hb ht (λi _=>by simp[Qp]) ha (λi hi j c hj=>?_) (λi hi j c hj=>?_),hk,hr⟩
  .grind [um]
  obtain⟨h1,rfl⟩:=um hj;obtain⟨e,h2⟩:=d i hi j h1;exact .val (hr i hi j e h2).cell
def Ga{k:Nat}{L:Loc}{a c:Option Addr}{cap:Nat}(hB:U[l]?=O (.eX E k n es))(e:s.β[l]?=O L)(f:L.v=.slice c 0 cap)(g:n<=cap)(d:cap<=9223372036854775807)(i:0<cap->∃b,c=O ⟨b,0,af⟩/\a=O ⟨b,0,af⟩):jh U s (.slice a n cap) (.bp l (.sl n k 0 n)) :=
 ⟨L.v,⟨a,c,cap,cap,rfl,g,by omega,d,f,λh=>by grind⟩,(cO.1 hB).1,λj k' n' es' he=>by rw[hB]at he;cases he;exact⟨bm _,λ_=>⟨L,e,rfl⟩⟩⟩
def wM{ie:TI}(h:oc P o x y E ie){k:Nat}{es':Nat->List C}{ρ:aG->ah}(p:aH U s)(h1:jh U s (ρ x) (.bp l (.sl n ie.size 0 n)))(hl:U[l]?=O (.eX E ie.size n es))(S:Rd s.M (ρ y) (.sl tx ie.size k es'))(J:(n+k)*ie.bytes<=140737488355328):
  ∃nx s',(ar ρ o).run P s.w=.ok nx s'.w/\abQ (U.set l (.eX E ie.size (n+k) (dv n es es'))) s' nx (mE l (.sl (n+k) ie.size 0 (n+k)))/\aH (U.set l (.eX E ie.size (n+k) (dv n es es'))) s'/\eO U s (U.set l (.eX E ie.size (n+k) (dv n es es'))) s'/\gA s ((ar ρ o).events P s.w #[]):=by
 obtain⟨t,t2,i,i2,ho,hi,hd,r,z⟩:=h.op;have B:l<V U:=(cO.1 hl).1;obtain⟨lv,⟨a,a0,cap,q,hv,H,hc2,AK,Om,hc4⟩,_,hx3⟩:=h1;obtain⟨L,hL,hLv⟩:=(hx3 _ _ _ _ hl).2 rfl;rw[Om]at hLv;have ZD:q=cap:=aq;subst ZD;have R:0<q->∃b,a0=O ⟨b,0,af⟩/\a=O ⟨b,0,af⟩:=λh=>by grind
 have aa:l<V s.β:=(cO.1 hL).1;have ab:=b9 hL;have Q:=p.box l _ L hl hL;rw[dT ho,hv];have row:0<q->∃b vs zs,a=O ⟨b,0,af⟩/\L=⟨.slice (O ⟨b,0,af⟩) 0 q,[b]⟩/\s.w.heap[b]?=O (.cells (vs++zs).toArray E (0,0))/\V (vs++zs)=q*ie.size/\ku s.M ie.size n es vs/\∀o,s.M b o=af:=by
  intro D;obtain⟨b,e1,e2⟩:=R D;rcases Q with⟨_,rfl⟩|⟨m,c1,vs,zs,rfl,h3,h4,h5,h6,h7,h8⟩
  .grind
  grind
 by_cases h0:k=0
 .subst h0;have f:=lC (P:=P) (ty:=o.type) hi hd r z h.elem p (a:=a) H S;simp only[iN];have ha:eW n es (dv n es es'):=λi hi=>by simp[dv,hi]
  have hLB:gb (U.set l (.eX E ie.size n (dv n es es'))) ⟨s.β.set l L,s.M,s.w,s.own⟩ (.eX E ie.size n (dv n es es')) L:=by
   rcases Q with h3|⟨m,c1,vs,zs,S,h3,h4,h5,h6,h7,h8⟩
   .exact .inl h3
   exact .inr ⟨m,c1,vs,zs,S,h3,h4,h5,h6,h7.Kp ha,h8⟩
  have Qy:=p.iA (M':=s.M) (w':=s.w) (B':=.eX E ie.size n (dv n es es')) (L':=L) hl hL ⟨λ_=>rfl,bm _⟩ (bm _) (λ_ _ _=>rfl) (λ_ _ _ _=>rfl) (λ_ _ _ h=>h) p.mem
   (λb J=>⟨.inl J,p.lt L ab b J⟩) aK aK aK hLB
  refine⟨.value (.slice a n q),_,?_,?_,Qy.1,Qy.2,gD (l3 hi hd r z h.elem p H S)⟩
  .simp[f]
  exact Ga (E:=E) Ko az hLv H AK R
 .by_cases g:n+k<=q
  .obtain⟨b,vs,zs,rfl,rfl,hw,F,hF,hM⟩:=row aq;obtain⟨d,hFn,f⟩:=mF (P:=P) (ty:=o.type) hi hd r z h.elem p hw F S g;have hvl:V vs=n*ie.size:=hF.len;have hnl:V d=k*ie.size:=hFn.len;have hnc:n*ie.size+k*ie.size<=q*ie.size:=by rw[<-jP];exact gX _ g
   have ak:((vs++zs).take (n*ie.size)++d++(vs++zs).drop (n*ie.size+V d))=(vs++d)++zs.drop (V d):=by rw[<-hvl];simp
   rw[ak]at f;have Wy:=setRow_heap s.w b _ ((vs++d)++zs.drop (V d)).toArray E _ hw;have Kx:∀m,m≠b->(s.w.setRow b ((vs++d)++zs.drop (V d)).toArray).heap[m]?=s.w.heap[m]?:=λm K=>setRow_other s.w b m _ K;obtain⟨t1,X⟩:=p.iA (M':=s.M) (w':=s.w.setRow b ((vs++d)++zs.drop (V d)).toArray) (B':=.eX E ie.size (n+k) (dv n es es')) (L':=⟨.slice (O ⟨b,0,af⟩) 0 q,[b]⟩) hl hL ⟨λ_=>rfl,by omega⟩ ay
    (λm K hn=>Kx m az) (λ_ _ _ _=>rfl) (λ_ _ _ h=>h) (λm o' v hmv=>by
     have Hg:m≠b:=az;have:=p.mem m o' v hmv;rw[<-this];simp only[a9]
     grind) (λm K=>⟨.inl K,by grind⟩) aK aK aK
    (.inr ⟨b,q,vs++d,zs.drop (V d),rfl,Wy,by grind,g,AK,hF.append hFn,hM⟩)
   refine⟨.value (.slice (O ⟨b,0,af⟩) (n+k) q),_,?_,?_,t1,X,gD (oT hi hd r z h.elem p hw F S g ab ay (λo _=>hM o))⟩
   .simp[f]
   exact Ga (E:=E) Ko (by simp only;rw[js aa]) aK g AK λ_=>⟨b,aK,aK⟩
  .have hg:q<n+k:=aq;obtain⟨f2,h2x,hw2,wm⟩:=S.exact;have jq:∃(M':Mem) (f0:Nat->Nat->ah),aH (U.map λ_=>.cg) {s with M:=M'}/\(∀m o v,s.M m o=O v->M' m o=O v)/\Rd M' (.slice a n q) (.sl ae ie.size n (Qp ie.size f0))/\(∀{es},gA {s with M:=M'} es->gA s es) /\
     (∀i,i<n->V (es i)=ie.size)/\∀i,i<n->∀j c,(es i)[j]?=O c->Rd s.M (f0 i j) c:=by
    by_cases D:0<q
    .obtain⟨b,vs,zs,rfl,rfl,hw,F,hF,hM⟩:=row D;obtain⟨c1,c2⟩:=p.Fb (b:=b) (vs:=vs) hM (λo v ho=>by
      simp only[a9,hw]
      grind)
     have N:∀i,i<n->∀j c,(es i)[j]?=O c->vs[i*ie.size+j]?=O (vs.getD (i*ie.size+j) ai)/\Rd s.M (vs.getD (i*ie.size+j) ai) c:=by intro i hi j c A;obtain⟨v,v1,v2⟩:=hF.rd i hi j c A;grind
     have WE:∀i,i<n->∀j,j<ie.size->∃c,(es i)[j]?=O c:=λi hi j A=>⟨_,bD (by rw[hF.jy i hi];exact A)⟩
     refine⟨_,λi j=>vs.getD (i*ie.size+j) ai,c1,c2,.sl b 0 (λi j=>vs.getD (i*ie.size+j) ai) H AK ay (λi _=>by simp[Qp]) fe (λi hi j c A=>?_) (λi hi j c A=>?_),λhe=>?_,hF.jy,λi hi j c A=>(N i hi j c A).2⟩
     .obtain⟨e1,_⟩:=um A;grind
     .obtain⟨e1,rfl⟩:=um A;obtain⟨c',e2⟩:=WE i hi j e1;exact .val (N i hi j c' e2).2.cell
     exact he.AJ (b:=b) ab ay c2 λm o v hv=>by grind
    have e1:q=0:=aq;have e2:n=0:=aq;subst e1 e2;have u:=p.mV;exact⟨s.M,λ_ _=>ai,⟨u.mem,u.len,u.box,u.gY,u.lt,u.own⟩,λ_ _ _ h=>h,Rd.kF,λh=>h,λi hi=>by omega,λi hi=>by omega⟩
   obtain⟨M',f0,c1,c2,hR,hE0,hw0,hr0⟩:=jq;have h2':Rd ({s with M:=M'}:St).M (ρ y) (.sl tx ie.size k (Qp ie.size f2)):=h2x.mono c2;obtain⟨vs',zs,G,Z,hn1,hn2,hlen,f⟩:=kE (P:=P) (s:={s with M:=M'}) (ty:=o.type) hi hd r z h.elem c1 hR h2' hg J h.bytes;have hev:=ll (P:=P) (s:={s with M:=M'}) (ty:=o.type) hi hd r z h.elem c1 hR h2' hg J h.bytes;have hFs:ku s.M ie.size (n+k) (dv n es es') vs':=by
    refine⟨Z.len,λi hi=>?_,λi hi j c A=>?_⟩
    .by_cases e:i<n
     .simp only[dv,e,cv];grind
     simp only[dv,e,cC];grind
    by_cases e:i<n
    .simp only[dv,e,cv]at A;have Y:j<ie.size:=az;obtain⟨v,v1,v2⟩:=Z.rd i hi j (.val (f0 i j)) (by simp only[dv,e,cv];exact Kr Y);grind[Rd.fM]
    simp only[dv,e,cC]at A;have Y:j<ie.size:=az;obtain⟨v,v1,v2⟩:=Z.rd i hi j (.val (f2 (i-n) j)) (by simp only[dv,e,cC];exact Kr Y);grind[Rd.fM]
   have nM:∀o,s.M s.w.heap.size o=af:=λo=>by
    cases hm:s.M s.w.heap.size o with
    |none=>rfl
    |some v=>have:=p.block hm;omega
   obtain⟨t1,X⟩:=p.iA (M':=s.M) (w':=s.w.drew.alloc (.cells (vs'++zs).toArray E)) (B':=.eX E ie.size (n+k) (dv n es es')) (L':=⟨.slice (O ⟨s.w.heap.size,0,af⟩) 0 G,[s.w.heap.size]⟩) hl hL
    ⟨λe=>absurd e aq,by omega⟩ ay (λb J _=>dF s.w.drew _ J) (λ_ _ _ _=>rfl) (λ_ _ _ h=>h) (λb o v hm=>by have xZ:=p.block hm;rw[<-p.mem b o v hm];simp only[a9];rw[dF s.w.drew _ xZ];rfl) (λb J=>by simp at J;exact c9) aK aK aK (.inr ⟨s.w.heap.size,G,vs',zs,rfl,gg s.w.drew _,hlen,hn1,hn2,hFs,nM⟩)
   refine⟨.value (.slice (O ⟨s.w.heap.size,0,af⟩) (n+k) G),_,?_,?_,t1,X,gD (hE0 hev)⟩
   .simp only at f;simp[f]
   exact Ga (E:=E) Ko (by simp only;rw[js aa]) aK hn1 hn2 λ_=>⟨_,aK,aK⟩
def bU.WX{ie:TI}(h:oc P o x y E ie){a:Nat}{es':Nat->List C}(b:η x=mE l (.sl n ie.size 0 n))(hl:U[l]?=O (.eX E ie.size n es))(c:∀s v,ey U s v (η y)->Rd s.M v (.sl tx ie.size a es'))(hb:(n+a)*ie.bytes<=140737488355328):
  bU P o η U (mE l (.sl (n+a) ie.size 0 (n+a))) (U.set l (.eX E ie.size (n+a) (dv n es es'))) :=
 λs d hh hr=>wM h hh (by have:=hr x;rw[b]at this;exact this) hl (c s _ (hr y)) hb
section
variable {T:List (Nat×TI)}
def bU.ail(hT:dA P T)(h:o.op=.call {callee:=.builtin .len,args:=#[x],argTypes:=lh})(d:lh[0]?=O t){i:TI}(hi:bY T t=O i)(f:i.desc=.slice E){a:Option Addr}{cap:Nat}(g:η x=b7 (.val (.slice a n cap)))(l:n<=9223372036854775807):bU P o η U (b7 (.int .i64 n)) U:=by
 refine .dw λs k hh hr=>?_;have h1:=hr x;rw[g]at h1;have j:=Rd.fM (gG h1);have b:=(hT t i hi).run_underlying (w:=s.w);rw[f]at b;refine⟨.int .i64 n,?_,Rd.int j3,?_⟩<;>
 simp[ar,h,resolve,invoke,builtin,Builtin.len_,j,b,goInt,d]
theorem bU.HP(hT:dA P T)(h:o.op=.indexAddr t x y){i ie:TI}(hi:bY T t=O i)(m:i.desc=.slice E)(u:bY T E=O ie){cap:Nat}{j:Int}{kk:IntKind}(p:η x=b7 (.val (.slice (O ⟨b,off,af⟩) n cap)))(l:η y=b7 (.int kk j))(v:0<=j)(h1:j<n):bU P o η U (b7 (.val (.pointer (O ⟨b,off+j.toNat*ie.size,af⟩)))) U:=by
 refine .dw λs q hh hr=>?_;have a:=hr x;rw[p]at a;have r:=Rd.fM (gG a);have h2:=hr y;rw[l]at h2;replace h2:=gG h2;generalize g:q y=vy at h2;cases h2;have k:=(hT t i hi).run_underlying (w:=s.w);rw[m]at k;obtain⟨d,rfl⟩:∃d:Nat,j=d:=⟨j.toNat,by omega⟩
 have f:d<n:=aq;refine⟨.pointer (O ⟨b,off+d*ie.size,af⟩),?_,Rd.val Z,?_⟩<;>
 simp[ar,h,r,g,Instr.indexAt,asIntOf,k,(hT E ie u).b6,eg,f]
def bU.abr(hT:dA P T){f:Nat}(h:o.op=.fieldAddr t x f){k:Nat}{j:TI}(g:η x=b7 (.val (.pointer (O ⟨b,off,af⟩))))(a:l9 T t f=O (k,j)):bU P o η U (b7 (.val (.pointer (O ⟨b,off+k,af⟩)))) U:=by refine .dw λs i hh hr=>?_;have h1:=hr x;rw[g]at h1;have d:=Rd.fM (gG h1);exact⟨.pointer (O ⟨b,off+k,af⟩),by simp[ar,h,d,p9 hT a],Rd.val Z,by simp[ar,h,d,r8 hT a]⟩
def bU.abt(hT:dA P T){z:aG}(h:o.op=.slice t x af (O y) (O z)){i ie:TI}(D:bY T t=O i)(N:i.desc=.slice E)(K:bY T E=O ie){tt:Bool}{k:Nat}{q r:IntKind}{j m:Int}(AK:∀s v,ey U s v (η x)->Rd s.M v (.sl tt k n es))(aa:η y=b7 (.int q j))(J:η z=b7 (.int r m))(C:0<=j)(h1:j<=m)(h2:m<=n):bU P o η U (b7 (.sl ae k j.toNat es)) U:=by
 refine .dw λst ρ hh hr=>?_;have p:=AK st _ (hr x);have d:=hr y;rw[aa]at d;replace d:=gG d;generalize u:ρ y=vy at d;cases d;have g:=hr z;rw[J]at g;replace g:=gG g;generalize A:ρ z=vz at g;cases g;obtain⟨a,cap,vs,B,F,H,Q,R,hm⟩:=p.qp;rw[B]at p;have l:=(hT t i D).run_underlying (w:=st.w);rw[N]at l;have em:((m.toNat:Nat):Int)=m:=wD aq;have hb:(bk W n cap af (O (.int q j)) (O (.int r m))).run P st.w=.ok (0,j.toNat,m.toNat) st.w:=by simp[bk,run_sliceBound (P:=P) st.w r m cap _ aq aq,run_sliceBound (P:=P) st.w q j m.toNat _ C aq]
 have L:(bk W n cap af (O (.int q j)) (O (.int r m))).events P st.w #[]=#[]:=by simp[bk,run_sliceBound (P:=P) st.w r m cap _ aq aq,run_sliceBound (P:=P) st.w q j m.toNat _ C aq,eB (P:=P) st.w r m cap _ aq aq,eB (P:=P) st.w q j m.toNat _ C aq]
 refine⟨.slice a j.toNat m.toNat,?_,?_,by simp[ar,h,B,u,A,Instr.sliceAt,l,Instr.slice,hb,L]⟩
 .simp[ar,h,B,u,A,Instr.sliceAt,l,Instr.slice,hb,(hT E ie K).b6];intro _;rcases a with _|⟨b,off,sp⟩<;>simp[Addr.add]
 cases p with
 |sl b off f _ _ _ hk ha hm' Qs =>
  exact Rd.sl b off f aq aq ay (λi hi=>hk i aq) (λG=>ha aq) (λi hi j c hj=>hm' i aq j c hj) (λi hi j c hj=>Qs i aq j c hj)
end
def ku.ad8{k q m:Nat}{Kq:Nat->List C}{sO:List ah}(h:ku M k n es vs)(b:ku M k m Kq sO)(d:q+m<=n):
  ku M k n (λi=>if q<=i/\i<q+m then Kq (i-q)else es i) (vs.take (q*k)++sO++vs.drop (q*k+V sO)):=by
 have hl:=h.len;have g:=b.len;have hb:q*k+m*k<=n*k:=by rw[<-jP];exact gX k d
 have l:V (vs.take (q*k))=q*k:=az;have a:∀p,(vs.take (q*k)++sO++vs.drop (q*k+V sO))[p]?=if p<q*k then vs[p]? else if p<q*k+m*k then sO[p-q*k]? else vs[p]?:=by
  intro p;by_cases c1:p<q*k
  .grind
  rw[bc c1];by_cases c2:p<q*k+m*k
  .grind
  rw[bc c2,iy az,pJ];grind
 refine⟨by grind,λi hi=>?_,λi hi j c hj=>?_⟩
 .by_cases e:q<=i/\i<q+m
  .rw[bh e];exact b.jy _ aq
  rw[bc e];exact h.jy i hi
 rw[a];by_cases e:q<=i/\i<q+m
 .rw[bh e]at hj;have f:j<k:=by have:=(cO.1 hj).1;rw[b.jy _ aq]at this;omega
  have e1:q*k<=i*k:=gX k e.1;have e2:i*k+k<=q*k+m*k:=by rw[<-jP,<-pK];exact gX k e.2
  rw[bc aq,bh aq];obtain⟨v,v1,o⟩:=b.rd (i-q) aq j c hj;grind[Nat.sub_mul]
 rw[bc e]at hj;have f:j<k:=by have:=(cO.1 hj).1;rw[h.jy i hi]at this;omega
 have:i*k+j<q*k∨q*k+m*k<=i*k+j:=by
  by_cases c1:i<q
  .left;have:i*k+k<=q*k:=by rw[<-pK];exact gX k c1
   omega
  right;have:(q+m)*k<=i*k:=gX k aq;grind
 rcases this with c1|c1
 .rw[bh c1];exact h.rd i hi j _ hj
 rw[bc aq,bc aq];exact h.rd i hi j _ hj
def Aa{E k k':Nat}{d:Nat->List C}{β:List Loc}(g:Rd s.M v (.sl W k' 0 d))(e:U'[l]?=O (.eX E k 0 es))(c:β[l]?=O ⟨.slice af 0 0,[]⟩):jh U' {s with β:=β} v (.bp l (.sl 0 k 0 0)):=by obtain⟨a,cap,vs,f,_,_,b,_,_⟩:=g.qp;have:=b Z;subst this;refine⟨.slice af 0 0,⟨a,af,0,0,f,by omega,Z,by omega,Z,λh=>absurd h aq⟩,(cO.1 e).1,λE2 k2 n2 Kq h=>?_⟩;rw[e]at h;cases h;exact⟨bm _,λ_=>⟨_,c,Z⟩⟩
def gA.ad9{β:List Loc}{es:Array bg}(h:gA {s with β:=β++[⟨v,[]⟩]} es)(a:s.β=β):gA s es:=by
 intro e c;have h1:=h e c;have key:∀b,(∃L∈β++[(⟨v,[]⟩:Loc)],b∈L.bs)->∃L∈s.β,b∈L.bs:=λb ⟨L,d,hb⟩=>by grind
 unfold pF at h1⊢;grind
def bU.Ol{ie:TI}(h:oc P o x y E ie){k m:Nat}{es':Nat->List C}(p:η x=b7 (.sl W k 0 es))(i:∀s v,ey U s v (η y)->Rd s.M v (.sl tx ie.size m es'))(hb:(0+m)*ie.bytes<=140737488355328):
  bU P o η U (mE (V U) (.sl (0+m) ie.size 0 (0+m))) (U++[.eX E ie.size (0+m) (dv 0 es es')]):=by intro s q hh hr;have h1:=hr x;rw[p]at h1;have h2:=i s _ (hr y);obtain⟨n,g2⟩:=hh.jQ (B:=.eX E ie.size 0 es) (L:=⟨.slice af 0 0,[]⟩) (.refl _ _) rfl hh (.inl ⟨rfl,rfl⟩) ay;have b:jh (U++[.eX E ie.size 0 es]) {s with β:=s.β++[⟨.slice af 0 0,[]⟩]} (q x) (.bp (V U) (.sl 0 ie.size 0 0)):=Aa (E:=E) (es:=es) (gG h1) ay Hm;obtain⟨r,s',j,d,g,f,t⟩:=wM (P:=P) (U:=U++[.eX E ie.size 0 es]) (s:={s with β:=s.β++[⟨.slice af 0 0,[]⟩]}) (l:=V U) (es:=es) h n b ay h2 hb;have a:(U++[bq.eX E ie.size 0 es]).set (V U) (.eX E ie.size (0+m) (dv 0 es es'))=U++[.eX E ie.size (0+m) (dv 0 es es')]:=ay;rw[a]at d g f;exact⟨r,s',j,d,g,g2.trans f,t.ad9 Z⟩
def Hq(i j m:Nat)(es:Nat->List C):Nat->List C:=λq=>if i<=q/\q<i+m then es (j+(q-i))else es q
def bU.RD{ie:TI}(h:oc P o x y E ie){m:Nat}(hx:η x=mE l (.sl n ie.size 0 i))(hy:η y=mE l (.sl n ie.size j m))(hl:U[l]?=O (.eX E ie.size n es))(him:i+m<=n)(hjm:j+m<=n):
  bU P o η U (mE l (.sl n ie.size 0 (i+m))) (U.set l (.eX E ie.size n (Hq i j m es))):=by
 intro s ρ hh hr;obtain⟨t,t2,ti,ti2,ho,hi,hd,AK,ak⟩:=h.op;have h1:=hr x;rw[hx]at h1;change jh U s (ρ x) (.bp l _)at h1;have h2:=hr y;rw[hy]at h2;change jh U s (ρ y) (.bp l _)at h2;obtain⟨lv,⟨a,a0,cap,C,hv,N,hc2,hc3,Om,hc4⟩,_,hx3⟩:=h1;obtain⟨L,hL,Q⟩:=(hx3 _ _ _ _ hl).2 rfl;rw[Om]at Q;obtain⟨lv',⟨a',a0',f,c0',hv',ahN,amT,amU,ahO,amV⟩,_,ahP⟩:=h2;obtain⟨L',Y,H⟩:=(ahP _ _ _ _ hl).2 rfl;rw[hL]at Y;cases Y;rw[ahO,Q]at H;cases H;have hLm:=b9 hL;have hu:=hi.run_underlying (w:=s.w);have S:=AK.run_underlying (w:=s.w);rw[hd]at hu;rw[ak]at S;rw[dT ho,hv,hv'];by_cases hn0:n=0
 .have e1:i=0:=aq;have e2:m=0:=aq;subst hn0 e1 e2;have Z:U.set l (.eX E ie.size 0 (Hq 0 j 0 es))=U:=by
   have:Hq 0 j 0 es=es:=by funext q;exact j3
   rw[this];apply tb;grind
  have hz:Rd s.M (.slice a' 0 f) (.sl ae ie.size 0 λ_=>[]):=.sl 0 0 (λ_ _=>ai) aq aq ay (λi hi=>by omega) (λh=>by omega) (λi hi=>by omega) (λi hi=>by omega);have F:=lC (P:=P) (ty:=o.type) hi hd AK ak h.elem hh (a:=a) N hz;rw[Z];refine⟨.value (.slice a 0 cap),s,?_,?_,hh,.refl _ _,gD (l3 hi hd AK ak h.elem hh N hz)⟩
  .simp[F]
  exact⟨lv,⟨a,a0,cap,C,aK,N,hc2,hc3,Om,hc4⟩,(cO.1 hl).1,hx3⟩
 rcases hh.box l _ L hl hL with⟨e,_⟩|⟨b,c1,vs,R,rfl,g,hz1,hz2,hz3,ab,hM⟩
 .grind
 cases Q;have aa:0<cap:=aq;obtain⟨b1,e1,rfl⟩:=hc4 aa;cases e1;have ZD:C=cap:=aq;subst ZD;rw[show b=b from aK];have hvl:V vs=n*ie.size:=ab.len;have k:i+m<=C:=aq;have hik:i*ie.size+m*ie.size<=n*ie.size:=by rw[<-jP];exact gX _ him
 have hjk:j*ie.size+m*ie.size<=n*ie.size:=by rw[<-jP];exact gX _ hjm
 obtain⟨c1,c2⟩:=hh.Fb (b:=b) (vs:=vs) hM (λq v G=>by
  simp only[a9,g]
  grind)
 let d:=(vs.drop (j*ie.size)).take (m*ie.size);have hnl:V d=m*ie.size:=az;have hng:∀p,p<m*ie.size->d[p]?=vs[j*ie.size+p]?:=λp B=>by grind
 have X:ku s.M ie.size m (λq=>es (j+q)) d:=by
  refine⟨hnl,λq G=>ab.jy _ aq,λq G p c B=>?_⟩;have hpk:p<ie.size:=by have:=(cO.1 B).1;rw[ab.jy _ aq]at this;omega
  obtain⟨v,v1,v2⟩:=ab.rd (j+q) aq p c B;refine⟨v,?_,v2⟩;have hq2:q*ie.size+ie.size<=m*ie.size:=Rr;grind
 have r:∀v∈d,v.oneCell'=W:=X.cell;have hrd:Rd (λu q=>if u=b then vs[q]? else s.M u q) (.slice a' m f) (.sl ae ie.size m (Qp ie.size λq p=>vs.getD ((j+q)*ie.size+p) ai)):=by
  refine .sl b (j*ie.size) (λq p=>vs.getD ((j+q)*ie.size+p) ai) ahN aq ay (λq _=>by simp[Qp]) (λB=>az) (λq G p c B=>?_) (λq G p c B=>?_)
  .obtain⟨p1,_⟩:=um B;have hq2:q*ie.size+ie.size<=m*ie.size:=Rr;grind
  obtain⟨p1,rfl⟩:=um B;obtain⟨c',hc'⟩:∃c',(es (j+q))[p]?=O c':=⟨_,bD (by rw[ab.jy _ aq];exact p1)⟩
  obtain⟨v,v1,v2⟩:=ab.rd (j+q) aq p c' hc';have e:vs.getD ((j+q)*ie.size+p) ai=v:=az;rw[e];exact .val v2.cell
 obtain⟨z,hF',hf,hlen⟩:=fg (P:=P) (s:={s with M:=λu q=>if u=b then vs[q]? else s.M u q}) c1 hrd;have hnn:z=d:=by
  apply tb;intro p;have He:V z=m*ie.size:=hF'.len;by_cases B:p<m*ie.size
  .have hk:0<ie.size:=az;have G:p / ie.size<m:=wB az;have hqk:p / ie.size*ie.size+p % ie.size=p:=zV p ie.size;obtain⟨v,v1,v2⟩:=hF'.rd _ G (p % ie.size) _ (Kr (rN _ hk));rw[hqk]at v1;rw[v1,hng p B,Rd.fM v2];rw[jP,Nat.add_assoc,hqk,aj,bD aq];rfl
  grind
 subst hnn;have hev:=jc (P:=P) (s:={s with M:=λu q=>if u=b then vs[q]? else s.M u q}) c1 hrd (w:=s.w) rfl;replace hf:(Builtin.firstCells ie.size m (.slice a' m f)).run P s.w=.ok d.toArray s.w:=hf;have am3:i*ie.size+V d<=V (vs++R):=az;have D:=run_storeCells_at P b (i*ie.size) E d 0 (vs++R).toArray s.w g az r;simp only[iN]at D;have RE:((vs++R).toArray.toList.take (i*ie.size)++d++(vs++R).toArray.toList.drop (i*ie.size+V d))=vs.take (i*ie.size)++d++vs.drop (i*ie.size+V d)++R:=az;rw[RE]at D;have q2:=ab.ad8 X him;have he:(λq=>if i<=q/\q<i+m then(λq=>es (j+q)) (q-i)else es q)=Hq i j m es:=rfl;rw[he]at q2;obtain⟨t1,t2'⟩:=hh.ft hl hL hz1 hz2 hz3 g q2 az hM;have A:(Builtin.lenOf (.slice a' m f)).run P s.w=.ok m s.w:=j3;have J:(Builtin.lenOf (.slice a' m f)).events P s.w #[]=#[]:=j3;refine⟨.value (.slice (O ⟨b,0*ie.size,af⟩) (i+m) C),_,?_,?_,t1,t2',gD ?_⟩
 .have F:(Builtin.append_ #[t,t2] o.type #[.slice (O ⟨b,0*ie.size,af⟩) i C,.slice a' m f]).run P s.w=.ok (.slice (O ⟨b,0*ie.size,af⟩) (i+m) C) (s.w.setRow b (vs.take (i*ie.size)++d++vs.drop (i*ie.size+V d)++R).toArray):=by unfold Builtin.append_;simp only[j9,lH,nS,cf,hu,S,cA,h.elem.b6,dN,kY,cC,A,k,cv,gm,hf,eg,Nat.zero_mul,b8,D]
  grind[Go.Sem.run_bind,Go.Result.andThen_ok,Go.Sem.run_pure]
 .exact⟨.slice (O ⟨b,0,af⟩) 0 C,⟨_,_,C,C,aK,k,by omega,hc3,aK,λ_=>⟨b,aK,aK⟩⟩,by grind,λE2 k2 n2 Kq he2=>by rw[js (cO.1 hl).1]at he2;cases he2;exact⟨bm _,λ_=>⟨_,hL,aK⟩⟩⟩
 .intro e K;unfold Builtin.append_ at K;simp only[j9,lH,nS,aM,cf,hu,S,aP,h.elem.b6,dN,kY,cC,A,J,k,cv,gm,hf,eg,Nat.zero_mul,b8,D,
   uk,Sem.events_ite,events_underlying,events_sizeOf,bG]at K
  rcases fj d 0 (vs++R).toArray s.w _ g az r e K with h3|⟨p,_,_,rfl⟩
  .have h4:gA {s with M:=λu q=>if u=b then vs[q]? else s.M u q} #[e]:=gA.bX (vo (hev e h3));exact h4.AJ (b:=b) hLm ay c2 (λu q v hv=>by grind) e ay
  grind[l4]
section
variable {T:List (Nat×TI)}
theorem bU.slice3B(hT:dA P T){w z:aG}(h:o.op=.slice t x (O w) (O y) (O z)){D ie:TI}(F:bY T t=O D)(N:D.desc=.slice E)(K:bY T E=O ie){g k q:Nat}{s u v:IntKind}{i j m:Int}(H:η x=mE l (.sl g k q n))(S:η w=b7 (.int s i))(R:η y=b7 (.int u j))(J:η z=b7 (.int v m))(Y:0<=i)(h1:i<=j)(h2:j<=m)(ab:m<=n):bU P o η U (.e (.bX .any)) U:=by
 refine .dw λst ρ hh hr=>?_;have r:=hr x;rw[H]at r;change jh U st (ρ x) (.bp l _)at r;obtain⟨lv,⟨a,a0,cap,X,G,M,AK,Q,aa,ak⟩,_,_⟩:=r;have b:=hr w;rw[S]at b;replace b:=gG b;generalize A:ρ w=vw at b;cases b;have d:=hr y;rw[R]at d;replace d:=gG d;generalize B:ρ y=vy at d;cases d;have f:=hr z;rw[J]at f;replace f:=gG f;generalize C:ρ z=vz at f;cases f;have p:=(hT t D F).run_underlying (w:=st.w);rw[N]at p;have hb:(bk W n cap (O (.int s i)) (O (.int u j)) (O (.int v m))).run P st.w=.ok (i.toNat,j.toNat,m.toNat) st.w:=by simp[bk,run_sliceBound (P:=P) st.w v m cap _ aq aq,run_sliceBound (P:=P) st.w u j m.toNat _ aq aq,run_sliceBound (P:=P) st.w s i j.toNat _ aq aq]
 have L:(bk W n cap (O (.int s i)) (O (.int u j)) (O (.int v m))).events P st.w #[]=#[]:=by
  simp[bk,run_sliceBound (P:=P) st.w v m cap _ aq aq,run_sliceBound (P:=P) st.w u j m.toNat _ aq aq,run_sliceBound (P:=P) st.w s i j.toNat _ aq aq,
   eB (P:=P) st.w v m cap _ aq aq,eB (P:=P) st.w u j m.toNat _ aq aq,eB (P:=P) st.w s i j.toNat _ aq aq]
 refine⟨.slice (if m.toNat=i.toNat then a else a.map (·.add (i.toNat*ie.size))) (j.toNat-i.toNat) (m.toNat-i.toNat),?_,Z,by simp[ar,h,G,A,B,C,Instr.sliceAt,p,Instr.slice,hb,L]⟩;simp[ar,h,G,A,B,C,Instr.sliceAt,p,Instr.slice,hb,(hT E ie K).b6]
end
section drop
variable {σ1 rest:List bq}
def St.cut(s:St)(n:Nat):St:={s with β:=s.β.take n}
def jh.drop{a:A}(r:jh (σ1++rest) s v a)(d:Ov (V σ1) a=W):jh σ1 (s.cut (V σ1)) v a:=by
 have lt:∀{l:Nat},bP (l+1) (V σ1)=W->l<V σ1:=λh=>fY h;cases a with
 |c x=>exact r
 |any=>exact r
 |ptr l o =>
  have hl:=lt d;obtain⟨f,L,b,p,g⟩:=r;refine⟨λB m=>f B az,L,b,?_,g⟩;simp only[St.cut,hU,hl,cv];exact p
 |oY l =>
  have hl:=lt d;obtain⟨f,L,p,g⟩:=r;refine⟨λB m=>f B az,L,?_,g⟩;simp only[St.cut,hU,hl,cv];exact p
 |bp l w =>
  have hl:=lt d;obtain⟨lv,f,_,g⟩:=r;refine⟨lv,f,hl,λE k' n' es' m=>?_⟩;obtain⟨h1,h2⟩:=g E k' n' es' az;refine⟨h1,λe=>?_⟩;obtain⟨L,i,j⟩:=h2 e;refine⟨L,?_,j⟩;simp only[St.cut,hU,hl,cv];exact i
 |dk l k n es =>
  have hl:=lt d;obtain⟨f,_,g⟩:=r;refine⟨f,hl,λE k' n' es' m=>?_⟩;obtain⟨h1,h2⟩:=g E k' n' es' az;refine⟨h1,λe=>?_⟩;obtain⟨L,i,j⟩:=h2 e;refine⟨L,?_,j⟩;simp only[St.cut,hU,hl,cv];exact i
def fD.x9:∀{vs:List ah}{cs:List A},fD (σ1++rest) s vs cs->MV (V σ1) cs=W->fD σ1 (s.cut (V σ1)) vs cs
 |[],[],_,_=>trivial
 |[],_::_,r,_=>r.elim
 |_::_,[],r,_=>r.elim
 |v::vs,c::cs,r,h=>by
  simp only[MV]at h;cases a:Ov (V σ1) c with
  |false=>grind
  |true=>simp only[a]at h;exact⟨r.1.drop a,fD.x9 r.2 h⟩
def qF.x9{v:ah}{e:E1}(r:qF (σ1++rest) s v e)(h:Kz (V σ1) e=W):qF σ1 (s.cut (V σ1)) v e:=by
 cases e with
 |bX a=>exact jh.drop r h
 |agg cs=>obtain⟨vs,h1,h2⟩:=r;exact⟨vs,h1,fD.x9 h2 h⟩
def j4.x9:∀{vs:List ah}{cs:List E1},j4 (σ1++rest) s vs cs->C6 (V σ1) cs=W->j4 σ1 (s.cut (V σ1)) vs cs
 |[],[],_,_=>trivial
 |[],_::_,r,_=>r.elim
 |_::_,[],r,_=>r.elim
 |v::vs,c::cs,r,h=>by
  simp only[C6]at h;cases a:Kz (V σ1) c with
  |false=>grind
  |true=>simp only[a]at h;exact⟨qF.x9 r.1 a,j4.x9 r.2 h⟩
def ey.drop{d:D}(r:ey (σ1++rest) s v d)(h:C7 (V σ1) d=W):ey σ1 (s.cut (V σ1)) v d:=by
 cases d with
 |e x=>exact qF.x9 r h
 |gI xs=>obtain⟨vs,h1,h2⟩:=r;exact⟨vs,h1,j4.x9 h2 h⟩
 |any=>trivial
def dE.drop{U0:List bq}{s0:St}(st:dE U0 s0 (σ1++rest) s)(a:U0.length<=V σ1):dE U0 s0 σ1 (s.cut (V σ1)):=by refine⟨st.size,st.keep,st.mem,st.lJ,λL c b hb=>st.Ab L (hO c) b hb,?_,st.os,st.tape,st.output,st.own⟩;intro l B L hB c;obtain⟨B',L',h1,h2,d⟩:=st.box l B L hB c;have hl:l<V σ1:=eb (cO.1 hB).1 a;rw[j8 hl]at h1;exact⟨B',L',h1,by simp only[St.cut,hU,hl,cv];exact h2,d⟩
def jh.wZ{a:A}(hl:V s.β=V U)(r:jh U s v a):Ov (V U) a=W:=by
 have ok:∀{l:Nat},l<V U->bP (l+1) (V U)=W:=λh=>wy h;have lt:∀{l:Nat} {L:Loc},s.β[l]?=O L->l<V U:=λh=>by grind
 cases a with
 |c x=>rfl
 |any=>rfl
 |ptr l o=>obtain⟨_,L,b,d,_⟩:=r;exact ok (lt d)
 |oY l=>obtain⟨_,L,d,_⟩:=r;exact ok (lt d)
 |bp l w=>obtain⟨lv,_,h,_⟩:=r;exact ok h
 |dk l k n es=>exact ok r.2.1
def fD.wZ{U:List bq}(hl:V s.β=V U):∀{vs:List ah}{cs:List A},fD U s vs cs->MV (V U) cs=W
 |[],[],_=>rfl
 |[],_::_,r=>r.elim
 |_::_,[],r=>r.elim
 |v::vs,c::cs,r=>by simp only[MV,r.1.wZ hl];exact fD.wZ hl r.2
def qF.wZ{U:List bq}(hl:V s.β=V U){v:ah}{e:E1}(r:qF U s v e):Kz (V U) e=W:=by
 cases e with
 |bX a=>exact jh.wZ hl r
 |agg cs=>obtain⟨vs,_,h⟩:=r;exact fD.wZ hl h
def j4.wZ{U:List bq}(hl:V s.β=V U):∀{vs:List ah}{cs:List E1},j4 U s vs cs->C6 (V U) cs=W
 |[],[],_=>rfl
 |[],_::_,r=>r.elim
 |_::_,[],r=>r.elim
 |v::vs,c::cs,r=>by simp only[C6,qF.wZ hl r.1];exact j4.wZ hl r.2
def ey.wZ{U:List bq}(hl:V s.β=V U){v:ah}{d:D}(r:ey U s v d):C7 (V U) d=W:=by
 cases d with
 |e x=>exact qF.wZ hl r
 |gI xs=>obtain⟨vs,_,h⟩:=r;exact j4.wZ hl h
 |any=>rfl
def KG(n:Nat)(U0:List bq)(l:Nat)(B:bq):Prop:=(∃E cs,B=.cells E cs/\MV n cs=W)∨U0[l]?=O B∨(∃N J r r',B=.loop N J r/\U0[l]?=O (.loop N J r'))∨((∀E cs,B≠.cells E cs)/\∀N J r,B≠.loop N J r)
def aH.ZN{s0:St}{U0:List bq}(i:aH U0 s0)(a:U0.length=V σ1)(u:∀(l:Nat)(B:bq),σ1[l]?=O B->KG (V σ1) U0 l B)(h:aH (σ1++rest) s):aH σ1 (s.cut (V σ1)):=by
 have hl:V σ1<=V s.β:=by rw[h.len];simp
 refine⟨h.mem,by simp[St.cut,hl],?_,?_,?_,λb hb=>⟨(h.own b hb).1,λL d=>(h.own b hb).2 L (hO d)⟩⟩
 .intro l B L hB d;have j:l<V σ1:=(cO.1 hB).1;simp only[St.cut,hU,j,cv]at d;have c:=h.box l B L az d;have f:∃m,s0.β[l]?=O m:=⟨_,bD (by rw[i.len,a];exact j)⟩
  obtain⟨m,f⟩:=f;have y:=i.len.trans a;cases B with
  |cells E cs =>
   obtain⟨b,vs,h1,h2,o,p⟩:=c;refine⟨b,vs,h1,h2,fD.x9 o ?_,p⟩;rcases u l _ hB with⟨_,_,e,q⟩|q|⟨_,_,_,_,e,_⟩|q
   .grind
   .obtain⟨_,_,_,_,v,_⟩:=i.box l _ m q f;exact a▸v.wZ i.len
   .cases e
   grind
  |dk E k n es=>exact c
  |cJ H=>exact c
  |cg=>trivial
  |loop N J r =>
   obtain⟨l',tmps,fn,z,h1,h2,o,p,x⟩:=c;have key:∃r',U0[l]?=O (.loop N J r'):=by
    rcases u l _ hB with⟨_,_,e,_⟩|q|⟨_,_,_,r',e,q⟩|q
    .cases e
    .grind
    .grind
    grind
   obtain⟨r',q⟩:=key;obtain⟨_,_,_,_,_,_,_,w,_⟩:=i.box l _ m q f;exact⟨l',tmps,fn,z,h1,h2,o,λt=>(p t).drop (a▸(w t).wZ i.len),x⟩
  |vr=>exact c
  |eX E k n es=>exact c
 .intro l l' L L' d g b hb qq;simp only[St.cut,hU]at d g;split at d<;>split at g<;>first|exact h.gY l l' L L' d g b hb qq|grind|grind
 intro L d b hb;exact h.lt L (hO d) b hb
def aH.aeC{s0:St}(a:aH σ1 s0)(h:aH (σ1++rest) s):aH σ1 (s.cut (V σ1)):=a.ZN Z (λ_ _ h=>.inr (.inl h)) h
def OA.HI{X:Cx P}{k:Nat}(h:OA X N all o J U (.e (.bX (.dk (V U) k n es))) (U++[.dk E k n es])):OA X N all o J U (b7 (.sl ae k n es)) U:=by
 intro s a f hh b kk cs S i rest hb hi hK;refine h s a f hh b kk cs S i rest hb hi λv s' hv lj st=>?_;have g:gn s' (s'.cut (V U)):=⟨rfl,λ_ _ _ h=>h,λ_ _ _=>rfl,lj.mem,λb hb=>hb.imp id λ⟨L,d,hb⟩=>⟨L,hO d,hb⟩⟩
 exact .c8 g (hK v (s'.cut (V U)) hv.1 (hh.aeC lj) (st.drop (bm _)))
end drop
end Go.AM
