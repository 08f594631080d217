/- Part 1. No condition. -/
import Derived.KernelRfl
import Derived.Tactics2
import Derived.LaidSub
import Derived.LaidLaws
import Derived.LaidHandle
import Derived.Conc.Own
import Derived.Conc.Events
import Derived.Conc.Listed
import Derived.Laws.CopyRow
import Derived.Laws.AppendOwn
import Derived.Laws.Rows
import Derived.Laws.Strings
import Derived.Laws.Cells
import Derived.Lib.Strings
import Derived.Laws.Slices
import Derived.Orders
import Derived.Laws.StructEq
set_option linter.all false
set_option maxHeartbeats 8000000
open Go.Conc (G)
open List renaming length → c, range → az, replicate → aW, getD_eq_getElem?_getD → aj
open Go renaming Value → X, TypeId → al, Event → aR, undef → I, World → ar, Frame → aG, FuncId → a1, execOp → ab, Operand → ae, Program → aE, Goroutine → ai, stepG → aq, Oper → ao
open Option renaming some → f, none → n
open Bool renaming true → l, false → v
open Nat renaming beq → ad, ble → ay
open Go.Region renaming wanted → aS, ready → aP
open Go.World renaming cell? → aJ
open Go.Op renaming bytesLess → aT, equalIn → aN
open Go.Sem renaming events_bind → aD
open Go.Result renaming evThen_ok → aF
open Go.Instr renaming sliceBounds → aV
set_option linter.defProp false
set_option linter.deprecated false
namespace Go
def A:=@_root_.trivial
def bw:=@_root_.decide_eq_true_eq
def bI:=@_root_.List.getElem?_eq_getElem
def a7:=@_root_.and_true
def a':=@_root_.true_and
def b8:=@_root_.List.mem_of_getElem?
def dp:=@_root_.decide_eq_false_iff_not
def cO:=@_root_.List.getElem?_eq_some_iff
def dn:=@_root_.Nat.eq_of_beq_eq_true
def cZ:=@_root_.Int.toNat_natCast
def bA:=@_root_.Nat.le_refl
def df:=@_root_.List.length_append
def cn:=@_root_.Bool.and_eq_true
def c9:=@_root_.Go.Result.andThen_ok
def cW:=@_root_.Nat.zero_add
def cY:=@_root_.List.take_length
def bm:=@_root_.if_neg
def bo:=@_root_.if_pos
def cK:=@_root_.Go.Sem.run_bind
def gh:=@_root_.List.length_singleton
def hA:=@_root_.Array.getD_eq_getD_getElem?
def e0:=@_root_.beq_eq_false_iff_ne
def eC:=@_root_.Nat.lt_of_lt_of_le
def fq:=@_root_.Nat.le_of_ble_eq_true
def hn:=@_root_.List.getElem_of_mem
def e1:=@_root_.Option.some.injEq
def ho:=@_root_.List.getElem?_append_right
def fh:=@_root_.List.length_cons
def g7:=@_root_.Nat.mul_le_mul_right
def jB:=@_root_.List.eq_nil_of_length_eq_zero
def dZ:=@_root_.Go.Sem.run_pure
def gi:=@_root_.beq_self_eq_true
def dW:=@_root_.Nat.lt_or_ge
def iG:=@_root_.Array.getElem?_eq_getElem
def gY:=@_root_.List.mem_of_mem_take
def iq:=@_root_.List.getElem?_set_self
def gw:=@_root_.Bool.not_true
def gJ:=@_root_.List.mem_singleton
def fy:=@_root_.List.mem_append
def jd:=@_root_.Array.getElem?_eq_some_iff
def hB:=@_root_.not_true_eq_false
def fQ:=@_root_.decide_eq_true
def e8:=@_root_.List.mem_cons
def dm:=@_root_.if_false
def m3:=@_root_.List.pairwise_iff_getElem
def gK:=@_root_.List.length_nil
def iH:=@_root_.List.pairwise_cons
def j6:=@_root_.List.getElem?_append_left
def h2:=@_root_.List.getElem?_take
def fR:=@_root_.Bool.true_and
def iI:=@_root_.bne_self_eq_false
def hp:=@_root_.List.append_nil
def fG:=@_root_.Nat.le_trans
def ir:=@_root_.List.mem_cons_self
def dA:=@_root_.if_true
def je:=@_root_.Bool.not_eq_true'
def h3:=@_root_.Option.getD_some
def is:=@_root_.Bool.not_false
def uy:=@_root_.List.take_append_drop
def j7:=@_root_.List.length_filter_le
def j8:=@_root_.List.getElem?_toArray
def j9:=@_root_.List.getElem?_set_ne
def pZ:=@_root_.List.ext_getElem?
def gL:=@_root_.beq_iff_eq
def sy:=@_root_.List.take_add_one
def eD:=@_root_.congrArg
def j_:=@_root_.Bool.false_eq_true
def iJ:=@_root_.Nat.not_lt_zero
def iK:=@_root_.List.mem_filter
def iL:=@_root_.List.foldl_cons
def mf:=@_root_.List.getElem?_cons_zero
def hq:=@_root_.List.mem_map
def gZ:=@_root_.Nat.zero_le
def jC:=@_root_.Bool.or_eq_true
def kE:=@_root_.List.length_map
def m4:=@_root_.Array.length_toList
def mg:=@_root_.List.mem_cons_of_mem
def wW:=@_root_.Array.getElem?_replicate
def nY:=@_root_.List.getElem?_cons_succ
def AG:=@_root_.List.findIdx?_eq_some_iff_getElem
def m5:=@_root_.List.pairwise_append
def AH:=@_root_.List.mem_iff_getElem
def mh:=@_root_.List.append_assoc
def sz:=@_root_.Nat.beq_refl
def d6:=@_root_.ne_eq
def j':=@_root_.bne_iff_ne
def lD:=@_root_.Option.map_some
def jD:=@_root_.Nat.add_mul
def p0:=@_root_.List.map_congr_left
def p1:=@_root_.not_false_eq_true
def ka:=@_root_.Nat.add_zero
def m6:=@_root_.List.getElem?_map
def uz:=@_root_.Array.getElem?_setIfInBounds_self_of_lt
def sA:=@_root_.Array.getElem?_setIfInBounds_ne
def m7:=@_root_.decide_true
def nZ:=@_root_.Nat.eq_zero_or_pos
def wX:=@_root_.Array.mapM_eq_mapM_toList
def lE:=@_root_.Prod.mk.injEq
def n0:=@_root_.Option.bind_some
def p3:=@_root_.List.mem_of_mem_drop
def wM:=@_root_.Array.toArray_toList
def me:=@_root_.List.map_cons
def q9:=@_root_.Option.map_eq_some_iff
def oR:=@_root_.List.getElem?_set
def oS:=@_root_.decide_eq_false
def pS:=@_root_.Nat.add_sub_cancel
def pT:=@_root_.List.getElem?_drop
def oT:=@_root_.decide_false
def An:=@_root_.Option.isSome_iff_exists
def oU:=@_root_.Nat.succ_mul
def pU:=@_root_.Nat.mod_lt
def oV:=@_root_.Bool.eq_iff_iff
def sm:=@_root_.List.filter_eq_self
def q_:=@_root_.Int.toNat_of_nonneg
def pV:=@_root_.Bool.not_eq_true
def oW:=@_root_.List.mapM_cons
def q':=@_root_.Int.emod_lt_of_pos
def Ao:=@_root_.Bool.and_eq_false_iff
def RZ:=@_root_.List.drop_eq_getElem_cons
def pW:=@_root_.List.nil_append
def ra:=@_root_.of_decide_eq_true
def sn:=@_root_.Nat.div_lt_of_lt_mul
def rb:=@_root_.List.pairwise_map
def uq:=@_root_.Nat.le_mul_of_pos_right
def re:=@_root_.List.mem_range
def rf:=@_root_.List.mem_flatMap
def so:=@_root_.List.length_drop
def rg:=@_root_.List.filter_cons
def rh:=@_root_.List.ext_getElem
def lC:=@_root_.true_or
def Ap:=@_root_.Bool.not_eq_false'
def ur:=@_root_.UInt8.toNat_inj
def ri:=@_root_.Int.emod_nonneg
def Aq:=@_root_.Nat.ble_eq_true_of_le
def us:=@_root_.Array.mem_of_getElem?
def sq:=@_root_.List.flatMap_cons
def sr:=@_root_.Nat.sub_zero
def ut:=@_root_.Nat.div_add_mod'
def ss:=@_root_.List.not_mem_nil
def wN:=@_root_.List.mem_of_find?_eq_some
def su:=@_root_.Option.some.inj
def FZ:=@_root_.List.take_of_length_le
def wO:=@_root_.List.range_succ_eq_map
def uu:=@_root_.List.foldl_append
def sv:=@_root_.Bool.false_and
def wP:=@_root_.List.getElem?_eq_none
def pX:=@_root_.Nat.not_lt
def uv:=@_root_.List.drop_length
def uw:=@_root_.List.cons_append
def wQ:=@_root_.Bool.or_eq_false_iff
def wR:=@_root_.List.length_set
def R0:=@_root_.bne_eq_false_iff_eq
def wS:=@_root_.Nat.mul_le_mul_left
def sw:=@_root_.Nat.sub_self
def Ar:=@_root_.List.getElem?_concat_length
def F0:=@_root_.List.length_eraseIdx_of_lt
def As:=@_root_.List.mem_or_eq_of_mem_set
def Au:=@_root_.Nat.lt_succ_iff_lt_or_eq
def F1:=@_root_.List.set_eq_of_length_le
def sx:=@_root_.Go.Sem.run_ite
def Av:=@_root_.Nat.add_sub_cancel_left
def wT:=@_root_.List.getElem_mem
def wU:=@_root_.Nat.mul_comm
def ux:=@_root_.List.map_map
def F2:=@_root_.List.drop_eq_nil_of_le
def Aw:=@_root_.Array.getElem?_eq_none
def Ax:=@_root_.List.contains_iff_mem
def F3:=@_root_.Array.getElem?_toList
def Ay:=@_root_.Array.getElem?_modify
def Az:=@_root_.Nat.pow_le_pow_right
def AA:=@_root_.List.mem_append_left
def AB:=@_root_.List.getElem?_of_mem
def pY:=@_root_.Ne.symm
def AD:=@_root_.Nat.add_sub_cancel'
def AE:=@_root_.List.length_pos_iff
def wV:=@_root_.Nat.lt_irrefl
def AF:=@_root_.List.take_set
def bk{α:Sort _}{β:α→Sort _}{ak:(D:α)→β D}:∀D,ak D=ak D:=λ_=>rfl
def a{α:Sort _}{w:α}:w=w:=rfl
section
variable{S:Prop}
abbrev m.{bx}(α:Type bx):=List α
def u(s:S:=by omega):=s
def M(s:S:=by grind):=s
def C(s:S:=by simp):=s
def bF(s:S:=by kernel_rfl):=s
def bQ(s:S:=by simp;omega):=s
def ca(s:S:=by decide):=s
def dB(s:S:=by simp_all):=s
def ij(s:S:=by grind[ih]):=s
def h0(s:S:=by rw[bP.len];grind):=s
def sf(s:S:=by simp only[T,a8,bw,a',a7];and_intros<;>omega):=s
def lx(s:S:=by simp[a8]):=s
def qQ(s:S:=by simp[G,aq,stepG.exec,Frame.ab]):=s
def l7(s:S:=by simp only[phi];omega):=s
def tT(s:S:=by simp only[T,a8,a',a7];omega):=s
def NX(s:S:=by have h:D.data.toList.length=D.size:=m4;have t:bE.data.toList.length=bE.size:=m4;have au:IntKind.i64.max=9223372036854775807:=rfl;have B:D.data.toList.length+bE.data.toList.length<=9223372036854775807:=cv;grind):=s
def kT(s:S:=by simp[a8];omega):=s
def g6(s:S:=by simp[s]):=s
def qU(s:S:=by simp only[T,a7];omega):=s
def mU(s:S:=by apply pZ;grind):=s
def nM(s:S:=by simp only[a8];omega):=s
def E5(s:S:=by show(aN (9999+1) o _ _).run P b.a=_;unfold aN;simp[underlying,B]):=s
def Ff(s:S:=by simp[b2,B,j,h,d,ak,a2.T,bj.T,a3.T,aA.T,z];omega):=s
def wv(s:S:=by simp only[bU,cZ];omega):=s
def aed(s:S:=by rw[w];simp only[jp,Ao,dp];omega):=s
def Oo(s:S:=by unfold Func.isWrapper;first|(rw[bo (by decide +kernel)];kernel_rfl)|(rw[bm (by decide +kernel)];exact⟨rfl,rfl⟩)):=s
def Ft(s:S:=by rw[sy,<-aa2];simp[aj,s]):=s
def tW(s:S:=by rw[<-aY];decide +kernel):=s
def pH(s:S:=by grind[px]):=s
def l8(s:S:=by simp[b2]):=s
def ww(s:S:=by grind[List.getElem_of_mem]):=s
def qV(s:S:=by cases he):=s
def qW(s:S:=by rw[cW];rfl):=s
def zU(s:S:=by grind[L2]):=s
def Fu(s:S:=by rw[<-touchAt_old (u:=bx) (eC bp s.bO)];exact j):=s
def Fv(s:S:=by rw[<-touchAt_old (u:=bx) (eC bp s.bO)];exact h):=s
def Fw(s:S:=by grind[D0]):=s
def Qm(s:S:=by simp[-aX,-List.all_eq_false,b2,i,r,w,a2.T,bj.T,a3.T,ak,au,B]):=s
def zV(s:S:=by intro x aY aeg;grind[ady,Nd]):=s
def QH(s:S:=by show(aN (9999+1) o _ _).run P b.a=_;unfold aN;simp[underlying,j]):=s
def nN(s:S:=by simp;rfl):=s
def oI(s:S:=by rfl):=s
def Ra(s:S:=by rw[F3,iG (by omega:e<L.size)];simpa[hA,iG (by omega:e<L.size)]using H):=s
def tX(s:S:=by grind[kg]):=s
def Rg(s:S:=by refine Z.I Tryz.func309 rfl λw=>?_;exact cy rfl (by simp[a8]) (g.aq rfl)):=s
def Rh(s:S:=by simp only[ab,s];exact dz.bind dz.buildSlice (λ_=>dz.pure) _ _):=s
def Fx(s:S:=by simp[G,aq,stepG.exec,Frame.ab,s]):=s
def Ri(s:S:=by intro hS au r;match hS,r with|0,_=>exact .inr (by simp[deafBehind])|hS+1,r=>grind):=s
def wx(s:S:=by simp only[T,a8];omega):=s
def tY(s:S:=by simp[<-bP.len]):=s
def Rj(s:S:=by unfold hh;rw[mh];congr 1;rw[ih (by grind) (0,0)];grind):=s
def oJ(s:S:=by simp[w]):=s
def Fy(s:S:=by simp only[hA];grind):=s
def Rk(s:S:=by show -9223372036854775808<=_/\_<=9223372036854775807;unfold lr;omega):=s
def Rl(s:S:=by simp[ab,cv,resolve,invoke,builtin,Builtin.len_,ak,z,goInt,B]):=s
def zW(s:S:=by simp only[dT,sz]):=s
def Rm(s:S:=by unfold gf;rw[<-qK (d' D.2)];exact HK _):=s
def Fz(s:S:=by grind[List.drop_eq_getElem_cons]):=s
def Rn(s:S:=by grind[Array.mapM_eq_mapM_toList,Sem.run_map,Go.Result.andThen_ok]):=s
def Ro(s:S:=by rw[show((b.2.1.length:Int)-1).toNat=b.2.1.length-1 by omega];rfl):=s
def pI(s:S:=by simp[N]):=s
def FA(s:S:=by simp only[T,a8,a7];omega):=s
def FB(s:S:=by rw[<-oU];exact g7 _ bp):=s
def se(s:S:=by grind[nF]):=s
def wy(s:S:=by grind[mx]):=s
def zX(s:S:=by simp[World.freeze,ak]):=s
def FC(s:S:=by simp[b2,a3.l,a3.T]):=s
def tZ(s:S:=by simp[bs,au]):=s
def aee(s:S:=by decide +kernel):=s
def Rp(s:S:=by simp only[joinedFacts,cn];and_intros<;>decide +kernel):=s
def t0(s:S:=by grind[Nat.eq_of_beq_eq_true]):=s
def FD(s:S:=by grind[List.take_append_drop]):=s
def zY(s:S:=by show _*24<=_;omega):=s
def wz(s:S:=by simpa using s):=s
def zZ(s:S:=by unfold mH;grind):=s
def FE(s:S:=by simp[hK,i7,nx,ju]):=s
def FF(s:S:=by unfold jn;split<;>omega):=s
def Rq(s:S:=by simp[b2,bE,aa,eI,a2.T,bj.T,a3.T,a9]):=s
def FG(s:S:=by simp[a2.l,bj.l,a3.l,aA.l]):=s
def Rr(s:S:=by simp only[T,a8,a',a7];and_intros<;>omega):=s
def FH(s:S:=by simp[bs]):=s
def Rs(s:S:=by intro au r;simp at r;subst r;exact bk_cell _ _ rfl):=s
def z0(s:S:=by simp[au]):=s
def FI(s:S:=by rw[Op.bytesLess.eq_def]):=s
def Rt(s:S:=by simp[rn,e,bB.l,bB.T,r5,aa]):=s
def Ru(s:S:=by rw[<-h.bC i (λL W eI=>r ⟨L,W,eI⟩)];exact bi):=s
def z1(s:S:=by simpa using iN):=s
def t1(s:S:=by simp[jH]):=s
def Rv(s:S:=by simp only[T,a8,gw,a',a7];omega):=s
def z2(s:S:=by cases op<;>rfl):=s
def Rw(s:S:=by simp[ab,cv,resolve,invoke,builtin]):=s
def wA(s:S:=by simp[bU]):=s
def Rx(s:S:=by simp only[T,a8,dp,a',a7];omega):=s
def Ry(s:S:=by simp only[T,a8,bw,a',a7];omega):=s
def Rz(s:S:=by rw[show IntKind.u64.bits=64 from rfl];omega):=s
def FJ(s:S:=by rw[r];simp):=s
def RA(s:S:=by unfold cr;grind[List.take_append_drop]):=s
def RB(s:S:=by simp[ab,s,resolve,invoke,builtin]):=s
def RC(s:S:=by unfold dE;grind[List.take_append_drop]):=s
def FK(s:S:=by unfold fa;grind):=s
def z3(s:S:=by simp[fj]):=s
def NA(s:S:=by simp only[look];cases ad bx o<;>rfl):=s
def NB(s:S:=by simp only[T.Z,T,j,t,gi,a']):=s
def EI(s:S:=by rw[cH.au.size];omega):=s
def EJ(s:S:=by simp only[c_,i]):=s
def NC(s:S:=by simp only[T.Z,T,au,a',a7]):=s
def ND(s:S:=by show(b.a.drew.heap.push _).size=_;simp):=s
def NE(s:S:=by rw[F0 (by simp;omega)];simp;omega):=s
def NF(s:S:=by have:=KY ed;simp only[a8];omega):=s
def EK(s:S:=by unfold dq;omega):=s
def EL(s:S:=by simp[Act.eval,stA]):=s
def EM(s:S:=by simp only[dT,dt]):=s
def EN(s:S:=by simp only[dT,c5]):=s
def NG(s:S:=by have:=Vc_upd x (⟨1,0,1⟩:WD) hc;grind):=s
def we(s:S:=by simp[mk]):=s
def NH(s:S:=by simp only[fr,jC,bw];grind):=s
def wh(s:S:=by rw[upd_same];simp):=s
def NI(s:S:=by simp[World.shape?,a9.heap _ _ a9.cJ]):=s
def NJ(s:S:=by simp[Frame.enter,Frame.ab,o_,cT,i]):=s
def NK(s:S:=by simp only[T];exact aA.T _):=s
def NL(s:S:=by grind[run_store,setCell_eq_setRow]):=s
def ad'(s:S:=by simp[deafBehind]):=s
def EO(s:S:=by simp[bU];omega):=s
def NM(s:S:=by simp only[T,a',a7];omega):=s
def NN(s:S:=by unfold g4;rw[bm];grind):=s
def NO(s:S:=by unfold eQ Region.binds;grind):=s
def NP(s:S:=by simp[b2,F,a3.l,a3.T]):=s
def NQ(s:S:=by simp[fz]):=s
def EP(s:S:=by simp only[gm,nt,bm s];rfl):=s
def NR(s:S:=by have:=eD List.length br;grind):=s
def EQ(s:S:=by simp only;omega):=s
def NS(s:S:=by grind[YQ]):=s
def ER(s:S:=by grind[Option.isSome_iff_exists]):=s
def aea(s:S:=by rw[<-oU];exact g7 _ G):=s
def NT(s:S:=by simpa using List.find?_some i):=s
def NU(s:S:=by simp[zeroValue,typeInfo,Nu,a]):=s
def ES(s:S:=by grind[M6]):=s
def NV(s:S:=by simp only[gm,nt,dA,e]):=s
def aeb(s:S:=by rw[Jn B z aa];grind):=s
def aec(s:S:=by simpa using au):=s
def NW(s:S:=by simp[aJ,B,bp]):=s
def NY(s:S:=by simp only[ab,cv,t]):=s
def NZ(s:S:=by simp only[T,dp];omega):=s
def N1(s:S:=by simp only[T,bw];omega):=s
def N2(s:S:=by rw[<-d];simp only[KK];omega):=s
def N3(s:S:=by unfold fa at w⊢;grind):=s
def N4(s:S:=by simp[deafBehind,semEvents]):=s
def ET(s:S:=by simp[cr]):=s
def N5(s:S:=by simp[mo,List.drop_take]):=s
def EU(s:S:=by rw[iq bT]):=s
def fv(s:S:=by and_intros<;>omega):=s
def iD(s:S:=by exact .aK (a0.eQ (d:=0) bc rfl rfl rfl rfl rfl) rfl):=s
def jZ(s:S:=by rw[lF s M];simp):=s
def ky(s:S:=by exact dw _ _ rfl C):=s
def kz(s:S:=by refine g.b9 () [0,1,2] ?_ ng;simp):=s
def oH(s:S:=by refine g.b9 () [0,1] ?_ x9;simp):=s
def pG(s:S:=by simp only[T];grind):=s
def qR(s:S:=by exact .aK (a0.fJ rfl rfl Tryz.underlying22 rfl ca) rfl):=s
def qS(s:S:=by and_intros<;>first|rfl|omega):=s
def qT(s:S:=by simp only[T,cW,cZ,ak,a8,bw,a',a7];and_intros<;>omega):=s
def sa(s:S:=by refine g.freeze 4 1 rfl rfl rfl ?_;exact g.cr bc [] rfl C rfl rfl rfl eW):=s
def sb(s:S:=by show e+1<=_;omega):=s
def sc(s:S:=by exact bY.di [0] rfl A rfl rfl rfl ha):=s
def sd(s:S:=by simp only[T,a8];and_intros<;>omega):=s
def tU(s:S:=by exact g.aJ [0] rfl C sV):=s
def tV(s:S:=by simp only[T.Z,T,a',a7];and_intros<;>first|exact bs.same|exact t.2|rfl):=s
def wi(s:S:=by simp only[T,w,a8,bw,a',a7];and_intros<;>omega):=s
def wj(s:S:=by refine g.bN 6 rfl rfl rfl C C ?_;refine g.bN 7 rfl rfl rfl C C ?_;refine cU w rfl A ?_;refine g.b9 () [0,1,2] ?_ ng;simp[h',B]):=s
def wl(s:S:=by exactλt=>⟨.u,.u,.u,.eval (bf:=[]) bc w (cl:=[a8 .i64 _]) rfl lx,.eval (bf:=[]) bc w (cl:=[_,_]) rfl lx,.u,.u,A,.u,A⟩):=s
def wm(s:S:=by simp[hA,wW];split<;>simp):=s
def wn(s:S:=by exact⟨.u,.u,.u,.eval (bf:=[]) bc w (cl:=[a8 .i64 _]) rfl lx,.eval (bf:=[]) bc w (cl:=[_,_]) rfl lx,.u,.u,A,A,A⟩):=s
def wo(s:S:=by rw[wM]at this;exact this):=s
def wq(s:S:=by exact dV.cI (λ_ _ _ _=>i_ rfl) rfl rfl bx rfl C):=s
def wt(s:S:=by exact aO rfl A (g.aq rfl)):=s
def wu(s:S:=by refine g.eK 3 ?_;refine g.cL 9 rfl (λ_=>rfl) ?_;refine g.ret ?_;exact⟨⟨_,bs.same⟩,.inl rfl,rfl,rfl,_,_,_,rfl,rfl,rfl,rfl⟩):=s
def zD(s:S:=by exact aO rfl C (g.bu ⟨(7,.inl d),by simp only;omega⟩ (g.aJ [] rfl C eW))):=s
def zE(s:S:=by rw[r];simp only[T.Z,T,N,df,gh,a',a7];and_intros<;>first|exact bs.same|exact ak bE|rfl|omega):=s
def zF(s:S:=by exact aO rfl C (g.bu ⟨(7,.inr (S,U)),by simp only;omega⟩ (g.aJ [] rfl C eW))):=s
def zG(s:S:=by rw[ofEvent_loc_mark bi]at r;cases r):=s
def zH(s:S:=by rw[i];simp only[ak];simp;exact N):=s
def zI(s:S:=by and_intros<;>first|exact j|omega):=s
def zJ(s:S:=by grind [Ss,aZ.a1,a0.bits]):=s
def zK(s:S:=by refine g.freeze 8 1 rfl rfl rfl ?_;exact g.cr bc [] rfl C rfl rfl rfl eW):=s
def zL(s:S:=by rw[T,Zg s aed]):=s
def zM(s:S:=by simp only[T,a8,dp,a',a7];and_intros<;>omega):=s
def zN(s:S:=by simp only[T,cW,cZ,bx,bi,a8,bw,a',a7];and_intros<;>omega):=s
def zO(s:S:=by exact a5 [-16] rfl bG (g.aw (e+1) rfl C C M u)):=s
def zP(s:S:=by simp only[T,ak,a8,show d9.bytes=8 from rfl,bw,dp,gL,e0,j',R0,d6];and_intros<;>first|rfl|omega|(simp[g9,iN];done)):=s
def zQ(s:S:=by exact cU w rfl A (g.aq rfl)):=s
def zR(s:S:=by refine g.aA (qg b w.aY w.bm w.aZ w.bx w.aL) [] rfl ?_;refine cU r rfl A ?_;refine g.freeze 8 1 rfl rfl rfl ?_;refine g.cr bc [] rfl ?_ rfl rfl rfl eW;simp):=s
def zS(s:S:=by simp only[T,cW,cZ,B,a8,bw,a',a7];and_intros<;>omega):=s
def zT(s:S:=by simp only[T,a2.l,a2.T,bj.l,bj.T,a3.l,a3.T,aA.l,aA.T,bB.l,bB.T,w,r,r5,N,i,gw,is,a',a7];simp):=s
def EV(s:S:=by exact⟨by omega,by omega,by grind[L0]⟩):=s
def EW(s:S:=by exact aZ.eval (bf:=[]) bc ba.nil rfl cv):=s
def EX(s:S:=by intro e q cv bp;simp[hA,wW]at bp;split at bp<;>simp at bp):=s
def EY(s:S:=by refine g.aq rfl ?_;simp[bs,cf]):=s
def EZ(s:S:=by have:(w==i)=v:=e0.2 M;simp[this]):=s
def E0(s:S:=by exact⟨bT,cu,by grind,lP,.refl _ _⟩):=s
def E2(s:S:=by refine g.eK 2 ?_;refine g.cL 9 rfl (λ_=>rfl) ?_;refine g.cL 10 rfl (λ_=>rfl) ?_;refine g.ret ?_;exact⟨⟨_,bs.same⟩,.inl rfl,rfl,rfl,_,_,_,rfl,rfl,rfl,rfl⟩):=s
def E3(s:S:=by refine g.b9 () [] ?_ eW;simp):=s
def E4(s:S:=by grind [Go.Conc.mem_ofEvents]):=s
def E6(s:S:=by simp only[T,w,a8,show nq.bytes=32 from rfl,show mz.bytes=24 from rfl,bw,lC,a',a7];and_intros<;>omega):=s
def E7(s:S:=by simp only[T,ak,a8,show o'.bytes=16 from rfl,bw,dp,je,Ap,gL,e0,j',d6,au,heq,hB,p1,gi,gw,iI,m7,oT,a',a7];and_intros<;>omega):=s
def E8(s:S:=by simp only[T,a2.l,a2.T,bj.l,bj.T,a3.l,a3.T,aA.l,aA.T,bB.l,bB.T,w,ak,B,q,aa,m7,and_self,gw,is,a',a7]):=s
def E9(s:S:=by refine g.bB 6 91 2 rfl rfl (g.a_ [m8 []] rfl C (g.aJ [0] rfl C ?_));grind):=s
def E_(s:S:=by simp only[T,w,a8,show rG.bytes=32 from rfl,a',a7];and_intros<;>omega):=s
def E'(s:S:=by refine be e [917] rfl A ?_;exact dw _ _ rfl C):=s
def Fa(s:S:=by simp only[T,df,a8,bw,dp,a',a7];and_intros<;>omega):=s
def Fb(s:S:=by refine g.aJ [0] rfl ?_ (λt w=>absurd w C);simp):=s
def Fc(s:S:=by exact⟨λ_ _ _ _ he=>qV,λ_=>⟨λ_ _ _ _ he=>qV,.inl rfl⟩⟩):=s
def Fe(s:S:=by refine cU w rfl A ?_;refine g.b9 () [0,1] ?_ x9;simp):=s
def Fg(s:S:=by simp only[T,w,dp];and_intros<;>omega):=s
def Fh(s:S:=by grind[List.pairwise_iff_getElem]):=s
def Fi(s:S:=by exact⟨s.a.mono u,b2.1,b2.2⟩):=s
def Fj(s:S:=by obtain⟨_,N⟩:=JW bp;simp only[sr]at N;have au:e<aU.length:=(cO.1 N).1;exact⟨by simp[ku,ld,N],Aq au⟩):=s
def Fk(s:S:=by have au:=bj.cV b.2.1 s (0,[]);simp only[T.Z,T,i,cA.l,a7,a'];exact⟨⟨bs.same,bs.same,bs.same⟩,⟨bs.same,bs.same,bs.same⟩,⟨rfl,bs.same⟩,bs.same,au⟩):=s
def Fl(s:S:=by obtain rfl:=jB (w rfl);refine aO rfl A ?_;refine g.aq rfl ?_;simp):=s
def Fm(s:S:=by refine g.aJ [0] rfl ?_ (λt w=>absurd w C);simp;rfl):=s
def Fo(s:S:=by simp only[T.Z,T,a7,a'];and_intros<;>first|exactλ_ _=>rfl|exact au|rfl):=s
def Fp(s:S:=by refine cU e rfl A (g.aT (bY.mk [0] rfl A rfl rfl rfl ha))):=s
def Fq(s:S:=by simp[-aj,N];omega):=s
def Fs(s:S:=by and_intros<;>first|omega|rfl):=s
def N6(s:S:=by simp only[T.Z,T,w,oY,cW,a7,a'];and_intros<;>first|exactλ_ _=>rfl|exact au|rfl):=s
def N7(s:S:=by exact a5 [8] rfl (fQ (JU s)) (g.aq rfl)):=s
def N8(s:S:=by simp only[T,r,i,bw,lC,a',a7];and_intros<;>omega):=s
def N9(s:S:=by refine a5 [-9] rfl bQ (g.bs rfl rfl ?_);refine aO rfl A (g.aq rfl ?_);simp[s5 (λt q=>w t u)]):=s
def N_(s:S:=by refine a5 [16] rfl C (g.aT (bY.mk [0] rfl ?_ rfl rfl rfl h7));simp[s4 s B w]):=s
def N'(s:S:=by exact .eval (bf:=[]) bc ba.nil (cl:=[a8 .i64 (((0:Nat):Int)-((0:Nat):Int))]) rfl lx):=s
def Oa(s:S:=by simp only[T,cW,r,au,w,B,i,a8,bw,dp,a',a7];and_intros<;>omega):=s
def Ob(s:S:=by simp only[T,a8,show d9.bytes=8 from rfl,bw,dp,gL,e0,d6];and_intros<;>first|rfl|omega|(simp[g9];done)):=s
def Oc(s:S:=by simp only[T.Z,T,a7,a',wR];exact⟨bs.same,bs.same,bs.same⟩):=s
def Od(s:S:=by refine aO rfl A ?_;exact⟨t,bY.di [0] rfl A rfl rfl rfl h7⟩):=s
def Oe(s:S:=by simp only[T,T.Z,i,N,r,pA,xR,a7];grind):=s
def Of(s:S:=by rw[ak];simp only[T.Z,T,i,bS.l,j,h3,df,gh,a',a7];and_intros<;>first|exact bs.same|exact O|rfl|omega):=s
def Og(s:S:=by simp only[T,a8,dp,e0,d6];and_intros<;>omega):=s
def Oh(s:S:=by obtain⟨kD,j5,FY⟩:=s.last O b2 CP oe bP b7;grind):=s
def Oi(s:S:=by refine g.ret ?_;exact⟨(),.inl rfl,rfl,rfl,_,_,_,rfl,rfl,rfl,A⟩):=s
def Oj(s:S:=by simp only[T,show vf.bytes=16 from rfl,a',a7];grind):=s
def Ol(s:S:=by exact a5 [-16] rfl bG (g.b5 (e+1) rfl C rfl A M u)):=s
def Om(s:S:=by simp only[T,xi,bw,dp,w];omega):=s
def On(s:S:=by refine aO rfl A (g.aJ [0,1] rfl C sW (r:=bG))):=s
def Oq(s:S:=by rw[Deaf_other o u _ g_of_ofEvents];exact s.above e bp):=s
def Ot(s:S:=by have au:(y.toArray++Array.replicate (fn.ntmps-y.toArray.size) I).getD o I=(y[o]?).getD I:=Fy;grind):=s
def Ou(s:S:=by simp only;rw[h,df,show ∀w,[w].length=1 fromλ_=>rfl,sy,AF,F1 M,S,iq u];rfl):=s
def Ov(s:S:=by simp[-aj,j,a8,cA.l,cA.T,a2.l,a2.T,z,B.1];and_intros<;>first|omega|grind):=s
def Ow(s:S:=by intro _;refine aO rfl A (g.aJ [0] rfl ?_ h7);simp):=s
def Ox(s:S:=by rw[r];simp only[T.Z,T,ak,a',a7];and_intros<;>first|exact t|exact h|simp|rfl|omega):=s
def Oy(s:S:=by refine a5 [-7] rfl bQ (g.bs rfl rfl ?_);refine aO rfl A (g.aq rfl ?_);rw[T,Zj (λt N=>r t u)]):=s
def Oz(s:S:=by simp[-aj,B,a8,q,c1.A];omega):=s
def OA(s:S:=by have au:scanUp (λD=>ltInt D d0[w]!) d0 (i-1) (w+1)=h:=Fw;exact dw () A rfl bu rfl C):=s
def OB(s:S:=by simp only[oo,w,hg,au];grind[Nat.eq_of_beq_eq_true]):=s
def OC(s:S:=by exact⟨b7 bE,B,λs1 c5=>⟨bE,Q,O.rely c5 B,B.rely c5,N.trans c5.aI,au⟩⟩):=s
def OD(s:S:=by simp[ab,cv,resolve,B,Deferred.ofValue,invoke,callFunc,N,r,i]):=s
def OE(s:S:=by simp only[T,B5,bS.l,w,bS.T];simp[s,k7,w,i,-List.length_flatten]):=s
def OF(s:S:=by have O:0+((((d.take t).filter λD=>!bi D).length:Nat):Int).toNat=((d.take t).filter λD=>!bi D).length:=u;simp only[T.Z,T,O,a7,a'];exact au):=s
def OG(s:S:=by have:=N.bn _ (mw (show b.2.1.length-1<b.2.1.length by omega) (0,[]));omega):=s
def OH(s:S:=by refine g.bc () [] ?_ (λt i=>absurd i C);simp):=s
def OI(s:S:=by refine a5 [16] rfl C (g.bR (bY.zero rfl ?_));simp[s4 s z w]):=s
def OJ(s:S:=by simp only[T.Z,T,cW,cZ,bx,a7,a'];exact k9 S u u (λ_ _=>rfl)):=s
def OK(s:S:=by refine g.bN 1 rfl rfl rfl C C ?_;exact g.aq rfl (by simp[w,h'])):=s
def OL(s:S:=by rw[r];simp only[T.Z,T,cZ,t,df,gh,a',a7];and_intros<;>first|exact bs.same|exact d|rfl|omega):=s
def OM(s:S:=by have:=s e (re.2 bp);simp only[ie,cn]at this;grind):=s
def ON(s:S:=by simp only[bi]at Q⊢;obtain⟨vy,aem,aek⟩:=s.dM _ _ bi;grind[mx]):=s
def OO(s:S:=by simp only[T.Z,T,cW,cZ,t,e,s,xorNext_toNat,a7,a'];exact k9 d u u (λ_ _=>rfl)):=s
def OP(s:S:=by rw[r];simp only[T.Z,T,ak,a',a7];and_intros<;>first|exact t|simp|simp|simp|rfl|omega|simp):=s
def OQ(s:S:=by rw[r];simp only[T.Z,T,ak,a',a7];and_intros<;>first|exact t|exact h|exactλ_ _=>rfl|rfl|omega):=s
def OR(s:S:=by show f (E1.R (O.c (nt b.1 e (.slice (f ⟨i,0,n⟩) af.length cap) (0+(e:Int).toNat))))=_;rw[j,nt,bo rfl]):=s
def OS(s:S:=by exact⟨(),.inr rfl,rfl,rfl,_,_,_,rfl,rfl,rfl,A⟩):=s
def OT(s:S:=by rename_i B;cases s;rw[B]at r;have i:=b6 r;generalize au:w.tmps.getD N I=aa at i;cases i;rw[key _ au (by simp[I])]):=s
def OU(s:S:=by simp only[T,N,a8,show d9.bytes=8 from rfl];exact bu):=s
def OV(s:S:=by refine g.ret ?_;exact⟨⟨_,bs.same⟩,.inl rfl,rfl,rfl,_,_,_,rfl,rfl,rfl,A⟩):=s
def OW(s:S:=by simp only[T,a8,show yn.bytes=40 from rfl,a',a7];and_intros<;>omega):=s
def OX(s:S:=by exact bY.di [0,1] rfl A bG rfl rfl sW):=s
def OY(s:S:=by exact bR [14,-25] rfl lH (g.aw (e+1) rfl C C M u)):=s
def OZ(s:S:=by simp[w]at s;subst s;obtain⟨i,N⟩:=Eb w;grind):=s
def O0(s:S:=by exact .aK (a0.gU rfl rfl Tryz.underlying22 rfl ca) rfl):=s
def O1(s:S:=by simp only[T,kt,tN,cZ,d,q,N,ak,bw,i];grind):=s
def O2(s:S:=by refine cU B rfl A (g.aJ [0] rfl ?_ ha);simp):=s
def O3(s:S:=by obtain⟨rfl,rfl⟩:=s;obtain⟨i,w⟩:=cv;replace w:0<bE:=w;simp only[binOp,d6,hB,dm,Op.intDiv,show bE≠0 by omega];rfl):=s
def O4(s:S:=by have au:N[e]?=(d.filter λD=>!bi D)[e]?:=M;refine(Ny wv).trans ?_;simp only[c1.fn,gG,aj,au]):=s
def O5(s:S:=by have au:scanUp (λD=>ltInt D d2[w]!) d2 (s) (d9)=h:=Fw;exact dw () A rfl bu rfl C):=s
def O6(s:S:=by simp only[h]at j⊢;obtain⟨vy,bx,FX⟩:=s.dM _ _ h;grind[mx]):=s
def O7(s:S:=by simp[G,aq,stepG.exec,Frame.ab,B,N,ak,GStep.after,doReturn,b2]):=s
def O8(s:S:=by rename_i bT;cases s;exact aZ.a1 a9 (a0.pick bi bT)):=s
def O9(s:S:=by obtain⟨c5,dt⟩:=ak W gk Dl dH M;refine⟨c5,λau=>?_⟩;obtain⟨L,S,z⟩:=dt au;refine⟨L,?_,z⟩;simp only[a6.cut,h2,gQ,dA];exact S):=s
def O_(s:S:=by exact .ctl ak rfl (λ_=>L6) λb3 dt=>lQ .normal dF an b3 fP bi (B.rely dt ak) (ak.rely dt) (N.trans dt.aI)):=s
def O'(s:S:=by simp only[T,show nq.bytes=32 from rfl,a',a7];grind):=s
def Pa(s:S:=by simp only[T,cW,r,au,w,i,a8,bw,dp,a',a7];and_intros<;>omega):=s
def Pb(s:S:=by rw[d];simp[-aj];exact bB.aW _ ak):=s
def Pc(s:S:=by simp only[T,w,i,a8,show yn.bytes=40 from rfl,show d9.bytes=8 from rfl,bw,lC,a',a7];and_intros<;>omega):=s
def Pd(s:S:=by refine cU i rfl tT ?_;exact⟨⟨_,by rw[cW];exact e3⟩,.inr rfl,rfl,rfl,_,_,_,rfl,rfl,rfl,A⟩):=s
def Pe(s:S:=by rw[w];simp only[T.Z,T,i,a',a7];and_intros<;>first|exact bs.same|exact au|rfl|omega):=s
def Pf(s:S:=by simp only[T.Z,T,cW,r,au,w,a7,a'];exact k9 t u u (λ_ _=>rfl)):=s
def Pg(s:S:=by exact⟨by simp[aK,MemAct.low],λi r=>by simp[aK,MemAct.touch?]at r,λi r=>by simp[aK,MemAct.touch?]at r,⟨by simp,by simp⟩,by simp⟩):=s
def Ph(s:S:=by have aeo:bi*a4.size+a4.size<=z*a4.size:=aea;grind):=s
def Pj(s:S:=by simp[-aj,kg,ak,N,a8];omega):=s
def Pk(s:S:=by rw[q];simp only[T.Z,T,df,gh,a',a7];and_intros<;>first|exact bs.same|exact bT|rfl|omega):=s
def Pl(s:S:=by refine iU ?_;change dv b (Sem.events P (asInt (.int .i64 0) >>= _) _ _);simp[asInt,asIntOf,IntKind.max];exact .nil):=s
def Pm(s:S:=by exact .dd (.aK (a0.gU rfl rfl Tryz.underlying22 rfl ca) rfl)):=s
def Pn(s:S:=by have bi:=B _ ak;simp only[T,i,bH.l,a8];exact⟨by omega,A,A,show(e+1)*32<=_ by omega,bH.T _,bi,by omega,by omega,fQ u⟩):=s
def Po(s:S:=by simp only[T,cW,cZ,bT,bi,a8,bw,a',a7];and_intros<;>omega):=s
def Pp(s:S:=by refine aO rfl A (g.ret (.freeze 8 4 rfl rfl rfl (.freeze 9 5 rfl rfl rfl (.of ⟨(),kZ.cells bc [0,1] rfl ?_ rfl rfl rfl qj⟩))));simp):=s
def Pq(s:S:=by rw[r];simp only[T.Z,T,N,df,fh,gK,a',a7];and_intros<;>first|exact bs.same|exact q j bE|rfl|omega):=s
def Pr(s:S:=by simp only[T,a2.l,bj.l,a3.l,bB.l,e,r5,j];and_intros<;>first|rfl|exact True.intro|exact a2.T _|exact bj.T _|exact a3.T _|exact bB.T _|exact a9):=s
def Ps(s:S:=by simp only[hh,List.take_zero,hp,o,T.Z,T,a',a7];and_intros<;>first|simp|rfl|omega):=s
def Pt(s:S:=by rw[h.bC i (eC cT s.size) (dw i cT jm),s.bC i cT jm]):=s
def Pu(s:S:=by rw[N];simp[-aj,sQ];exact bS.aW _ _):=s
def Pv(s:S:=by simp only[i5,cn]at this;grind[o7]):=s
def Pw(s:S:=by obtain rfl:e=S.2.length:=u;rw[cY];refine a_ i [-15] rfl C (g.az ?_);refine b_ i rfl A ?_;refine g.bc () [] ?_ (λt h=>absurd h C);simp[hI]):=s
def Px(s:S:=by exact .aK (a0.fJ rfl rfl Tryz.underlying22 rfl w) rfl):=s
def Py(s:S:=by exact a5 [-8] rfl (oS NS) (g.aq rfl)):=s
def Pz(s:S:=by simp only[T.Z,T,cW,a',a7];and_intros<;>first|exact bs.same|exact dJ|rfl):=s
def PA(s:S:=by simp only[Go.binOp,Op.shift,bm (show¬i<0 by omega),s];exact⟨rfl,rfl⟩):=s
def PC(s:S:=by rw[r];simp only[T.Z,T,ak,a',a7];and_intros<;>first|exact t|simp|simp|grind|rfl|omega|simp):=s
def PD(s:S:=by refine g.b9 () [0,1,2] ?_ ng;simp[h']):=s
def PE(s:S:=by simp[-aj,q,bi,s,a8];omega):=s
def PF(s:S:=by refine g.bc () [0,1] ?_ x9;simp):=s
def PG(s:S:=by simp only[T.Z,T,i,a',a7];and_intros<;>first|exactλ_ _=>rfl|exact r|rfl|omega):=s
def PH(s:S:=by refine g.eK 2 ?_;refine g.cL 9 rfl (λ_=>rfl) ?_;refine g.ret ?_;exact⟨⟨_,bs.same⟩,.inl rfl,rfl,rfl,_,_,_,rfl,rfl,rfl,rfl⟩):=s
def PI(s:S:=by refine aO rfl A (g.aJ [0] rfl ?_ h7);simp):=s
def PJ(s:S:=by have au:scanDown (λD=>ltInt d2[w]! D) d2 (ak) (r)=h:=zU;exact dw () A rfl bu rfl C):=s
def PK(s:S:=by have bi:=N _ ak;simp only[T,i,cA.l,a8];exact⟨by omega,A,A,show(e+1)*32<=_ by omega,cA.T _,bi.1,bi.2,by omega,by omega,fQ u⟩):=s
def PL(s:S:=by refine a5 [-8] rfl C (g.az ?_);exact aO rfl A (g.aq rfl)):=s
def PM(s:S:=by simp only[T,B,r,i,bB.l,bB.T,m7,and_self,gi,a',a7]):=s
def PN(s:S:=by refine aO rfl A ?_;refine g.aA (X4 (p:=p) h (by simpa using b2)) [] rfl ?_;refine a5 [18,22] rfl C ?_;refine g.b9 () [] ?_ eW;simp):=s
def PO(s:S:=by refine cy rfl A (g.aJ [0] rfl ?_ h7);simp;rfl):=s
def PP(s:S:=by refine g.cU 4 0 2 3 (lt:=_) (cx:=.ax ak d t r) rfl rfl (λ_=>rfl) (λ_=>rfl) (λ_ _=>by decide) ?_;exact g.aJ [0] rfl C sV):=s
def PQ(s:S:=by simp[-aj,-List.contains_eq_mem,N,s,ak,aA.l,aA.T,a8,show mz.bytes=24 from rfl];omega):=s
def PR(s:S:=by refine⟨i,rfl,?_⟩;rw[bm u];simp[g0,jD]):=s
def PS(s:S:=by simp[-aj,-List.contains_eq_mem,N,s,ak,aA.l,aA.T,a8];omega):=s
def PT(s:S:=by rw[i];simp only[T.Z,T,cZ,N,df,gh,a',a7];and_intros<;>first|exact bs.same|exact d|rfl|omega):=s
def PU(s:S:=by rw[i];simp[-aj];exact bB.aW _ (ct o e,lu o e)):=s
def PV(s:S:=by simp only[T,b2,a3.l,a3.T,gw,bw,dp,a',a7];omega):=s
def PW(s:S:=by simp only[T.Z,T,bs.same,a',a7];rfl):=s
def PX(s:S:=by simp only[T,b2,a3.l,a3.T,gw,bw,a',a7];omega):=s
def PY(s:S:=by simp only[T.Z,T,df,gh,a',a7];and_intros<;>first|exact bs.same|exact r|rfl|omega):=s
def PZ(s:S:=by simp only[dA]at N;subst N;exact cy rfl A (g.aq rfl)):=s
def P0(s:S:=by refine a5 [-9] rfl bQ (g.az ?_);refine aO rfl A (g.aJ [0] rfl ?_ h7);simp[s5 (λt j=>w t u)]):=s
def P1(s:S:=by simp[-aj,s,kt,tN,i,N,B,r,z];omega):=s
def P2(s:S:=by refine⟨rfl,λe bp=>?_⟩;rcases e with _|_|_|_|_|_|_|_|e<;>first|rfl|omega):=s
def P3(s:S:=by and_intros<;>first|exact bS.T _|rfl|omega):=s
def P4(s:S:=by refine bR [-52,55] rfl z0 (g.aJ [0] rfl ?_ ha);exact bG):=s
def P5(s:S:=by refine g.cU 4 0 2 9 (lt:=.ax N e h B) (cx:=.nil) rfl rfl (λ_=>rfl) (λs=>absurd rfl s) (λ_ s=>absurd rfl s) ?_;exact g.aJ [0] rfl C sV):=s
def P6(s:S:=by have au:=a2.cV b.1 s (0,[]);simp only[T.Z,T,i,bH.l,a7,a'];exact⟨⟨bs.same,bs.same,bs.same⟩,⟨bs.same,bs.same,bs.same⟩,⟨rfl,bs.same⟩,au,bs.same⟩):=s
def P7(s:S:=by have au:((d.take (i0+1)).filter λD=>!bi D).length=i0:=aeb;simp[au]):=s
def P8(s:S:=by exact .aK (J2 0 rfl rfl rfl lx (λQ=>rfl) (λQ=>rfl)) rfl):=s
def P9(s:S:=by simp[-aj,z,o,bH.l,bH.T,s]):=s
def P_(s:S:=by refine⟨by grind[nF],by grind,?_⟩;rw[<-r,uK,ak,show w+L / 4*2-1+(3-(h+1))+1=w+L / 4*2-1+(3-h) by omega]):=s
def P'(s:S:=by simp only[aJ];grind[setRow_other]):=s
def Qa(s:S:=by subst d;exact⟨.bool l,by simp[ab,s,i,N,w,binOp,h],Rd.bool,by simp[ab,s,i,N,w,ak,binOp,h,B]⟩):=s
def Qb(s:S:=by have N:ba (ah.aF V) [(8,e9 [g2 jY,g2 jY] (bh l))]:=.cons (fu IH) .nil;refine be N [-45,-51,54,58] rfl C (g.aJ [0,1,2] rfl ?_ ng);simp):=s
def Qc(s:S:=by simp only[T.Z,T,w,i,oY,cW,a7,a'];and_intros<;>first|exactλ_ _=>rfl|exact z|rfl):=s
def Qd(s:S:=by rw[h];simp only[df,gh,T.Z,T,w,a',a7];and_intros<;>first|exact z|simp|rfl|omega):=s
def Qe(s:S:=by simp[-aj,bx,o,b2,i,q,bH.l,bH.T,a8];omega):=s
def Qf(s:S:=by refine⟨by grind,a9,by grind,λe bp=>bx e M⟩):=s
def Qg(s:S:=by have au:=dn cT;subst au;exact Dm (W:=W) (U:=dH) (b6 B) C tY):=s
def Qh(s:S:=by refine b_ i rfl bG (g.aw (e+1) rfl C ?_ s u);simp):=s
def Qi(s:S:=by simp only[T,a8,au,r,z,bw,eq_self,a',a7];omega):=s
def Qj(s:S:=by refine bR [52] rfl (by simp[ak]) (g.aJ [0] rfl ?_ ha);exact bG):=s
def Qk(s:S:=by exact aO rfl C (g.bu ⟨(7,h+3),by simp⟩ (g.aJ [0] rfl C kK))):=s
def Ql(s:S:=by and_intros<;>first|exact bs.same|exact mc|rfl):=s
def Qn(s:S:=by simp only[T,a8,au,r,e,bw,dp,a',a7];omega):=s
def Qo(s:S:=by simp only[T,bw,a',a7];and_intros<;>omega):=s
def Qp(s:S:=by have au:scanDown (λD=>!ltInt D d2[w]!) d2 (d) (s)=h:=zU;exact dw () A rfl bu rfl C):=s
def Qq(s:S:=by simp only[T,xi,bw,dp,w,a8];omega):=s
def Qr(s:S:=by subst s;cases D<;>cases bE<;>simp only at N<;>simp[binOp,w]):=s
def Qs(s:S:=by rw[d];simp only[T.Z,T,i,r,z,a2.l,df,gh,a',a7];and_intros<;>first|exact bs.same|exact q|rfl|omega):=s
def Qt(s:S:=by simp only[T,a8,i,w,gi,bw,dp,a',a7];and_intros<;>omega):=s
def Qu(s:S:=by intro j s;rw[fh,List.range'_succ];refine⟨by simpa using s 0 q rfl,w (j+1) λt i JR=>?_⟩;have:=s (t+1) i M;grind):=s
def Qv(s:S:=by refine b_ w rfl bG ?_;refine g.aK (yB ((min (ak+8) o.length:Nat):Int) rfl rfl rfl u d) rfl rfl ?_;refine b_ w rfl A (g.aq rfl ?_);simp[au]):=s
def Qw(s:S:=by simp only[T,a8,bw,a',a7];and_intros<;>first|rfl|omega):=s
def Qx(s:S:=by simp only[Go.binOp,d6,hB,dm,Op.intBits,au,r8 N];exact⟨rfl,rfl⟩):=s
def Qy(s:S:=by simp[-aj];exact bB.aW _ ak):=s
def Qz(s:S:=by simp only[T.Z,T,df,gh,a',a7];and_intros<;>first|exact bs.same|exact bT|rfl|omega):=s
def QA(s:S:=by simp only[T,cW,r,au,w,h,B,i,a8,bw,dp,a',a7];and_intros<;>omega):=s
def QB(s:S:=by exact aZ.eval (bf:=[]) bc ba.nil rfl (np b d j i s)):=s
def QC(s:S:=by simp[-aj,z,j,o,bH.l,bH.T,s,a8];omega):=s
def QD(s:S:=by subst d;exact⟨.bool v,by simp[ab,s,i,N,w,binOp,h],Rd.bool,by simp[ab,s,i,N,w,ak,binOp,h,B]⟩):=s
def QE(s:S:=by simp only[T,a8,bw,dp,a',a7];and_intros<;>omega):=s
def QF(s:S:=by refine a5 [-9] rfl bu (g.az ?_);exact aO rfl A (g.aq rfl)):=s
def QG(s:S:=by and_intros<;>first|exact bS.T _|exact e_.T _|omega):=s
def QI(s:S:=by rw[i];simp only[T.Z,T,cZ,N,r,bH.l,aA.l,df,gh,a',a7];and_intros<;>first|exact bs.same|exact d|rfl|omega):=s
def QJ(s:S:=by simp only[T,a2.l,bj.l,a3.l,bB.l,e,r5,q];and_intros<;>first|rfl|exact True.intro|exact a2.T _|exact bj.T _|exact a3.T _|exact bB.T _|exact a9):=s
def QK(s:S:=by simp[-aj,j,q,a8,cA.l,cA.T,a2.l,a2.T,z,B.1];and_intros<;>first|omega|grind):=s
def QL(s:S:=by and_intros<;>first|exactλ_ _=>rfl|exact au|rfl|omega):=s
def QM(s:S:=by have S:ba (ah.aF V) [(8,e9 [g2 jY,g2 jY] (bh l))]:=.cons (fu IH) .nil;refine be S [-36,-42,45,49] rfl C (g.aJ [0,1,2] rfl ?_ ng);simp):=s
def QN(s:S:=by rw[r];simp only[T.Z,T,df,gh,a',a7];and_intros<;>first|exact bs.same|exact ak j|rfl|omega):=s
def QO(s:S:=by rw[<-gQ,dJ]at f1;simp only[h8,e1]at f1;grind):=s
def QP(s:S:=by have au:scanDown (λD=>!ltInt D d0[w]!) d0 (e) (i-1)=h:=zU;exact dw () A rfl bu rfl C):=s
def QQ(s:S:=by rw[eI];simp only[T.Z,T,cZ,z,O,df,gh,a',a7];and_intros<;>first|exact bs.same|exact H|rfl|omega):=s
def QR(s:S:=by refine a5 [-18,22] rfl bQ ?_;refine g.b9 () [] ?_ eW;simp):=s
def QS(s:S:=by simp only[T,ak,a8,show o'.bytes=16 from rfl,bw,dp,je,Ap,gL,e0,j',d6,heq,hB,p1,gi,gw,iI,m7,oT,a',a7];and_intros<;>omega):=s
def QT(s:S:=by exact⟨by exact cS,λi h=>by exact cS,⟨by simp,by simp⟩,by simp⟩):=s
def QU(s:S:=by rename_i au;subst au;intro pre ve;refine .ctl ak rfl (λ_=>L5 (gk:=h) (by rw[ve];simp[exitTo])) λb3 dt=>?_;exact lQ .normal dF an b3 fP bi (B.rely dt ak) (ak.rely dt) (N.trans dt.aI)):=s
def QV(s:S:=by refine bR [-14] rfl bQ (g.az ?_);exact cy rfl A (g.aq rfl)):=s
def QW(s:S:=by rw[hF]at s;cases s;exact ff.dd (ef aY au i cv) ak h):=s
def QX(s:S:=by simp[-aj,-List.length_take,N,kg,i,B,r,a8];omega):=s
def QY(s:S:=by refine bR [-52,-55] rfl bu (g.aJ [0] rfl ?_ ha);simp[ak,au,qp,CO]):=s
def QZ(s:S:=by have i:=(aY o e bp).run_underlying (Q:=b.a);rw[ak]at i;simp[ab,s,w,N,Instr.index,asIntOf,i,JR,B]):=s
def Q0(s:S:=by obtain⟨S,L1,c5,dt,a9⟩:=s.box d bT L aH w;obtain⟨o,t,k1,ak,B⟩:=h.box d S L1 c5 dt;exact⟨o,t,k1,ak,a9.trans B⟩):=s
def Q1(s:S:=by have:=N.aY _ (mw (show b.1.length-1<b.1.length by omega) (0,[]));omega):=s
def Q2(s:S:=by simp only[T,bH.l,w,b2];and_intros<;>first|exact bH.T _|rfl|exact True.intro|grind):=s
def Q3(s:S:=by have au:=Jn B z aa;refine⟨by omega,rfl,?_,λ_ _=>rfl⟩;grind):=s
def Q4(s:S:=by obtain⟨e,q,i,w⟩:=CM s;exact⟨e+1,q,by grind,w⟩):=s
def Q5(s:S:=by rw[w];simp only[T.Z,T,df,fh,gK,a',a7];and_intros<;>first|exactλ_ _=>rfl|exact a9|rfl|omega):=s
def Q6(s:S:=by refine aO rfl A ?_;exact⟨(),.inr rfl,rfl,rfl,_,_,_,rfl,rfl,rfl,A⟩):=s
def Q7(s:S:=by rw[r];simp only[T.Z,T,cZ,N,df,gh,a',a7];and_intros<;>first|exact bs.same|exact B|rfl|omega):=s
def Q8(s:S:=by simp[-aj,N,r];omega):=s
def Q9(s:S:=by have au:scanUp (λD=>!ltInt d2[w]! D) d2 (r) (d9)=h:=Fw;exact dw () A rfl bu rfl C):=s
def Q_(s:S:=by simp[-aj,z,j,s,g9,a8,cA.l,cA.T,a2.l,a2.T,bj.T,a3.T,q,bi.1];and_intros<;>first|omega|grind):=s
def Q'(s:S:=by simp only[T.Z,T,cW,cZ,a7,a'];exact k9 bx u u (λ_ _=>rfl)):=s
def Rb(s:S:=by simp only[h8,e1]at dJ;rw[<-dJ,f2,s.db]at e3;omega):=s
def Rc(s:S:=by simp at N;subst N;exact⟨_,rfl,.inr ⟨rfl,rfl⟩⟩):=s
def Re(s:S:=by simp[ab,cv,resolve,r,Deferred.ofValue,invoke,N]):=s
def Rf(s:S:=by refine g.cU 4 0 9 2 (lt:=.nil) (cx:=.ax ak d t r) rfl rfl (λs=>absurd rfl s) (λ_=>rfl) (λs=>absurd rfl s) ?_;exact g.aJ [0] rfl C sV):=s
end
end Go
namespace Go.AM
instance{j:Nat}:OfNat (Nat×Bool) j:=⟨(j,true)⟩
instance:Neg (Nat×Bool):=⟨λD=>(D.1,false)⟩
inductive K where
  |int (h:IntKind) (j:Int)
  |bool (i:Bool)
  |V (b:List UInt8)
  |A (tight:Bool) (h j:Nat) (U:Nat->List K)
  |O (ag:List K)
  |bp
  |cd (o:al) (r:K)
  |cD (o:al) (ag:List K)
  |bE
  |fn (ak:Fn) (first cap:List K)
  |dr
  |val (D:X)
inductive pJ where
  |A (B h q j:Nat)
  |bt (B h e ak:Nat)
def pJ.g:pJ->Nat
  |.A B _ _ _=>B
  |.bt B _ _ _=>B
def pJ.f_:pJ->X->X->Prop
  |.A _ h m k,d,i=>∃j e a b,i=.slice j k a/\k<=a/\m+a=b/\b<=9223372036854775807/\d=.slice e 0 b/\(0<a->∃g,e=f ⟨g,0,n⟩/\j=f ⟨g,m*h,n⟩)
  |.bt _ h p o,d,i=>∃g b,d=.slice (f ⟨g,0,n⟩) 0 b/\i=.pointer (f ⟨g,p*h+o,n⟩)
inductive O where
  |c (D:K)
  |ptr (d off:Nat)
  |w (d h j:Nat) (U:Nat->List K)
  |aV (d:Nat)
  |N (d:Nat) (Q:pJ)
  |any
abbrev O.v(a:X):O:=.c (.val a)
inductive E1 where
  |R (w:O)
  |agg (ag:List O)
inductive x where
  |n (D:E1)
  |Q (af:List E1)
  |any
abbrev bJ:=m (Nat×x)
def look:bJ->Nat->x
  |[],_=>.any
  | (d,b)::e,a=>cond (ad d a) b (look e a)
inductive ap where
  |cells (W:al) (ag:List O)
  |w (W:al) (h j:Nat) (U:Nat->List K)
  |J (H:X->(Nat->Option Obj)->Prop)
  |M
  |loop (E:Nat) (F:bJ) (a9:Loop)
  |bl
  |p (W:al) (h j:Nat) (U:Nat->List K)
@[simp] def ap.dH:ap->Bool
  |.w _ _ _ _=>l
  |.p _ _ _ _=>l
  |_=>v
structure Loc where
  v:X
  aj:m Nat
abbrev Mem:=Nat->Nat->Option X
structure a6 where
  s:m Loc
  C:Mem
  a:ar
  own:Nat->Prop
def a8:IntKind->Int->Prop
  |.i8,a=>-128<=a/\a<=127
  |.i16,a=>-32768<=a/\a<=32767
  |.i32,a=>-2147483648<=a/\a<=2147483647
  |.i64,a=>-9223372036854775808<=a/\a<=9223372036854775807
  |.u8,a=>0<=a/\a<=255
  |.u16,a=>0<=a/\a<=65535
  |.u32,a=>0<=a/\a<=4294967295
  |.u64,a=>0<=a/\a<=18446744073709551615
def dS:X->Bool
  |.agg _|.tuple _=>v
  |_=>l
def pJ.f_.cell{b:pJ}{Zp aa}(a:b.f_ Zp aa):dS aa=l:=by
  cases b with
  |A=>obtain⟨_,_,_,_,rfl,_⟩:=a;rfl
  |bt=>obtain⟨_,_,_,rfl⟩:=a;rfl
inductive Rd (bz:Mem):X->K->Prop
  |int {h:IntKind} {j:Int} (s:a8 h j):Rd bz (.int h j) (.int h j)
  |bool {i:Bool}:Rd bz (.bool i) (.bool i)
  |V {b:ByteArray} {d:List UInt8} (s:b.data.toList=d) (gQ:c d<=9223372036854775807):Rd bz (.string b) (.V d)
  |A {w:Option Addr} {j cap:Nat} {tight:Bool} {h:Nat} {U:Nat->List K} (i off:Nat) (ak:Nat->Nat->X)
      (aej:j<=cap) (cT:cap<=9223372036854775807) (aep:tight=l->cap=j) (b2:∀e,e<j->c (U e)=h)
      (aeh:0<j->w=f ⟨i,off,n⟩)
      (CQ:∀e,e<j->∀t r,(U e)[t]?=f r->bz i (off+e*h+t)=f (ak e t))
      (JS:∀e,e<j->∀t r,(U e)[t]?=f r->Rd bz (ak e t) r):Rd bz (.slice w j cap) (.A tight h j U)
  |O {ag:List K} (i off:Nat) (ak:Nat->X)
      (CQ:∀t r,ag[t]?=f r->bz i (off+t)=f (ak t))
      (JS:∀t r,ag[t]?=f r->Rd bz (ak t) r):Rd bz (.pointer (f ⟨i,off,n⟩)) (.O ag)
  |bp:Rd bz (.pointer n) .bp
  |cd {o:al} {aa:X} {r:K} (s:Rd bz aa r) (aei:dS aa=l):Rd bz (.iface o aa) (.cd o r)
  |cD {o:al} {y:List X} {ag:List K} (gQ:c y=c ag)
      (ak:Nat->X) (o_:∀t,t<c y->y[t]?=f (ak t)) (JS:∀t r,ag[t]?=f r->Rd bz (ak t) r):Rd bz (.iface o (.agg y.toArray)) (.cD o ag)
  |bE:Rd bz .nilIface .bE
  |fn {B:Fn} {first cap:List K} (yh ag:List X) (gQ:c yh=c first) (ael:c ag=c cap) (f1 f2:Nat->X)
      (c5:∀t,t<c yh->yh[t]?=f (f1 t)) (dt:∀t,t<c ag->ag[t]?=f (f2 t))
      (aeu:∀t r,first[t]?=f r->Rd bz (f1 t) r) (aev:∀t r,cap[t]?=f r->Rd bz (f2 t) r):Rd bz (.func B yh.toArray ag.toArray) (.fn B first cap)
  |dr:Rd bz .nilFunc .dr
  |val {D:X} (s:dS D=l):Rd bz D (.val D)
theorem Rd.ba{bz}{aa a}(b:Rd bz aa (.val a)):aa=a:=by cases b;rfl
def Rd.cell{bz}{aa}{r}(a:Rd bz aa r):dS aa=l:=by cases a<;>first|rfl|assumption
def Rd.mono{bz m}(J:∀k K aa,bz k K=f aa->m k K=f aa){aa}{r}(h:Rd bz aa r):Rd m aa r:=by
  induction h with
  |int h=>exact .int h
  |bool=>exact .bool
  |V h e=>exact .V h e
  |A k g o M D F E C j q b=>
    exact .A k g o M D F E C (λI i d r a=>J _ _ _ (j I i d r a)) (λI i d r a=>b I i d r a)
  |O k g o j q b=>exact .O k g o (λd r a=>J _ _ _ (j d r a)) (λd r a=>b d r a)
  |bp=>exact .bp
  |cd h N b=>exact .cd b N
  |cD e o Q q b=>exact .cD e o Q (λd r a=>b d r a)
  |bE=>exact .bE
  |fn y u e p w x z B R S s t=>exact .fn y u e p w x z B (λd r a=>s d r a) (λd r a=>t d r a)
  |dr=>exact .dr
  |val h=>exact .val h
def cB(h:m ap)(i:a6)(b:X):O->Prop
  |.c w=>Rd i.C b w
  |.ptr a o=>(∀j,h[a]?=f j->j.dH=v)/\∃L u,i.s[a]?=f L/\L.v=.pointer (f ⟨u,0,n⟩)/\b=.pointer (f ⟨u,o,n⟩)
  |.w a q e d=>Rd i.C b (.A v q e d)/\a<c h/\∀p r g k,h[a]?=f (ap.w p r g k)->e<=g/\(g=e->∃L,i.s[a]?=f L/\b=L.v)
  |.aV a=>(∀j,h[a]?=f j->j.dH=v)/\∃L,i.s[a]?=f L/\b=L.v/\dS b=l
  |.N a s=>∃t,s.f_ t b/\a<c h/\∀p q e d,h[a]?=f (ap.p p q e d)->s.g<=e/\(s.g=e->∃L,i.s[a]?=f L/\L.v=t)
  |.any=>dS b=l
def bM(b:m ap)(d:a6):m X->m O->Prop
  |[],[]=>True
  |g::y,e::a=>cB b d g e/\bM b d y a
  |_,_=>False
def ey(b:m ap)(d:a6)(e:X):E1->Prop
  |.R g=>cB b d e g
  |.agg a=>∃y:m X,e=.agg y.toArray/\bM b d y a
def eV(b:m ap)(d:a6):m X->m E1->Prop
  |[],[]=>True
  |g::y,e::a=>ey b d g e/\eV b d y a
  |_,_=>False
def bv(b:m ap)(d:a6)(e:X):x->Prop
  |.n g=>ey b d e g
  |.Q a=>∃y:m X,e=.tuple y.toArray/\eV b d y a
  |.any=>True
def b4(b:m ap)(d:a6):m X->m x->Prop
  |[],[]=>True
  |g::y,e::a=>bv b d g e/\b4 b d y a
  |_,_=>False
structure eU(bz:Mem)(h j:Nat)(U:Nat->m K)(y:m X):Prop where
  len:c y=j*h
  bF:∀e,e<j->c (U e)=h
  rd:∀e,e<j->∀(t:Nat) (r:K),(U e)[t]?=f r->∃aa,y[e*h+t]?=f aa/\Rd bz aa r
def eU.mono{bz a}(o:∀i k aa,bz i k=f aa->a i k=f aa){h j}{b:Nat->m K}{y}(d:eU bz h j b y):eU a h j b y:=
  ⟨d.len,d.bF,λq e r p g=>let ⟨aa,c5,dt⟩:=d.rd q e r p g;⟨aa,c5,dt.mono o⟩⟩
def ew(u:m ap)(b:a6):ap->Loc->Prop
  |.cells o s,L=>∃a y,L=⟨.pointer (f ⟨a,0,n⟩),[a]⟩/\b.a.heap[a]?=f (.cells (List.toArray y) o (0,0))/\bM u b y s/\∀d,b.C a d=n
  |.w o j g e,L=>Rd b.C L.v (.A v j g e) /\
      (((L.aj=[]/\g=0)/\Rd b.C L.v (.A l j g e)) ∨
       ∃a h y,L=⟨.slice (f ⟨a,0,n⟩) g h,[a]⟩/\b.a.heap[a]?=f (.cells (List.toArray y) o (0,0))/\c y=h*j/\∀d,g*j<=d->b.C a d=n)
  |.J H,L=>∃i,H L.v i/\(∀a d,i a=f d->b.a.heap[a]?=f d)/\(∀a,a∈L.aj↔(i a).isSome=l)/\∀a∈L.aj,∀d,b.C a d=n
  |.M,_=>True
  |.loop z x k,L=>∃r tmps fn t,L=⟨.func (.yield r) #[] #[],[r]⟩/\b.a.heap[r]?=f (.loop {k with tmps:=tmps,fn:=fn,defers:=t})/\tmps.size=z/\(∀w,bv u b (tmps.getD w I) (look x w))/\∀d,b.C r d=n
  |.bl,L=>∃k:Nat,L=⟨.int .i64 k,[k]⟩/\b.a.heap[k]?=f (.deferred (f []))/\∀d,b.C k d=n
  |.p o j g e,L=>(g=0/\L=⟨.slice n 0 0,[]⟩)∨∃a q y p,L=⟨.slice (f ⟨a,0,n⟩) 0 q,[a]⟩/\b.a.heap[a]?=f (.cells (List.toArray (y++p)) o (0,0))/\c (y++p)=q*j/\g<=q/\q<=9223372036854775807/\eU b.C j g e y/\∀d,b.C a d=n
structure bb(k:m ap)(b:a6):Prop where
  mem:∀i q aa,b.C i q=f aa->b.a.cell? ⟨i,q,n⟩=f aa
  len:c b.s=c k
  box:∀(d:Nat) (bT:ap) (L:Loc),k[d]?=f bT->b.s[d]?=f L->ew k b bT L
  a0:∀(d kM:Nat) (L cu:Loc),b.s[d]?=f L->b.s[kM]?=f cu->∀i∈L.aj,i∈cu.aj->d=kM
  lt:∀L∈b.s,∀i∈L.aj,i<b.a.heap.size
  own:∀i,b.own i->i<b.a.heap.size/\∀L∈b.s,i∉L.aj
def fM:ap->Loc->ap->Loc->Prop
  |.w _ _ d _,L,.w _ _ b _,a=>(b=d->a.v=L.v)/\d<=b
  |.w _ _ _ _,_,.M,_=>True
  |.w _ _ _ _,_,_,_=>False
  |.p _ _ d _,L,.p _ _ b _,a=>(b=d->a.v=L.v)/\d<=b
  |.p _ _ _ _,_,.M,_=>True
  |.p _ _ _ _,_,_,_=>False
  |_,_,.w _ _ _ _,_=>False
  |_,_,.p _ _ _ _,_=>False
  |.M,L,.M,a=>a.v=L.v
  |.M,_,_,_=>False
  |.bl,L,.bl,a=>a.v=L.v
  |.bl,_,_,_=>False
  |_,_,.bl,_=>False
  |_,L,_,a=>a.v=L.v
structure fp(k:m ap)(b:a6)(an:m ap)(aB:a6):Prop where
  mem:∀i q aa,b.C i q=f aa->aB.C i q=f aa
  box:∀(d:Nat) (bT:ap) (L:Loc),k[d]?=f bT->b.s[d]?=f L->∃ec cu,an[d]?=f ec/\aB.s[d]?=f cu/\fM bT L ec cu
structure cN(k:m ap)(b:a6)(an:m ap)(aB:a6):Prop where
  size:b.a.heap.size<=aB.a.heap.size
  a3:∀i,i<b.a.heap.size->(∀L∈b.s,i∉L.aj)->aB.a.heap[i]?=b.a.heap[i]?
  mem:∀i q aa,b.C i q=f aa->aB.C i q=f aa
  bC:∀i,i<b.a.heap.size->(∀L∈b.s,i∉L.aj)->∀q,aB.C i q=b.C i q
  bS:∀cu∈aB.s,∀i∈cu.aj,b.a.heap.size<=i∨∃L∈b.s,i∈L.aj
  box:∀(d:Nat) (bT:ap) (L:Loc),k[d]?=f bT->b.s[d]?=f L->∃ec cu,an[d]?=f ec/\aB.s[d]?=f cu/\fM bT L ec cu
  os:aB.a.os=b.a.os
  tape:aB.a.tape=b.a.tape
  output:aB.a.output=b.a.output
  own:aB.own=b.own
structure de(k:m ap)(b:a6)(an:m ap)(aB:a6):Prop where
  size:b.a.heap.size<=aB.a.heap.size
  a3:∀i,b.own i->aB.a.heap[i]?=b.a.heap[i]?
  mem:∀i q aa,b.C i q=f aa->aB.C i q=f aa
  bC:∀i,i<b.a.heap.size->(∀L∈b.s,i∉L.aj)->∀q,aB.C i q=b.C i q
  bS:∀cu∈aB.s,∀i∈cu.aj,b.a.heap.size<=i∨∃L∈b.s,i∈L.aj
  box:∀(d:Nat) (bT:ap) (L:Loc),k[d]?=f bT->b.s[d]?=f L->∃ec cu,an[d]?=f ec/\aB.s[d]?=f cu/\fM bT L ec cu
  os:aB.a.os=b.a.os
  tape:aB.a.tape=b.a.tape
  output:aB.a.output=b.a.output
  own:aB.own=b.own
structure cV(b aB:a6):Prop where
  s:aB.s=b.s
  C:aB.C=b.C
  own:aB.own=b.own
  size:b.a.heap.size<=aB.a.heap.size
  a3:∀i,(b.own i∨∃L∈b.s,i∈L.aj)->aB.a.heap[i]?=b.a.heap[i]?
  mem:∀i q aa,b.C i q=f aa->aB.a.cell? ⟨i,q,n⟩=f aa
  os:aB.a.os=b.a.os
  tape:aB.a.tape=b.a.tape
  output:aB.a.output=b.a.output
def h6(d:a6)(b:aR):Prop:=
  match b.loc with
  |.cell a=>b.sync=v/\a.spot=n/\(False∨((∃L∈d.s,a.block∈L.aj)/\(b.write=l->d.C a.block a.off=n))∨(b.write=v/\∃i,d.C a.block a.off=f i))
  |.obj h=>b.sync=v/\(False∨∃L∈d.s,h∈L.aj)
  |.mark e=>e=.noRoom∨∃g,e=.extern g
  |_=>False
def dv(d:a6)(a:Array aR):Prop:=∀b∈a,h6 d b
def dv.nil{b}:dv b #[]:=by intro a d;grind
def fM.refl(a)(L):fM a L a L:=by cases a<;>simp[fM]
def fM.trans{g d a}{L e b}(i:fM g L d e)(h:fM d e a b):fM g L a b:=by
  cases g<;>cases d<;>cases a<;>simp_all[fM]
  all_goals
    grind
def cN.refl(k)(b):cN k b k b:=
  ⟨bA _,λ_ _ _=>rfl,λ_ _ _ a=>a,λ_ _ _ _=>rfl,λL a h d=>.inr ⟨L,a,d⟩,λ_ e L a g=>⟨e,L,a,g,.refl _ _⟩,rfl,rfl,rfl,rfl⟩
def cN.trans{k aQ a}{b e b3}(s:cN k b aQ e)(h:cN aQ e a b3):cN k b a b3:=by
  have dw:∀i,i<b.a.heap.size->(∀L∈b.s,i∉L.aj)->∀L∈e.s,i∉L.aj:=by
    intro i cT jm L w g;rcases s.bS L w i g with c5|⟨x,u,p⟩
    · omega
    grind
  refine⟨fG s.size h.size,?_,λi m y j=>h.mem _ _ _ (s.mem _ _ _ j),?_,?_,?_,h.os.trans s.os,h.tape.trans s.tape,h.output.trans s.output,h.own.trans s.own⟩
  · intro i cT jm
    rw[h.a3 i (eC cT s.size) (dw i cT jm),s.a3 i cT jm]
  · intro i cT jm m
    exact Pt
  · intro L w i cT
    rcases h.bS L w i cT with c5|⟨L1,r,q⟩
    · exact .inl (fG s.size c5)
    grind
  · intro d bT L aH w
    exact Q0
def de.refl(k)(b):de k b k b:=
  ⟨bA _,λ_ _=>rfl,λ_ _ _ a=>a,λ_ _ _ _=>rfl,λL a h d=>.inr ⟨L,a,d⟩,λ_ e L a g=>⟨e,L,a,g,.refl _ _⟩,rfl,rfl,rfl,rfl⟩
def de.trans{k aQ a}{b e b3}(s:de k b aQ e)(h:de aQ e a b3):de k b a b3:=by
  have dw:∀i,i<b.a.heap.size->(∀L∈b.s,i∉L.aj)->∀L∈e.s,i∉L.aj:=by
    intro i cT jm L w g;rcases s.bS L w i g with c5|⟨x,u,p⟩
    · omega
    grind
  refine⟨fG s.size h.size,?_,λi m y j=>h.mem _ _ _ (s.mem _ _ _ j),?_,?_,?_,h.os.trans s.os,h.tape.trans s.tape,h.output.trans s.output,h.own.trans s.own⟩
  · intro i cT
    rw[h.a3 i (by rw[s.own];exact cT),s.a3 i cT]
  · intro i cT jm m
    exact Pt
  · intro L w i cT
    rcases h.bS L w i cT with c5|⟨L1,r,q⟩
    · exact .inl (fG s.size c5)
    grind
  · intro d bT L aH w
    exact Q0
def cN.tooQ{k an}{b aB}(e:bb k b)(a:cN k b an aB):de k b an aB:=
  ⟨a.size,λg d=>a.a3 g (e.own g d).1 (e.own g d).2,a.mem,a.bC,a.bS,a.box,a.os,a.tape,a.output,a.own⟩
def de.ext{k an}{b aB}(a:de k b an aB):fp k b an aB:=⟨a.mem,a.box⟩
def cV.refl{k}{b}(a:bb k b):cV b b:=⟨rfl,rfl,rfl,bA _,λ_ _=>rfl,a.mem,rfl,rfl,rfl⟩
def cV.aI{k}{b aB}(a:cV b aB):de k b k aB:=
  ⟨a.size,λg d=>a.a3 g (.inl d),λg m o i=>by rw[a.C];exact i,λ_ _ _ _=>by rw[a.C],λL e g d=>.inr ⟨L,by rw[<-a.s];exact e,d⟩,
    λj h L aH e=>⟨h,L,aH,by rw[a.s];exact e,.refl _ _⟩,a.os,a.tape,a.output,a.own⟩
def cN.ext{k an}{b aB}(a:cN k b an aB):fp k b an aB:=⟨a.mem,a.box⟩
section mono
variable {k an:m ap}{b aB:a6}
def fp.hE(m:fp k b an aB){a:Nat}{L}(j:b.s[a]?=f L)(o:c b.s=c k)(h:∀d,k[a]?=f d->d.dH=v):
    (∀d,an[a]?=f d->d.dH=v)/\∃e,aB.s[a]?=f e/\e.v=L.v:=by have i:a<c k:=M;obtain⟨g,e,k1,q,r⟩:=m.box a (k[a]) L (bI i) j;have p:=h _ (bI i);generalize k[a]=d at *;rw[k1];cases d<;>cases g<;>simp_all[fM,ap.dH]
def cB.mono(i:fp k b an aB)(s:c b.s=c k){aa}{x}(j:cB k b aa x):cB an aB aa x:=by
  cases x with
  |c V=>exact Rd.mono i.mem j
  |any=>exact j
  |ptr a K=>
    obtain⟨h,L,N,e,z,F⟩:=j;obtain⟨q,d,k1,A⟩:=i.hE e s h;exact⟨q,d,N,k1,by grind,F⟩
  |w a S T O=>
    obtain⟨B,m,Q⟩:=j;obtain⟨w,d,k1,A,r⟩:=i.box a (k[a]) (b.s[a]'u) (bI m) (bI u);have y:a<c an:=(cO.1 k1).1;refine⟨Rd.mono i.mem B,y,λM C q o g=>?_⟩;rw[g]at k1;cases k1;have aH:=bI m;generalize k[a]=t at *;cases t with
    |w eO D I p=>
      obtain⟨R,J⟩:=r;grind
    |_=>simp[fM]at r
  |aV a=>
    obtain⟨h,L,e,z,F⟩:=j;obtain⟨q,d,k1,A⟩:=i.hE e s h;exact⟨q,d,k1,by grind,F⟩
  |N a U=>
    obtain⟨E,B,m,Q⟩:=j;obtain⟨w,d,k1,A,r⟩:=i.box a (k[a]) (b.s[a]'u) (bI m) (bI u);have y:a<c an:=(cO.1 k1).1;refine⟨E,B,y,λM C q o g=>?_⟩;rw[g]at k1;cases k1;have aH:=bI m;generalize k[a]=t at *;cases t with
    |p eO D I p=>
      obtain⟨R,J⟩:=r;grind
    |_=>simp[fM]at r
def bM.mono(g:fp k b an aB)(a:c b.s=c k){y}{ag}(e:bM k b y ag):bM an aB y ag:=by
  induction y generalizing ag with
  |nil=>cases ag<;>simp_all[bM]
  |cons i y d=>
    cases ag with
    |nil=>simp[bM]at e
    |cons h ag=>exact⟨e.1.mono g a,d e.2⟩
def ey.mono(h:fp k b an aB)(a:c b.s=c k){aa}{g}(i:ey k b aa g):ey an aB aa g:=by
  cases g with
  |R m=>exact cB.mono h a i
  |agg j=>obtain⟨y,d,e⟩:=i;exact⟨y,d,e.mono h a⟩
def eV.mono(h:fp k b an aB)(a:c b.s=c k){y}{af}(e:eV k b y af):eV an aB y af:=by
  induction y generalizing af with
  |nil=>cases af<;>simp_all[eV]
  |cons j y d=>
    cases af with
    |nil=>simp[eV]at e
    |cons i g=>exact⟨e.1.mono h a,d e.2⟩
def bv.mono(h:fp k b an aB)(a:c b.s=c k){aa}{d}(i:bv k b aa d):bv an aB aa d:=by
  cases d with
  |n m=>exact ey.mono h a i
  |Q j=>obtain⟨y,e,g⟩:=i;exact⟨y,e,g.mono h a⟩
  |any=>trivial
def b4.mono(h:fp k b an aB)(a:c b.s=c k){y}{af}(e:b4 k b y af):b4 an aB y af:=by
  induction y generalizing af with
  |nil=>cases af<;>simp_all[b4]
  |cons j y d=>
    cases af with
    |nil=>simp[b4]at e
    |cons i g=>exact⟨e.1.mono h a,d e.2⟩
end mono
def ja(e:m ap)(h:a6):m Deferred->m Nat->Prop
  |[],[]=>True
  |i::b,d::a=>(e[d]?=f .bl/\∃(L:Loc) (g:Nat),h.s[d]?=f L/\L.v=.int .i64 g/\i={target:=.collected g,args:=#[]})/\d∉a/\ja e h b a
  |_,_=>False
def ja.mono{k an}{b aB}(o:fp k b an aB):∀{a:m Deferred} {d:m Nat},ja k b a d->ja an aB a d
  |[],[],_=>trivial
  |[],_::_,e=>e.elim
  |_::_,[],e=>e.elim
  |w::a,u::d,⟨⟨i,L,e,j,x,s⟩,t,p⟩=>by
    obtain⟨g,h,k1,q,r⟩:=o.box u _ L i j;cases g<;>simp[fM]at r
    exact⟨⟨k1,h,e,q,by grind,s⟩,t,ja.mono o p⟩
def jN:m ap->Bool
  |[]=>l
  |.bl::_=>v
  |_::a=>jN a
def vw:∀{e:m ap},jN e=l->∀a∈e,a≠.bl
  |[],_,a,aH=>by grind
  |d::g,h,a,aH=>by
    have b:d≠.bl/\jN g=l:=by cases d<;>simp_all[jN]
    rcases e8.1 aH with rfl|aH
    · exact b.1
    · exact vw b.2 a aH
theorem mu{b}{a}{wr}{L}(d:L∈b.s)(e:a∈L.aj):h6 b ⟨.obj a,wr,v⟩:=⟨rfl,.inr ⟨L,d,e⟩⟩
def dv.R{b}{a}(e:h6 b a):dv b #[a]:=by intro D d;grind
def dv.fj{b}{d a}(h:h6 b d)(g:h6 b a):dv b #[d,a]:=by intro i e;grind
def bu{S:Prop}(s:S:=by simp<;>omega):S:=s
def cS{S:Prop}(s:S:=by((try simp only[T,T.Z,a8,bw,dp,cZ,cW,df,gh,fh,gK,kE,List.length_take,d6,e0,gL,j',dm,dA,gi,iI,gw,is,hB,p1,cn,jC,je,m7,oT,lC,a7,a']);and_intros<;>first|rfl|omega|trivial|assumption)):S:=s
def hE{S:Prop}(s:S:=by((try simp only[*,T,T.Z,a8,bw,dp,cZ,cW,df,gh,fh,gK,kE,List.length_take,d6,e0,gL,j',dm,dA,gi,iI,gw,is,hB,p1,cn,jC,je,m7,oT,lC,a7,a']);and_intros<;>first|rfl|omega|trivial|assumption)):S:=s
def lH{S:Prop}(s:S:=by(simp_all[T,T.Z,a8,bw,dp,cZ,cW,df,gh,fh,gK,kE,List.length_take,d6,e0,gL,j',dm,dA,gi,iI,gw,is,hB,p1,cn,jC,je,m7,oT,lC,a7,a']<;>omega)):S:=s
def bG{S:Prop}(s:S:=by((try simp only[*,T,T.Z,a8,bw,dp,cZ,cW,df,gh,fh,gK,kE,List.length_take,d6,e0,gL,j',dm,dA,gi,iI,gw,is,hB,p1,cn,jC,je,m7,oT,lC,a7,a',a2.l,a3.l,bj.l,bH.l,aA.l,bB.l,bS.l,cA.l,e_.l,a2.T,a3.T,bj.T,bH.T,aA.T,bB.T,bS.T,cA.T,e_.T]);and_intros<;>first|rfl|omega|trivial|assumption)):S:=s
abbrev ax(a:K):x:=.n (.R (.c a))
abbrev aI(a b:Nat):x:=.n (.R (.ptr a b))
abbrev cD(a:Nat)(b:pJ):x:=.n (.R (.N a b))
abbrev cM(a:Value):x:=.n (.R (.c (.val a)))
variable {j z:Nat}{h:Int}{d i e t:Nat}{W:al}{H:X->(Nat->Option Obj)->Prop}{L:Array Bool}{bz:Mem}{E:Nat}{P:aE}{br:ai->a6->Prop}{r:Code}{B:ai}{q:ao}{b:a6}{o:al}{aa:X}{α:Type}{η:ae->x}{ι:Type}{k:m ap}{F:bJ}{all:m ao}{ds:Array al}{cap:m K}{cQ:m x}{k5:Nat->Option Obj}{ag:m aG}{bf:m (Nat×Bool)}{U:Nat->m K}{cP:ae}{gs:Array ai}{aU:m Nat}{cl:m Prop}{off:Nat}{op:BinOp}{aM:Array ao}{Y:m Prop}{bq:m ao}{aB:a6}{ty:al}{val:Nat->Nat->X}{y:m X}{bg:ar}{af:Array ae}{an dh:m ap}{res:ι->x}{aQ:ι->m ap}
def J6{P}{k}:∀{p:m (String×DataW Unit)}{d:m MemPlace},DataW.LaidVars P k p d->∀{e:String}{h:DataW Unit},(e,h)∈p ->
  ∃i j b a q,P.globalNamed e=f i/\(P.globals[i]?).map (·.type)=f j/\k.var? P e=f b/\DataW.trod (λ_=>()) P k 0 (λ_=>l) v a j b.toList=f (h,q)
 |[],_,_,_,_,g=>by cases g
 |(z,s)::B,d,t,e,h,g=>by
  obtain⟨i,j,b,a,q,A,x,u,y,w,r,_⟩:=t;rcases e8.1 g with o|o
  .grind
  exact J6 r o
theorem Mc{P}{a:ar}(b:a.ShapedOpen P){B}{zero}{o}(d:B<P.globals.size)(h:(((begin P (λ_ _=>0) default).world.heap[B]?).bind Obj.row?)=f (zero,o)){j}(k:P.globalNamed j=f B){ag}(e:a.var? P j=f ag):
  a.heap[B]?=f (.cells ag o (0,0)):=by obtain⟨g,i,_⟩:=b.1 B zero o d h;unfold World.var? at e;grind
def J8{P}{b}{g:m (String×DataW Unit)}(p:laidMetH P g b)(h:b.ShapedOpen P){j e}{k}(F:(j,.iface e k)∈g.filter λE=>E.2.handleName?.isNone){B o r}{cw}{zero}(d:P.globalNamed j=f B)(y:(P.globals[B]?).map (·.type)=f o)(x:P.underlying o=f (.interface cw))(D:B<P.globals.size)(I:(((begin P (λ_ _=>0) default).world.heap[B]?).bind Obj.row?)=f (zero,r)):∃a:al×X,b.heap[B]?=f (.cells #[.iface a.1 a.2] r (0,0)):=by obtain⟨w,q,_⟩:=(laidMetH_iff.1 p).1;obtain⟨O,t2,i,J,K,u,s,z,t⟩:=J6 q F;cases d.symm.trans u;cases y.symm.trans s;obtain⟨_,A,C,a,_⟩:=iface_of_trod x t;have:=Mc h D I d z;rw[Array.eq_one_of_toList a]at this;exact⟨(A,C),this⟩
def Y'{P}{a}{d}(p:laidMetH P d a)(y:a.ShapedOpen P){j}{e}{b}(w:(j,e)∈d.filter λx=>x.2.handleName?.isSome)(m:e.funcsIn?=n)(t:e.handleName?=f b){B i h ty}{zero}(F:P.globalNamed j=f B)(s:(P.cutTypes.find? (·.1== "internal/reflectlite.rtype")).map (·.2)=f h)(D:((az P.types.size).filter λg=>P.rowNamed g b)=[ty])(E:B<P.globals.size)(O:(((begin P (λ_ _=>0) default).world.heap[B]?).bind Obj.row?)=f (zero,i)):a.heap[B]?=f (.cells #[.iface h (.agg #[typeHandle P ty])] i (0,0)):=by have:=(laidMetH_iff.1 p).2 _ w;rw[m]at this;obtain⟨name,C,k,o,u,q,r,A⟩:=this;cases t.symm.trans o;cases s.symm.trans u;have z:k∈(az P.types.size).filter λg=>P.rowNamed g b:=iK.2 ⟨re.2 q,r⟩;grind[Mc]
section
open Go.Conc (G listed)
def kB(e b:a6)(d:Array aR):Prop:=(∃g a,bb g e/\bb a b/\cN g e a b)/\dv e d
structure ah(P:aE) where
 b3:Bool
 rely:a6->a6->Prop
 dj:ai->a6->(ai->a6->Prop)->Prop
 bI:∀{b aB},rely b aB->cV b aB
 dN:Prop
class ah.bZ {P:aE} (p:ah P):Prop where
 ok:p.dN
structure eZ(b aB:a6):Prop where
 a:aB.a=b.a
 mem:∀i q aa,b.C i q=f aa->aB.C i q=f aa
 bC:∀i,(∀L∈b.s,i∉L.aj)->∀q,aB.C i q=b.C i q
 cell:∀i q aa,aB.C i q=f aa->b.a.cell? ⟨i,q,n⟩=f aa
 blk:∀i,(aB.own i∨∃L∈aB.s,i∈L.aj)->b.own i∨∃L∈b.s,i∈L.aj
structure nR(b aB:a6):Prop where
 a:aB.a=b.a
 s:aB.s=b.s
 own:aB.own=b.own
 e7:∀i q aa,aB.C i q=f aa->b.C i q=f aa
 mem:∀i q aa,b.C i q=f aa->aB.C i q=f aa∨b.own i
inductive ce {P:aE} (p:ah P) (br:ai->a6->Prop):ai->a6->Prop
 |stop {B:ai} {b:a6}:br B b->ce p br B b
 |step {B:ai} {b:a6} (KD:a6->ai) (bt:a6->a6) (Ky:a6->Array aR):B.status=.running ->
   (∀s1,p.rely b s1->aq P p.b3 B s1.a=.go (KD s1) (bt s1).a (Ky s1))->(∀s1,p.rely b s1->kB s1 (bt s1) (Ky s1))->(∀s1,p.rely b s1->ce p br (KD s1) (bt s1))->ce p br B b
 |aP {B:ai} {b aB:a6}:eZ b aB->ce p br B aB->ce p br B b
 |b1 {B:ai} {b aB:a6}:p.dN->nR b aB->ce p br B aB->ce p br B b
 |dj {B:ai} {b:a6} {ac:ai->a6->Prop}:p.dj B b ac->(∀hu aB,ac hu aB->ce p br hu aB)->ce p br B b
section
variable {p:ah P}
def ce.next(h:B.status=.running)(i:∀r,p.rely b r->∃a aB U,aq P p.b3 B r.a=.go a aB.a U/\kB r aB U/\ce p br a aB):ce p br B b:=by
 classical
 have d:∀r,∃a9:ai×a6×Array aR,p.rely b r->aq P p.b3 B r.a=.go a9.1 a9.2.1.a a9.2.2/\kB r a9.2.1 a9.2.2/\ce p br a9.1 a9.2.1:=by
  intro r;by_cases e:p.rely b r
  .obtain⟨a,aB,U,c5⟩:=i r e;exact⟨(a,aB,U),λ_=>c5⟩
  exact⟨(B,r,#[]),λg=>absurd g e⟩
 refine .step (λr=>(Classical.choose (d r)).1) (λr=>(Classical.choose (d r)).2.1) (λr=>(Classical.choose (d r)).2.2) h M M ?_;grind
def eZ.of(m:bb k b)(o:bb an aB)(p:aB.a=b.a)(h:de k b an aB):eZ b aB:=by
 have u:∀a g i,aB.C a g=f i->b.a.cell? ⟨a,g,n⟩=f i:=λa g i j=>by rw[<-p];exact o.mem a g i j
 have r:∀a g i,b.a.cell? ⟨a,g,n⟩=f i->a<b.a.heap.size:=by
  intro a g i j;rcases dW a b.a.heap.size with d|d
  .exact d
  simp[aJ,Aw d]at j
 refine⟨p,h.mem,λa e g=>?_,u,λa e=>?_⟩
 .rcases dW a b.a.heap.size with d|d
  .exact h.bC a d e g
  cases t:aB.C a g with
  |some i=>grind
  |none=>cases s:b.C a g with
   |none=>rfl
   |some i=>have:=r _ _ _ (m.mem _ _ _ s);omega
 rcases e with e|⟨L,q,e⟩
 .exact .inl (by rw[<-h.own];exact e)
 rcases h.bS L q a e with d|d
 .have:=o.lt L q a e;grind
 grind
def bb.rely(m:bb k b)(h:cV b aB):bb k aB:=by
 have s:fp k b k aB:=h.aI.ext;have X:∀u x,cB k b u x->cB k aB u x:=λu x w=>w.mono s m.len;refine⟨λj r u B=>h.mem j r u (by rw[<-h.C];exact B),by rw[h.s];exact m.len,?_,by rw[h.s];exact m.a0,?_,?_⟩
 .intro d D L aH o;rw[h.s]at o;have e:=m.box d D L aH o;have K:∀j∈L.aj,aB.a.heap[j]?=b.a.heap[j]?:=λj e=>h.a3 j (.inr ⟨L,b8 o,e⟩);cases D with
  |cells E F=>
   obtain⟨j,y,g,i,p,q⟩:=e;subst g;exact⟨j,y,a,by grind,p.mono s m.len,λr=>by rw[h.C,q]⟩
  |w E O R A=>
   obtain⟨g,i⟩:=e;refine⟨by rw[h.C];exact g,?_⟩;rcases i with⟨i,p⟩|⟨j,cap,y,i,p,q,t⟩
   .exact .inl ⟨i,by rw[h.C];exact p⟩
   subst i;exact .inr ⟨j,cap,y,a,by grind,q,λr C=>by rw[h.C,t r C]⟩
  |J H=>
   obtain⟨z,g,i,p,q⟩:=e;refine⟨z,g,λj r W=>?_,p,λj I r=>by rw[h.C,q j I]⟩;grind
  |M=>trivial
  |loop V U w=>
   obtain⟨d,tmps,fn,J,g,i,p,q,t⟩:=e;subst g;exact⟨d,tmps,fn,J,a,by grind,p,λT=>(q T).mono s m.len,λr=>by rw[h.C,t]⟩
  |bl=>
   obtain⟨w,g,i,p⟩:=e;subst g;exact⟨w,a,by grind,λr=>by rw[h.C,p]⟩
  |p E O R A=>
   rcases e with e|⟨j,S,y,Q,g,i,p,q,t,M,N⟩
   .exact .inl e
   subst g;exact .inr ⟨j,S,y,Q,a,by grind,p,q,t,by rw[h.C];exact M,λr=>by rw[h.C,N]⟩
 .intro L o j e;rw[h.s]at o;exact eC (m.lt L o j e) h.size
 intro j e;rw[h.own]at e;rw[h.s];exact⟨eC (m.own j e).1 h.size,(m.own j e).2⟩
def kB.aS(a:bb k b):kB b b #[]:=⟨⟨k,k,a,a,.refl _ _⟩,.nil⟩
def _root_.Go.Frame.ab(b:aG)(a:Act)(todo:m Item):aG:={b with tmps:=a.tmps,todo:=todo,defers:=a.defers++b.defers,mode:=.run}
variable {i:aG}{w:Act}{h:m Item}{Q:ar}{eS:Bool}
def Jg(a:aG)(w)(r):(a.ab w r).eval=w.eval:=by funext b;cases b<;>rfl
def L':aq P eS (G (i.ab w (.code .skip::h)) ag) Q=.go (G (i.ab w h) ag) Q:=qQ
def L6{id}:aq P eS (G (i.ab w (.inBlock id::h)) ag) Q=.go (G (i.ab w h) ag) Q:=qQ
theorem pt{a b}:aq P eS (G (i.ab w (.code (.seq a b)::h)) ag) Q=.go (G (i.ab w (.code a::.code b::h)) ag) Q:=qQ
def y_{r}{a b}{o}(e:w.eval r=.bool o):
  aq P eS (G (i.ab w (.code (.cond r a b)::h)) ag) Q=.go (G (i.ab w (.code (if o then a else b)::h)) ag) Q:=by
 have d:(i.ab w (.code (.cond r a b)::h)).eval r=.bool o:=by rw[Jg];exact e
 simp[Frame.ab]at d;simp[G,aq,stepG.exec,Frame.ab,d]
def y9{id}:aq P eS (G (i.ab w (.code (.block id r)::h)) ag) Q=.go (G (i.ab w (.code r::.inBlock id::h)) ag) Q:=qQ
def L9:aq P eS (G (i.ab w (.code (.loop r)::h)) ag) Q=.go (G (i.ab w (.code r::.inLoop r::h)) ag) Q:=qQ
def L8:aq P eS (G (i.ab w (.inLoop r::h)) ag) Q=.go (G (i.ab w (.code r::.inLoop r::h)) ag) Q:=qQ
def L5{id}{gk}(s:exitTo id h=f gk):aq P eS (G (i.ab w (.code (.exit id)::h)) ag) Q=.go (G (i.ab w gk) ag) Q:=Fx
def za{id}:aq P eS (G (i.ab w (.code (.region id aM v)::h)) ag) Q=.go (G (i.ab w (.inRegion aM (az aM.size)::h)) ag) Q:=qQ
def D4{id}:aq P eS (G (i.ab w (.code (.region id aM l)::h)) ag) Q =
  .go (G (i.ab w (.inRegion aM (Region.schedule (P.follows .mixedOrders) aM (Q.tape Q.drawn (.order i.fn id)))::h)) ag) {Q with drawn:=Q.drawn+1}:=by simp[G,aq,stepG.exec,Frame.ab,choose,Sem.run,Question.forced,Question.cut]
def vT:aq P eS (G (i.ab w (.inRegion aM []::h)) ag) Q=.go (G (i.ab w h) ag) Q:=qQ
def D5(s:i.roundOf=n):aq P eS (G (i.ab w (.code .ret::h)) ag) Q=.go (G {i.ab w (.code .ret::h)with mode:=.returning} ag) Q:=Fx
def D3(s:i.roundOf=n):aq P eS (G (i.ab w []) ag) Q=.go (G {i.ab w []with mode:=.returning} ag) Q:=Fx
def qi(aM)(e)(bq)(aa):
  (i.ab w (.inRegion aM (e::bq)::h)).finish aa=i.ab (w.put ((aM[e]?).bind (·.dst)) aa) (.inRegion aM bq::h):=by cases a:(aM[e]?).bind (·.dst)<;>simp[Frame.finish,Frame.ab,Act.put,a]
def abl{bq}(a:aM[e]?=f q)(d:aS q (yielded aM w.tmps)=v):
  aq P eS (G (i.ab w (.inRegion aM (e::bq)::h)) ag) Q=.go (G (i.ab (w.put q.dst I) (.inRegion aM bq::h)) ag) Q:=by have b:=qi (i:=i) (w:=w) (h:=h) aM e bq I;rw[a]at b;simp[n0]at b;rw[<-b];simp[G,aq,stepG.exec,Frame.ab,a,d]
theorem xQ{a:ae->X}{r}(h:q.op=.defer r){e}(b:(ab a q).run P Q=.ok e bg):∃d,e=.defer d:=by
 simp[ab,h,cK]at b;cases g:(resolve a r q.type).run P Q with
 |ok d w2=>rw[g]at b;simp at b;grind
 |halt i w2=>simp_all
def y'{a:m Nat}(b:aM[e]?=f q)(j:aS q (yielded aM w.tmps)=l)(k:∀g,q.op≠.defer g):
  aq P eS (G (i.ab w (.inRegion aM (e::a)::h)) ag) Q=stepG.apply P l (i.ab w (.inRegion aM (e::a)::h)) ag n (ab w.eval q) Q:=by have d:=Jg i w (.inRegion aM (e::a)::h);simp[Frame.ab]at d;simp[G,aq,stepG.exec,stepG.oper,Frame.oper?,Frame.ab,b,j,d];grind
theorem abr{bq}(a:aM[e]?=f q)(g:aS q (yielded aM w.tmps)=l)(k:i.kind≠.early)(j:(ab w.eval q).run P Q=.ok (.value aa) bg):
  aq P eS (G (i.ab w (.inRegion aM (e::bq)::h)) ag) Q=.go (G (i.ab (w.put q.dst aa) (.inRegion aM bq::h)) ag) bg (listed P i.fn w q Q):=by have b:=qi (i:=i) (w:=w) (h:=h) aM e bq aa;rw[a]at b;simp[n0]at b;have d:(i.kind==CallKind.early)=v:=M;rw[y' a g (λm o=>by grind[xQ]),<-b];simp[stepG.apply,j,G,Frame.ab,d,GStep.after,listed]
theorem L_{bq}(a:aM[e]?=f q)(g:aS q (yielded aM w.tmps)=l)(k:i.kind≠.early)(j:(ab w.eval q).run P Q=.ok .skip bg):
  aq P eS (G (i.ab w (.inRegion aM (e::bq)::h)) ag) Q=.go (G (i.ab (w.put q.dst I) (.inRegion aM bq::h)) ag) bg (listed P i.fn w q Q):=by have b:=qi (i:=i) (w:=w) (h:=h) aM e bq I;rw[a]at b;simp[n0]at b;have d:(i.kind==CallKind.early)=v:=M;rw[y' a g (λm o=>by grind[xQ]),<-b];simp[stepG.apply,j,G,Frame.ab,d,GStep.after,listed]
def tC{bq}{b}{args}(a:aM[e]?=f q)(g:aS q (yielded aM w.tmps)=l)(k:i.kind≠.early)(j:(ab w.eval q).run P Q=.ok (.enter b args) bg):
  aq P eS (G (i.ab w (.inRegion aM (e::bq)::h)) ag) Q=.go (G (Frame.enter P b args .normal) (i.ab w (.inRegion aM (e::bq)::h)::ag)) bg (listed P i.fn w q Q):=by have d:(i.kind==CallKind.early)=v:=M;rw[y' a g (λm o=>by grind[xQ])];simp[stepG.apply,j,G,Frame.ab,d,GStep.after,listed]
structure l'(P:aE)(ak:a1)(hG:aG)(aa:X)(b:a6):Prop where
 jj:hG.fn=ak
 mode:hG.mode=.returning
 defers:hG.defers=[]
 kind:hG.kind=.normal
 fn:∃fn,P.funcs[hG.fn]?=f fn/\∀Q,(∀i q bx,b.C i q=f bx->Q.cell? ⟨i,q,n⟩=f bx)->(results fn hG.tmps).run P Q=.ok aa Q/\∀au∈(results fn hG.tmps).events P Q #[],∃i q bx,au=⟨.cell ⟨i,q,n⟩,v,v⟩/\b.C i q=f bx
def l'.mono{g}{hG}(o:l' P g hG aa b)(r:∀e h i,b.C e h=f i->aB.C e h=f i):l' P g hG aa aB:=by obtain⟨a,d,m,j,fn,k,q⟩:=o;refine⟨a,d,m,j,fn,k,λs p=>?_⟩;grind
def dv.seen{b}{U}{fn}(e:dv b U):dv b (seen P fn U):=λd a=>e d (Go.Conc.mem_seen a)
def abk{k}{B r}(g:l' P k B aa b)(Q)(m:∀a e h,b.C a e=f h->Q.cell? ⟨a,e,n⟩=f h):∃d,aq P eS (G B (r::ag)) Q=.go (G (r.finish aa) ag) Q d/\∀i∈d,∃a e h,i=⟨.cell ⟨a,e,n⟩,v,v⟩/\b.C a e=f h:=by obtain⟨fn,o,j⟩:=g.fn;obtain⟨s,q⟩:=j Q m;refine⟨seen P B.fn ((results fn B.tmps).events P Q #[]),?_,λi p=>q i (Go.Conc.mem_seen p)⟩;simp[G,aq,unwind,doReturn,g.mode,g.defers,g.kind,o,s,GStep.after]
end
end
structure bX(E:Nat)(k:m ap)(b:a6)(F:bJ)(w:Act):Prop where
 size:w.tmps.size=E
 defers:∃nz,ja k b w.defers nz
 ak:∀o,bv k b (w.tmps.getD o I) (look F o)
def bX.mono{E}{k an}{b aB}{F}{w}(g:de k b an aB)(e:c b.s=c k)(a:bX E k b F w):bX E an aB F w:=
 ⟨a.size,a.defers.imp λ_ d=>d.mono g.ext,λh=>(a.ak h).mono g.ext e⟩
def bX.rely{w}(e:cV b aB)(a:bb k b)(d:bX E k b F w):bX E k aB F w:=d.mono e.aI a.len
def bX.put{E}{k}{b}{F}{w}(a:bX E k b F w){N}(e:N<E){aa}{D}(j:bv k b aa D):bX E k b ((N,D)::F) (w.put (f N) aa):=by
 refine⟨by simp[Act.put,a.size],a.defers,λd=>?_⟩;simp[Act.put,look];by_cases g:N=d
 .subst g;rw[show ad N N=l from sz N];have h:N<w.tmps.size:=by rw[a.size];exact e
  simp[hA,uz h,h3,cond];exact j
 have:ad N d=v:=t0;rw[this];have i:=a.ak d;simp[hA]at i⊢;grind
def iE(h a:bJ):Prop:=∀b d g e,bv b d g (look h e)->bv b d g (look a e)
def bX.le{dF}{w}(d:iE F dF)(a:bX E k b F w):bX E k b dF w:=
 ⟨a.size,a.defers,λe=>d _ _ _ _ (a.ak e)⟩
abbrev fw:=Exit->bJ->m ap->Prop
def kI(h:ah P)(g:ai->a6->Prop)(i:aG)(k:m Item)(a:m aG):Exit->Act->a6->Prop
 |.normal,b,d=>ce h g (G (i.ab b k) a) d
 |.exit id,b,d=>∀pre,(∀e,exitTo id (pre++e)=exitTo id e)->ce h g (G (i.ab b (.code (.exit id)::(pre++k))) a) d
 |.ret,b,d=>∀pre,ce h g (G (i.ab b (.code .ret::pre)) a) d
 |.panic j,b,d=>∀o,ce h g (G {i.ab b o with mode:=.panicking j} a) d
 |_,_,_=>False
section
variable {p:ah P}{i:aG}{h:m Item}{w:Act}
def kI.cons{g}(o:∀id a,exitTo id (g::a)=exitTo id a){e}(m:e≠.normal)(d:kI p br i h ag e w b):kI p br i (g::h) ag e w b:=by
 cases e with
 |normal=>grind
 |exit id=>
  intro pre k;have:=d (pre++[g]) (λa=>by grind);grind
 |ret=>exact d
 |panic j=>exact d
 |goto q=>exact d
 |outgrown=>exact d
def ce.ctl{a}(g:bb k b)(j:B.status=.running)(i:∀h,aq P p.b3 B h=.go a h #[])(m:∀d,cV b d->ce p br a d):ce p br B b:=
 .next j λd e=>⟨a,d,#[],i d.a,.aS (g.rely (p.bI e)),m d (p.bI e)⟩
def uE{j}{t r}(u:bb k b)(m:l' P j t aa b)(o:∀d,cV b d->ce p br (G (r.finish aa) ag) d):ce p br (G t (r::ag)) b:=by refine .next a λd w=>?_;have e:=p.bI w;have h:=u.rely e;obtain⟨g,q,y⟩:=abk (eS:=p.b3) (r:=r) (ag:=ag) m d.a e.mem;refine⟨_,d,g,q,⟨⟨k,k,h,h,.refl _ _⟩,λi s=>?_⟩,o d e⟩;obtain⟨A,B,z,rfl,x⟩:=y i s;exact⟨a,a,.inr (.inr ⟨a,z,by rw[e.C];exact x⟩)⟩
def w9(k:Nat->Act->a6->Prop)(y:∀j w b,k j w b->∃o,bb o b/\∀g,cV b g->k j w g)(round:∀j w b,k j w b->(∀d e m,m<j->k m d e->ce p br (G (i.ab d (.inLoop r::h)) ag) e)->ce p br (G (i.ab w (.code r::.inLoop r::h)) ag) b)(B:k j w b):
  ce p br (G (i.ab w (.code (.loop r)::h)) ag) b:=by
 have key:∀j w b,k j w b->ce p br (G (i.ab w (.inLoop r::h)) ag) b:=by
  intro j;induction j using Nat.strongRecOn with
  |_ j A=>
   intro w b x;obtain⟨o,s,t⟩:=y j w b x;exact .ctl s a (λC=>L8) λg u=>round j w g (t g u) λd e m z q=>A m z d e q
 obtain⟨o,s,t⟩:=y j w b B;exact .ctl s a (λC=>L9) λg u=>round j w g (t g u) λd e m _ q=>key m d e q
end
def b0(p:ah P)(k:Nat)(u:Code)(aL:fw)(t:bJ)(i:m ap):Prop:=
 ∀h q,bX k i h t q->bb i h->∀j s g (o:ai->a6->Prop),j.kind≠.early ->
  (∀r d a b e,aL r d a->bX k a b d e->bb a b->de i h a b->kI p o j s g r e b)->ce p o (G (j.ab q (.code u::s)) g) h
def nU(a:m ao):m Nat->m ao->Prop
 |[],[]=>True
 |d::idx,e::b=>a.toArray[d]?=f e/\nU a idx b
 |_,_=>False
def ff(r:ah P)(p:Nat)(d e:m ao)(aL:bJ->m ap->Prop)(u:bJ)(k:m ap):Prop:=
 ∀j s,bX p k j u s->bb k j->∀(o:aG) t i (q:ai->a6->Prop) idx,o.kind≠.early->nU d idx e ->
  (∀g a b h,aL g a->bX p a b g h->bb a b->de k j a b->ce r q (G (o.ab h t) i) b)->ce r q (G (o.ab s (.inRegion d.toArray idx::t)) i) j
section rules
variable {p:ah P}{aL:fw}
def b0.mono{o}(x:b0 p E r aL F k)(y:∀a F k,aL a F k->o a F k):b0 p E r o F k:=
 λb s u j t A g q i h=>x b s u j t A g q i λa d an aB e B z w m=>h a d an aB e (y _ _ _ B) z w m
def b0.le{r}{dF}(o:b0 p E r aL dF k)(g:iE F dF):b0 p E r aL F k:=
 λs i m e j q a h d b=>o s i (m.le g) e j q a h d b
theorem b0.skip(m:aL .normal F k):b0 p E .skip aL F k:=λs e i d q r h o _ g=>
 .ctl d a (λ_=>L') λj b=>g .normal F k j e m (i.rely b d) (d.rely b) b.aI
def b0.ret(h:aL .ret F k):b0 p E .ret aL F k:=λj b g a o i e m _ d=>d .ret F k j b h g a (.refl _ _) i
theorem b0.exit{id}(h:aL (.exit id) F k):b0 p E (.exit id) aL F k:=λi b g a m o e j _ d=>by have:=d (.exit id) F k i b h g a (.refl _ _) [] bk;grind
def v5(next:bJ->m ap->Prop)(aL:fw):fw
 |.normal,a,b=>next a b
 |d,a,b=>aL d a b
theorem b0.seq{M y}(S:b0 p E M (v5 (b0 p E y aL) aL) F k):b0 p E (.seq M y) aL F k:=by
 intro V Q T d A J e z h g;refine .ctl d a (λ_=>pt) λU b=>?_;refine S U Q (T.rely b d) (d.rely b) A (.code y::J) e z h ?_;intro q N O u m K I D x;have B:=b.aI.trans x;cases q with
 |normal=>exact K u m I D A J e z h λq R j w o t r s i=>g q R j w o t r s (B.trans i)
 |_=>exact kI.cons (λ_ _=>rfl) C (g _ _ _ _ _ K I D B)
theorem b0.cond{r}{M N}{o}{u}(T:r=.tmp u)(B:look F u=ax (.bool o))(S:o=l->b0 p E M aL F k)(O:o=v->b0 p E N aL F k):b0 p E (.cond r M N) aL F k:=by
 intro V q y g x D j w m A;have t:=y.ak u;rw[B]at t;have z:q.eval r=.bool o:=by subst T;generalize z:q.tmps.getD u I=W at t;simp[bv,ey,cB]at t;cases t;exact z
 refine .ctl g a (λ_=>y_ z) λC e=>?_;have K:∀s h b d i,aL s h b->bX E b d h i->bb b d->de k C b d->kI p w x D j s i d:=λs h b d i U R Q J=>A s h b d i U R Q (e.aI.trans J);cases o
 .exact O a C q (y.rely e g) (g.rely e) x D j w m K
 exact S a C q (y.rely e g) (g.rely e) x D j w m K
def uJ(id:Nat)(aL:fw):fw
 |.exit a,b,d=>if a=id then aL .normal b d else aL (.exit a) b d
 |e,b,d=>aL e b d
theorem b0.block{id}(w:b0 p E r (uJ id aL) F k):b0 p E (.block id r) aL F k:=by
 intro A q x e s h g o i lQ;refine .ctl e a (λ_=>y9) λy d=>?_;refine w y q (x.rely d e) (e.rely d) s (.inBlock id::h) g o i ?_;intro au dF an j fP bi B ak m;have N:=d.aI.trans m;cases au with
 |normal=>
  exact O_
 |exit b=>
  simp[uJ]at bi;split at bi
  .exact QU
  .rename_i t
   intro pre ve;have:=lQ (.exit b) dF an j fP bi B ak N (pre++[.inBlock id]) (λgk=>by
    rw[mh,ve];have:(id==b)=v:=M
    simp[exitTo,this])
   grind
 |ret=>exact lQ _ _ _ _ _ bi B ak N
 |panic u=>exact lQ _ _ _ _ _ bi B ak N
 |goto z=>exact lQ _ _ _ _ _ bi B ak N
 |outgrown=>exact lQ _ _ _ _ _ bi B ak N
def b0.loop{br:Type}(w:br->Prop)(h:br->bJ)(b:br->m ap)(y:br->Nat)(e)(ae:w e)(Y:iE F (h e))(V:b e=k)(round:∀e,w e->b0 p E r (v5 (λz A=>∃d,w d/\y d<y e/\iE z (h d)/\A=b d) aL) (h e) (b e)):b0 p E (.loop r) aL F k:=by
 intro ab ag Z N T W I br M K;subst V;refine w9 (λj g aB=>∃d,w d/\bX E (b d) aB (h d) g/\bb (b d) aB/\de (b e) ab (b d) aB/\y d=j) ?_ ?_ ⟨e,ae,Z.le Y,N,.refl _ _,a⟩
 .rintro j g aB ⟨d,t,q,B,x,J⟩;exact⟨b d,B,λai o=>⟨d,t,q.rely o B,B.rely o,x.trans o.aI,J⟩⟩
 rintro j g aB ⟨d,t,q,B,x,rfl⟩ aa;refine round d t aB g q B T (.inLoop r::W) I br M ?_;intro J ah S O D Q s u i;cases J with
 |normal=>
  obtain⟨R,af,X,U,rfl⟩:=Q;exact aa D O (y R) X ⟨R,af,s.le U,u,x.trans i,a⟩
 |_=>exact kI.cons (λ_ _=>rfl) C (K _ _ _ _ _ Q s u (x.trans i))
end rules
def bM.cH{ag}(d:bM k b y ag):c y=c ag:=by
 induction y generalizing ag with
 |nil=>cases ag<;>simp_all[bM]
 |cons g y a=>
  cases ag with
  |nil=>simp[bM]at d
  |cons e ag=>simp[a d.2]
def cB.cell{k}{b}{aa}{g}(a:cB k b aa g):dS aa=l:=by
 cases g with
 |c p=>exact Rd.cell a
 |ptr e h=>obtain⟨_,_,_,_,_,rfl⟩:=a;rfl
 |w e j m i=>exact Rd.cell a.1
 |aV e=>obtain⟨_,_,_,_,d⟩:=a;exact d
 |N e o=>obtain⟨_,d,_⟩:=a;exact d.cell
 |any=>exact a
theorem bM.get{ag}(h:bM k b y ag){w}(d:ag[t]?=f w):∃e,y[t]?=f e/\cB k b e w:=by
 induction y generalizing ag t with
 |nil=>cases ag<;>simp_all[bM]
 |cons e y g=>
  cases ag with
  |nil=>grind
  |cons i ag=>
   cases t with
   |zero=>simp at d;subst d;exact⟨e,a,h.1⟩
   |succ t=>simp at d;obtain⟨o,j,m⟩:=g h.2 d;grind
def bM.cell{k}{b}{y}{ag}(e:bM k b y ag):∀h∈y,h.oneCell'=l:=by
 induction y generalizing ag with
 |nil=>simp
 |cons h y d=>
  cases ag with
  |nil=>simp[bM]at e
  |cons i ag=>
   intro g a;rcases e8.1 a with rfl|a
   .have:=cB.cell e.1;cases g<;>simp_all[dS,Value.oneCell']
   exact d e.2 g a
def bM.append{i}{ag a}(e:bM k b y ag)(g:bM k b i a):bM k b (y++i) (ag++a):=by
 induction y generalizing ag with
 |nil=>cases ag<;>simp_all[bM]
 |cons j y d=>
  cases ag with
  |nil=>simp[bM]at e
  |cons h ag=>exact⟨e.1,d e.2⟩
def bM.take{k}{b}{y}{ag}(d:bM k b y ag)(h):bM k b (y.take h) (ag.take h):=by
 induction y generalizing ag h with
 |nil=>cases ag<;>simp_all[bM]
 |cons g y a=>
  cases ag with
  |nil=>simp[bM]at d
  |cons e ag=>cases h with
   |zero=>simp[bM]
   |succ h=>exact⟨d.1,a d.2 h⟩
def bM.drop{k}{b}{y}{ag}(d:bM k b y ag)(h):bM k b (y.drop h) (ag.drop h):=by
 induction y generalizing ag h with
 |nil=>cases ag<;>simp_all[bM]
 |cons g y a=>
  cases ag with
  |nil=>simp[bM]at d
  |cons e ag=>cases h with
   |zero=>exact d
   |succ h=>simpa using a d.2 h
theorem bb.block(a:bb k b){q}(d:b.C i q=f aa):i<b.a.heap.size:=by
 have:=a.mem i q aa d;rcases dW i b.a.heap.size with a|a
 .exact a
 simp[aJ,Aw a]at this
def bb.same(g:bb k b)(u:bg.heap=b.a.heap):bb k {b with a:=bg}:=by
 have M:∀j,bg.cell? j=b.a.cell? j:=λj=>by simp[aJ,u]
 have S:∀p j,cB k b p j->cB k {b with a:=bg} p j:=λp j o=>by cases j<;>exact o
 have x:∀y d,bM k b y d->bM k {b with a:=bg} y d:=by
  intro y;induction y with
  |nil=>intro d o;cases d<;>simp_all[bM]
  |cons p y A=>intro d o;cases d with
   |nil=>simp[bM]at o
   |cons j d=>exact⟨S _ _ o.1,A _ o.2⟩
 refine⟨λe D p z=>by rw[M];exact g.mem e D p z,g.len,?_,g.a0,λL x e i=>by show e<bg.heap.size;rw[u];exact g.lt L x e i,λe i=>⟨by show e<bg.heap.size;rw[u];exact(g.own e i).1,(g.own e i).2⟩⟩;intro B s L aH r;have:=g.box B s L aH r;cases s with
 |cells C E=>
  obtain⟨e,y,a,h,m,q⟩:=this;exact⟨e,y,a,by grind,x _ _ m,q⟩
 |w C K N w=>
  obtain⟨a,h⟩:=this;refine⟨a,?_⟩;grind
 |J H=>
  obtain⟨t,a,h,m,q⟩:=this;exact⟨t,a,λe D i=>by grind,m,q⟩
 |M=>trivial
 |loop U T o=>
  obtain⟨B,tmps,fn,F,a,h,m,q,J⟩:=this;exact⟨B,tmps,fn,F,a,by grind,m,λR=>bv.mono (b:=b) (an:=k) (aB:={b with a:=bg}) ⟨λ_ _ _ g=>g,λ_ s L g I=>⟨s,L,g,I,.refl _ _⟩⟩ g.len (q R),J⟩
 |bl=>
  obtain⟨o,a,h,m⟩:=this;exact⟨o,a,by grind,m⟩
 |p C K N w=>
  rcases this with a|⟨e,Q,y,O,a,h,m⟩
  .exact .inl a
  exact .inr ⟨e,Q,y,O,a,by grind,m⟩
def cN.same(o:bg.heap=b.a.heap)(e:bg.os=b.a.os)(j:bg.tape=b.a.tape)(m:bg.output=b.a.output):cN k b k {b with a:=bg}:=
 ⟨by grind,λi _ _=>by grind,λ_ _ _ a=>a,λ_ _ _ _=>rfl,λL a i d=>.inr ⟨L,a,d⟩,λ_ g L a h=>⟨g,L,a,h,.refl _ _⟩,e,j,m,rfl⟩
def ew.b8{r}{L}(p:fp k b an aB)(q:c b.s=c k)(i:∀g∈L.aj,aB.a.heap[g]?=b.a.heap[g]?/\∀j,aB.C g j=b.C g j)(o:ew k b r L):ew an aB r L:=by
 cases r with
 |cells z B=>
  obtain⟨g,y,d,e,h,m⟩:=o;subst d;obtain⟨k1,t⟩:=i g C;exact⟨g,y,a,by grind,h.mono p q,λj=>by grind⟩
 |w z F I u=>
  obtain⟨d,e⟩:=o;refine⟨d.mono p.mem,?_⟩;rcases e with⟨e,h⟩|⟨g,cap,y,e,h,m,w⟩
  .exact .inl ⟨e,h.mono p.mem⟩
  grind
 |J H=>
  obtain⟨s,d,e,h,m⟩:=o;refine⟨s,d,λg j Q=>?_,h,λg R j=>by grind⟩;grind
 |M=>trivial
 |loop O N x=>
  obtain⟨A,tmps,fn,D,d,e,h,m,w⟩:=o;subst d;obtain⟨k1,t⟩:=i A C;exact⟨A,tmps,fn,D,a,by grind,h,λM=>(m M).mono p q,λj=>by grind⟩
 |bl=>
  obtain⟨x,d,e,h⟩:=o;subst d;obtain⟨k1,t⟩:=i x C;exact⟨x,a,by grind,λj=>by grind⟩
 |p z F I u=>
  rcases o with d|⟨g,K,y,J,d,e,h,m,w,E,S⟩
  .exact .inl d
  subst d;obtain⟨k1,t⟩:=i g C;exact .inr ⟨g,K,y,J,a,by grind,h,m,w,E.mono p.mem,λj=>by grind⟩
def a6.bW(a:a6)(b:al)(y:m X):a6:=
 {s:=a.s++[⟨.pointer (f ⟨a.a.heap.size,0,n⟩),[a.a.heap.size]⟩],C:=a.C,a:=a.a.alloc (.cells y.toArray b),own:=a.own}
theorem iX(a:ar)(q)(b:i<a.heap.size):(a.alloc q).heap[i]?=a.heap[i]?:=by show(a.heap.push q)[i]?=a.heap[i]?;grind
theorem lS(a:ar)(q):(a.alloc q).heap[a.heap.size]?=f q:=by show(a.heap.push q)[a.heap.size]?=f q;simp
def cN.bW{k}(b)(W)(y)(h):cN k b (k++[h]) (b.bW W y):=by
 refine⟨by simp[a6.bW],?_,λ_ _ _ m=>m,λ_ _ _ _=>rfl,?_,?_,a,a,a,a⟩
 .intro i cT _;exact iX _ _ cT
 .intro L e i cT;simp[a6.bW,fy,gJ]at e;grind
 intro g d L j e;have o:g<c b.s:=(cO.1 e).1;have p:g<c k:=(cO.1 j).1;exact⟨d,L,by grind,by simp[a6.bW];grind,.refl _ _⟩
def bb.bW{k}{b}(h:bb k b){W}{y}{ag}(B:bM k b y ag):bb (k++[.cells W ag]) (b.bW W y):=by
 have u:=cN.bW (k:=k) b W y (.cells W ag);have A:(b.bW W y).a.heap.size=b.a.heap.size+1:=by simp[a6.bW]
 refine⟨?_,by simp[a6.bW,h.len],?_,?_,?_,?_⟩
 .intro i q aa j;have g:=h.block j;have:=h.mem i q aa j;rw[<-this];simp[aJ,a6.bW];grind[iX]
 .intro d z L aH e;rcases Nat.lt_trichotomy d (c k) with x|rfl|C
  .rw[j6 x]at aH;simp[a6.bW]at e;rw[j6 (by rw[h.len];exact x)]at e;refine(h.box d z L aH e).b8 u.ext h.len λi g=>⟨?_,λ_=>rfl⟩
   have:=h.lt L (b8 e) i g;exact iX _ _ this
  .simp at aH;subst aH;simp[a6.bW]at e;rw[ho (by rw[h.len];grind)]at e;simp[h.len]at e;subst e;refine⟨b.a.heap.size,y,a,lS _ _,B.mono u.ext h.len,λq=>?_⟩;cases j:b.C b.a.heap.size q with
   |none=>exact j
   |some aa=>have:=h.block j;omega
  grind
 .intro d t L p e m i g o;simp[a6.bW]at e m;have w:∀d L,(b.s++[⟨.pointer (f ⟨b.a.heap.size,0,n⟩),[b.a.heap.size]⟩])[d]?=f L->(b.s[d]?=f L)∨(d=c b.s/\L.aj=[b.a.heap.size]):=M;rcases w d L e with r|⟨rfl,r⟩<;>rcases w t p m with s|⟨rfl,s⟩
  .exact h.a0 d t L p r s i g o
  .have:=h.lt L (b8 r) i g;grind
  .have:=h.lt p (b8 s) i o;grind
  rfl
 .intro L e i g;rw[A];simp[a6.bW,fy,gJ]at e;rcases e with e|rfl
  .have:=h.lt L e i g;omega
  grind
 intro i g;obtain⟨E,D⟩:=h.own i g;refine⟨by grind,λL e=>?_⟩;simp[a6.bW,fy,gJ]at e;grind
def bb.cn(d:bb k b){cg}(p:b.a.heap.size<=bg.heap.size)(h:∀i,i<b.a.heap.size->bg.heap[i]?=b.a.heap[i]?)(r:∀i,i<b.a.heap.size->∀q,cg i q=b.C i q)(y:∀i,b.a.heap.size<=i->∀q aa,cg i q=f aa->bg.cell? ⟨i,q,n⟩=f aa)(s:bg.os=b.a.os)(w:bg.tape=b.a.tape)(t:bg.output=b.a.output):bb k ⟨b.s,cg,bg,b.own⟩/\cN k b k ⟨b.s,cg,bg,b.own⟩:=by
 have m:cN k b k ⟨b.s,cg,bg,b.own⟩:=
  ⟨p,λi a _=>h i a,λi q aa e=>by rw[<-e];exact r i (d.block e) q,λi a _ q=>r i a q,λL d i a=>.inr ⟨L,d,a⟩,λ_ o L d u=>⟨o,L,d,u,.refl _ _⟩,s,w,t,rfl⟩
 refine⟨⟨?_,d.len,?_,d.a0,λL g i a=>eC (d.lt L g i a) p,λi a=>⟨eC (d.own i a).1 p,(d.own i a).2⟩⟩,m⟩
 .intro i q aa e;rcases dW i b.a.heap.size with a|a
  .have j:b.C i q=f aa:=M;rw[<-d.mem i q aa j];simp[aJ];grind
  grind
 intro x o L aH g;exact(d.box x o L aH g).b8 m.ext d.len λi a=>⟨h i (d.lt L (b8 g) i a),λq=>r i (d.lt L (b8 g) i a) q⟩
def bb.write(j:bb k b){L}{ag h}{r}(aH:k[d]?=f (.cells W ag))(p:b.s[d]?=f L)(x:L.aj=[i])(B:bM k b r h):bb (k.set d (.cells W h)) {b with a:=b.a.setRow i r.toArray}/\cN k b (k.set d (.cells W h)) {b with a:=b.a.setRow i r.toArray}:=by
 have w:d<c k:=(cO.1 aH).1;obtain⟨s,y,t,u,E,A⟩:=j.box d _ L aH p;subst t;simp at x;subst x;have o:cN k b (k.set d (.cells W h)) {b with a:=b.a.setRow s r.toArray}:=by
  refine⟨by simp,?_,λ_ _ _ j=>j,λ_ _ _ _=>rfl,λL j i g=>.inr ⟨L,j,g⟩,?_,a,a,a,a⟩
  .intro i g jm;exact setRow_other _ _ _ _ (λau=>jm _ (b8 p) z0)
  intro m bT cu e lP;by_cases au:d=m
  .subst au;rw[aH]at e;cases e;exact⟨_,cu,by rw[iq w],lP,by simp[fM]⟩
  exact E0
 refine⟨⟨?_,by simp[j.len],?_,j.a0,λL p i g=>by simpa using j.lt L p i g,λi g=>by simpa using j.own i g⟩,o⟩
 .intro i q aa CQ;have D:i≠s:=λau=>by grind
  rw[<-j.mem i q aa CQ];exact P'
 intro m bT cu e lP;by_cases au:d=m
 .subst au;rw[iq w]at e;cases e;rw[p]at lP;cases lP;exact⟨s,r,a,setRow_heap _ _ _ _ _ _ u,B.mono o.ext j.len,A⟩
 rw[j9 au]at e;refine(j.box m bT cu e lP).b8 o.ext j.len λi g=>⟨setRow_other _ _ _ _ λz=>?_,λ_=>rfl⟩
 subst z;exact au (j.a0 d m _ cu p lP i C g)
def Ai(b:m ap)(d:a6):Next->x->Prop
 |.value e,a=>bv b d e a
 |.skip,a=>a=.any
 |_,_=>False
def a0(P:aE)(j:ao)(h:ae->x)(g:m ap)(o:x)(b:m ap):Prop:=
 ∀e d,bb g e->(∀k,bv g e (d k) (h k))->∃i a,(ab d j).run P e.a=.ok i a.a/\Ai b a i o/\bb b a/\cN g e b a/\dv e ((ab d j).events P e.a #[])
def a0.du{g}(j:∀b a,bb k b->(∀h,bv k b (a h) (η h))->∃aa,(ab a q).run P b.a=.ok (.value aa) b.a/\bv k b aa g/\dv b ((ab a q).events P b.a #[])):a0 P q η k g k:=
 λb a d e=>let ⟨aa,c5,dt,i⟩:=j b a d e;⟨.value aa,b,c5,dt,d,.refl _ _,i⟩
def a0.aS{g}(j:∀b a,bb k b->(∀h,bv k b (a h) (η h))->∃aa,(ab a q).run P b.a=.ok (.value aa) b.a/\bv k b aa g/\(ab a q).events P b.a #[]=#[]):a0 P q η k g k:=
 λb a d e=>let ⟨aa,c5,dt,i⟩:=j b a d e;⟨.value aa,b,c5,dt,d,.refl _ _,by rw[i];exact .nil⟩
def vi:IntKind->Int->Bool
 |.i64,.ofNat a=>ay a 9223372036854775807
 |.i64,.negSucc a=>ay a 9223372036854775807
 |.u8,.ofNat a=>ay a 255
 |.i32,.ofNat a=>ay a 2147483647
 |.i32,.negSucc a=>ay a 2147483647
 |.u64,.ofNat a=>ay a 18446744073709551615
 |.u32,.ofNat a=>ay a 4294967295
 |_,_=>v
def Y3{h}{j}(a:vi h j=l):a8 h j:=by cases h<;>cases j<;>simp only[vi,a8]at a⊢<;>first|(cases a;done)|(have:=fq a;grind)
def k0:X->Option K
 |.int a b=>cond (vi a b) (f (.int a b)) n
 |.bool e=>f (.bool e)
 |.string d=>cond (ay d.size 9223372036854775807) (f (.V d.data.toList)) n
 |.slice n 0 0=>f (.A l 0 0 (λ_=>[]))
 |.pointer n=>f .bp
 |.nilIface=>f .bE
 |.nilFunc=>f .dr
 |.map g=>f (.val (.map g))
 |_=>n
theorem Rd.dJ{o}{h}{a}:Rd bz (.slice a 0 0) (.A o h 0 U):=
 Rd.A 0 0 (λ_ _=>I) (bA _) u bk u u u u
def Rd.fr{bz}{aa}{r}(a:k0 aa=f r):Rd bz aa r:=by
 unfold AM.k0 at a;split at a<;>first
  |(rename_i d e;cases b:vi d e<;>rw[b]at a<;>cases a;exact .int (Y3 b))
  |(rename_i g;cases b:ay g.size 9223372036854775807<;>rw[b]at a<;>cases a;exact .V rfl (by rw[m4];exact fq b))
  |(cases a;done)
  |(cases a;exact .bool)
  |(cases a;exact Rd.dJ)
  |(cases a;exact .bp)
  |(cases a;exact .bE)
  |(cases a;exact .dr)
  |(cases a;exact .val rfl)
def S':Option K->x
 |some a=>ax a
 |none=>.any
def bD(a:bJ):ae->x
 |.tmp d=>look a d
 |.const e=>S' (k0 e)
 |.func b=>ax (.fn (.func b) [] [])
 |.global _=>.any
theorem eF{e}(g:bX E k b F e)(d):bv k b (e.eval d) (bD F d):=by
 cases d with
 |tmp j=>exact g.ak j
 |const m=>
  simp[bD,Act.eval];cases i:k0 m with
  |none=>trivial
  |some o=>exact Rd.fr i
 |func h=>
  exact Rd.fn [] [] a a (λ_=>I) (λ_=>I) C C C C
 |global h=>trivial
def gb:Option Nat->x->bJ->bJ
 |some b,d,a=>(b,d)::a
 |none,_,a=>a
def rl{o:ah P}{j:aG}{h}{i}{bq}(z:j.kind≠.early)(t:aM[e]?=f q)(x:aS q (yielded aM i.tmps)=l)(s:∀g,cV b g->∃k d m,(ab i.eval q).run P g.a=.ok k d.a/\(k=.value m∨(k=.skip/\m=I))/\kB g d ((ab i.eval q).events P g.a #[])/\ce o br (G (j.ab (i.put q.dst m) (.inRegion aM bq::h)) ag) d):
  ce o br (G (j.ab i (.inRegion aM (e::bq)::h)) ag) b:=by refine .next a λg u=>?_;obtain⟨k,d,m,y,w,p,r⟩:=s g (o.bI u);refine⟨_,d,Go.Conc.listed P j.fn i q g.a,?_,⟨p.1,p.2.seen⟩,r⟩;grind[abr,L_]
theorem a0.move{a:ae}(d:q.op=.move a):a0 P q η k (η a) k:=
 .aS λg b _ e=>⟨b a,by simp[ab,d,pure],e a,by simp[ab,d]⟩
theorem a0.assign{a:ae}(d:q.op=.assign a):a0 P q η k (η a) k:=
 .aS λg b _ e=>⟨b a,by simp[ab,d,pure],e a,by simp[ab,d]⟩
def b6{r}(a:bv k b aa (ax r)):Rd b.C aa r:=a
def a0.pick{r e i}(h:q.op=.pick r e i){o}(m:η r=ax (.bool o)):
  a0 P q η k (match o with|true=>η e|false=>η i) k:=by
 refine .aS λp a _ j=>?_;have b:=j r;rw[m]at b;have d:=b6 b;generalize g:a r=s at d;cases d;cases o
 .exact⟨a i,by simp[ab,h,g,asBool],j i,by simp[ab,h,g,asBool]⟩
 exact⟨a e,by simp[ab,h,g,asBool],j e,by simp[ab,h,g,asBool]⟩
def vj(e:BinOp)(d:IntKind)(a b:Int):Option (K×m Prop):=
 match e with
 |.add=>f (.int d (a+b),[a8 d (a+b)])
 |.sub=>f (.int d (a-b),[a8 d (a-b)])
 |.mul=>f (.int d (a*b),[a8 d (a*b)])
 |.quo=>f (.int d (a / b),[0<=a,0<b])
 |.rem=>f (.int d (a % b),[0<=a,0<b])
 |.eql=>f (.bool (a==b),[])
 |.neq=>f (.bool (a != b),[])
 |.lss=>f (.bool (decide (a<b)),[])
 |.leq=>f (.bool (decide (a<=b)),[])
 |.gtr=>f (.bool (decide (b<a)),[])
 |.geq=>f (.bool (decide (b<=a)),[])
 |_=>n
def vV(d:BinOp)(a b:m UInt8):Option (K×m Prop):=
 match d with
 |.add=>f (.V (a++b),[c a+c b<=9223372036854775807])
 |.eql=>f (.bool (a==b),[])
 |.neq=>f (.bool (!(a==b)),[])
 |.lss=>f (.bool (aT a b),[])
 |.leq=>f (.bool (aT a b||a==b),[])
 |.gtr=>f (.bool (!(aT a b||a==b)),[])
 |.geq=>f (.bool (!(aT a b)),[])
 |_=>n
@[simp] def T:m Prop->Prop
 |[]=>True
 |[a]=>a
 |a::b::d=>a/\T (b::d)
def T.cons{b:Prop}{a}:T (b::a)↔b/\T a:=by cases a<;>simp
theorem r8{h}{j}(a:a8 h j):h.wrap j=j:=by cases h<;>simp only[a8,IntKind.wrap,IntKind.bits,IntKind.signed]at a⊢<;>simp<;>(try split)<;>omega
def aa8{Q}{h}{d a}{r}(e:vj op h d a=f (r,cl))(b:T cl)(t:a8 h d)(q:a8 h a)(o)(bz):
  ∃m,(binOp op o (.int h d) (.int h a)).run P Q=.ok m Q/\Rd bz m r:=by
 cases op<;>simp[vj,e1,lE,reduceCtorEq]at e
 case add=>obtain⟨rfl,rfl⟩:=e;exact⟨_,by simp only[binOp,d6,hB,dm,Op.intArith,r8 b];rfl,.int b⟩
 case sub=>obtain⟨rfl,rfl⟩:=e;exact⟨_,by simp only[binOp,d6,hB,dm,Op.intArith,r8 b];rfl,.int b⟩
 case mul=>obtain⟨rfl,rfl⟩:=e;exact⟨_,by simp only[binOp,d6,hB,dm,Op.intArith,r8 b];rfl,.int b⟩
 case quo=>
  obtain⟨rfl,rfl⟩:=e;obtain⟨i,g⟩:=b;replace g:0<a:=g;have k:d.tdiv a=d / a:=Int.tdiv_eq_ediv_of_nonneg i;have j:a8 h (d / a):=by have p:0<=d / a:=Int.ediv_nonneg i u;have s:d / a<=d:=Int.ediv_le_self _ i;cases h<;>simp only[a8]at t⊢<;>omega
  exact⟨_,by simp only[binOp,d6,hB,dm,Op.intDiv,show a≠0 by omega,k,r8 j];rfl,.int j⟩
 case rem=>
  obtain⟨rfl,rfl⟩:=e;obtain⟨i,g⟩:=b;replace g:0<a:=g;have k:d.tmod a=d % a:=Int.tmod_eq_emod_of_nonneg i;have j:a8 h (d % a):=by have p:0<=d % a:=ri _ u;have s:d % a<a:=q' _ g;cases h<;>simp only[a8]at q⊢<;>omega
  exact⟨_,by simp only[binOp,d6,hB,dm,Op.intDiv,show a≠0 by omega,k];rfl,.int j⟩
 all_goals (obtain⟨rfl,rfl⟩:=e;exact⟨_,by simp only[binOp,d6,hB,dm,Op.intCmp,gt_iff_lt,ge_iff_le];rfl,.bool⟩)
def aa9{Q}{D bE}{b i}{r}(a:vV op b i=f (r,cl))(cv:T cl)(j:D.data.toList=b)(g:bE.data.toList=i)(o)(bz):
  ∃d,(binOp op o (.string D) (.string bE)).run P Q=.ok d Q/\Rd bz d r:=by
 subst j g;cases op<;>simp only[vV,e1,lE,reduceCtorEq]at a
 case add=>
  obtain⟨rfl,rfl⟩:=a;have e:¬((D.size+bE.size:Nat):Int)>IntKind.i64.max:=NX;refine⟨_,by simp only[binOp,Op.stringOp,e,dm];rfl,.V C (by simpa using cv)⟩
 all_goals (obtain⟨rfl,rfl⟩:=a;exact⟨_,by simp only[binOp,Op.stringOp,ByteArray.toList_eq];rfl,.bool⟩)
def Vs{b}{h}{a bE}{r}(s:vj op h a bE=f (r,cl))(cv:T cl)(o):
  (binOp op o (.int h a) (.int h bE)).events P b #[]=#[]:=by
 cases op<;>simp[vj,e1,lE,reduceCtorEq]at s
 case quo=>
  exact O3
 case rem=>
  exact O3
 all_goals (simp only[binOp,d6,hB,dm,Op.intCmp,Op.intArith];rfl)
def XD{j}{D bE}{a i}{r}(b:vV op a i=f (r,cl))(cv:T cl)(g:D.data.toList=a)(e:bE.data.toList=i)(o):
  (binOp op o (.string D) (.string bE)).events P j #[]=#[]:=by
 subst g e;cases op<;>simp[vV,e1,lE,reduceCtorEq]at b
 case add=>
  obtain⟨rfl,rfl⟩:=b;have d:¬((D.size+bE.size:Nat):Int)>IntKind.i64.max:=NX;simp only[binOp,Op.stringOp,d,dm];rfl
 all_goals (simp only[binOp,Op.stringOp];rfl)
def s7:IntKind->IntKind->Bool
 |.i8,.i8|.i16,.i16|.i32,.i32|.i64,.i64|.u8,.u8|.u16,.u16|.u32,.u32|.u64,.u64=>l
 |_,_=>v
def C0{h a}(b:s7 h a=l):h=a:=by cases h<;>cases a<;>first|rfl|(cases b;done)
def xc(a:BinOp):K->K->Option (K×m Prop)
 |.int d h,.int b i=>cond (s7 d b) (vj a d h i) n
 |.V e,.V g=>vV a e g
 |_,_=>n
def qe(op)(o)(e g)(h a)(j d)(b):(eqGuard op o e g (.int h j) (.int a d)).run P b=.ok () b:=z2
def Ij(op)(o)(d e)(b i)(a):(eqGuard op o d e (.string b) (.string i)).run P a=.ok () a:=z2
def xX(op)(o)(e g)(h a)(j b)(d)(U):(eqGuard op o e g (.int h j) (.int a b)).events P d U=U:=z2
def UD(op)(o)(d e)(a i)(b)(U):(eqGuard op o d e (.string a) (.string i)).events P b U=U:=z2
theorem a0.binOp{x y:ae}(u:q.op=.binOp op o x y ty){D i r}(M:η x=ax D)(z:η y=ax i)(e:xc op D i=f (r,cl))(d:T cl):a0 P q η k (ax r) k:=by
 refine .aS λw p _ F=>?_;have a:=F x;have b:=F y;rw[M]at a;rw[z]at b;replace a:=b6 a;replace b:=b6 b;generalize s:p x=N at a;generalize t:p y=O at b;cases a<;>cases b<;>simp[xc,reduceCtorEq]at e
 case int.int h j jm gk Dl YK=>
  cases g:s7 h gk<;>simp[g,cond,reduceCtorEq]at e
  cases C0 g;obtain⟨C,A,B⟩:=aa8 (P:=P) (Q:=w.a) e d jm YK o w.C;exact⟨C,by simp[ab,u,cK,s,t,qe,c9,A,dZ],B,by simp[ab,u,s,t,qe,xX,Vs e d]⟩
 case V.V=>
  rename_i U S I J R K m E;obtain⟨C,A,B⟩:=aa9 (P:=P) (Q:=w.a) e d I m o w.C;exact⟨C,by simp[ab,u,cK,s,t,Ij,c9,A,dZ],B,by simp[ab,u,s,t,Ij,UD,XD e d I m]⟩
def zy(a:UnOp):K->Option K
 |.bool b=>match a with|.not=>f (.bool (!b))|_=>n
 |_=>n
theorem a0.unOp{op}{b:ae}(i:q.op=.unOp op o b){g r}(j:η b=ax g)(d:zy op g=f r):a0 P q η k (ax r) k:=by
 refine .aS λs e _ m=>?_;have a:=m b;rw[j]at a;replace a:=b6 a;generalize h:e b=p at a;cases a<;>simp[zy,reduceCtorEq]at d
 cases op<;>simp[reduceCtorEq,e1]at d
 subst d;exact⟨_,by simp[ab,i,h,Op.unary,cK,dZ,c9],Rd.bool,by simp[ab,i,h,Op.unary]⟩
theorem eV.get{af}(h:eV k b y af){i}(d:af[t]?=f i):∃e,y[t]?=f e/\ey k b e i:=by
 induction y generalizing af t with
 |nil=>cases af<;>simp_all[eV]
 |cons e y g=>
  cases af with
  |nil=>grind
  |cons m j=>
   cases t with
   |zero=>simp at d;subst d;exact⟨e,a,h.1⟩
   |succ t=>simp at d;obtain⟨p,w,o⟩:=g h.2 d;grind
theorem a0.extract{P}{q}{b:ae->x}{k}{d}{t}(p:q.op=.extract d t){af}{e}(j:b d=.Q af)(i:af[t]?=f e):a0 P q b k (.n e) k:=by refine .aS λw u _ o=>?_;have a:=o d;rw[j]at a;obtain⟨y,m,r⟩:=a;obtain⟨s,g,h⟩:=r.get i;refine⟨s,?_,h,?_⟩<;>simp[ab,p,m,Instr.extract,g]
def po(a b:Nat):aR:=⟨.cell ⟨a,b,n⟩,v,v⟩
def tQ(a b:Nat):aR:=⟨.cell ⟨a,b,n⟩,l,v⟩
theorem g0(i q j):(⟨i,q,n⟩:Addr).add j=⟨i,q+j,n⟩:=by unfold Addr.add;split<;>simp_all
section
def Cc{a}{q}(b:a.cell? ⟨i,q,n⟩=f aa)(U):(load ⟨i,q,n⟩).events P a U=U.push (po i q):=by rw[events_load,b];rfl
def IO{o}{i q}:∀h e a b,(∀d,d<h->∃m,o.cell? ⟨i,q+(e+d),n⟩=f m) ->
    ∀g∈(loadCellsFrom ⟨i,q,n⟩ e h a).events P o b,g∈b∨∃d,d<e+h/\g=po i (q+d)
  |0,e,a,b,_=>λg j=>.inl (by simpa[loadCellsFrom]using j)
  |h+1,e,a,b,p=>λg j=>by
    obtain⟨m,k⟩:=p 0 u;simp[ka]at k;simp[loadCellsFrom,aD,g0,run_load,k,aF,Cc k]at j;rcases IO h (e+1) (a.push m) _ (λd r=>by grind) g j with s|⟨d,r,rfl⟩
    · grind
    grind
def IN{d}{q}{U}(h:∀a,a<j->∃g,d.cell? ⟨i,q+a,n⟩=f g):∀b∈(loadCells ⟨i,q,n⟩ j).events P d U,b∈U∨∃a,a<j/\b=po i (q+a):=by intro b e;have:=IO (P:=P) j 0 #[] U M b e;grind
def nd{i q}{o}:∀y a g d b,d.heap[i]?=f (.cells g o (0,0))->q+a+c y<=g.size->(∀e∈y,e.oneCell'=l) ->
    ∀j∈(storeCells ⟨i,q,n⟩ y a).events P d b,j∈b∨∃m,a<=m/\m<a+c y/\j=tQ i (q+m)
  |[],_,_,_,_,_,_,_=>λj k=>.inl (by simpa[storeCells]using k)
  |e::h,a,g,d,b,B,x,p=>λj k=>by
    have bp:q+a<g.size:=M;have r:d.cell? ⟨i,q+a,n⟩=f g[q+a]:=NW;have s:d.frozen? ⟨i,q+a,n⟩=v:=by simp[World.frozen?,B]
    have t:(store (⟨i,q+a,n⟩:Addr) e).run P d=.ok () (d.setRow i (g.setIfInBounds (q+a) e)):=NL;have u:(store (⟨i,q+a,n⟩:Addr) e).events P d b=b.push (tQ i (q+a)):=by rw[events_store P d b _ e _ (p e C),r];simp[s,j_,dm];rfl
    simp[storeCells,aD,g0,t,u,aF]at k;rcases nd h (a+1) (g.setIfInBounds (q+a) e) _ _ (setRow_heap _ _ _ _ _ _ B) M (λw D=>p w M) j k with z|⟨m,E,A,rfl⟩
    · grind
    grind
def dz(P:aE)(b:Sem α):Prop:=∀d a,b.events P d a=a
def dz.bind{e:Type}{z}{g:α->Sem e}(i:dz P z)(j:∀d,dz P (g d)):dz P (z >>= g):=by
  intro h a;rw[aD,i h a];cases z.run P h with
  |ok d b=>exact j d b a
  |halt k b=>rfl
def dz.pure{a:Type}{b}:dz P (Pure.pure b:Sem a):=λ_ _=>rfl
def dz.stuck{a:Type}{b}:dz P (Go.stuck b:Sem a):=λ_ _=>rfl
def dz.unsupported{a:Type}{b}:dz P (Go.unsupported b:Sem a):=λ_ _=>rfl
def dz.sizeOf{o}:dz P (sizeOf o):=λ_ _=>events_sizeOf ..
def dz.underlying{o}:dz P (underlying o):=λ_ _=>events_underlying ..
def dz.zeroValue{o}:dz P (zeroValue o):=λ_ _=>events_zeroValue ..
def dz.newObj{q}:dz P (newObj q):=λ_ _=>rfl
def dz.newRow{o}{r}:dz P (newRow o r):=.bind .newObj λ_=>.pure
def dz.hx{a e:Type}{g:a->Sem e}(h:∀b,dz P (g b)):∀d:m a,dz P (d.mapM g)
  |[]=>by rw[List.mapM_nil];exact .pure
  |b::d=>by rw[oW];exact .bind (h b) λ_=>.bind (dz.hx h d) λ_=>.pure
def dz.map{b d:Type}{e:b->d}{z}(g:dz P z):dz P (Functor.map e z):=λh a=>by rw[Sem.events_map];exact g h a
def dz.jx{a:Type}{b:α->Sem a}(e:∀d,dz P (b d))(g:Array α):dz P (g.mapM b):=by rw[wX];exact .map (.hx e _)
def dz.ha{b d:Type}{h:b->d->Sem (ForInStep d)}(i:∀e a,dz P (h e a)):∀(g:m b) a,dz P (forIn g a h)
  |[],a=>by rw[List.forIn_nil];exact .pure
  |e::g,a=>by
    rw[List.forIn_cons];refine .bind (i e a) λj=>?_;cases j with
    |done a=>exact .pure
    |yield a=>exact dz.ha i g a
theorem dz.build{o}{parts}:dz P (Instr.build o parts):=by
  unfold Instr.build;refine .bind .zeroValue λe=>.bind .underlying λa=>?_;cases a<;>first
    |exact .stuck
    | (refine .bind (.jx (λ_=>.bind .sizeOf λ_=>.pure) _) λb=>?_
       split
       · exact .pure
       · exact .stuck)
    | (refine .bind .sizeOf λd=>?_
       split
       · exact .pure
       · exact .stuck)
theorem dz.buildSlice{o}{j}{parts}:dz P (Instr.buildSlice o j parts):=by
  unfold Instr.buildSlice;refine .bind .underlying λh=>?_;cases h<;>first
    |exact .stuck
    | (refine .bind .sizeOf λd=>?_
       dsimp only
       have a:∀elem (zero:Array X),dz P (match Instr.fill (λi=>f (i*d,d)) (Array.map (λk=>zero[k % zero.size]!) (Array.range (j*d))) parts.toList with
          |some cells=>do
            let g<-Go.newRow elem cells
            Pure.pure (Value.slice (f g) j j)
          |_=>Go.stuck "buildSlice: a part of the wrong size"):=by
         intro elem zero;split
         · exact .bind .newRow λ_=>.pure
         · exact .stuck
       by_cases e:j*d=0
       · simp only[e,dA]
         rw[e]at a;split
         · grind
         · exact .bind .pure λb=>a _ b
       · simp only[e,dm]
         split
         · exact .bind .unsupported λ_=>.bind .zeroValue λb=>.bind .pure λb=>a _ b
         · exact .bind .zeroValue λb=>.bind .pure λb=>a _ b)
def qf{q}{L}(a:L∈b.s)(d:i∈L.aj):h6 b (po i q):=⟨rfl,rfl,.inr (.inl ⟨⟨L,a,d⟩,λe=>by cases e⟩)⟩
def Im{q}(a:b.C i q=f aa):h6 b (po i q):=⟨rfl,rfl,.inr (.inr ⟨rfl,aa,a⟩)⟩
theorem n_{q}{L}(d:L∈b.s)(e:i∈L.aj)(a:b.C i q=n):h6 b (tQ i q):=⟨rfl,rfl,.inr (.inl ⟨⟨L,d,e⟩,λ_=>a⟩)⟩
end
structure cm where
 size:Nat
 bytes:Nat
 agg:Bool
 desc:TypeDesc
 zero:m K
 eq:m TypeDesc:=[]
def rB:TypeDesc->X->X->Option Bool
 |.int _,.int e a,.int d b=>if e=d then f (a==b)else n
 |.string,.string a,.string b=>f (a.toList==b.toList)
 |.bool,.bool a,.bool b=>f (a==b)
 |_,_,_=>n
def nc:m TypeDesc->m X->m X->Option Bool
 |[],[],[]=>f l
 |g::a,h::y,i::b=>match rB g h i with
  |some d=>match nc a y b with
   |some e=>f (d&&e)
   |none=>n
  |none=>n
 |_,_,_=>n
def vk:TypeDesc->Bool
 |.struct _|.array _ _=>l
 |_=>v
structure eL(P:aE)(o:al)(e:cm):Prop where
 ec:P.underlying o=f e.desc
 agg:vk e.desc=e.agg
 cW:∃inf eI,P.info? o=f inf/\inf.size=e.size/\inf.bytes=e.bytes/\inf.zero=f eI/\eI.cells.toList.map k0=e.zero.map f/\(∃ag,eI=if e.agg then .agg ag else eI)/\c e.zero=e.size
 iO:e.eq≠[]->P.eqGuardType P.depth o=v/\∀(Q:ar) (y ws:m X) (i:Bool),nc e.eq y ws=f i->(Op.equal o (.agg y.toArray) (.agg ws.toArray)).run P Q=.ok i Q/\∀U,(Op.equal o (.agg y.toArray) (.agg ws.toArray)).events P Q U=U
def bW:m (Nat×cm)->Nat->Option cm
 |[],_=>n
 |(d,b)::e,a=>cond (ad d a) (f b) (bW e a)
def bZ(P:aE)(d:m (Nat×cm)):Prop:=∀b a,bW d b=f a->eL P b a
section
variable {Q:ar}{e:cm}
def eL.run_underlying(a:eL P o e):(underlying o).run P Q=.ok e.desc Q:=by simp[underlying,a.ec]
def eL.et(a:eL P o e):(isAgg o).run P Q=.ok e.agg Q:=by have:=a.agg;unfold Go.isAgg;rw[cK,a.run_underlying];cases b:e.desc<;>rw[b]at this<;>simp[vk]at this<;>simp[this]
def eL.a'(d:eL P o e):(sizeOf o).run P Q=.ok e.size Q:=by obtain⟨g,h,a,b,_⟩:=d.cW;simp[sizeOf,typeInfo,a,b]
def ui{k}{b}:∀{y:m X}{a:m K},y.map k0=a.map f->bM k b y (a.map O.c)
 |[],[],_=>trivial
 |[],_::_,d=>by grind
 |_::_,[],d=>by grind
 |g::y,e::a,d=>by simp[me,List.cons.injEq]at d;exact⟨Rd.fr d.1,ui d.2⟩
def eL.hX(i:eL P o e)(k)(b):∃a,(zeroValue o).run P Q=.ok a Q/\bM k b a.cells.toList (e.zero.map O.c):=by obtain⟨m,a,d,j,p,h,g,_⟩:=i.cW;exact⟨a,by simp[zeroValue,typeInfo,d,h],ui g⟩
end
def mm:x->Option (m O)
 |.n (.R b)=>f [b]
 |.n (.agg a)=>f a
 |_=>n
theorem uS{d}{ag}(a:mm d=f ag)(e:bv k b aa d):bM k b aa.cells.toList ag:=by
 cases d with
 |n h=>
  cases h with
  |R j=>
   cases a;have:=cB.cell e;cases aa<;>first|exact⟨e,A⟩|cases this
  |agg m=>
   cases a;obtain⟨y,rfl,g⟩:=e;simpa[Value.cells]using g
 |Q i=>cases a
 |any=>cases a
def a0.newVar{P}{q}{g:ae->x}{k}{W}{ag}(r:∀b d,bb k b->(∀o,bv k b (d o) (g o))->∃h:X,(ab d q).run P b.a=((do pure (.value (.pointer (f (<-newVar W h))))):Sem Next).run P b.a/\bM k b h.cells.toList ag/\(ab d q).events P b.a #[]=#[]):
  a0 P q g k (aI (c k) 0) (k++[.cells W ag]):=by
 intro b d e m;obtain⟨h,i,j,p⟩:=r b d e m;refine⟨.value (.pointer (f ⟨b.a.heap.size,0,n⟩)),b.bW W h.cells.toList,?_,?_,e.bW j,.bW b W _ _,by rw[p];exact .nil⟩
 .rw[i];simp[Go.newVar,newRow,a6.bW]
 refine⟨by simp,⟨.pointer (f ⟨b.a.heap.size,0,n⟩),[b.a.heap.size]⟩,b.a.heap.size,?_,a,a⟩;simp[a6.bW,<-e.len]
theorem a0.alloc{P}{ac}(aY:bZ P ac){q}{b:ae->x}{k}{W}(g:q.op=.alloc W){e}(a:bW ac W=f e):
  a0 P q b k (aI (c k) 0) (k++[.cells W (e.zero.map O.c)]):=by refine .newVar λh m _ _=>?_;obtain⟨j,d,i⟩:=(aY W e a).hX (Q:=h.a) k h;exact⟨j,by simp[ab,g,Instr.alloc,d],i,by simp[ab,g,Instr.alloc,d,Go.newVar,newRow]⟩
theorem a0.box{P}{q}{a:ae->x}{k}{W}{b}(e:q.op=.box W b){ag}(g:mm (a b)=f ag):
  a0 P q a k (aI (c k) 0) (k++[.cells W ag]):=
 .newVar λi d _ h=>⟨d b,by simp[ab,e,Instr.box],uS g (h b),by simp[ab,e,Instr.box,Go.newVar,newRow]⟩
def mR{a:Type}:Nat->m a->Option (m a)
 |0,_=>f []
 |d+1,g::b=>match mR d b with|some e=>f (g::e)|none=>n
 |_+1,[]=>n
def tM{h:Type}:∀{b:Nat}{e d:m h},mR b e=f d->d=e.take b/\c d=b
 |0,e,d,a=>by cases a;simp
 |b+1,[],d,a=>by simp[mR]at a
 |b+1,p::g,d,a=>by
  simp[mR]at a;cases i:mR b g with
  |none=>grind
  |some o=>
   simp[i]at a;subst a;obtain⟨j,k⟩:=tM i;grind
def c'{a:Type}:Nat->m a->Option a
 |_,[]=>n
 |0,e::_=>f e
 |d+1,_::b=>c' d b
theorem eo{b:Type}:∀{j:Nat}{d:m b}{e:b},c' j d=f e->d[j]?=f e
 |_,[],_,a=>by simp[c']at a
 |0,e::_,_,a=>by simpa[c']using a
 |j+1,_::g,_,a=>by simpa using eo (j:=j) (d:=g) a
def f_{a:Type}:Nat->m a->m a
 |0,d=>d
 |_+1,[]=>[]
 |e+1,_::b=>f_ e b
def rA{d:Type}:∀a(e:m d),f_ a e=e.drop a
 |0,_=>by simp[f_]
 |_+1,[]=>by simp[f_]
 |a+1,_::b=>by simp[f_,rA a b]
def hj(b:cm)(a:m O):Option E1:=
 match b.agg with
 |true=>match mR b.size a with|some e=>f (.agg e)|none=>n
 |false=>match c' 0 a with|some d=>f (.R d)|none=>n
def tx{e}(r:eL P o e){ag}{au}(D:∀m d,y[m]?=f d->b.a.cell? ⟨i,off+m,n⟩=f d)(q:bM k b y ag)(h:hj e ag=f au):
  ∃d,(loadVar o ⟨i,off,n⟩).run P b.a=.ok d b.a/\ey k b d au:=by
 simp[loadVar,cK,r.et,c9];cases t:e.agg<;>simp[hj,t]at h
 .cases g:c' 0 ag with
  |none=>grind
  |some z=>
   simp[g]at h;subst h;obtain⟨d,A,s⟩:=q.get (eo g);refine⟨d,?_,s⟩;grind[run_load]
 cases g:mR e.size ag with
 |none=>grind
 |some B=>
  simp[g]at h;subst h;obtain⟨x,u⟩:=tM g;have j:=q.take e.size;rw[<-x]at j;have w:c (y.take e.size)=e.size:=by rw[j.cH,u]
  have p:=run_loadCells_list (P:=P) b.a ⟨i,off,n⟩ (y.take e.size) (λm d C=>by grind[g0]);rw[w]at p;refine⟨.agg (y.take e.size).toArray,?_,y.take e.size,a,j⟩;simp[r.a',p]
def o5{Q}{e}(r:eL P o e)(s:∀d,d<j->∃k,Q.cell? ⟨i,off+d,n⟩=f k)(h:(if e.agg then e.size else 1)<=j):
  ∀g∈(loadVar o ⟨i,off,n⟩).events P Q #[],∃d,d<j/\g=po i (off+d):=by
 intro g b;simp only[loadVar,aD,r.et,aF,events_isAgg]at b;cases p:e.agg
 .rw[p]at h b;obtain⟨k,q⟩:=s 0 M;simp[ka]at q;simp only[j_,dm,Cc q]at b;rcases Array.mem_push.1 b with t|rfl
  .grind
  exact⟨0,by grind,a⟩
 rw[p]at h b;simp[dA]at h;simp[dA,aD,r.a',aF,events_sizeOf]at b;have key:∀g∈(loadCells ⟨i,off,n⟩ e.size).events P Q #[],∃d,d<j/\g=po i (off+d):=by
  intro g b;rcases IN (P:=P) (λd w=>s d u) g b with t|⟨d,w,rfl⟩
  .grind
  grind
 apply key;generalize(loadCells ⟨i,off,n⟩ e.size).run P Q=x at b;cases x with
 |ok k m=>simpa using b
 |halt y m=>simpa using b
theorem r7{e}{ag}{g}(a:hj e ag=f g):(if e.agg then e.size else 1)<=c ag:=by
 unfold hj at a;cases b:e.agg<;>rw[b]at a
 .cases ag with
  |nil=>simp[c']at a
  |cons h ag=>simp
 simp only at a;cases d:mR e.size ag with
 |none=>grind
 |some k=>
  obtain⟨i,j⟩:=tM d;grind
theorem a0.ho{ac}(aY:bZ P ac){w:ae}(D:q.op=.load o w){ag}{e}{au}(O:η w=aI d off)(aH:k[d]?=f (.cells W ag))(p:bW ac o=f e)(F:hj e (f_ off ag)=f au):a0 P q η k (.n au) k:=by
 refine .du λb x r s=>?_
 have m:=s w;rw[O]at m;obtain⟨_,L,i,J,z,I⟩:=m;obtain⟨u,y,rfl,E,A,_⟩:=r.box d _ L aH J;simp at z;subst z;rw[rA]at F;obtain⟨K,B,N⟩:=tx (b:=b) (k:=k) (P:=P) (aY o e p) (i:=u) (off:=off) (y:=y.drop off) (ag:=ag.drop off) (au:=au) (λt K g=>by
  simp[aJ,E]
  grind) (A.drop off) F
 refine⟨K,by simp[ab,D,I,Instr.loadAt,Instr.sureAddr,B],N,λh a=>?_⟩;have M:h∈(loadVar o ⟨u,off,n⟩).events P b.a #[]:=by
  have au:ab x q=(do pure (.value (<-loadVar o ⟨u,off,n⟩))):=by simp[ab,D,I,Instr.loadAt,Instr.sureAddr]
  rw[au]at a;simpa[B]using a
 have Q:c (y.drop off)=c (ag.drop off):=(A.drop off).cH;obtain⟨t,g,rfl⟩:=o5 (aY o e p) (j:=c (y.drop off)) (λt g=>by refine⟨(y.drop off)[t],?_⟩;simp only[aJ,E];simp at g⊢<;>omega) (by grind[r7]) h M;exact qf (b8 J) C
theorem a0.hp{ac}(aY:bZ P ac){B:ae}(I:q.op=.load o B){ag}{e}{au}(W:η B=ax (.O ag))(w:bW ac o=f e)(Q:hj e (ag.map O.c)=f au):a0 P q η k (.n au) k:=by
 refine .du λb x u C=>?_;have s:=C B;rw[W]at s;have t:=b6 s;generalize F:x B=X at t;cases t;rename_i i off A p J;have V:∀j h,(∀d z,h[d]?=f z->Rd b.C (A (j+d)) z)->bM k b ((az (c h)).map λd=>A (j+d)) (h.map O.c):=by
  intro j h;induction h generalizing j with
  |nil=>intro _;trivial
  |cons S h D=>
   intro N;rw[fh,wO];refine⟨N 0 S a,?_⟩;have:=D (j+1) (λd z g=>by have:=N (d+1) z M;grind);grind[Function.comp_def]
 obtain⟨R,K,U⟩:=tx (b:=b) (k:=k) (P:=P) (aY o e w) (i:=i) (off:=off) (y:=(az (c ag)).map λd=>A (0+d)) (ag:=ag.map O.c) (au:=au) (λd R g=>by
  simp[m6,cW]at g;by_cases E:d<c ag
  .simp[E]at g;subst g;exact u.mem _ _ _ (p d ag[d] (bI E))
  grind) (V 0 ag M) Q
 refine⟨R,by simp[ab,I,F,Instr.loadAt,Instr.sureAddr,K],U,λr m=>?_⟩;have T:r∈(loadVar o ⟨i,off,n⟩).events P b.a #[]:=by
  have au:ab x q=(do pure (.value (<-loadVar o ⟨i,off,n⟩))):=by simp[ab,I,F,Instr.loadAt,Instr.sureAddr]
  rw[au]at m;simpa[K]using m
 obtain⟨d,g,rfl⟩:=o5 (aY o e w) (j:=c ag) (λd g=>⟨A d,u.mem _ _ _ (p d ag[d] (bI g))⟩) (by have:=r7 Q;grind) r T;exact Im (p d ag[d] (bI g))
def i4{d:Type}:Nat->m d->m d->Option (m d)
 |0,[],i=>f i
 |0,j::b,_::a=>match i4 0 b a with|some e=>f (j::e)|none=>n
 |h+1,b,g::a=>match i4 h b a with|some e=>f (g::e)|none=>n
 |_,_,[]=>n
def Eb{h:Type}:∀{a:Nat}{new g e:m h},i4 a new g=f e->a+c new<=c g/\e=g.take a++new++g.drop (a+c new)
 |0,[],g,e,s=>by cases g<;>cases s<;>simp
 |0,o::b,k::d,e,s=>by
  simp[i4]at s;cases w:i4 0 b d with
  |none=>grind
  |some p=>
   exact OZ
 |0,o::b,[],e,s=>by simp[i4]at s
 |j+1,b,k::d,e,s=>by
  simp[i4]at s;cases w:i4 j b d with
  |none=>grind
  |some p=>
   exact OZ
 |j+1,b,[],e,s=>by simp[i4]at s
def bM.fh{new}{ag a g}(h:AM.i4 off a ag=f g)(d:bM k b y ag)(e:bM k b new a):
  off+c new<=c y/\bM k b (y.take off++new++y.drop (off+c new)) g:=by obtain⟨k1,rfl⟩:=Eb h;rw[e.cH,d.cH];refine⟨k1,((d.take off).append e).append (by have:=d.drop (off+c a);exact this)⟩
theorem a0.store{ac}(aY:bZ P ac){z h:ae}(I:q.op=.store o z h){ag new i}{e}(O:η z=aI d off)(aH:k[d]?=f (.cells W ag))(r:bW ac o=f e)(x:mm (η h)=f new)(s:c new=e.size)(K:i4 off new ag=f i):
  a0 P q η k .any (k.set d (.cells W i)):=by
 intro w g p t;have m:=t z;rw[O]at m;obtain⟨_,L,Y,B,F,N⟩:=m;obtain⟨u,y,rfl,J,T,R⟩:=p.box d _ L aH B;simp at F;subst F;have j:=uS x (t h);obtain⟨k1,V⟩:=bM.fh K T j;obtain⟨w1,w2⟩:=p.write aH B rfl V;refine⟨.skip,_,?_,a,w1,w2,?_⟩
 rotate_left
 .intro Ik b;have A:(g h).cells.size=e.size:=by rw[<-s,<-j.cH,m4]
  have Q:ab g q=(do storeVar o ⟨u,off,n⟩ (g h);pure .skip):=by simp[ab,I,N,Instr.storeAt,Instr.sureAddr]
  rw[Q]at b;have S:Ik∈(storeCells ⟨u,off,n⟩ (g h).cells.toList).events P w.a #[]:=by
   simp[storeVar,aD,(aY o e r).a',A,aF,events_sizeOf,d6,hB,dm,cK,c9,Sem.events_pure]at b;generalize(storeCells ⟨u,off,n⟩ (g h).cells.toList).run P w.a=U at b;cases U with
   |ok aa D=>simpa using b
   |halt z D=>simpa using b
  rcases nd (g h).cells.toList 0 y.toArray w.a #[] J M j.cell Ik S with X|⟨Z,_,_,rfl⟩
  .grind
  exact n_ (b8 B) C (R _)
 have E:=run_storeCells_at P u off W (g h).cells.toList 0 y.toArray w.a J M (j.cell);have A:(g h).cells.size=e.size:=by rw[<-s,<-j.cH,m4]
 simp[ka]at E;simp[ab,I,N,Instr.storeAt,Instr.sureAddr,storeVar,(aY o e r).a',A,E]
def lb(d:m (Nat×cm))(i:al)(g:Nat):Option (Nat×cm):=
 match bW d i with
 |some h=>match h.desc with
  |.struct b=>match c' g b.toList with
   |some a=>match bW d a.type with
    |some e=>cond (ad e.size 0) n (f (a.offset,e))
    |none=>n
   |none=>n
  |_=>n
 |none=>n
def Cv{ac}(aY:bZ P ac){j}{t}(d:lb ac o j=f (off,t)):
  ∃g h b,bW ac o=f g/\g.desc=.struct h/\h[j]?=f b/\b.offset=off/\bW ac b.type=f t/\t.size≠0/\eL P o g/\eL P b.type t:=by
 unfold lb at d;split at d
 .rename_i g bp;split at d
  .rename_i h i;split at d
   .rename_i b e;split at d
    .rename_i k r;cases m:ad k.size 0<;>simp[m]at d
     obtain⟨rfl,rfl⟩:=d;refine⟨g,h,b,bp,i,by simpa using eo e,a,r,?_,aY _ _ bp,aY _ _ r⟩;intro p;simp_all
    grind
   grind
  grind
 grind
def y5{ac}(aY:bZ P ac){a}{t}(m:lb ac o a=f (off,t))(i q)(b):
  (Instr.fieldAt o (.pointer (f ⟨i,q,n⟩)) a).run P b=.ok (.pointer (f ⟨i,q+off,n⟩)) b:=by obtain⟨r,w,j,s,h,p,k,u,d,g,e⟩:=Cv aY m;simp[Instr.fieldAt,g.run_underlying,h,p,Instr.sureAddr,fieldPlace,e.a',d,g0,k]
def xY{ac}(aY:bZ P ac){a}{t}(k:lb ac o a=f (off,t))(i q)(m)(U):
  (Instr.fieldAt o (.pointer (f ⟨i,q,n⟩)) a).events P m U=U:=by obtain⟨p,w,h,s,g,j,r,u,b,e,d⟩:=Cv aY k;simp[Instr.fieldAt,e.run_underlying,g,j,Instr.sureAddr,fieldPlace,d.a',b]
def a0.g8{ac}(aY:bZ P ac){i:ae}{r}(s:q.op=.fieldAddr o i r){h}{t}(y:η i=aI d off)(m:lb ac o r=f (h,t)):a0 P q η k (aI d (off+h)) k:=by refine .aS λA z x g=>?_;have b:=g i;rw[y]at b;obtain⟨e,L,j,w,u,p⟩:=b;exact⟨.pointer (f ⟨j,off+h,n⟩),by simp[ab,s,p,y5 aY m],⟨e,L,j,w,u,a⟩,by simp[ab,s,p,xY aY m]⟩
theorem a0.g_{ac}(aY:bZ P ac){d:ae}{r}(s:q.op=.fieldAddr o d r){ag}{h}{t}(A:η d=ax (.O ag))(p:lb ac o r=f (h,t)):a0 P q η k (ax (.O (f_ h ag))) k:=by refine .aS λC i y g=>?_;have a:=g d;rw[A]at a;have b:=b6 a;generalize j:i d=B at b;cases b;rename_i m q x z u;refine⟨.pointer (f ⟨m,q+h,n⟩),by simp[ab,s,j,y5 aY p],?_,by simp[ab,s,j,xY aY p]⟩;rw[rA];refine Rd.O m (q+h) (λt=>x (h+t)) (λt w e=>M) (λt w e=>?_);grind
def RQ{e}(m:eL P o e){ag}(q:bM k b y ag){j}(d:hj e (f_ off ag)=f j)(h):
  ∃g,(part o y.toArray off).run P h=.ok g h/\ey k b g j/\∀a,(part o y.toArray off).events P h a=a:=by
 simp[part,cK,m.et,c9,aD,aF,events_isAgg];rw[rA]at d;cases t:e.agg<;>simp[hj,t]at d
 .cases r:c' 0 (ag.drop off)with
  |none=>grind
  |some w=>
   simp[r]at d;subst d;obtain⟨g,p,s⟩:=(q.drop off).get (eo r);simp at p;refine⟨g,?_,s,λa=>?_⟩<;>simp[p]
 cases r:mR e.size (ag.drop off)with
 |none=>grind
 |some z=>
  simp[r]at d;subst d;obtain⟨u,x⟩:=tM r;have i:=(q.drop off).take e.size;rw[<-u]at i;refine⟨.agg (y.toArray.extract off (off+e.size)),by simp[m.a'],⟨(y.drop off).take e.size,?_,i⟩,λa=>by simp⟩;simp
theorem a0.field{P}{ac}(aY:bZ P ac){q}{d:ae->x}{k}{o}{g}{j}(p:q.op=.field o g j){ag}{h}{t}{i}(M:d g=.n (.agg ag))(F:lb ac o j=f (h,t))(J:hj t (f_ h ag)=f i):a0 P q d k (.n i) k:=by refine .aS λK O E e=>?_;have a:=e g;rw[M]at a;obtain⟨y,r,A⟩:=a;obtain⟨Q,D,C,a,b,u,s,S,R,m,I⟩:=Cv aY F;obtain⟨N,B,w,z⟩:=RQ I A J K.a;exact⟨N,by simp[ab,p,r,Instr.field,m.run_underlying,b,u,asAgg,s,B],w,by simp[ab,p,r,Instr.field,m.run_underlying,b,u,asAgg,s,z]⟩
theorem a0.hD{b:ae}(i:q.op=.nilCheck b)(m:η b=aI d off):a0 P q η k (aI d off) k:=by refine .aS λu g o e=>?_;have a:=e b;rw[m]at a;have j:=a;obtain⟨p,L,r,t,s,h⟩:=a;exact⟨g b,by simp[ab,i,h],j,by simp[ab,i,h]⟩
theorem a0.hF{d:ae}(i:q.op=.nilCheck d){ag}(j:η d=ax (.O ag)):a0 P q η k (ax (.O ag)) k:=by refine .aS λp g m e=>?_;have a:=e d;rw[j]at a;have b:=b6 a;generalize h:g d=o at b;cases b;exact⟨_,by simp[ab,i,h];rfl,by grind,by simp[ab,i,h]⟩
def Yq(new):∀d a(b:Array X),a+d+c new<=b.size ->
  ((new.zipIdx d).foldl (λb (g:X×Nat)=>b.setIfInBounds (a+g.2) g.1) b).toList=b.toList.take (a+d)++new++b.toList.drop (a+d+c new):=by
 induction new with
 |nil=>simp
 |cons h y e=>
  intro d a b i;simp[List.zipIdx_cons,iL];rw[e (d+1) a _ M];have:=list_seg_step b.toList (a+d) h y M;simpa[Array.toList_setIfInBounds,Nat.add_assoc]using this
def rD(place:Nat->Option (Nat×Nat)):m (Nat×m O)->m O->Option (m O)
 |[],a=>f a
 |(e,new)::b,a=>match place e with
  |some (d,size)=>match ad (c new) size with
   |true=>match i4 d new a with
    |some g=>rD place b g
    |none=>n
   |false=>n
  |none=>n
def x8{k}{b}{place vI:Nat->Option (Nat×Nat)}(A:∀x g,place x=f g->vI x=f g):∀{parts:m (Nat×m O)}{zA:m (Nat×X)}{ag a9:m O}{y:Array X},
  rD place parts ag=f a9->zA.map (·.1)=parts.map (·.1)->(∀(s:Nat) g o,parts[s]?=f g->zA[s]?=f o->bM k b o.2.cells.toList g.2)->bM k b y.toList ag ->
  ∃r,Instr.fill vI y zA=f r/\bM k b r.toList a9
 |[],[],ag,a9,y,e,_,_,p=>by cases e;exact⟨y,a,p⟩
 |[],_::_,ag,a9,y,e,j,_,p=>by grind
 |_::_,[],ag,a9,y,e,j,_,p=>by grind
 |(x,new)::i,(w,t)::h,ag,a9,y,e,j,q,p=>by
  simp[me,List.cons.injEq]at j;obtain⟨rfl,j⟩:=j;simp[rD]at e;cases z:place w with
  |none=>grind
  |some g=>
   obtain⟨d,size⟩:=g;simp[z]at e;cases C:ad (c new) size with
   |false=>grind
   |true=>
    simp[C]at e;cases D:i4 d new ag with
    |none=>grind
    |some o=>
     simp[D]at e;have u:=q 0 (w,new) (w,t) a a;simp only at u;have R:=u.cH;have J:c new=size:=dn C;obtain⟨k1,Q⟩:=bM.fh D p u;have N:=Yq t.cells.toList 0 d y M;have F:t.cells.size=size:=M;have K:d+size<=y.size:=M;obtain⟨r,I,B⟩:=x8 (k:=k) (b:=b) A (parts:=i) (zA:=h) (ag:=o) (a9:=a9)
      (y:=t.cells.zipIdx.foldl (λag (E:X×Nat)=>ag.setIfInBounds (d+E.2) E.1) y) e j (λs g o I B=>q (s+1) g o M M) (by grind[Array.toList_zipIdx])
     refine⟨r,?_,B⟩;simp[Instr.fill,A _ _ z,F,d6,hB,oT,Bool.false_or,bw];grind
def tm(b:m (Nat×cm)):m Field->Option (m (Nat×Nat))
 |[]=>f []
 |d::a=>match bW b d.type with
  |some e=>match tm b a with
   |some g=>f ((d.offset,e.size)::g)
   |none=>n
  |none=>n
def Lg{P}{ac}(aY:bZ P ac):∀{b:m Field}{e:m (Nat×Nat)},tm ac b=f e->b.mapM (λd=>(P.info? d.type).map λk=>(d.offset,k.size))=f e
 |[],e,a=>by cases a;simp
 |d::b,e,a=>by
  simp[tm]at a;cases h:bW ac d.type with
  |none=>grind
  |some p=>
   cases g:tm ac b with
   |none=>grind
   |some q=>
    simp[h,g]at a;subst a;obtain⟨o,r,j,i,_⟩:=(aY _ _ h).cW;simp[oW,j,i,Lg aY g]
def pk(a:ae->x):m (Nat×ae)->Option (m (Nat×m O))
 |[]=>f []
 |(d,h)::g=>match mm (a h)with
  |some b=>match pk a g with
   |some e=>f ((d,b)::e)
   |none=>n
  |none=>n
def yS{k}{b}{d:ae->X}{a:ae->x}(t:∀s,bv k b (d s) (a s)):∀{j:m (Nat×ae)}{g:m (Nat×m O)},pk a j=f g ->
  (j.map λ(i,h)=>(i,d h)).map (·.1)=g.map (·.1)/\∀(p:Nat) q r,g[p]?=f q->(j.map λ(i,h)=>(i,d h))[p]?=f r->bM k b r.2.cells.toList q.2
 |[],g,e=>by cases e;simp
 |(i,h)::z,g,e=>by
  simp[pk]at e;cases u:mm (a h)with
  |none=>grind
  |some w=>
   cases o:pk a z with
   |none=>grind
   |some y=>
    simp[u,o]at e;subst e;obtain⟨B,A⟩:=yS t o;grind[uS]
def xg(g:m (Nat×cm))(e:ae->x)(j:al)(parts:m (Nat×ae)):Option (m O):=
 match bW g j with
 |some h=>match h.desc with
  |.struct a=>match tm g a.toList with
   |some b=>match pk e parts with
    |some d=>rD (λi=>c' i b) d (h.zero.map O.c)
    |none=>n
   |none=>n
  |_=>n
 |none=>n
theorem a0.build{P}{ac}(aY:bZ P ac){q}{d:ae->x}{k}{o}{parts}(z:q.op=.build o parts){ag}(e:xg ac d o parts.toList=f ag):a0 P q d k (.n (.agg ag)) k:=by
 refine .aS λb s B m=>?_;unfold xg at e;cases a:bW ac o with
 |none=>grind
 |some i=>
  simp[a]at e;cases y:i.desc with
  |struct j=>
   simp[y]at e;cases w:tm ac j.toList with
   |none=>grind
   |some r=>
    simp[w]at e;cases u:pk d parts.toList with
    |none=>grind
    |some J=>
     simp[u]at e;obtain⟨S,V,I,T,K,E,M,U,Q⟩:=(aY o i a).cW;obtain⟨D,p⟩:=yS (k:=k) (b:=b) m u;obtain⟨g,N,F⟩:=x8 (k:=k) (b:=b) (vI:=λA=>r.toArray[A]?) (λA R C=>by grind[eo]) e D p (ui M);have h:P.built o (parts.map λ(i,O)=>(i,s O)).toList=f g:=by unfold Program.built;have t:=(aY o i a).ec;rw[y]at t;simp[I,t,E,Lg aY w];simpa using N
     refine⟨.agg g,?_,⟨g.toList,by simp,F⟩,?_⟩
     .simp only[ab,z,cK,run_build b.a o _ g h,c9,dZ]
     simp[ab,z,aD,run_build b.a o _ g h,aF,Sem.events_pure];exact dz.build b.a #[]
  |_=>grind
theorem Y0{h}(a:e<j)(d:t<h):e*h+t<j*h:=by have b:(e+1)*h<=j*h:=g7 h u;grind
theorem YZ{h}(a:t<h):(e*h+t) / h=e:=by grind[Nat.mul_comm,Nat.mul_add_div,Nat.div_eq_of_lt]
theorem Y1{h}(a:t<h):(e*h+t) % h=t:=by rw[wU,Nat.mul_add_mod,Nat.mod_eq_of_lt a]
def eU.nil{h}:eU bz h 0 U []:=⟨by simp,by omega,by omega⟩
def cf(b:Nat)(d e:Nat->m K):Nat->m K:=λa=>if a<b then d a else e (a-b)
def eU.append{h}{b:Nat->m K}{i}(g:eU bz h j U y)(p:eU bz h z b i):eU bz h (j+z) (cf j U b) (y++i):=by
 refine⟨by simp[g.len,p.len,jD],λe r=>?_,λe r k s a=>?_⟩
 .simp only[cf];split
  .rename_i o;exact g.bF e o
  exact p.bF _ u
 simp[cf]at a;split at a
 .rename_i o;obtain⟨t,q,d⟩:=g.rd e o k s a;grind
 rename_i x;obtain⟨t,q,d⟩:=p.rd _ u k s a;refine⟨t,?_,d⟩;have w:e*h+k=c y+((e-j)*h+k):=by rw[g.len,<-Nat.add_assoc,<-jD,AD u]
 grind
def eU.cell{bz}{h j}{d:Nat->m K}{y}(i:eU bz h j d y):∀g∈y,g.oneCell'=l:=by intro g p;obtain⟨a,q,rfl⟩:=hn p;rw[i.len]at q;have o:0<h:=M;have e:a / h<j:=sn M;have s:a % h<h:=pU _ o;have t:=i.bF _ e;obtain⟨g,b,k⟩:=i.rd (a / h) e (a % h) ((d (a / h))[a % h]'u) (bI u);have r:a / h*h+a % h=a:=ut a h;rw[r]at b;rw[bI M]at b;simp at b;rw[b];have:=Rd.cell k;cases g<;>simp_all[dS,Value.oneCell']
def Rd.b0{o}{h}(D:Rd bz aa (.A o h j U)):
  ∃k b y,aa=.slice k j b/\j<=b/\b<=9223372036854775807/\(o=l->b=j)/\eU bz h j U y/\∀e w,y[e]?=f w->∃m d,k=f ⟨m,d,n⟩/\bz m (d+e)=f w:=by
 cases D with
 |@A k _ b _ _ _ m d B x r t i q s F=>
  refine⟨k,b,(az (j*h)).map λe=>B (e / h) (e % h),a,x,r,t,⟨by simp,i,?_⟩,?_⟩
  .grind [Y0,YZ,Y1]
  intro e w p;simp[m6]at p;by_cases z:e<j*h
  .simp[z]at p;subst p;have C:0<h:=M;have g:e / h<j:=sn M;have E:e % h<h:=pU _ C;have I:=i _ g;have:=s (e / h) g (e % h) ((U (e / h))[e % h]'u) (bI u);refine⟨m,d,q (Nat.lt_of_le_of_lt (gZ _) g),?_⟩;grind[Nat.div_add_mod']
  grind
def Rd.ek{h}(k:eU bz h j U y){w}{cap}{o}(u:0<j->w=f ⟨i,off,n⟩)(t:j<=cap)(q:cap<=9223372036854775807)(x:o=l->cap=j)(z:∀r s,y[r]?=f s->bz i (off+r)=f s):Rd bz (.slice w j cap) (.A o h j U):=by
 refine .A i off (λd e=>(y[d*h+e]?).getD I) t q x k.bF u (λd a e g b=>?_) (λd a e g b=>?_)
 .obtain⟨aa,m,p⟩:=k.rd d a e g b;grind
 obtain⟨aa,m,p⟩:=k.rd d a e g b;grind
def oy(A:bb k b){o}{h}(u:Rd b.C aa (.A o h j U)):
  ∃y,eU b.C h j U y/\(Builtin.firstCells h j aa).run P b.a=.ok y.toArray b.a/\Builtin.lenOf aa=pure j:=by
 obtain⟨r,m,y,rfl,B,E,D,q,p⟩:=u.b0;refine⟨y,q,?_,a⟩;have w:c y=j*h:=q.len;cases r with
 |none=>
  have:y=[]:=by
   cases y with
   |nil=>rfl
   |cons i C=>obtain⟨s,d,g,_⟩:=p 0 i rfl;cases g
  subst this;rfl
 |some e=>
  simp[Builtin.firstCells];rw[<-w];refine run_loadCells_list b.a e y λx i t=>?_;obtain⟨s,d,g,z⟩:=p x i t;cases g;rw[g0];exact A.mem _ _ _ z
def a0.jh{ac}(aY:bZ P ac){u x:ae}(s:q.op=.index o u x){d}{t}{h}{e}(bp:bW ac o=f e)(ak:e.desc=.string)(F:η u=ax (.V d))(E:η x=ax (.int h t))(JR:t=z)(C:z<c d):a0 P q η k (ax (.int .u8 (d[z]).toNat)) k:=by
 refine .aS λb r y p=>?_;have g:=p u;have j:=p x;rw[F]at g;rw[E]at j;replace g:=b6 g;replace j:=b6 j;generalize w:r u=I at g;generalize N:r x=J at j;cases g with
 |@V a _ D A=>
 cases j;subst D;have B:a[z]?=f (a.data.toList[z]):=by have m:z<a.size:=dB;rw[getElem?_pos a z m];congr 1
 refine⟨.int .u8 (a.data.toList[z]).toNat,?_,Rd.int ?_,?_⟩
 rotate_left 2
 .exact QZ
 .exact QZ
 have:=(a.data.toList[z]).toNat_lt;exact nM
def a0.indexAddr{ac}(aY:bZ P ac){s w:ae}(T:q.op=.indexAddr o s w){e a4}(D:bW ac o=f e)(O:e.desc=.slice W)(R:bW ac W=f a4){eN}{t}{h}(x:∀p N,bv k p N (η s)->Rd p.C N (.A eN a4.size j U))(K:η w=ax (.int h t))(E:t=z)(A:z<j):
  a0 P q η k (ax (.O (U z))) k:=by
 refine .aS λp r X i=>?_;have d:=x p _ (i s);have a:=i w;rw[K]at a;replace a:=b6 a;generalize af:r s=ah at d;generalize ag:r w=ai at a;cases a;cases d with
 |@A ak _ J _ _ _ I b S al V Z Y C g m=>
 have aa:0<j:=u;have M:=(aY o e D).run_underlying (Q:=p.a);rw[O]at M;refine⟨.pointer (f ⟨I,b+z*a4.size,n⟩),?_,Rd.O I (b+z*a4.size) (S z) (λF y B=>g z A F y B) (λF y B=>m z A F y B),?_⟩<;>
 simp[ab,T,af,ag,Instr.indexAt,asIntOf,M,E,C aa,(aY W a4 R).a',g0,A]
def a0.jo{ac}(aY:bZ P ac){g:ae}(t:q.op=.call {callee:=.builtin .len,args:=#[g],argTypes:=ds})(z:ds[0]?=f o){e}(b:bW ac o=f e)(s:e.desc=.slice W){eN}{h}(A:∀a p,bv k a p (η g)->Rd a.C p (.A eN h j U)):a0 P q η k (ax (.int .i64 j)) k:=by
 refine .aS λa B w d=>?_;obtain⟨C,i,y,x,D,u,_⟩:=(A a _ (d g)).b0;have m:=(aY o e b).run_underlying (Q:=a.a);rw[s]at m;have r:ds[0]?=f o:=z;refine⟨.int .i64 j,?_,Rd.int nM,?_⟩<;>
 simp[ab,t,resolve,invoke,builtin,Builtin.len_,x,m,goInt,r]
theorem a0.jq{ac}(aY:bZ P ac){b:ae}(u:q.op=.call {callee:=.builtin .len,args:=#[b],argTypes:=ds})(z:ds[0]?=f o){e}(g:bW ac o=f e)(t:e.desc=.string){d}(A:η b=ax (.V d)):a0 P q η k (ax (.int .i64 (c d))) k:=by
 refine .aS λB j w h=>?_;have a:=h b;rw[A]at a;replace a:=b6 a;generalize p:j b=C at a;cases a with
 |@V i _ y x=>
 have m:=(aY o e g).run_underlying (Q:=B.a);rw[t]at m;have r:ds[0]?=f o:=z;have s:i.size=c d:=by rw[<-y];simp
 refine⟨.int .i64 (c d),?_,Rd.int nM,?_⟩<;>
 simp[ab,u,resolve,invoke,builtin,Builtin.len_,p,m,goInt,r,s]
def a6.newRow(a:a6)(e:al)(y:m X):a6:=
 {s:=a.s,C:=λb d=>if b=a.a.heap.size then y[d]? else a.C b d,a:=a.a.alloc (.cells y.toArray e),own:=a.own}
def bb.newRow{k}{b}(h:bb k b)(W)(y):bb k (b.newRow W y)/\cN k b k (b.newRow W y):=by
 refine h.cn C (λg d=>iX _ _ d) (λg d j=>by grind) (λg d j m e=>?_) a a a;by_cases i:g=b.a.heap.size
 .simp_all
 simp[i,dm]at e;have:=h.block e;omega
def KB(d:a6)(W)(y):∀a b,y[a]?=f b->(d.newRow W y).C d.a.heap.size (0+a)=f b:=by intro a b e;simpa[a6.newRow]using e
def h5:m O->Option (m K)
 |[]=>f []
 |.c e::d=>match h5 d with|some b=>f (e::b)|none=>n
 |.w _ g h a::d=>match h5 d with|some b=>f (.A v g h a::b)|none=>n
 |_::_=>n
def ry{k}{b}:∀{i:m O}{g:m K}{y:m X},h5 i=f g->bM k b y i->bM k b y (g.map O.c)
 |[],g,y,a,e=>by cases a;exact e
 |_::_,_,[],_,e=>e.elim
 |.c r::d,g,j::y,a,e=>by
  simp[h5]at a;cases h:h5 d with
  |none=>grind
  |some q=>simp[h]at a;subst a;exact⟨e.1,ry h e.2⟩
 |.w o s t p::d,g,j::y,a,e=>by
  simp[h5]at a;cases h:h5 d with
  |none=>grind
  |some q=>simp[h]at a;subst a;exact⟨e.1.1,ry h e.2⟩
 |.ptr o u::d,g,j::y,a,e=>by simp[h5]at a
 |.aV o::d,g,j::y,a,e=>by simp[h5]at a
 |.N o w::d,g,j::y,a,e=>by simp[h5]at a
 |.any::d,g,j::y,a,e=>by simp[h5]at a
def rv{a:Type}(b:Nat):Nat->m a->Option (m (m a))
 |0,[]=>f []
 |0,_::_=>n
 |g+1,d=>match mR b d with
  |some e=>match rv b g (f_ b d)with
   |some h=>f (e::h)
   |none=>n
  |none=>n
def bM.eY:∀{y:m X}{a:m K},bM k b y (a.map O.c)->∀(t:Nat)d,a[t]?=f d->∃e,y[t]?=f e/\Rd b.C e d:=by intro y a i t d j;obtain⟨e,g,h⟩:=i.get (t:=t) (w:=.c d) M;exact⟨e,g,h⟩
def BF{bz}{h}:∀{j:Nat}{b:m K}{d:m (m K)}{y:m X},rv h j b=f d->c y=c b->(∀(k:Nat)e,b[k]?=f e->∃p,y[k]?=f p/\Rd bz p e)->c d=j/\eU bz h j (λi=>d.getD i []) y
 |0,[],d,y,g,o,r=>by cases g;simp at o;subst o;exact⟨a,.nil⟩
 |0,_::_,d,y,g,o,r=>by cases g
 |j+1,b,d,y,g,o,r=>by
  simp[rv]at g;cases u:mR h b with
  |none=>grind
  |some e=>
   simp[u]at g;cases q:rv h j (f_ h b)with
   |none=>grind
   |some w=>
    simp[q]at g;subst g;obtain⟨D,t⟩:=tM u;rw[rA]at q;obtain⟨E,B⟩:=BF (y:=y.drop h) q M (λk e C=>by
     obtain⟨p,D,t⟩:=r (h+k) e M
     exact⟨p,by grind,t⟩)
    refine⟨by grind,?_⟩;have A:h<=c b:=M;have s:eU bz h 1 (λ_=>e) (y.take h):=by refine⟨by grind,by grind,λi z k F C=>?_⟩;grind
    have:=s.append B;rw[Nat.add_comm 1 j]at this;have x:cf 1 (λ_=>e) (λi=>w.getD i [])=λi=>(e::w).getD i []:=by funext i;cases i<;>simp[cf]
    rw[x]at this;simpa using this
def rP(i:m (Nat×cm))(h:ae->x)(q:al)(e:Nat)(parts:m (Nat×ae)):Option (Nat×m (m K)):=
 match bW i q with
 |some k=>match k.desc with
  |.slice j=>match bW i j with
   |some a=>match ad a.size 0 with
    |true=>n
    |false=>match ay (e*a.size) 16777216 with
     |true=>match pk h parts with
      |some g=>match rD (λo=>f (o*a.size,a.size)) g (aW (e*a.size) O.any)with
       |some b=>match h5 b with
        |some p=>match rv a.size e p with
         |some d=>f (a.size,d)
         |none=>n
        |none=>n
       |none=>n
      |none=>n
     |false=>n
   |none=>n
  |_=>n
 |none=>n
theorem a0.buildSlice{P}{ac}(aY:bZ P ac){q}{z:ae->x}{k}{o}{j}{parts}(s:q.op=.buildSlice o j parts){h}{U}(e:rP ac z o j parts.toList=f (h,U)):a0 P q z k (ax (.A l h j λw=>U.getD w [])) k:=by
 intro b r R T;unfold rP at e;cases B:bW ac o with
 |none=>grind
 |some w=>
  simp[B]at e;cases ai:w.desc with
  |slice t=>
   simp[ai]at e;cases E:bW ac t with
   |none=>grind
   |some d=>
    simp[E]at e;cases V:ad d.size 0 with
    |true=>grind
    |false=>
     simp[V]at e;cases G:ay (j*d.size) 16777216 with
     |false=>grind
     |true=>
      simp[G]at e;cases aB:pk z parts.toList with
      |none=>grind
      |some aa=>
       simp[aB]at e;cases aA:rD (λh=>f (h*d.size,d.size)) aa (aW (j*d.size) O.any)with
       |none=>grind
       |some I=>
        simp[aA]at e;cases H:h5 I with
        |none=>grind
        |some aI=>
         simp[H]at e;cases ah:rv d.size j aI with
         |none=>grind
         |some ao=>
          simp only[ah,e1,lE]at e;obtain⟨rfl,rfl⟩:=e;have aS:d.size≠0:=λan=>by simp_all
          have aR:=fq G;obtain⟨aw,p,Nu,aN,aO,a,br,aP,aQ⟩:=(aY t d E).cW;have au:p.cells.size=d.size:=NR;have ar:∀g∈p.cells.toList,dS g=l:=by intro g L;have al:k0 g∈p.cells.toList.map k0:=hq.2 ⟨g,L,rfl⟩;rw[br]at al;obtain⟨aT,_,N⟩:=hq.1 al;exact(Rd.fr (bz:=b.C) N.symm).cell
          have aM:∀aH,(∀g∈(az aH).map (λD=>p.cells[D % p.cells.size]!),dS g=l):=by grind[Nat.mod_lt]
          have aC:∀y:m X,(∀g∈y,dS g=l)->bM k b y (aW (c y) O.any):=by
           intro y;induction y with
           |nil=>intro _;trivial
           |cons g y W=>intro L;exact⟨L g C,W λaJ av=>L aJ M⟩
          obtain⟨Y,Z⟩:=yS (k:=k) (b:=b) T aB;have aE:bM k b ((Array.range (j*d.size)).map (λD=>p.cells[D % p.cells.size]!)).toList (aW (j*d.size) O.any):=by have:=aC _ (aM (j*d.size));simpa using this
          obtain⟨A,aK,af⟩:=x8 (k:=k) (b:=b) (vI:=λh=>f (h*d.size,d.size)) (λh aU S=>S) aA Y Z aE;have nI:=ry H af;obtain⟨aG,F⟩:=BF (bz:=b.C) (y:=A.toList) ah (by simpa using nI.cH) nI.eY;obtain⟨K,ak⟩:=R.newRow t A.toList;refine⟨.value (.slice (f ⟨b.a.heap.size,0,n⟩) j j),b.newRow t A.toList,?_,?_,K,ak,?_⟩
          rotate_left 2
          .have an:(ab r q).events P b.a #[]=#[]:=Rh;rw[an];exact .nil
          .have av:=(aY o w B).run_underlying (Q:=b.a);rw[ai]at av;have aD:(zeroValue t).run P b.a=.ok p b.a:=NU;have J:Instr.fill (λh=>f (h*d.size,d.size)) ((Array.range (j*d.size)).map (λD=>p.cells[D % p.cells.size]!)) (parts.map λ(w,ag)=>(w,r ag)).toList=f A:=bu;by_cases aF:j*d.size=0
           .have aL:j=0:=by grind[Nat.mul_eq_zero]
            subst aL;have aq:Array.range 0=#[]:=rfl;simp[aq]at J;simp[ab,s,Instr.buildSlice,av,(aY t d E).a',aq,J,Go.newRow,a6.newRow]
           rw[show ab r q=(do pure (.value (<-Instr.buildSlice o j (parts.map λ(w,ag)=>(w,r ag))))) by simp[ab,s]];simp only[Instr.buildSlice,cK,av,c9,(aY t d E).a',aF,dm,aD,show¬j*d.size>2 ^ 24 by omega,sx,J,dZ];simp[Go.newRow,a6.newRow]
          refine Rd.ek (F.mono ak.mem) (i:=b.a.heap.size) (off:=0) bk (bA _) ?_ bk (KB b t A.toList);have:j<=j*d.size:=uq j u;omega
  |_=>grind
def fp.trans{k aQ a}{b i b3}(j:fp k b aQ i)(m:fp aQ i a b3):fp k b a b3:=by refine⟨λy z A s=>m.mem _ _ _ (j.mem _ _ _ s),λo p L aH h=>?_⟩;obtain⟨w,d,e,g,u⟩:=j.box o p L aH h;obtain⟨x,t,k1,q,r⟩:=m.box o w d e g;exact⟨x,t,k1,q,u.trans r⟩
def rE{a:m α}{d b:α}{e}(g:(a++[d])[e]?=f b):a[e]?=f b∨(e=c a/\b=d):=M
def bb.bY{j}(e:bb k j)(g:cN k b k j)(N:j.s=b.s)(q:bb k b){bT}{L}(aH:ew (k++[bT]) {j with s:=j.s++[L]} bT L)(D:∀i∈L.aj,b.a.heap.size<=i/\i<j.a.heap.size):bb (k++[bT]) {j with s:=j.s++[L]}/\cN k b (k++[bT]) {j with s:=j.s++[L]}:=by
 have u:fp k j (k++[bT]) {j with s:=j.s++[L]}:=by refine⟨λ_ _ _ I=>I,λy p h m d=>?_⟩;have x:=(cO.1 d).1;have K:=(cO.1 m).1;exact⟨p,h,by grind,by grind,.refl _ _⟩
 have B:=g.ext.trans u;refine⟨⟨e.mem,by simp[e.len],?_,?_,?_,?_⟩,⟨g.size,g.a3,g.mem,g.bC,?_,B.box,g.os,g.tape,g.output,g.own⟩⟩
 .intro y p h m d;rcases rE m with F|⟨rfl,rfl⟩
  .have x:y<c j.s:=by rw[e.len];grind
   rw[j6 x]at d;exact(e.box y p h F d).b8 u e.len λ_ _=>⟨a,λ_=>rfl⟩
  rcases rE d with A|⟨_,rfl⟩
  .have:=(cO.1 A).1;rw[e.len]at this;omega
  grind
 .intro y C r s A t i cT o;rcases rE A with k1|⟨rfl,rfl⟩<;>rcases rE t with J|⟨rfl,rfl⟩
  .exact e.a0 y C r s k1 J i cT o
  .have kD:=D i o;have z:=q.lt r M i cT;omega
  .have kD:=D i cT;have z:=q.lt s M i o;omega
  simp
 .intro h d i cT;simp[fy,gJ]at d;rcases d with d|rfl
  .exact e.lt h d i cT
  grind
 .intro i cT;refine⟨(e.own i cT).1,λh d w=>?_⟩;simp[fy,gJ]at d;rcases d with d|rfl
  .exact(e.own i cT).2 h d w
  have E:=g.own;simp only at cT;rw[E]at cT;have:=(q.own i cT).1;grind
 grind
def bb.b4{cg}(m:bb k b){E ec}{L cu}(V:k[d]?=f E)(I:b.s[d]?=f L)(x:fM E L ec cu)(U:b.a.heap.size<=bg.heap.size)(S:∀e,e<b.a.heap.size->e∉L.aj->bg.heap[e]?=b.a.heap[e]?)(W:∀e,e<b.a.heap.size->e∉L.aj->∀r,cg e r=b.C e r)(F:∀e r u,b.C e r=f u->cg e r=f u)(Q:∀e r u,cg e r=f u->bg.cell? ⟨e,r,n⟩=f u)(Z:∀e∈cu.aj,(e∈L.aj∨b.a.heap.size<=e)/\e<bg.heap.size)(D:bg.os=b.a.os)(O:bg.tape=b.a.tape)(K:bg.output=b.a.output)(aH:ew (k.set d ec) ⟨b.s.set d cu,cg,bg,b.own⟩ ec cu):bb (k.set d ec) ⟨b.s.set d cu,cg,bg,b.own⟩/\cN k b (k.set d ec) ⟨b.s.set d cu,cg,bg,b.own⟩:=by
 have X:=(cO.1 V).1;have Y:=(cO.1 I).1;have y:∀g h,(b.s.set d cu)[g]?=f h->(g=d/\h=cu)∨(g≠d/\b.s[g]?=f h):=M;have s:fp k b (k.set d ec) ⟨b.s.set d cu,cg,bg,b.own⟩:=by
  refine⟨F,λg h w q A=>?_⟩;by_cases C:d=g
  .grind
  exact⟨h,w,by grind,by grind,.refl _ _⟩
 have J:∀g h,g≠d->b.s[g]?=f h->∀e∈h.aj,e<b.a.heap.size/\e∉L.aj:=by intro g h p q e i;exact⟨m.lt h (b8 q) e i,λT=>p (m.a0 g d h L q I e i T)⟩
 refine⟨⟨Q,by simp[m.len],?_,?_,?_,?_⟩,⟨U,?_,F,?_,?_,s.box,D,O,K,a⟩⟩
 .intro g h w q A;rcases y g w A with⟨rfl,rfl⟩|⟨p,A⟩
  .grind
  rw[j9 (λC=>p C.symm)]at q;refine(m.box g h w q A).b8 s m.len λe i=>?_;grind
 .intro g N h o q B e i t;rcases y g h q with⟨rfl,rfl⟩|⟨p,z⟩<;>rcases y N o B with⟨rfl,rfl⟩|⟨j,R⟩
  .rfl
  .grind
  .grind
  exact m.a0 g N h o z R e i t
 .intro h q e i;obtain⟨g,p,rfl⟩:=hn q;rcases y g _ (bI p)with⟨rfl,C⟩|⟨j,B⟩
  .grind
  grind
 .intro e i;obtain⟨H,G⟩:=m.own e i;grind
 .grind
 .grind
 grind
def KC{a old bytes}(d:old<a)(b:a*bytes<=140737488355328):¬Builtin.nextslicecap a old*bytes>2 ^ 48:=by have:=growslice_fits d b;omega
section
variable {ac:m (Nat×cm)}(aY:bZ P ac){t2:al}{e N a4:cm}
def y4(d:eL P o e)(z:e.desc=.slice W)(u:eL P t2 N)(t:N.desc=.slice W)(A:eL P W a4)(C:bb k b){w}{cap}(s:j<=cap){q}{g}{a:Nat->m K}(p:Rd b.C q (.A g a4.size 0 a)):
  (Builtin.append_ #[o,t2] ty #[.slice w j cap,q]).run P b.a=.ok (.slice w j cap) b.a:=by obtain⟨E,D,B,I⟩:=oy (P:=P) C p;have i:=d.run_underlying (Q:=b.a);have h:=u.run_underlying (Q:=b.a);rw[z]at i;rw[t]at h;obtain⟨r,F,y,rfl,_⟩:=p.b0;have x:=jB (by simpa using D.len);subst x;cases w<;>simp[Builtin.append_,i,h,A.a',Builtin.lenOf,s,B,storeCells]
def vO(A:eL P o e)(af:e.desc=.slice W)(aw:eL P t2 N)(av:N.desc=.slice W)(L:eL P W a4)(al:bb k b){q}{cap}{ak D}{g:Nat->m K}{i}(B:Rd b.C (.slice q j cap) (.A ak a4.size j U))(C:Rd b.C i (.A D a4.size z g))(ah:cap<j+z)(F:(j+z)*a4.bytes<=140737488355328)(x:a4.bytes≠0):
  ∃y p d,eU b.C a4.size (j+z) (cf j U g) y/\j+z<=d/\d<=9223372036854775807/\c (y++p)=d*a4.size /\
   (Builtin.append_ #[o,t2] ty #[.slice q j cap,i]).run P b.a=.ok (.slice (f ⟨b.a.heap.size,0,n⟩) (j+z) d) (b.a.drew.alloc (.cells (y++p).toArray W)):=by
 have ab:bb k {b with a:=b.a.drew}:=al.same rfl;obtain⟨s,J,t,ar⟩:=oy (P:=P) ab (aa:=i) C;obtain⟨r,Y,w,V⟩:=oy (P:=P) ab (aa:=.slice q j cap) B;have R:=A.run_underlying (Q:=b.a);have S:=aw.run_underlying (Q:=b.a);rw[af]at R;rw[av]at S;obtain⟨Z,E,I,ax,aA,ai,ag,aB,aC⟩:=L.cW;have T:=fG (uq _ (Nat.pos_of_ne_zero x)) F;have H:E.cells.size=a4.size:=by have:=eD List.length ag;grind
 refine⟨r++s,(Builtin.zeroCells E.cells (grownCap b.a (j+z) cap W-(j+z))).toList,grownCap b.a (j+z) cap W,Y.append J,grownCap_ge _ _ _ _,?_,?_,?_⟩
 .have:=grownCap_le_maxLen b.a (j+z) cap W (by unfold maxLen;omega);unfold maxLen at this;omega
 .have aL:=grownCap_ge b.a (j+z) cap W;simp[df,Y.len,J.len,m4,size_zeroCells,H,<-jD];grind
 .have aD:=KC ah F;have au:¬Builtin.nextslicecap (j+z) cap*Z.bytes>2 ^ 48:=M;have aq:¬j+z<=cap:=u;have O:¬((j+z:Nat):Int)>IntKind.i64.max:=bu;have G:∀h,(typeInfo W).run P h=.ok Z h:=λh=>by simp[typeInfo,I]
  have ae:∀h,(zeroValue W).run P h=.ok E h:=λh=>by simp[zeroValue,typeInfo,I,ai]
  have ao:(Builtin.lenOf i).run P b.a=.ok z b.a:=by rw[ar];rfl
  replace t:(Builtin.firstCells a4.size z i).run P b.a.drew=.ok s.toArray b.a.drew:=t;replace w:(Builtin.firstCells a4.size j (.slice q j cap)).run P b.a.drew=.ok r.toArray b.a.drew:=w
  unfold Builtin.append_;simp only[j8,mf,nY,cK,R,S,c9,L.a',dZ,j_,dm,ao,aq,
   O,false_and,G,au,run_choose,Question.forced,run_askRoom,sx,World.drew_eq,w,t,is,dA,ae]
  simp[Go.newRow,grownCap];have an:∀a:Array X,(r++s).toArray++a=(r++(s++a.toList)).toArray:=λa=>by grind
  rw[an];rfl
def DW(g:eL P o e)(F:e.desc=.slice W)(E:eL P t2 N)(D:N.desc=.slice W)(I:eL P W a4)(A:bb k b){cap}{w}{r}(J:b.a.heap[i]?=f (.cells r.toArray w (0,0)))(C:c r=cap*a4.size){p}{a:Nat->m K}{q}(x:Rd b.C q (.A p a4.size z a))(u:j+z<=cap):
  ∃d,eU b.C a4.size z a d/\(Builtin.append_ #[o,t2] ty #[.slice (f ⟨i,0,n⟩) j cap,q]).run P b.a=.ok (.slice (f ⟨i,0,n⟩) (j+z) cap) (b.a.setRow i (r.take (j*a4.size)++d++r.drop (j*a4.size+c d)).toArray):=by
 obtain⟨d,h,O,R⟩:=oy (P:=P) A x;have y:=g.run_underlying (Q:=b.a);have s:=E.run_underlying (Q:=b.a);rw[F]at y;rw[D]at s;have S:j*a4.size+c d<=c r:=by rw[h.len,C,<-jD];exact g7 _ u
 have t:=run_storeCells_at P i (j*a4.size) w d 0 r.toArray b.a J M h.cell;simp[ka]at t;have B:(Builtin.lenOf q).run P b.a=.ok z b.a:=dB;refine⟨d,h,?_⟩;unfold Builtin.append_;simp[j8,mf,nY,cK,y,s,c9,I.a',dZ,j_,dm,B,u,dA,is,O,g0,cW,t]
end
def De{d:Sem α}{b}{U}{a}(e:a∈d.events P b U):a∈U∨a∈d.events P b #[]:=by grind[Sem.events_acc]
def LG(e:a6)(d:aR):Prop:=∃a b g,d=po a b/\e.C a b=f g
def sS(I:bb k b){o}{h}(A:Rd b.C aa (.A o h j U)){Q}(E:Q.heap=b.a.heap):
  ∀t∈(Builtin.firstCells h j aa).events P Q #[],LG b t:=by
 obtain⟨C,z,y,rfl,S,R,N,B,F⟩:=A.b0;have K:=B.len;intro t i;cases C with
 |none=>simp[Builtin.firstCells]at i
 |some r=>
  simp[Builtin.firstCells]at i;have s:∀e,e<j*h->∃g d m,r=⟨g,d,n⟩/\b.C g (d+e)=f m:=by intro e p;obtain⟨g,d,x,q⟩:=F e (y[e]'u) (bI u);grind
  by_cases J:j*h=0
  .rw[J]at i;simp[loadCells,loadCellsFrom]at i
  obtain⟨g,d,_,rfl,_⟩:=s 0 u;have O:∀e,e<j*h->∃aa,Q.cell? ⟨g,d+e,n⟩=f aa:=by intro e p;obtain⟨M,D,m,w,q⟩:=s e p;cases w;have:=I.mem _ _ _ q;exact⟨m,by simp[aJ,E]at this⊢;omega⟩
  rcases IN (P:=P) O t i with A|⟨e,p,rfl⟩
  .grind
  obtain⟨M,D,m,w,q⟩:=s e p;cases w;exact⟨_,_,m,a,q⟩
theorem tr{a}(e:LG b a):h6 b a:=by obtain⟨g,h,i,rfl,d⟩:=e;exact Im d
section
variable {t2:al}{e N a4:cm}
def xV(g:eL P o e)(D:e.desc=.slice W)(A:eL P t2 N)(z:N.desc=.slice W)(E:eL P W a4)(r:bb k b){p}{cap}(w:j<=cap){t}{i}{d:Nat->m K}(h:Rd b.C t (.A i a4.size 0 d)):
  dv b ((Builtin.append_ #[o,t2] ty #[.slice p j cap,t]).events P b.a #[]):=by obtain⟨M,J,F,R⟩:=oy (P:=P) r h;have C:=sS (P:=P) r h (Q:=b.a) a;have s:=g.run_underlying (Q:=b.a);have q:=A.run_underlying (Q:=b.a);rw[D]at s;rw[z]at q;obtain⟨u,O,y,rfl,_⟩:=h.b0;have B:=jB (by simpa using J.len);subst B;intro x I;refine tr (C x ?_);cases p<;>simpa[Builtin.append_,s,q,E.a',Builtin.lenOf,w,F,storeCells]using I
def u1(A:eL P o e)(ak:e.desc=.slice W)(G:eL P t2 N)(x:N.desc=.slice W)(J:eL P W a4)(t:bb k b){p}{cap}{B C}{r:Nat->m K}{d}(T:Rd b.C (.slice p j cap) (.A B a4.size j U))(S:Rd b.C d (.A C a4.size z r))(al:cap<j+z)(I:(j+z)*a4.bytes<=140737488355328)(ah:a4.bytes≠0):
  dv b ((Builtin.append_ #[o,t2] ty #[.slice p j cap,d]).events P b.a #[]):=by
 have F:bb k {b with a:=b.a.drew}:=t.same rfl;obtain⟨aA,aq,s,V⟩:=oy (P:=P) F (aa:=d) S;obtain⟨av,X,w,ab⟩:=oy (P:=P) F (aa:=.slice p j cap) T;have Y:=sS (P:=P) t S (Q:=b.a.drew) a;have aJ:=sS (P:=P) t T (Q:=b.a.drew) a;have R:=A.run_underlying (Q:=b.a);have af:=G.run_underlying (Q:=b.a);rw[ak]at R;rw[x]at af;obtain⟨y,aB,aL,aC,aE,E,aG,aH,aI⟩:=J.cW;have Z:=fG (uq _ (Nat.pos_of_ne_zero ah)) I;have ae:=KC al I;have O:¬Builtin.nextslicecap (j+z) cap*y.bytes>2 ^ 48:=M;have aw:¬j+z<=cap:=u;have H:¬((j+z:Nat):Int)>IntKind.i64.max:=bu;have ai:∀h,(typeInfo W).run P h=.ok y h:=λh=>by simp[typeInfo,aL]
 have L:∀h,(zeroValue W).run P h=.ok aB h:=λh=>by simp[zeroValue,typeInfo,aL,E]
 have an:(Builtin.lenOf d).run P b.a=.ok z b.a:=by rw[V];rfl
 have au:(Builtin.lenOf d).events P b.a #[]=#[]:=by rw[V];rfl
 replace s:(Builtin.firstCells a4.size z d).run P b.a.drew=.ok aA.toArray b.a.drew:=s;replace w:(Builtin.firstCells a4.size j (.slice p j cap)).run P b.a.drew=.ok av.toArray b.a.drew:=w
 intro q i;unfold Builtin.append_ at i;simp only[j8,mf,nY,aD,cK,R,af,c9,aF,J.a',dZ,j_,dm,an,au,aw,
  H,false_and,ai,O,run_choose,Question.forced,run_askRoom,sx,Sem.events_ite,World.drew_eq,w,s,is,dA,L,events_underlying,events_sizeOf,events_typeInfo,events_choose,events_zeroValue,Sem.events_pure]at i
 have ag:∀(d:Nat) (Q:ar) (q:aR),q∈(askRoom d).events P Q #[]->q=⟨.mark .noRoom,v,l⟩:=by intro d Q q ao;unfold askRoom at ao;simp_all
 rw[dz.newRow (P:=P)]at i;generalize(Go.newRow W _).run P b.a.drew=ax at i;have g:q∈(Builtin.firstCells a4.size z d).events P b.a.drew ((Builtin.firstCells a4.size j (.slice p j cap)).events P b.a.drew ((askRoom ((Question.appendCap (j+z) cap W).cut (b.a.tape b.a.drawn (Question.appendCap (j+z) cap W))*y.bytes)).events P b.a.drew #[])):=by
  cases ax with
  |ok aa D=>simpa using i
  |halt aa D=>simpa using i
 rcases De g with g|g
 .rcases De g with g|g
  .rw[ag _ _ _ g];exact .inl a
  grind[tr]
 grind[tr]
def B7(h:eL P o e)(y:e.desc=.slice W)(J:eL P t2 N)(I:N.desc=.slice W)(A:eL P W a4)(G:bb k b){cap}{O}{d}(x:b.a.heap[i]?=f (.cells d.toArray O (0,0)))(F:c d=cap*a4.size){r6}{dH:Nat->m K}{D}(r:Rd b.C D (.A r6 a4.size z dH))(w:j+z<=cap){L}(Y:L∈b.s)(U:i∈L.aj)(ab:∀u,j*a4.size<=u->b.C i u=n):
  dv b ((Builtin.append_ #[o,t2] ty #[.slice (f ⟨i,0,n⟩) j cap,D]).events P b.a #[]):=by
 obtain⟨g,p,aL,R⟩:=oy (P:=P) G r;have T:=sS (P:=P) G r (Q:=b.a) a;have H:=h.run_underlying (Q:=b.a);have s:=J.run_underlying (Q:=b.a);rw[y]at H;rw[I]at s;have S:j*a4.size+c g<=c d:=by rw[p.len,F,<-jD];exact g7 _ w
 have t:=run_storeCells_at P i (j*a4.size) O g 0 d.toArray b.a x M p.cell;simp[ka]at t;have C:(Builtin.lenOf D).run P b.a=.ok z b.a:=dB;have E:(Builtin.lenOf D).events P b.a #[]=#[]:=dB
 intro B q;unfold Builtin.append_ at q;simp[j8,mf,nY,aD,cK,H,s,aF,A.a',dZ,j_,dm,C,E,w,dA,is,aL,g0,cW,t,
  sx,Sem.events_ite,events_underlying,events_sizeOf,Sem.events_pure]at q
 rcases nd g 0 d.toArray b.a _ x M p.cell B q with Z|⟨aa,X,V,rfl⟩
 .grind [tr]
 grind[n_]
end
structure j0(P:aE)(q:ao)(D bE:ae)(W:al)(a4:cm):Prop where
 op:∃o t2 e N,q.op=.call {callee:=.builtin .append,args:=#[D,bE],argTypes:=#[o,t2]}/\eL P o e/\e.desc=.slice W/\eL P t2 N/\N.desc=.slice W
 elem:eL P W a4
 bytes:a4.bytes≠0
 size:a4.size≠0
def a6.dB(a:a6)(h:al)(y b:m X)(d:m Loc):a6:=
 {s:=d,C:=λe g=>if e=a.a.heap.size then y[g]? else a.C e g,a:=a.a.drew.alloc (.cells (y++b).toArray h),own:=a.own}
def JI(j:bb k b)(W)(y a:m X):∀d e h,(if d=b.a.heap.size then y[e]? else b.C d e)=f h->(b.a.drew.alloc (.cells (y++a).toArray W)).cell? ⟨d,e,n⟩=f h:=by
 intro d e h g;by_cases i:d=b.a.heap.size
 .subst i;simp[dA]at g;unfold aJ;have:(b.a.drew.alloc (.cells (y++a).toArray W)).heap[b.a.heap.size]?=f (.cells (y++a).toArray W):=lS b.a.drew _;grind
 simp[i,dm]at g;have o:=j.block g;rw[<-j.mem d e h g];unfold aJ;have:(b.a.drew.alloc (.cells (y++a).toArray W)).heap[d]?=b.a.heap[d]?:=iX b.a.drew _ o;grind
def JJ(h:bb k b)(y:m X):∀a d e,b.C a d=f e->(if a=b.a.heap.size then y[d]? else b.C a d)=f e:=by intro a d e g;have:=h.block g;grind
theorem iU{z}(a:dv b (z.events P b.a #[])):dv b ((do pure (.value (<-z)):Sem Next).events P b.a #[]):=dB
theorem la{d e:ae}{b:al}(s:q.op=.call {callee:=.builtin .append,args:=#[d,e],argTypes:=#[o,b]})(a:ae->X):
  ab a q=(do pure (.value (<-Builtin.append_ #[o,b] q.type #[a d,a e]))):=RB
def Rd.eg{o}{h}(q:Rd bz aa (.A o h j U)):Rd bz aa (.A v h j U):=by
 cases q with
 |A m a p k d r e b g i=>exact .A m a p k d C e b g i
def Rd.cz{o}{h}{dH:Nat->m K}(z:∀b,b<j->U b=dH b)(x:Rd bz aa (.A o h j U)):Rd bz aa (.A o h j dH):=by
 cases x with
 |A u d w t i r y g p q=>exact .A u d w t i r (λb a=>by grind) g (λb a s e k=>p b a s e M) (λb a s e k=>q b a s e M)
def Rd.fW{h gk}(a:h=gk∨j=0)(d:Rd bz aa (.A l h j U)):Rd bz aa (.A l gk j U):=by
 rcases a with rfl|rfl
 .exact d
 obtain⟨e,b,y,i,k,g,m,_⟩:=d.b0;grind[Rd.dJ]
def tq{h}{L}(aH:k[d]?=f (.w W h j U))(o:b.s[d]?=f L)(e:ew k b (.w W h j U) L):cB k b L.v (.w d h j U):=by refine⟨e.1,(cO.1 aH).1,λp i m a g=>?_⟩;grind
def a0.gb{X Y:ae}{e:cm}(s:j0 P q X Y W e){aa:Nat}{V:Bool}{dH:Nat->m K}(ao:η X=ax (.A l aa j U))(R:aa=e.size∨j=0)(an:∀d J,bv k d J (η Y)->Rd d.C J (.A V e.size z dH))(g:(j+z)*e.bytes<=140737488355328)(ar:j=0∨0<z):
  a0 P q η k (.n (.R (.w (c k) e.size (j+z) (cf j U dH)))) (k++[.w W e.size (j+z) (cf j U dH)]):=by
 intro d aw bP E;obtain⟨aD,av,au,aB,t,h,G,I,F⟩:=s.op;have B:=E X;rw[ao]at B;have p:=Rd.fW R (b6 B);have o:=an d _ (E Y);obtain⟨w,b,y,aq,ab,aL,ai,aA,D⟩:=p.b0;have H:b=j:=ai a;subst H;rw[la t];rw[aq]at p⊢;by_cases ak:z=0
 .subst ak;have T:=y4 (P:=P) (ty:=q.type) h G I F s.elem bP (w:=w) ab o;simp only[ka];have p:=Rd.cz (dH:=cf b U dH) (λau h=>by grind) p;have aH:ew (k++[.w W e.size b (cf b U dH)]) {d with s:=d.s++[⟨.slice w b b,[]⟩]} (.w W e.size b (cf b U dH)) ⟨.slice w b b,[]⟩:=⟨p.eg,.inl ⟨⟨rfl,by omega⟩,p⟩⟩
  obtain⟨Q,N⟩:=bP.bY (.refl _ _) rfl bP aH C;refine⟨.value (.slice w b b),_,?_,?_,Q,N,iU (xV h G I F s.elem bP ab o)⟩
  .simp[T]
  exact tq C tY aH
 have Z:b<b+z:=u;obtain⟨r,O,A,x,ag,L,af,T⟩:=vO (P:=P) (ty:=q.type) h G I F s.elem bP p o Z g s.bytes;have M:bb k (d.dB W r O d.s)/\cN k d k (d.dB W r O d.s):=
  bP.cn C (λi g=>iX d.a.drew _ g) (λi g q=>by grind)
   (λi g q J D=>JI bP W r O i q J D) a a a
 have ah:Rd (d.dB W r O d.s).C (.slice (f ⟨d.a.heap.size,0,n⟩) (b+z) A) (.A v e.size (b+z) (cf b U dH)):=
  Rd.ek (x.mono M.2.mem) (i:=d.a.heap.size) (off:=0) bk ag L C (λaC aE al=>by simpa[a6.dB]using al)
 have aH:ew (k++[.w W e.size (b+z) (cf b U dH)]) {(d.dB W r O d.s)with s:=(d.dB W r O d.s).s++[⟨.slice (f ⟨d.a.heap.size,0,n⟩) (b+z) A,[d.a.heap.size]⟩]} (.w W e.size (b+z) (cf b U dH)) ⟨.slice (f ⟨d.a.heap.size,0,n⟩) (b+z) A,[d.a.heap.size]⟩:=by
  refine⟨ah,.inr ⟨d.a.heap.size,A,r++O,a,lS d.a.drew _,af,λq t=>?_⟩⟩;have S:c r<=q:=by rw[x.len];exact t
  simp[a6.dB,wP S]
 obtain⟨Q,N⟩:=M.1.bY M.2 rfl bP aH (λi g=>by simp at g;subst g;refine⟨bA _,?_⟩;simp[a6.dB]);refine⟨.value (.slice (f ⟨d.a.heap.size,0,n⟩) (b+z) A),_,?_,?_,Q,N,iU (u1 h G I F s.elem bP p o Z g s.bytes)⟩
 .simp[T];rfl
 exact tq C (by simp[a6.dB,<-bP.len]) aH
def a0.ig{aS aT:ae}{a4}(B:j0 P q aS aT W a4){aR}{g:Nat->m K}(aP:η aS=.n (.R (.w d a4.size j U)))(s:k[d]?=f (.w W a4.size j U))(aQ:∀o S,bv k o S (η aT)->Rd o.C S (.A aR a4.size z g))(p:(j+z)*a4.bytes<=140737488355328):
  a0 P q η k (.n (.R (.w d a4.size (j+z) (cf j U g)))) (k.set d (.w W a4.size (j+z) (cf j U g))):=by
 intro o bh b ao;obtain⟨bl,bf,aq,bj,A,r,Z,G,x⟩:=B.op;have aM:d<c k:=(cO.1 s).1;have ab:=ao aS;rw[aP]at ab;obtain⟨av,_,af⟩:=ab;obtain⟨L,J,bd⟩:=(af _ _ _ _ s).2 rfl;have t:=aQ o _ (ao aT);have aK:d<c o.s:=(cO.1 J).1;have H:=b.box d _ L s J;obtain⟨w,e,y,R,aL,ai,bc,ag,bb⟩:=av.b0;rw[la A,R];rw[R]at av;have aw:L.v=.slice w j e:=M;by_cases aG:z=0
 .subst aG;have au:=y4 (P:=P) (ty:=q.type) r Z G x B.elem b (w:=w) aL t;simp only[ka];have ah:∀aq,aq<j->U aq=cf j U g aq:=λaq r=>by simp[cf,r]
  have Q:ew (k.set d (.w W a4.size j (cf j U g))) ⟨o.s.set d L,o.C,o.a,o.own⟩ (.w W a4.size j (cf j U g)) L:=by
   refine⟨H.1.cz ah,?_⟩;rcases H.2 with⟨I,aH⟩|I
   .exact .inl ⟨I,aH.cz ah⟩
   grind
  have E:=b.b4 (cg:=o.C) (bg:=o.a) (ec:=.w W a4.size j (cf j U g)) (cu:=L) s J ⟨λ_=>rfl,bA _⟩ (bA _) (λ_ _ _=>rfl) (λ_ _ _ _=>rfl) (λ_ _ _ B=>B) b.mem
   (λi p=>⟨.inl p,b.lt L (b8 J) i p⟩) a a a Q
  refine⟨.value (.slice w j e),_,?_,?_,E.1,E.2,iU (xV r Z G x B.elem b aL t)⟩
  .simp[au]
  rw[<-aw];exact tq (W:=W) M M Q
 .have F:¬(j+z=j):=u;by_cases aA:j+z<=e
  .rcases H.2 with⟨a1,aU⟩|⟨i,aF,h,rfl,hw,aD,br⟩
   .rw[aw]at aU;obtain⟨_,_,_,ax,_,_,a8,_⟩:=aU.b0;grind
   .simp only at aw;cases aw;obtain⟨D,N,au⟩:=DW (P:=P) (ty:=q.type) r Z G x B.elem b hw aD t aA;have a6:c D=z*a4.size:=N.len;have aI:i<o.a.heap.size:=(jd.1 hw).1;let cg:Mem:=λO q=>if O=i/\j*a4.size<=q/\q<(j+z)*a4.size then D[q-j*a4.size]? else o.C O q;have a2:c h=e*a4.size:=aD;have a7:(j+z)*a4.size=j*a4.size+z*a4.size:=jD _ _ _;have a5:(j+z)*a4.size<=e*a4.size:=g7 _ aA;have aY:∀O q S,o.C O q=f S->cg O q=f S:=M;have aO:∀aB aC,D[aB]?=f aC->cg i (j*a4.size+aB)=f aC:=M;have aE:Rd cg (.slice (f ⟨i,0,n⟩) (j+z) e) (.A v a4.size (j+z) (cf j U g)):=by refine Rd.ek (y:=y++D) ((ag.append N).mono aY) (i:=i) (off:=0) bk aA ai C (λaB aC aN=>?_);have a9:c y=j*a4.size:=ag.len;grind
    have E:=b.b4 (cg:=cg) (bg:=o.a.setRow i (h.take (j*a4.size)++D++h.drop (j*a4.size+c D)).toArray) (ec:=.w W a4.size (j+z) (cf j U g)) (cu:=⟨.slice (f ⟨i,0,n⟩) (j+z) e,[i]⟩) s J
     ⟨λax=>absurd ax F,by omega⟩ C (λO _ aa=>setRow_other _ _ _ _ M) (λO _ aa q=>by grind) aY ?_ (λO aa=>by simp at aa;exact bu) a a a ?_
    .refine⟨.value (.slice (f ⟨i,0,n⟩) (j+z) e),_,?_,?_,E.1,E.2,iU (B7 r Z G x B.elem b hw aD t aA (b8 J) C br)⟩
     .simp[au]
     exact tq (L:=⟨.slice (f ⟨i,0,n⟩) (j+z) e,[i]⟩) (W:=W) M M (E.1.box d _ _ M M)
    .intro O q S Y;by_cases aa:O=i
     .subst aa;have a':∀a_,(o.a.setRow O (h.take (j*a4.size)++D++h.drop (j*a4.size+c D)).toArray).cell? ⟨O,a_,n⟩=(h.take (j*a4.size)++D++h.drop (j*a4.size+c D))[a_]?:=by grind[cell_setRow_same]
      rw[a'];simp only[cg]at Y;have a3:c (h.take (j*a4.size))=j*a4.size:=by rw[List.length_take];omega
      split at Y
      .grind
      rename_i ba;have I:=b.mem O q S Y;have A:q<j*a4.size:=M;rw[mh,j6 u,h2,bo A];simp only[aJ,hw]at I;grind
     simp only[cg]at Y;rw[bm u]at Y;rw[<-b.mem O q S Y];exact P'
    refine⟨aE,.inr ⟨i,e,_,a,setRow_heap _ _ _ _ _ _ hw,M,λq A=>?_⟩⟩;grind
  .have ak:e<j+z:=u;obtain⟨T,X,ar,aV,al,an,V,au⟩:=vO (P:=P) (ty:=q.type) r Z G x B.elem b av t ak p B.bytes;have aZ:∀i∈L.aj,i<o.a.heap.size:=b.lt L (b8 J);have aE:Rd (λi q=>if i=o.a.heap.size then T[q]? else o.C i q) (.slice (f ⟨o.a.heap.size,0,n⟩) (j+z) ar) (.A v a4.size (j+z) (cf j U g)):=
    Rd.ek (aV.mono (JJ b T)) (i:=o.a.heap.size) (off:=0) bk al an C (λaB aC aN=>by grind)
   have E:=b.b4 (cg:=λi q=>if i=o.a.heap.size then T[q]? else o.C i q) (bg:=o.a.drew.alloc (.cells (T++X).toArray W)) (ec:=.w W a4.size (j+z) (cf j U g)) (cu:=⟨.slice (f ⟨o.a.heap.size,0,n⟩) (j+z) ar,[o.a.heap.size]⟩) s J
    ⟨λax=>absurd ax F,by omega⟩ C (λi p _=>iX o.a.drew _ p) (λi p _ q=>by grind) (JJ b T) (JI b W T X) (λi p=>by
     simp at p;exact bu) a a a ⟨aE,.inr ⟨o.a.heap.size,ar,T++X,a,lS o.a.drew _,V,λq A=>by
      have s:c T<=q:=by rw[aV.len];exact A
      grind⟩⟩
   refine⟨.value (.slice (f ⟨o.a.heap.size,0,n⟩) (j+z) ar),_,?_,?_,E.1,E.2,iU (u1 r Z G x B.elem b av t ak p B.bytes)⟩
   .simp[au]
   exact tq (L:=⟨.slice (f ⟨o.a.heap.size,0,n⟩) (j+z) ar,[o.a.heap.size]⟩) (W:=W) M M (E.1.box d _ _ M M)
def dx{a:Type}:m Nat->m a->Option (m a)
  |[],_=>f []
  |e::b,d=>match c' e d with
    |some h=>match dx b d with
      |some g=>f (h::g)
      |none=>n
    |none=>n
def ld{d:Type}:∀a (e:m d),c' a e=e[a]?
  |_,[]=>by simp[c']
  |0,g::_=>by simp[c']
  |a+1,_::b=>by simpa[c']using ld a b
def l2{i:Type}:∀{a:m Nat} {b e:m i},dx a b=f e->c e=c a/\∀(k g:Nat),a[k]?=f g->∃h,e[k]?=f h/\b[g]?=f h
  |[],b,e,d=>by cases d;simp
  |g::a,b,e,d=>by
    simp[dx]at d;cases o:c' g b with
    |none=>grind
    |some h=>
      cases j:dx a b with
      |none=>grind
      |some r=>
        simp[o,j]at d;subst d;obtain⟨p,q⟩:=l2 j;grind[eo]
def vS{i o:Type}:∀{a:m Nat} {d h:m i} {kM:m o},dx a d=f h->c kM=c d->∃b,dx a kM=f b
  |[],d,h,kM,_,_=>⟨[],rfl⟩
  |g::a,d,h,kM,r,j=>by
    simp[dx]at r;cases q:c' g d with
    |none=>grind
    |some t=>
      cases p:dx a d with
      |none=>grind
      |some s=>
        obtain⟨b,k⟩:=vS (kM:=kM) p j;have e:g<c kM:=by rw[j];exact(cO.1 (eo q)).1
        exact⟨kM[g]::b,by simp[dx,ld,e,k]⟩
def ku(a:m Nat):O->O
  |.ptr d i=>match c' d a with|some b=>.ptr b i|none=>.any
  |.w d b g e=>match c' d a with|some h=>.w h b g e|none=>.c (.A v b g e)
  |.aV d=>match c' d a with|some b=>.aV b|none=>.any
  |.N d j=>match c' d a with|some b=>.N b j|none=>.any
  |.c k=>.c k
  |.any=>.any
def qG(a:m Nat):m O->m O
  |[]=>[]
  |b::d=>ku a b::qG a d
def pp(a:m Nat):E1->E1
  |.R d=>.R (ku a d)
  |.agg b=>.agg (qG a b)
def ts(a:m Nat):m E1->m E1
  |[]=>[]
  |b::d=>pp a b::ts a d
def fc(a:m Nat):x->x
  |.n d=>.n (pp a d)
  |.Q b=>.Q (ts a b)
  |.any=>.any
def gn(a:m Nat):m x->m x
  |[]=>[]
  |b::d=>fc a b::gn a d
def DC:O->Bool
  |.c _|.any=>l
  |_=>v
def yW:m O->Bool
  |[]=>l
  |a::b=>match DC a with|true=>yW b|false=>v
def vJ:ap->Bool
  |.cells _ a=>yW a
  |.loop ..=>v
  |_=>l
def eu:m ap->Bool
  |[]=>l
  |a::b=>match vJ a with|true=>eu b|false=>v
def vK:∀{e:m ap},eu e=l->∀a∈e,vJ a=l
  |[],_,a,aH=>by grind
  |g::h,b,a,aH=>by
    simp[eu]at b;cases d:vJ g with
    |false=>grind
    |true=>
      simp[d]at b;rcases e8.1 aH with rfl|aH
      · exact d
      · exact vK b a aH
def bM.plain{k an}{b aB}(j:aB.C=b.C):∀{y:m X} {a:m O},yW a=l->bM k b y a->bM an aB y a
  |[],[],_,_=>trivial
  |[],_::_,_,d=>d.elim
  |_::_,[],_,d=>d.elim
  |o::y,g::i,e,d=>by
    simp[yW]at e;cases h:DC g with
    |false=>grind
    |true=>
      simp[h]at e;refine⟨?_,bM.plain j e d.2⟩;cases g with
      |c p=>have:=d.1;simp[cB]at this⊢;grind
      |any=>exact d.1
      |_=>simp[DC]at h
def ew.plain{k an}{b aB}(d:aB.C=b.C)(g:aB.a=b.a){e}{L}(m:vJ e=l)(a:ew k b e L):ew an aB e L:=by
  cases e with
  |cells j p=>
    obtain⟨o,y,i,r,q,x⟩:=a;exact⟨o,y,i,by grind,q.plain d m,λz=>by simp_all⟩
  |w j s t h=>simp[ew,d,g]at a⊢;exact a
  |J H=>simp[ew,d,g]at a⊢;exact a
  |M=>trivial
  |loop w u A=>simp[vJ]at m
  |bl=>simp[ew,d,g]at a⊢;exact a
  |p j s t h=>simp[ew,d,g]at a⊢;exact a
def ei:Nat->m Nat->Bool
  |_,[]=>v
  |a,d::b=>match ad a d with|true=>l|false=>ei a b
def fb:m Nat->Bool
  |[]=>l
  |b::a=>match ei b a with|true=>v|false=>fb a
theorem vu:∀{a:Nat} {d:m Nat},a∈d->ei a d=l
  |a,[],b=>by grind
  |a,e::h,b=>by
    simp[ei];cases g:ad a e with
    |true=>rfl
    |false=>
      rcases e8.1 b with rfl|b
      · grind[Nat.beq_refl]
      · exact vu b
def KH:∀{h:m Nat},fb h=l->∀(b d e:Nat),h[b]?=f e->h[d]?=f e->b=d
  |[],_,b,d,e,a,_=>by grind
  |o::k,g,b,d,e,a,i=>by
    simp[fb]at g;cases p:ei o k with
    |true=>grind
    |false=>
      simp[p]at g;have r:∀j,k[j]?=f o->False:=λj q=>by have:=vu (b8 q);grind
      cases b with
      |zero=>
        grind
      |succ b=>
        cases d with
        |zero=>
          grind
        |succ d=>
          simp at a i;rw[KH g b d e a i]
def lU(a:Nat):O->Bool
  |.ptr d _|.w d _ _ _|.aV d|.N d _=>ay (d+1) a
  |_=>l
def lg(a:Nat):m O->Bool
  |[]=>l
  |b::d=>match lU a b with|true=>lg a d|false=>v
def pb(b:Nat):E1->Bool
  |.R d=>lU b d
  |.agg a=>lg b a
def og(a:Nat):m E1->Bool
  |[]=>l
  |b::d=>match pb a b with|true=>og a d|false=>v
def hQ(b:Nat):x->Bool
  |.n d=>pb b d
  |.Q a=>og b a
  |.any=>l
def hd(a:Nat):m x->Bool
  |[]=>l
  |b::d=>match hQ a b with|true=>hd a d|false=>v
section sub
variable {ly:m Loc}
def cB.sub(O:dx aU k=f an)(Q:dx aU b.s=f ly){m}(N:cB k b aa (ku aU m))(o:lU (c aU) m=l):cB an {b with s:=ly} aa m:=by
  obtain⟨T,q⟩:=l2 O;obtain⟨K,p⟩:=l2 Q;cases m with
  |c s=>exact N
  |any=>exact N
  |ptr g R=>
    have a:g<c aU:=fq o;simp[ku,ld,bI a]at N;obtain⟨d,L,D,e,h,y⟩:=N;obtain⟨s,r,z⟩:=q g _ (bI a);obtain⟨A,j,i⟩:=p g _ (bI a);rw[i]at e;cases e;exact⟨λt x=>d t M,L,D,j,h,y⟩
  |w g E I u=>
    have a:g<c aU:=fq o;simp[ku,ld,bI a]at N;obtain⟨d,e,h⟩:=N;obtain⟨s,r,z⟩:=q g _ (bI a);obtain⟨A,j,i⟩:=p g _ (bI a);refine⟨d,by grind,λC F J B x=>?_⟩;grind
  |aV g=>
    have a:g<c aU:=fq o;simp[ku,ld,bI a]at N;obtain⟨d,L,e,h,y⟩:=N;obtain⟨s,r,z⟩:=q g _ (bI a);obtain⟨A,j,i⟩:=p g _ (bI a);rw[i]at e;cases e;exact⟨λt x=>d t M,L,j,h,y⟩
  |N g S=>
    have a:g<c aU:=fq o;simp[ku,ld,bI a]at N;obtain⟨w,d,e,h⟩:=N;obtain⟨s,r,z⟩:=q g _ (bI a);obtain⟨A,j,i⟩:=p g _ (bI a);refine⟨w,d,(cO.1 r).1,λC E I u x=>?_⟩;grind
def cB.cN{fe}{b3}(J:b3.C=b.C)(t:∀(r:Nat) s,k[r]?=f s->∃g,aU[r]?=f g/\fe[g]?=f s)(C:∀(r:Nat) L,b.s[r]?=f L->∃g,aU[r]?=f g/\b3.s[g]?=f L)(O:c b.s=c k){u}(m:cB k b aa u):cB fe b3 aa (ku aU u):=by
  cases u with
  |c R=>simp[ku,cB,J];exact m
  |any=>exact m
  |ptr d N=>
    obtain⟨e,L,E,a,q,B⟩:=m;obtain⟨g,k1,w⟩:=C d L a;have h:d<c k:=M;obtain⟨i,o,I⟩:=t d _ (bI h);rw[k1]at o;cases o;simp[ku,ld,k1];refine⟨λs A=>?_,L,E,w,q,B⟩;grind
  |w d g K F=>
    obtain⟨e,a,q⟩:=m;obtain⟨k1,y,j⟩:=t d _ (bI a);simp[ku,ld,y];refine⟨by grind,(cO.1 j).1,λD i z p A=>?_⟩;grind
  |aV d=>
    obtain⟨e,L,a,q,B⟩:=m;obtain⟨g,k1,w⟩:=C d L a;have h:d<c k:=M;obtain⟨i,o,I⟩:=t d _ (bI h);rw[k1]at o;cases o;simp[ku,ld,k1];refine⟨λs A=>?_,L,w,q,B⟩;grind
  |N d Q=>
    obtain⟨x,e,a,q⟩:=m;obtain⟨k1,y,j⟩:=t d _ (bI a);simp[ku,ld,y];refine⟨x,e,(cO.1 j).1,λD i z p A=>?_⟩;grind
def bM.sub(e:dx aU k=f an)(g:dx aU b.s=f ly):∀{y:m X} {a:m O},bM k b y (qG aU a)->lg (c aU) a=l->bM an {b with s:=ly} y a
  |[],[],_,_=>trivial
  |[],_::_,d,_=>d.elim
  |_::_,[],d,_=>d.elim
  |o::y,i::j,d,N=>by
    simp[lg]at N;cases h:lU (c aU) i with
    |false=>grind
    |true=>simp[h]at N;exact⟨d.1.sub e g h,bM.sub e g d.2 N⟩
def ey.sub(g:dx aU k=f an)(h:dx aU b.s=f ly){aa}{a}(i:ey k b aa (pp aU a))(N:pb (c aU) a=l):ey an {b with s:=ly} aa a:=by
  cases a with
  |R m=>exact cB.sub g h i N
  |agg j=>obtain⟨y,d,e⟩:=i;exact⟨y,d,e.sub g h N⟩
def eV.sub(e:dx aU k=f an)(g:dx aU b.s=f ly):∀{y:m X} {a:m E1},eV k b y (ts aU a)->og (c aU) a=l->eV an {b with s:=ly} y a
  |[],[],_,_=>trivial
  |[],_::_,d,_=>d.elim
  |_::_,[],d,_=>d.elim
  |o::y,i::j,d,N=>by
    simp[og]at N;cases h:pb (c aU) i with
    |false=>grind
    |true=>simp[h]at N;exact⟨d.1.sub e g h,eV.sub e g d.2 N⟩
def bv.sub(e:dx aU k=f an)(g:dx aU b.s=f ly){aa}{N}(i:bv k b aa (fc aU N))(h:hQ (c aU) N=l):bv an {b with s:=ly} aa N:=by
  cases N with
  |n m=>exact ey.sub e g i h
  |Q j=>obtain⟨y,a,d⟩:=i;exact⟨y,a,d.sub e g h⟩
  |any=>trivial
def b4.sub(e:dx aU k=f an)(g:dx aU b.s=f ly):∀{y:m X} {a:m x},b4 k b y (gn aU a)->hd (c aU) a=l->b4 an {b with s:=ly} y a
  |[],[],_,_=>trivial
  |[],_::_,d,_=>d.elim
  |_::_,[],d,_=>d.elim
  |o::y,i::j,d,N=>by
    simp[hd]at N;cases h:hQ (c aU) i with
    |false=>grind
    |true=>simp[h]at N;exact⟨d.1.sub e g h,b4.sub e g d.2 N⟩
variable {fe:m ap}{b3:a6}
def bM.cN(p:b3.C=b.C)(o:∀(e:Nat) h,k[e]?=f h->∃g,aU[e]?=f g/\fe[g]?=f h)(j:∀(e:Nat) L,b.s[e]?=f L->∃g,aU[e]?=f g/\b3.s[g]?=f L)(i:c b.s=c k):
    ∀{y:m X} {d:m O},bM k b y d->bM fe b3 y (qG aU d)
  |[],[],_=>trivial
  |[],_::_,a=>a.elim
  |_::_,[],a=>a.elim
  |_::_,_::_,a=>⟨a.1.cN p o j i,bM.cN p o j i a.2⟩
def ey.cN(p:b3.C=b.C)(o:∀(a:Nat) (i:ap),k[a]?=f i->∃d,aU[a]?=f d/\fe[d]?=f i)(m:∀(a:Nat) (L:Loc),b.s[a]?=f L->∃d,aU[a]?=f d/\b3.s[d]?=f L)(j:c b.s=c k){aa}{h}(q:ey k b aa h):ey fe b3 aa (pp aU h):=by
  cases h with
  |R s=>exact cB.cN p o m j q
  |agg r=>obtain⟨y,e,g⟩:=q;exact⟨y,e,g.cN p o m j⟩
def eV.cN(p:b3.C=b.C)(o:∀(d:Nat) h,k[d]?=f h->∃e,aU[d]?=f e/\fe[e]?=f h)(j:∀(d:Nat) (L:Loc),b.s[d]?=f L->∃e,aU[d]?=f e/\b3.s[e]?=f L)(i:c b.s=c k):
    ∀{y:m X} {g:m E1},eV k b y g->eV fe b3 y (ts aU g)
  |[],[],_=>trivial
  |[],_::_,a=>a.elim
  |_::_,[],a=>a.elim
  |_::_,_::_,a=>⟨a.1.cN p o j i,eV.cN p o j i a.2⟩
def bv.cN(p:b3.C=b.C)(o:∀(a:Nat) (i:ap),k[a]?=f i->∃d,aU[a]?=f d/\fe[d]?=f i)(m:∀(a:Nat) (L:Loc),b.s[a]?=f L->∃d,aU[a]?=f d/\b3.s[d]?=f L)(j:c b.s=c k){aa}{e}(q:bv k b aa e):bv fe b3 aa (fc aU e):=by
  cases e with
  |n s=>exact ey.cN p o m j q
  |Q r=>obtain⟨y,g,h⟩:=q;exact⟨y,g,h.cN p o m j⟩
  |any=>trivial
end sub
def db.cu{a:Type}:Nat->a->m a->m a
  |_,_,[]=>[]
  |0,d,_::b=>d::b
  |e+1,d,g::b=>g::db.cu e d b
def db{a:Type}:m Nat->m a->m a->m a
  |[],new,old=>old++new
  |d::b,e::new,old=>db b new (db.cu d e old)
  |_::_,[],old=>old
theorem mM{b:Type}:∀d (a:b) (e:m b),db.cu d a e=e.set d a
  |_,_,[]=>by simp[db.cu]
  |0,a,_::g=>by simp[db.cu]
  |d+1,a,h::g=>by simp[db.cu,mM d a g]
def DH{g:Type}:∀{aU:m Nat} {new old:m g},fb aU=l->(∀a∈aU,a<c old)->c aU<=c new ->
    c (db aU new old)=c old+(c new-c aU)/\(∀(b a:Nat),aU[b]?=f a->(db aU new old)[a]?=new[b]?) /\
    (∀b,(db aU new old)[c old+b]?=new[c aU+b]?)/\(∀d,d<c old->d∉aU->(db aU new old)[d]?=old[d]?)
  |[],new,old,_,_,_=>by
    refine⟨by simp[db],by simp,λb=>?_,λd j _=>?_⟩
    · simp[db,gK,cW]
      grind
    · simp[db,j6 j]
  |a::aU,[],old,_,_,o=>by grind
  |a::aU,r::new,old,e,i,t=>by
    have s:=e;simp[fb]at e;cases k:ei a aU with
    |true=>grind
    |false=>
      simp[k]at e;have p:a<c old:=i a C;have u:a∉aU:=λo=>by grind[vu]
      obtain⟨y,w,z,x⟩:=DH (aU:=aU) (new:=new) (old:=old.set a r) e (λq h=>by grind) M;simp[db,mM];grind
def Z(k:ah P)(i:a1)(args:m x)(h:m ap)(e:x)(b:m ap):Prop:=
  (∃fn,P.funcs[i]?=f fn/\(fn.name== "runtime.NumGoroutine")=v/\fn.body.isNone=v) /\
  ∀g (y:m X),b4 h g y args->bb h g->∀(j:ai->a6->Prop) d,
    (∀o p a,l' P i o p a->bv b a p e->bb b a->de h g b a->ce k j (G o d) a)->ce k j (G (Frame.enter P i y.toArray .normal) d) g
def bl(o:ah P)(j:a1)(args:m x)(i:m ap)(e:ι->x)(b:ι->m ap):Prop:=
  (∃fn,P.funcs[j]?=f fn/\(fn.name== "runtime.NumGoroutine")=v/\fn.body.isNone=v) /\
  ∀h (y:m X),b4 i h y args->bb i h->∀(k:ai->a6->Prop) d,
    (∀g p q a,l' P j p q a->bv (b g) a q (e g)->bb (b g) a->de i h (b g) a->ce o k (G p d) a)->ce o k (G (Frame.enter P j y.toArray .normal) d) h
def Z.tocH{g:ah P}{h}{args}{res}(i:Z g h args k res an):bl (ι:=Unit) g h args k (λ_=>res) (λ_=>an):=
  ⟨i.1,λm y e d j a b=>i.2 m y e d j a (b ())⟩
def bl.toZ{g:ah P}{h}{args}{res}(i:bl (ι:=Unit) g h args k (λ_=>res) (λ_=>an)):Z g h args k res an:=
  ⟨i.1,λm y e d j a b=>i.2 m y e d j a (λ_=>b)⟩
def ou(b:a6)(d:m Loc):Nat->Prop:=λa=>b.own a∨((∃L∈b.s,a∈L.aj)/\∀L∈d,a∉L.aj)
def gU(a:Nat):Nat->m Nat
  |0=>[]
  |b+1=>a::gU (a+1) b
def Nc:∀d b a,(gU b d)[a]?=if a<d then f (b+a)else n
  |0,b,a=>by simp[gU]
  |d+1,b,0=>by simp[gU]
  |d+1,b,a+1=>by simp[gU,nY,Nc d (b+1) a,Nat.add_lt_add_iff_right];grind
def frame{aQ}{j}{z}(w:bb k b)(P:dx aU k=f dh)(aZ:dx aU b.s=f z)(Z:fb aU=l)(aC:eu aQ=l)(D:bb aQ j)(i:de dh {b with s:=z,own:=ou b z} aQ j)(X:c aU<=c aQ){res}(aD:bv aQ j aa res):
    ∃b3:a6,b3.a=j.a/\bv (db aU aQ k) b3 aa (fc (aU++gU (c k) (c aQ-c aU)) res)/\bb (db aU aQ k) b3/\de k b (db aU aQ k) b3/\b3.C=j.C/\b3.own=b.own/\∀L∈b3.s,L∈j.s∨(L∈b.s/\∀h∈L.aj,∀p∈z,h∉p.aj):=by
  have aR:∀A∈aU,A<c k:=by intro A y;obtain⟨d,t,rfl⟩:=hn y;obtain⟨aF,_,a1⟩:=(l2 P).2 d _ (bI t);grind
  have K:∀A∈aU,A<c b.s:=by rw[w.len];omega
  have H:c aU<=c j.s:=by rw[D.len];omega
  obtain⟨an,ao,S,aq⟩:=DH (new:=aQ) (old:=k) Z aR X;obtain⟨T,ar,U,au⟩:=DH (new:=j.s) (old:=b.s) Z K H;obtain⟨a0,av⟩:=l2 P;obtain⟨d1,d2⟩:=l2 aZ;let ak:=aU++gU (c k) (c aQ-c aU);have aS:∀d,d<c aQ->∃A,ak[d]?=f A/\(db aU aQ k)[A]?=aQ[d]?/\(db aU j.s b.s)[A]?=j.s[d]?:=by
    intro d t;rcases dW d (c aU) with N|ai
    · refine⟨aU[d],?_,ao d _ (bI N),ar d _ (bI N)⟩
      grind
    · refine⟨c k+(d-c aU),?_,?_,?_⟩
      · simp[ak]
        rw[ho ai,Nc,bo u]
      · rw[S];grind
      · rw[<-w.len,U];grind
  have I:∀g L,(db aU j.s b.s)[g]?=f L->(∃d,d<c aQ/\j.s[d]?=f L/\(∀x,(db aU aQ k)[g]?=f x->aQ[d]?=f x)/\(∀A,aU[d]?=f A->A=g)/\(d≥c aU->g=c k+(d-c aU))) ∨
      (g<c k/\g∉aU/\b.s[g]?=f L/\(db aU aQ k)[g]?=k[g]?):=by
    intro g L m;have aT:g<c (db aU j.s b.s):=(cO.1 m).1;rcases dW g (c k) with N|ai
    · by_cases C:g∈aU
      · obtain⟨d,t,rfl⟩:=hn C
        have y:=bI t;grind
      · exact .inr ⟨N,C,by rw[<-au g (by rw[w.len];omega) C];exact m,aq g N C⟩
    · rw[T,D.len,w.len]at aT
      refine .inl ⟨c aU+(g-c k),by omega,?_,λx aH=>?_,λA y=>?_,λ_=>by omega⟩
      · rw[<-U,w.len,AD ai];exact m
      · rw[<-S,AD ai];exact aH
      grind
  have O:∀L∈z,L∈b.s:=by intro L m;obtain⟨d,t,rfl⟩:=hn m;have af:d<c aU:=M;obtain⟨aF,aL,R⟩:=d2 d _ (bI af);grind
  have s:∀g L,g∉aU->b.s[g]?=f L->∀h∈L.aj,h<b.a.heap.size/\∀p∈z,h∉p.aj:=by intro g L F m h o;refine⟨w.lt L (b8 m) h o,λp q r=>?_⟩;obtain⟨d,t,rfl⟩:=hn q;have af:d<c aU:=M;obtain⟨aF,aL,R⟩:=d2 d _ (bI af);rw[bI t]at aL;cases aL;have:=w.a0 g aU[d] L _ m R h o r;grind
  have ab:∀h,h<b.a.heap.size->(∀L∈b.s,h∉L.aj)->∀L∈z,h∉L.aj:=λh _ ah L m=>ah L (O L m);have V:fp k b (db aU aQ k) ⟨db aU j.s b.s,j.C,j.a,b.own⟩:=by
    refine⟨i.mem,λg x L aH m=>?_⟩;have N:g<c k:=(cO.1 aH).1;by_cases C:g∈aU
    · obtain⟨d,t,rfl⟩:=hn C
      have y:=bI t;obtain⟨aF,aL,R⟩:=av d _ y;obtain⟨a9,aG,ae⟩:=d2 d _ y;rw[aH]at R;cases R;rw[m]at ae;cases ae;obtain⟨aP,p,a4,a5,a7⟩:=i.box d x L aL aG;grind
    · exact⟨x,L,by grind,by grind,.refl _ _⟩
  refine⟨⟨db aU j.s b.s,j.C,j.a,b.own⟩,a,?_,⟨D.mem,?_,?_,?_,?_,?_⟩,⟨i.size,?_,i.mem,?_,?_,V.box,i.os,i.tape,i.output,a⟩,a,a,?_⟩
  · refine bv.cN (b:=j) (b3:=⟨db aU j.s b.s,j.C,j.a,b.own⟩) (fe:=db aU aQ k) (aU:=ak) a (λd x aH=>?_) (λd L m=>?_) D.len aD
    · grind
    · obtain⟨A,k1,_,a2⟩:=aS d (by rw[<-D.len];grind)
      grind
  · simp only;rw[an,T,D.len,w.len]
  · intro g x L aH m
    rcases I g L m with⟨d,t,B,E,_⟩|⟨F,C,q,aV⟩
    · exact ew.plain (k:=aQ) (b:=j) (aB:=⟨db aU j.s b.s,j.C,j.a,b.own⟩) a a (vK aC x (b8 (E x aH))) (D.box d x L (E x aH) B)
    · rw[aV]at aH
      refine(w.box g x L aH q).b8 V w.len λh o=>?_;obtain⟨al,ag⟩:=s g L C q h o;exact⟨i.a3 h (.inr ⟨⟨L,b8 q,o⟩,ag⟩),i.bC h al ag⟩
  · intro g J L p m q h o r
    rcases I g L m with⟨d,t,B,_,aM,aN⟩|⟨F,C,e,_⟩<;>rcases I J p q with⟨aE,af,aI,_,aw,ax⟩|⟨aO,Y,G,_⟩
    · have a8:=D.a0 d aE L p B aI h o r
      grind
    · obtain⟨al,ag⟩:=s J p Y G h r
      rcases i.bS L (b8 B) h o with ah|⟨Q,W,aK⟩
      · grind
      grind
    · obtain⟨al,ag⟩:=s g L C e h o
      rcases i.bS p (b8 aI) h r with ah|⟨Q,W,aK⟩
      · grind
      grind
    · exact w.a0 g J L p e G h o r
  · intro L m h o
    obtain⟨g,F,rfl⟩:=hn m;rcases I g _ (bI F)with⟨d,t,B,_⟩|⟨_,_,e,_⟩
    · exact D.lt _ (b8 B) h o
    · have:=w.lt _ (b8 e) h o
      have:=i.size;grind
  · intro h o
    refine⟨?_,λL m aJ=>?_⟩
    · have:=(w.own h o).1
      have:=i.size;grind
    · obtain⟨g,F,rfl⟩:=hn m
      rcases I g _ (bI F)with⟨d,t,B,_⟩|⟨_,_,e,_⟩
      · have aA:j.own h:=by rw[i.own];exact .inl o
        exact(D.own h aA).2 _ (b8 B) aJ
      · exact(w.own h o).2 _ (b8 e) aJ
  · intro h o
    exact i.a3 h (.inl o)
  · intro h o aY a3
    exact i.bC h o (ab h o aY) a3
  · intro L m h o
    obtain⟨g,F,rfl⟩:=hn m;rcases I g _ (bI F)with⟨d,t,B,_⟩|⟨_,_,e,_⟩
    · rcases i.bS _ (b8 B) h o with ah|⟨Q,W,aK⟩
      · grind
      grind
    grind
  · intro L m
    obtain⟨g,F,rfl⟩:=hn m;rcases I g _ (bI F)with⟨d,t,B,_⟩|⟨_,C,e,_⟩
    · grind
    grind
def g1:x->Option (a1×m K)
 |.n (.R (.c (.fn (.func b) [] a)))=>f (b,a)
 |_=>n
theorem m1{k}{b}{d:ae->X}{a:ae->x}(e:∀h,bv k b (d h) (a h)):∀g:m ae,b4 k b (g.map d) (g.map a)
 |[]=>trivial
 |j::i=>⟨e j,m1 e i⟩
def b4.append{k}{b}:∀{y e:m X}{g a:m x},b4 k b y g->b4 k b e a->b4 k b (y++e) (g++a)
 |[],_,[],_,_,d=>d
 |[],_,_::_,_,d,_=>d.elim
 |_::_,_,[],_,d,_=>d.elim
 |_::_,_,_::_,_,d,h=>⟨d.1,b4.append d.2 h⟩
def BB:O->O
 |.w _ b d a=>.c (.A v b d a)
 |.c (.A _ b d a)=>.c (.A v b d a)
 |e=>e
def Hs{d}(a:cB k b aa d):cB k b aa (BB d):=by
 cases d with
 |w i h j e=>exact a.1
 |c g=>cases g<;>first|exact a|exact Rd.eg a
 |_=>exact a
def BD:m O->m O
 |[]=>[]
 |a::b=>BB a::BD b
def Hu{k}{b}:∀{y:m X}{d:m O},bM k b y d->bM k b y (BD d)
 |[],[],_=>trivial
 |[],_::_,a=>a.elim
 |_::_,[],a=>a.elim
 |_::_,_::_,a=>⟨Hs a.1,Hu a.2⟩
def BC:x->x
 |.n (.R b)=>.n (.R (BB b))
 |.n (.agg a)=>.n (.agg (BD a))
 |d=>d
def Ht{a}(d:bv k b aa a):bv k b aa (BC a):=by
 cases a with
 |n i=>cases i with
  |R m=>exact Hs d
  |agg h=>obtain⟨y,e,g⟩:=d;exact⟨y,e,Hu g⟩
 |Q j=>exact d
 |any=>trivial
def k4:m x->m x
 |[]=>[]
 |a::b=>BC a::k4 b
theorem uQ{k}{b}:∀{y:m X}{d:m x},b4 k b y d->b4 k b y (k4 d)
 |[],[],_=>trivial
 |[],_::_,a=>a.elim
 |_::_,[],a=>a.elim
 |_::_,_::_,a=>⟨Ht a.1,uQ a.2⟩
def e':m K->m x
 |[]=>[]
 |a::b=>ax a::e' b
theorem p'{k}{b}:∀{y:m X}{a:m K},(∀(g:Nat)d,a[g]?=f d->∃h,y[g]?=f h/\Rd b.C h d)->c y=c a->b4 k b y (e' a)
 |[],[],_,_=>trivial
 |[],_::_,_,e=>by grind
 |_::_,[],_,e=>by grind
 |h::y,d::a,e,p=>by obtain⟨q,i,j⟩:=e 0 d rfl;simp at i;subst i;exact⟨j,p' (λg d o=>by simpa using e (g+1) d M) M⟩
def D1{a b:m α}(h:dx aU a=f b):∀d∈b,d∈a:=by intro d g;obtain⟨k,e⟩:=l2 h;obtain⟨i,j,rfl⟩:=hn g;obtain⟨q,o,p⟩:=e i _ (bI u);grind
def bb.sub{m}(h:bb k b)(E:dx aU k=f dh)(N:dx aU b.s=f m)(J:eu dh=l)(u:fb aU=l):
  bb dh {b with s:=m,own:=ou b m}/\eZ b {b with s:=m,own:=ou b m}:=by
 obtain⟨C,s⟩:=l2 E;obtain⟨d1,d2⟩:=l2 N;have y:∀L∈m,L∈b.s:=D1 N;refine⟨⟨h.mem,by grind,?_,?_,?_,?_⟩,⟨a,λ_ _ _ D=>D,λ_ _ _=>rfl,h.mem,?_⟩⟩
 .intro t x L aH d;have j:t<c aU:=M;obtain⟨R,A,K⟩:=s t _ (bI j);obtain⟨O,p,w⟩:=d2 t _ (bI j);rw[aH]at A;cases A;simp only at d;rw[d]at p;cases p;exact ew.plain (k:=k) (b:=b) (aB:={b with s:=m,own:=ou b m}) rfl rfl (vK J x (b8 aH)) (h.box _ x L K w)
 .intro t B L r d o i g q;simp only at d o;have j:t<c aU:=M;have F:B<c aU:=M;obtain⟨O,p,w⟩:=d2 t _ (bI j);obtain⟨Q,z,I⟩:=d2 B _ (bI F);rw[d]at p;cases p;rw[o]at z;cases z;have:=h.a0 _ _ L r w I i g q;exact KH u t B aU[t] (bI j) M
 .intro L d i g;exact h.lt _ (y L d) i g
 .rintro i (g|⟨⟨L,d,g⟩,e⟩)
  .exact⟨(h.own i g).1,λL d=>(h.own i g).2 L (y L d)⟩
  exact⟨h.lt L d i g,e⟩
 rintro i ((g|⟨⟨L,d,g⟩,_⟩)|⟨L,d,g⟩)
 .grind
 .grind
 grind
def eZ.cS{aQ}{r b3}{i}(u:bb k b)(j:bb aQ r)(g:de dh {b with s:=i,own:=ou b i} aQ r)(s:b3.a=r.a)(o:b3.C=r.C)(w:b3.own=b.own)(q:∀L∈b3.s,L∈r.s∨(L∈b.s/\∀a∈L.aj,∀h∈i,a∉h.aj)):eZ r b3:=by
 refine⟨s,λa m p e=>by grind,λa _ m=>by rw[o],λa m p e=>by rw[o]at e;exact j.mem a m p e,?_⟩;rintro a (d|⟨L,x,d⟩)
 .left;rw[g.own];exact .inl M
 rcases q L x with e|⟨e,t⟩
 .grind
 left;rw[g.own];exact .inr ⟨⟨L,e,d⟩,t a d⟩
def AT{u:ah P}{i:aG}{h}{w}{bq}{V}(I:i.kind≠.early)(p:aM[e]?=f q)(N:aS q (yielded aM w.tmps)=l)(T:bb k b)(aE:∀A,(ab w.eval q).run P A=.ok (.enter V y.toArray) A)(O:∀A,(ab w.eval q).events P A #[]=#[])(ai:bl u V cQ dh res aQ)(aw:b4 k b y (gn aU cQ))(aL:hd (c aU) cQ=l)(z:dx aU k=f dh)(M:eu dh=l)(Z:∀d,eu (aQ d)=l)(U:fb aU=l)(ar:∀d,c aU<=c (aQ d))(E:∀d t aB,bv (db aU (aQ d) k) aB t (fc (aU++gU (c k) (c (aQ d)-c aU)) (res d))->bb (db aU (aQ d) k) aB->de k b (db aU (aQ d) k) aB->ce u br (G (i.ab (w.put q.dst t) (.inRegion aM bq::h)) ag) aB):
  ce u br (G (i.ab w (.inRegion aM (e::bq)::h)) ag) b:=by
 obtain⟨_,aC⟩:=ai;refine .next a λj ao=>?_;have C:=u.bI ao;have o:=T.rely C;obtain⟨D,Q⟩:=vS (kM:=j.s) z o.len;obtain⟨x,aq⟩:=o.sub z Q M U;have av:=aw.mono C.aI.ext T.len;have K:=(av.sub (b:=j) z Q aL).mono (k:=dh) (b:={j with s:=D}) (an:=dh) (aB:={j with s:=D,own:=ou j D}) ⟨λ_ _ _ E=>E,λaF Y L aH F=>⟨Y,L,aH,F,.refl _ _⟩⟩ x.len;refine⟨_,j,_,tC p N I (aE j.a),?_,.aP aq (aC _ y K x br _ λd au t ax J m g s=>?_)⟩
 .refine⟨⟨k,k,o,o,.refl _ _⟩,dv.seen ?_⟩;rw[O];exact .nil
 refine uE (ag:=ag) (r:=i.ab w (.inRegion aM (e::bq)::h)) g J λaA R=>?_;have X:=g.rely R;have W:=s.trans R.aI;obtain⟨S,ae,aa,al,H,af,ak,aD⟩:=frame o z Q U (Z d) X W (ar d) (m.mono R.aI.ext g.len);refine .aP (eZ.cS o X W ae af ak aD) ?_;have B:=qi (i:=i) (w:=w) (h:=h) aM e bq t;rw[p]at B;simp[n0]at B;rw[B];exact E d t S aa al (C.aI.trans H)
def Gi{i:ah P}{j:aG}{h}{d}{bq}{aQ}{o}{res}(F:j.kind≠.early)(m:aM[e]?=f q)(C:aS q (yielded aM d.tmps)=l)(E:bb k b)(t:∀g,(ab d.eval q).run P g=.ok (.enter o y.toArray) g)(s:∀g,(ab d.eval q).events P g #[]=#[])(B:Z i o cQ dh res aQ)(r:b4 k b y (gn aU cQ))(x:hd (c aU) cQ=l)(z:dx aU k=f dh)(D:eu dh=l)(u:eu aQ=l)(I:fb aU=l)(A:c aU<=c aQ)(w:∀p a,bv (db aU aQ k) a p (fc (aU++gU (c k) (c aQ-c aU)) res)->bb (db aU aQ k) a->de k b (db aU aQ k) a->ce i br (G (j.ab (d.put q.dst p) (.inRegion aM bq::h)) ag) a):
  ce i br (G (j.ab d (.inRegion aM (e::bq)::h)) ag) b:=
 AT F m C E t s B.tocH r x z D (λ_=>u) I (λ_=>A) (λ_=>w)
theorem mL(b:q.op=.call {callee:=.value cP,args:=af,argTypes:=ds}){d}{fn}(i:P.funcs[d]?=f fn)(o:(fn.name== "runtime.NumGoroutine")=v)(m:fn.body.isNone=v){a:Act}{ag}(j:a.eval cP=.func (.func d) #[] ag.toArray)(e):
  (ab a.eval q).run P e=.ok (.enter d (af.toList.map a.eval++ag).toArray) e/\(ab a.eval q).events P e #[]=#[]:=by
 have k:(af.map a.eval++ag.toArray)=(af.toList.map a.eval++ag).toArray:=M;have h:fn.name≠ "runtime.NumGoroutine":=M;have g:fn.body≠n:=M;constructor
 .simp[ab,b,resolve,j,Deferred.ofValue,invoke,callFunc,i,h,g,k]
 simp[ab,b,resolve,j,Deferred.ofValue,invoke,callFunc,i,h,g]
def ff.eW{A:ah P}{aL:bJ->m ap->Prop}(av:∀k h j,bX E k h F j->aS q (yielded all.toArray j.tmps)=l)(t:q.op=.call {callee:=.value cP,args:=af,argTypes:=ds}){ab:a1}(z:g1 (bD F cP)=f (ab,cap))(b:m Nat)(ak:bl A ab cQ dh res aQ)(aH:∀h y,b4 k h y (af.toList.map (bD F)++e' cap)->b4 k h y (gn b cQ))(x:hd (c b) cQ=l)(aq:dx b k=f dh)(L:eu dh=l)(O:∀d,eu (aQ d)=l)(V:fb b=l)(ar:∀d,c b<=c (aQ d))(D)(au:q.dst=D)(ax:∀w,D=f w->w<E)(aG:∀d,ff A E all bq aL (gb D (fc (b++gU (c k) (c (aQ d)-c b)) (res d)) F) (db b (aQ d) k)):ff A E all (q::bq) aL F k:=by
 subst au;intro h j o g aB X C aA idx p a R;cases idx with
 |nil=>exact a.elim
 |cons aO idx=>
 obtain⟨S,a⟩:=a;have al:=eF o cP;unfold g1 at z;split at z
 case h_2=>cases z
 case h_1 u4 uR he=>
  cases z;rw[he]at al;have ag:=b6 al;generalize H:j.eval cP=aE at ag;cases ag with
  |fn J e U s aD I aF N aK Y=>
   have K:J=[]:=jB U;subst K;have aI:b4 k h e (e' cap):=p' (λd aC T=>⟨I d,N d M,Y d aC T⟩) s;have aM:b4 k h (af.toList.map j.eval++e) (gn b cQ):=by exact aH _ _ ((m1 (eF o) af.toList).append aI)
   obtain⟨fn,an,ai,ae⟩:=ak.1;refine AT p S (av _ _ _ o) g (λaa=>(mL t an ai ae H aa).1) (λaa=>(mL t an ai ae H aa).2) ak aM x aq L O V ar λd aP Z W r i=>?_;refine aG d Z _ ?_ r aB X C aA idx p a λG ao aw B aJ f3 Q u=>R G ao aw B aJ f3 Q (i.trans u);cases aN:q.dst with
   |none=>exact o.mono i g.len
   |some w=>exact(o.mono i g.len).put (ax w aN) W
def ff.gQ{d:ah P}{aL:bJ->m ap->Prop}(B:∀k j h,bX E k j F h->aS q (yielded all.toArray h.tmps)=l)(g:q.op=.call {callee:=.value cP,args:=af,argTypes:=ds}){i}(A:g1 (bD F cP)=f (i,cap))(aU)(w:bl d i cQ dh res aQ)(D:k4 (af.toList.map (bD F)++e' cap)=gn aU cQ)(r:hd (c aU) cQ=l)(s:dx aU k=f dh)(x:eu dh=l)(p:∀a,eu (aQ a)=l)(e:fb aU=l)(t:∀a,c aU<=c (aQ a))(b)(z:q.dst=b)(C:∀o,b=f o->o<E)(u:∀a,ff d E all bq aL (gb b (fc (aU++gU (c k) (c (aQ a)-c aU)) (res a)) F) (db aU (aQ a) k)):ff d E all (q::bq) aL F k:=
 ff.eW B g A aU w (λj y I=>by grind[uQ]) r s x p e t b z C u
theorem ff.call{b:ah P}{aL:bJ->m ap->Prop}(z:∀k B g,bX E k B F g->aS q (yielded all.toArray g.tmps)=l)(e:q.op=.call {callee:=.value cP,args:=af,argTypes:=ds}){h}(y:g1 (bD F cP)=f (h,cap))(aU){aQ}{res}(t:Z b h cQ dh res aQ)(j:k4 (af.toList.map (bD F)++e' cap)=gn aU cQ)(p:hd (c aU) cQ=l)(r:dx aU k=f dh)(u:eu dh=l)(o:eu aQ=l)(d:fb aU=l)(s:c aU<=c aQ)(a)(x:q.dst=a)(A:∀i,a=f i->i<E)(w:ff b E all bq aL (gb a (fc (aU++gU (c k) (c aQ-c aU)) res) F) (db aU aQ k)):ff b E all (q::bq) aL F k:=
 ff.gQ z e y aU t.tocH j p r u (λ_=>o) d (λ_=>s) a x A (λ_=>w)
def nU.range(all):nU all (az all.toArray.size) all:=by
 have key:∀a j,(∀t q,a[t]?=f q->all[j+t]?=f q)->nU all (List.range' j (c a)) a:=by
  intro a;induction a with
  |nil=>intro j _;trivial
  |cons q a9 w=>
   exact Qu
 grind[List.range_eq_range']
theorem b0.region{q:ah P}{aL}{id}(z:ff q E aM.toList aM.toList (λF k=>aL .normal F k) F k):b0 q E (.region id aM v) aL F k:=by intro C s y d t A i r m j;refine .ctl d a (λ_=>za) λw b=>?_;have:=z w s (y.rely b d) (d.rely b) t A i r (az aM.size) m (by simpa using nU.range aM.toList) λe g o h B u x p=>j .normal e g o h B u x (b.aI.trans p);omega
def ff.nil{P:aE}{d:ah P}{E}{all}{aL:bJ->m ap->Prop}{F}{k}(p:aL F k):ff d E all [] aL F k:=by
 intro u e o b r t h q idx _ g i;cases idx with
 |cons s idx=>exact g.elim
 |nil=>exact .ctl b rfl (λ_=>vT) λj a=>i F k j e p (o.rely a b) (b.rely a) a.aI
def ff.mono{p:ah P}{aL q:bJ->m ap->Prop}(z:ff p E all bq aL F k)(y:∀F k,aL F k->q F k):ff p E all bq q F k:=
 λb s x i t A e r idx h j g=>z b s x i t A e r idx h j λa an aB d B u w o=>g a an aB d (y _ _ B) u w o
def ff.le{P:aE}{i:ah P}{E}{all bq}{aL:bJ->m ap->Prop}{F dF}{k}(r:ff i E all bq aL dF k)(h:iE F dF):ff i E all bq aL F k:=
 λt o q e p s a j idx d g b=>r t o (q.le h) e p s a j idx d g b
def h4:Nat->m x->bJ
 |_,[]=>[]
 |a,b::d=>(a,b)::h4 (a+1) d
def yv:∀d(a b:Nat),look (h4 a d) b=if a<=b then(d[b-a]?).getD .any else .any
 |[],a,b=>by simp[h4,look]
 |g::e,a,b=>by
  simp only[h4,look];by_cases h:a=b
  .grind [Nat.beq_refl]
  have:ad a b=v:=t0;rw[this];simp[cond,yv e (a+1) b];grind
theorem b4.get{k}{b}:∀{y:m X}{a:m x},b4 k b y a->c y=c a/\∀(t:Nat),bv k b ((y[t]?).getD I) ((a[t]?).getD .any)
 |[],[],_=>⟨rfl,λt=>by simp[bv]⟩
 |[],_::_,d=>d.elim
 |_::_,[],d=>d.elim
 |i::y,h::a,d=>by
  obtain⟨e,g⟩:=b4.get d.2;refine⟨by grind,λt=>?_⟩;cases t with
  |zero=>simpa using d.1
  |succ t=>grind
def ox(a:bJ):m ResultVar->Option (m x)
 |[]=>f []
 |.tmp e::d=>match ox a d with
  |some b=>f (look a e::b)
  |none=>n
 |.cell _ _::_=>n
def qM:m x->Option (m E1)
 |[]=>f []
 |.n d::b=>match qM b with
  |some a=>f (d::a)
  |none=>n
 |_::_=>n
def pc:m x->Option x
 |[d]=>f d
 |a=>match qM a with
  |some b=>f (.Q b)
  |none=>n
def ic(d:Act):ResultVar->Sem X
 |ResultVar.tmp b=>pure (d.tmps.getD b I)
 |ResultVar.cell a b=>do loadVar b (<-asAddr (d.tmps.getD a I))
def LL(P){E}{k}{b}{F}{g}(o:bX E k b F g):∀{e:m ResultVar}{a:m x},ox F e=f a ->
  ∃y,(∀i,(e.mapM (ic g)).run P i=Result.ok y i)/\b4 k b y a/\dz P (e.mapM (ic g))
 |[],a,d=>by cases d;exact⟨[],by simp,A,by rw[List.mapM_nil];exact .pure⟩
 |.tmp h::p,a,d=>by
  simp[ox]at d;cases j:ox F p with
  |none=>grind
  |some u=>
   simp[j]at d;subst d;obtain⟨y,r,s,t⟩:=LL P o j;refine⟨g.tmps.getD h I::y,?_,⟨o.ak h,s⟩,?_⟩
   .intro i;simp[oW,cK,ic,dZ,c9,r]
   rw[oW];exact .bind .pure λ_=>.bind t λ_=>.pure
 |.cell q h::p,a,d=>by simp[ox]at d
def M1{k}{b}:∀{y:m X}{e:m x}{a:m E1},qM e=f a->b4 k b y e->eV k b y a
 |[],[],a,d,_=>by cases d;trivial
 |[],_::_,_,_,d=>d.elim
 |_::_,[],_,_,d=>d.elim
 |o::y,.n p::i,a,d,h=>by
  simp[qM]at d;cases g:qM i with
  |none=>grind
  |some j=>simp[g]at d;subst d;exact⟨h.1,M1 g h.2⟩
 |_::_,.Q _::_,a,d,_=>by simp[qM]at d
 |_::_,.any::_,a,d,_=>by simp[qM]at d
def J4{bf}{h}(d:pc bf=f h)(e:b4 k b y bf):bv k b (if d:c y=1 then y[0]else .tuple y.toArray) h:=by
 unfold pc at d;split at d
 .rename_i B;cases d
  match y,e with
  |[p],e=>simpa using e.1
 rename_i o;cases g:qM bf with
 |none=>grind
 |some j=>
  simp[g]at d;subst d;have m:c y≠1:=by
   intro i;rw[(b4.get e).1]at i
   match bf,i with
   |[q],_=>grind
  rw[dif_neg m];exact⟨y,a,M1 g e⟩
def oL(P:aE)(fn:Func)(k:bJ)(p:x):Prop:=∀{o:Nat}{i:m ap}{d:a6}{h:Act},bX o i d k h->∃j,bv i d j p/\∀g,(∀a b e,d.C a b=f e->g.cell? ⟨a,b,n⟩=f e)->(results fn h.tmps).run P g=.ok j g/\∀q∈(results fn h.tmps).events P g #[],∃a b e,q=⟨.cell ⟨a,b,n⟩,v,v⟩/\d.C a b=f e
def LW{a}(m:bX E k b F a){fn}{bf}{g}(p:ox F fn.results.toList=f bf)(i:pc bf=f g):
  ∃h,(∀d,(results fn a.tmps).run P d=.ok h d)/\bv k b h g/\dz P (results fn a.tmps):=by
 obtain⟨y,r,j,o⟩:=LL P m p;refine⟨_,λd=>?_,J4 i j,?_⟩
 .have e:(fn.results.mapM (ic a)).run P d=Result.ok y.toArray d:=Rn;unfold results;rw[cK];refine(eD (λq=>Result.andThen q _) (Eq.trans ?_ e)).trans ?_
  .congr 2
  simp
 unfold results;have e:dz P (fn.results.mapM (ic a)):=by rw[wX];exact .map o
 exact .bind e λ_=>.pure
def oL.of{fn}{bf}{e}(k:ox F fn.results.toList=f bf)(d:pc bf=f e):oL P fn F e:=by intro o p s q j;obtain⟨m,a,b,i⟩:=LW (P:=P) j k d;exact⟨m,b,λg _=>⟨a g,λr h=>by rw[i g #[]]at h;grind⟩⟩
section
def bb.dU(a:bb k b):bb (k.map λ_=>.M) b:=by
 refine⟨a.mem,by simp[a.len],λg h L aH e=>?_,a.a0,a.lt,a.own⟩;simp only[m6]at aH;cases d:k[g]? with
 |none=>grind
 |some i=>rw[d]at aH;cases aH;trivial
structure pR(nz:m Nat)(b aB:a6):Prop where
 s:aB.s=b.s
 C:aB.C=b.C
 own:aB.own=b.own
 size:b.a.heap.size<=aB.a.heap.size
 a3:∀i,(b.own i∨∃(d:Nat) (L:Loc),b.s[d]?=f L/\d∉nz/\i∈L.aj)->aB.a.heap[i]?=b.a.heap[i]?
 mem:∀i q aa,b.C i q=f aa->aB.a.cell? ⟨i,q,n⟩=f aa
 os:aB.a.os=b.a.os
 tape:aB.a.tape=b.a.tape
 output:aB.a.output=b.a.output
def cV.j_(a:cV b aB)(nz):pR nz b aB:=
 ⟨a.s,a.C,a.own,a.size,λh e=>a.a3 h (e.imp id λ⟨i,L,d,_,g⟩=>⟨L,b8 d,g⟩),a.mem,a.os,a.tape,a.output⟩
theorem pR.Z{nz}{m b3}(a:pR [d] b m)(e:pR nz m b3):pR (d::nz) b b3:=by refine⟨e.s.trans a.s,e.C.trans a.C,e.own.trans a.own,fG a.size e.size,λg j=>?_,λg q r o=>e.mem g q r (by rw[a.C];exact o),e.os.trans a.os,e.tape.trans a.tape,e.output.trans a.output⟩;rw[e.a3 g,a.a3 g (j.imp id λ⟨k,L,h,i,p⟩=>⟨k,L,h,λs=>i M,p⟩)];rw[a.own,a.s];grind
def aa_{d}{b}(e:d.heap[b]?=f (.deferred (f []))):
  (Instr.takeDeferred b).run P d=.ok [] {d with heap:=d.heap.setIfInBounds b (.deferred n)}/\(Instr.takeDeferred b).events P d #[]=#[⟨.obj b,v,v⟩,⟨.obj b,l,v⟩]:=by
 have g:(getObj b).run P d=.ok (.deferred (f [])) d:=by simp[getObj,Sem.run,e]
 have h:(setObj b (.deferred n)).run P d=.ok () {d with heap:=d.heap.setIfInBounds b (.deferred n)}:=by simp[setObj,Sem.run,e]
 have j:∀a,(getObj b).events P d a=a.push ⟨.obj b,v,v⟩:=λa=>by simp only[getObj,Sem.events,Sem.runT,e];rfl
 have i:∀a,(setObj b (.deferred n)).events P d a=a.push ⟨.obj b,l,v⟩:=λa=>by simp[setObj,Sem.events,Sem.runT,e];rfl
 constructor
 .simp[Instr.takeDeferred,g,h]
 simp[Instr.takeDeferred,g,j,i]
variable {p:ah P}{eS:Bool}
def abp{a}{b}{bf}{d}(g:a.mode=.returning)(e:a.defers={target:=.collected b,args:=#[]}::bf)(i:d.heap[b]?=f (.deferred (f []))):
  aq P eS (G a ag) d=.go (G {a with defers:=bf} ag) {d with heap:=d.heap.setIfInBounds b (.deferred n)} (seen P a.fn #[⟨.obj b,v,v⟩,⟨.obj b,l,v⟩]):=by obtain⟨j,h⟩:=aa_ (P:=P) i;simp[G,aq,unwind,g,e,j,h,GStep.after]
def q8(d:a6):m Deferred->m Nat->Prop
 |[],[]=>True
 |h::e,g::a=>(∃b:Nat,d.s[g]?=f ⟨.int .i64 b,[b]⟩/\d.a.heap[b]?=f (.deferred (f []))/\(∀i,d.C b i=n)/\h={target:=.collected b,args:=#[]})/\g∉a/\q8 d e a
 |_,_=>False
def ja.gG{k}{b}(g:bb k b):∀{a:m Deferred}{d:m Nat},ja k b a d->q8 b a d
 |[],[],_=>trivial
 |[],_::_,h=>h.elim
 |_::_,[],h=>h.elim
 |y::a,x::d,⟨⟨j,L,h,e,w,s⟩,t,o⟩=>by obtain⟨i,k1,p,q⟩:=g.box x _ L j e;subst k1;simp at w;have r:i=h:=u;subst r;exact⟨⟨i,e,p,q,s⟩,t,ja.gG g o⟩
def q8.mono{b aB}{i}(h:pR [i] b aB):∀{d:m Deferred}{a:m Nat},i∉a->q8 b d a->q8 aB d a
 |[],[],_,_=>trivial
 |[],_::_,_,e=>e.elim
 |_::_,[],_,e=>e.elim
 |s::d,r::a,k,⟨⟨e,g,j,t,p⟩,q,o⟩=>by simp[e8,not_or]at k;refine⟨⟨e,by rw[h.s];exact g,by rw[h.a3 e (.inr ⟨r,_,g,by grind,by simp⟩)];exact j,λu=>by rw[h.C];grind,p⟩,q,q8.mono h k.2 o⟩
def AU:∀o(g:aG)(s:a6)i,bb i s->(∀D∈i,D=.M)->g.mode=.returning->q8 s g.defers o ->
  (∀r,pR o s r->ce p br (G {g with defers:=[]} ag) r)->ce p br (G g ag) s
 |[],g,s,i,J,W,Q,y,U=>by
  have A:g.defers=[]:=by
   cases A:g.defers with
   |nil=>rfl
   |cons an E=>rw[A]at y;exact y.elim
  have:=U s ((cV.refl J).j_ _);have aq:{g with defers:=[]}=g:=by cases g;simp_all
  grind
 |V::o,g,s,i,J,W,Q,y,U=>by
  cases A:g.defers with
  |nil=>rw[A]at y;exact y.elim
  |cons an E=>
   rw[A]at y;obtain⟨⟨k,N,H,aL,ai⟩,ak,al⟩:=y;subst ai;refine .next a λj x=>?_;have h:=p.bI x;have u:=J.rely h;have K:j.s[V]?=f ⟨.int .i64 k,[k]⟩:=by rw[h.s];exact N
   have O:j.a.heap[k]?=f (.deferred (f [])):=by rw[h.a3 k (.inr ⟨_,b8 N,by simp⟩)];exact H
   have ao:∀q,j.C k q=n:=λq=>by rw[h.C];grind
   let d:a6:={j with a:={j.a with heap:=j.a.heap.setIfInBounds k (.deferred n)}}
   have F:∀b,b≠k->d.a.heap[b]?=j.a.heap[b]?:=λb e=>by grind
   have aa:∀b q B,j.C b q=f B->d.a.cell? ⟨b,q,n⟩=f B:=by intro b q B R;have ab:b≠k:=M;rw[<-u.mem b q B R];simp[aJ];grind
   have ae:bb i d:=by
    refine⟨aa,u.len,λw D L aH m=>?_,u.a0,λL m b e=>?_,λb e=>⟨?_,(u.own b e).2⟩⟩
    .rw[W D (b8 aH)];trivial
    .have:=u.lt L m b e;grind
    have:=(u.own b e).1;grind
   have af:∃L∈j.s,k∈L.aj:=⟨_,b8 K,by simp⟩
   have Y:cN i j i d:=by refine⟨by grind,λb _ e=>F b ?_,λ_ _ _ S=>S,λ_ _ _ _=>rfl,λL m b e=>.inr ⟨L,m,e⟩,λ_ D L S ah=>⟨D,L,S,ah,.refl _ _⟩,rfl,rfl,rfl,rfl⟩;grind
   have I:pR [V] s d:=by
    refine⟨h.s,h.C,h.own,fG h.size M,λb e=>?_,λb q B R=>aa b q B (by rw[h.C];exact R),h.os,h.tape,h.output⟩;have ab:b≠k:=by
     rintro rfl;rcases e with e|⟨w,t,Z,X,z⟩
     .exact(J.own b e).2 _ (b8 N) C
     exact X (by simp;exact J.a0 w V t _ Z N b z C)
    rw[F b ab];exact h.a3 b (e.imp id λ⟨w,t,Z,_,z⟩=>⟨t,b8 Z,z⟩)
   refine⟨_,d,_,abp Q A O,⟨⟨i,i,u,ae,Y⟩,dv.seen (.fj ?_ ?_)⟩,?_⟩
   .exact⟨a,.inr af⟩
   .exact⟨a,.inr af⟩
   refine AU o {g with defers:=E} d i ae W Q (al.mono I ak) λr T=>?_;exact U r (I.Z T)
end
def bs(e:Nat)(b d:Nat->m K):Prop:=∀a,a<e->b a=d a
def eU.cz{h}{dH:Nat->m K}(d:eU bz h j U y)(g:bs j U dH):eU bz h j dH y:=
 ⟨d.len,λb a=>by rw[<-g b a];exact d.bF b a,λb a k i e=>d.rd b a k i (by rw[g b a];exact e)⟩
def C4:K->K->Option (m Prop)
 |.int j e,.int b a=>match s7 j b with|true=>f [e=a]|false=>n
 |.bool r,.bool h=>f [r=h]
 |.V s,.V k=>f [s=k]
 |.A q j e i,.A g b a d=>match ad j b with
  |true=>match q,g with
   |false,l=>n
   |_,_=>f [e=a,bs e i d]
  |false=>match q,g with
   |true,_=>f [e=0,a=0]
   |_,_=>n
 |.val o,.val p=>f [o=p]
 |o,p=>f [o=p]
def Ka{D k}(a:C4 D k=f Y)(g:T Y)(e:Rd bz aa D):Rd bz aa k:=by
 unfold C4 at a;split at a
 .rename_i h j i d;cases b:s7 h i<;>simp[b]at a
  subst a;cases C0 b;cases(show j=d from g);exact e
 .cases a;rename_i m p;cases(show m=p from g);exact e
 .cases a;rename_i m p;cases(show m=p from g);exact e
 .rename_i o h j U q i d dH;cases b:ad h i with
  |true=>
   simp[b]at a;have t:=dn b;subst t;cases o<;>cases q<;>simp at a
   all_goals (subst a;obtain⟨rfl,s⟩:=(show j=d/\bs j U dH from g);first|exact e.cz s|exact e.eg.cz s)
  |false=>
   simp[b]at a;cases o<;>simp at a
   subst a;obtain⟨rfl,rfl⟩:=(show j=0/\d=0 from g)
   obtain⟨u,r,y,rfl,_,_,w,_⟩:=e.b0;grind[Rd.dJ]
 .cases a;rename_i D k;cases(show D=k from g);exact e
 cases a;cases g;exact e
def vn:O->O->Option (m Prop)
 |.c r,.c s=>C4 r s
 |.w _ j i d,.c (.A v e h b)=>match ad j e with|true=>f [i=h,bs i d b]|false=>n
 |.w g j i d,.w a e h b=>match ad g a with
  |true=>match ad j e with|true=>f [i=h,bs i d b]|false=>n
  |false=>n
 |.ptr g p,.ptr a k=>match ad g a with|true=>(match ad p k with|true=>f []|false=>n)|false=>n
 |.aV g,.aV a=>match ad g a with|true=>f []|false=>n
 |.N g q,.N a o=>match ad g a with|true=>f [q=o]|false=>n
 |_,.any=>f []
 |_,_=>n
def J_{u w}(e:vn u w=f Y)(q:T Y)(o:cB k b aa u):cB k b aa w:=by
 unfold vn at e;split at e
 .exact Ka e q o
 .rename_i h j U g m dH;cases a:ad h g<;>simp[a]at e
  subst e;have t:=dn a;subst t;obtain⟨rfl,r⟩:=(show j=m/\bs j U dH from q)
  exact o.1.cz r
 .rename_i d h j U i g m dH;cases p:ad d i<;>simp[p]at e
  cases a:ad h g<;>simp[a]at e
  subst e;have t:=dn a;have s:=dn p;subst t s;obtain⟨rfl,r⟩:=(show j=m/\bs j U dH from q)
  exact⟨o.1.cz r,o.2.1,o.2.2⟩
 .grind [Nat.eq_of_beq_eq_true]
 .grind [Nat.eq_of_beq_eq_true]
 .rename_i d x i bg;cases p:ad d i<;>simp[p]at e
  have s:=dn p;subst s;subst e;cases(show x=bg from q);exact o
 .exact cB.cell o
 grind
def gM:m Prop->m Prop->m Prop
 |[],a=>a
 |b::d,a=>b::gM d a
@[simp] theorem T.Z{a b}:T (gM a b)↔T a/\T b:=by
 induction a with
 |nil=>simp[gM]
 |cons g e d=>simp[gM,T.cons,d,and_assoc]
def qu:m O->m O->Option (m Prop)
 |[],[]=>f []
 |d::a,e::b=>match vn d e with
  |some g=>match qu a b with
   |some h=>f (gM g h)
   |none=>n
  |none=>n
 |_,_=>n
def C5{k}{b}:∀{y:m X}{e g:m O}{d:m Prop},qu e g=f d->T d->bM k b y e->bM k b y g
 |[],[],[],_,_,_,_=>trivial
 |_::_,[],_,_,_,_,a=>a.elim
 |[],_::_,_,_,_,_,a=>a.elim
 |[],[],_::_,_,a,_,_=>by simp[qu]at a
 |_::_,_::_,[],_,a,_,_=>by simp[qu]at a
 |w::y,r::h,s::i,d,a,j,q=>by
  simp[qu]at a;cases o:vn r s with
  |none=>grind
  |some t=>
   cases p:qu h i with
   |none=>grind
   |some u=>
    simp[o,p]at a;subst a;rw[T.Z]at j;exact⟨J_ o j.1 q.1,C5 p j.2 q.2⟩
def vo:E1->E1->Option (m Prop)
 |.R d,.R e=>vn d e
 |.agg a,.agg b=>qu a b
 |_,_=>n
def Kb{d e}(a:vo d e=f Y)(g:T Y)(h:ey k b aa d):ey k b aa e:=by
 cases d<;>cases e<;>simp[vo,reduceCtorEq]at a
 .exact J_ a g h
 obtain⟨y,i,j⟩:=h;exact⟨y,i,C5 a g j⟩
def rO:m E1->m E1->Option (m Prop)
 |[],[]=>f []
 |d::a,e::b=>match vo d e with
  |some g=>match rO a b with
   |some h=>f (gM g h)
   |none=>n
  |none=>n
 |_,_=>n
def Kc{k}{b}:∀{y:m X}{e g:m E1}{d:m Prop},rO e g=f d->T d->eV k b y e->eV k b y g
 |[],[],[],_,_,_,_=>trivial
 |_::_,[],_,_,_,_,a=>a.elim
 |[],_::_,_,_,_,_,a=>a.elim
 |[],[],_::_,_,a,_,_=>by simp[rO]at a
 |_::_,_::_,[],_,a,_,_=>by simp[rO]at a
 |w::y,r::h,s::i,d,a,j,q=>by
  simp[rO]at a;cases o:vo r s with
  |none=>grind
  |some t=>
   cases p:rO h i with
   |none=>grind
   |some u=>
    simp[o,p]at a;subst a;rw[T.Z]at j;exact⟨Kb o j.1 q.1,Kc p j.2 q.2⟩
def ko:x->x->Option (m Prop)
 |.n d,.n e=>vo d e
 |.Q a,.Q b=>rO a b
 |_,.any=>f []
 |_,_=>n
theorem pd{d e}(a:ko d e=f Y)(g:T Y)(h:bv k b aa d):bv k b aa e:=by
 cases d<;>cases e<;>simp[ko,reduceCtorEq]at a
 .exact Kb a g h
 .trivial
 .obtain⟨y,i,r⟩:=h;exact⟨y,i,Kc a g r⟩
 .trivial
 trivial
def iZ(a:bJ):bJ->Option (m Prop)
 |[]=>f []
 |(d,b)::h=>match ko (look a d) b with
  |some e=>match iZ a h with
   |some g=>f (gM e g)
   |none=>n
  |none=>n
def eH{F}:∀{b:bJ}{a:m Prop},iZ F b=f a->T a->iE F b
 |[],_,_,_=>λ_ _ _ _ _=>trivial
 |(h,o)::q,a,d,e=>by
  simp[iZ]at d;cases p:ko (look F h) o with
  |none=>grind
  |some u=>
   cases g:iZ F q with
   |none=>grind
   |some w=>
    simp[p,g]at d;subst d;rw[T.Z]at e;intro j r s i k;simp[look];cases t:ad h i with
    |true=>
     grind[Nat.eq_of_beq_eq_true,pd]
    |false=>exact eH g e.2 j r s i k
def l1(a:m ap):Bool:=match eu a with|true=>jN a|false=>v
def Lh(a:l1 k=l):eu k=l/\jN k=l:=by unfold l1 at a;grind
def ja.e6{k}{b}:∀{e:m Deferred}{d:m Nat},ja k b e d->∀g∈d,k[g]?=f .bl
 |[],[],_,g,a=>by grind
 |[],_::_,i,_,_=>i.elim
 |_::_,[],i,_,_=>i.elim
 |p::e,o::d,⟨⟨h,_⟩,_,j⟩,g,a=>by
  rcases e8.1 a with rfl|a
  .exact h
  exact ja.e6 j g a
def bY(fn:Func)(p:Nat)(b:x)(d:m ap):fw:=λk o h=>
 (k=.ret∨k=.normal)/\∃a e j g,ox o fn.results.toList=f e/\pc e=f j/\ko j (fc a b)=f g/\T g/\hQ (c a) b=l /\
  dx a h=f d/\l1 d=l/\fb a=l/\(∀i,i<p->a[i]?=f i)
def kZ(P:aE)(fn:Func)(o:Nat)(b:x)(d:m ap):fw:=λj k g=>
 (j=.ret∨j=.normal)/\∃a i e,oL P fn k i/\ko i (fc a b)=f e/\T e/\hQ (c a) b=l /\
  dx a g=f d/\l1 d=l/\fb a=l/\(∀h,h<o->a[h]?=f h)
def bY.toF{fn}{g}{res}{h}{aQ}(o:bY fn g res an h F aQ):kZ P fn g res an h F aQ:=by obtain⟨i,d,m,k,e,a,b,j⟩:=o;exact⟨i,d,k,e,oL.of a b,j⟩
def bl.gz{ab:ah P}{S}{fn}{args}{q:ι->m ap}(o_:P.funcs[S]?=f fn)(bh:(fn.name== "runtime.NumGoroutine")=v)(cT:fn.body=f r)(aM:args.length<=fn.ntmps)(U:∀b a_,bX fn.ntmps k b (h4 0 args) a_->bb k b->∀i bc s (J:ai->a6->Prop),i.kind≠.early->i.roundOf=n ->
  (∀au D j aB N,(∃z,kZ P fn (c k) (res z) (q z) au D j)->bX fn.ntmps j aB D N->bb j aB->de k b j aB->kI ab J i bc s au N aB)->ce ab J (G (i.ab a_ (.code r::bc)) s) b):bl ab S args k res q:=by
 refine⟨⟨fn,o_,bh,by grind⟩,λb y aN aI J s aD=>?_⟩;obtain⟨aK,aF⟩:=b4.get aN;let i:aG:={fn:=S,tmps:=#[],todo:=[],defers:=[],mode:=.run,kind:=.normal,roundOf:=n}
 have bt:Frame.enter P S y.toArray .normal=i.ab {tmps:=y.toArray++Array.replicate (fn.ntmps-y.toArray.size) I,defers:=[]} [.code r]:=NJ;rw[bt];refine U b {tmps:=y.toArray++Array.replicate (fn.ntmps-y.toArray.size) I,defers:=[]} ⟨by grind,⟨[],A⟩,λo=>?_⟩ aI i [] s J (by simp[i]) rfl ?_
 .rw[yv];simp[gZ,dA,sr];have:=aF o;rcases dW o (c y) with ba|a'
  .exact Ot
  rw[wP u];trivial
 rintro au D j a0 Q ⟨Z,af,aQ,bu,bs,ar,av,aw,ax,aa,bk,aA,bo⟩ aq Y a1;obtain⟨a,bm⟩:=Lh bk;have fin:∀g d,cV a0 d->g.fn=S->g.tmps=Q.tmps->g.defers=Q.defers->g.mode=.returning->g.kind=.normal->ce ab J (G g s) d:=by
  intro g d e ak al an R ao;have T:=aq.rely e Y;have E:=Y.rely e;have t:=a1.trans e.aI;obtain⟨a2,aY,a8⟩:=ar T;obtain⟨x,ae⟩:=vS (kM:=d.s) aa E.len;have aZ:=(pd av aw aY).sub aa ae ax;obtain⟨bn,ag⟩:=l2 aa;obtain⟨d1,d2⟩:=l2 ae;have K:∀L∈x,L∈d.s:=D1 ae;have O:bb (q Z) {d with s:=x}:=by obtain⟨F,_⟩:=E.sub aa ae a aA;refine⟨F.mem,F.len,λz X L aH h=>?_,F.a0,F.lt,λi cT=>⟨(E.own i cT).1,λL h=>(E.own i cT).2 L (K L h)⟩⟩;exact ew.plain (k:=q Z) (b:={d with s:=x,own:=ou d x}) (aB:={d with s:=x}) rfl rfl (vK a X (b8 aH)) (F.box z X L aH h)
  have aL:de k b (q Z) {d with s:=x}:=by refine⟨t.size,t.a3,t.mem,t.bC,λL h i cT=>t.bS _ (K L h) i cT,λbd X L aH h=>?_,t.os,t.tape,t.output,t.own⟩;have aK:bd<c k:=(cO.1 aH).1;obtain⟨bg,bj,bp,bq,br⟩:=t.box bd X L aH h;grind
  obtain⟨aR,a7⟩:=T.defers;refine AU aR g d _ E.dU C R (by rw[an];exact a7.gG E) λH p=>?_;have aS:cV {d with s:=x} {H with s:=x}:=by refine⟨rfl,p.C,p.own,p.size,λi cT=>p.a3 i (cT.imp id ?_),p.mem,p.os,p.tape,p.output⟩;rintro⟨L,h,cT⟩;obtain⟨z,aJ,rfl⟩:=hn h;have a5:z<c aQ:=M;obtain⟨bx,a9,a4⟩:=d2 z _ (bI a5);obtain⟨bw,a3,W⟩:=ag z _ (bI a5);rw[bI aJ]at a9;cases a9;refine⟨_,_,a4,λaE=>?_,cT⟩;rw[a7.e6 _ aE]at W;cases W;exact vw bm _ (b8 a3) rfl
  have aC:eZ H {H with s:=x}:=⟨rfl,λ_ _ _ U=>U,λ_ _ _=>rfl,λi w a2 aO=>p.mem i w a2 (by rw[<-p.C];exact aO),λi cT=>cT.imp id λ⟨L,h,cT⟩=>⟨L,by rw[p.s];grind,cT⟩⟩
  refine .aP aC (aD Z _ a2 _ ⟨ak,R,rfl,ao,fn,by grind,λV aP=>?_⟩ (aZ.mono aS.aI.ext O.len) (O.rely aS) (aL.trans aS.aI));show(results fn g.tmps).run P V=_/\∀au∈(results fn g.tmps).events P V #[],_;rw[al];have bf:∀i w B,d.C i w=f B->V.cell? ⟨i,w,n⟩=f B:=λi w B U=>aP i w B (by show H.C i w=f B;rw[p.C];exact U);refine⟨(a8 V bf).1,λau af=>?_⟩;obtain⟨i,w,B,aU,aV⟩:=(a8 V bf).2 au af;exact⟨i,w,B,aU,by show H.C i w=f B;rw[p.C];exact aV⟩
 rcases af with rfl|rfl
 .intro pre;exact .ctl Y rfl (λ_=>D5 rfl) λd e=>fin _ d e rfl rfl (hp _) rfl rfl
 exact .ctl Y rfl (λ_=>D3 rfl) λd e=>fin _ d e rfl rfl (hp _) rfl rfl
def bl.hG{w:ah P}{s}{fn}{args}{j:ι->m ap}(F:P.funcs[s]?=f fn)(D:(fn.name== "runtime.NumGoroutine")=v)(A:fn.body=f r)(C:args.length<=fn.ntmps)(E:∀i p,bX fn.ntmps k i (h4 0 args) p->bb k i->∀h u g (o:ai->a6->Prop),h.kind≠.early->h.roundOf=n ->
  (∀q d a b e,(∃t,bY fn (c k) (res t) (j t) q d a)->bX fn.ntmps a b d e->bb a b->de k i a b->kI w o h u g q e b)->ce w o (G (h.ab p (.code r::u)) g) i):bl w s args k res j:=
 bl.gz F D A C λi p s B h u g o x y z=>E i p s B h u g o x y λq d a b e ⟨t,I⟩=>z q d a b e ⟨t,I.toF⟩
def bl.je{p:ah P}{b}{fn}{args}{an:ι->m ap}(A:P.funcs[b]?=f fn)(w:(fn.name== "runtime.NumGoroutine")=v)(e:fn.body=f r)(t:args.length<=fn.ntmps)(x:b0 p fn.ntmps r (λu j a=>∃i,kZ P fn k.length (res i) (an i) u j a) (h4 0 args) k):bl p b args k res an:=
 bl.gz A w e t λB q b g s z d o h _ y=>x B q b g s z d o h y
def bl.intro{j:ah P}{d}{fn}{args}{a:ι->m ap}(B:P.funcs[d]?=f fn)(x:(fn.name== "runtime.NumGoroutine")=v)(g:fn.body=f r)(u:args.length<=fn.ntmps)(y:b0 j fn.ntmps r (λw o b=>∃t,bY fn k.length (res t) (a t) w o b) (h4 0 args) k):bl j d args k res a:=
 bl.hG B x g u λC q d h s A e p i _ z=>y C q d h s A e p i z
def Z.intro{P}{b:ah P}{d}{fn}{r}{args}{k an}{res}(h:P.funcs[d]?=f fn)(g:(fn.name== "runtime.NumGoroutine")=v)(a:fn.body=f r)(e:args.length<=fn.ntmps)(i:b0 b fn.ntmps r (bY fn k.length res an) (h4 0 args) k):Z b d args k res an:=
 (bl.intro h g a e (b0.mono i λ_ _ _ j=>⟨(),j⟩)).toZ
inductive im where
 |code (r:Code)
 |blk (id:Nat)
 |S (all bq:List ao)
def g{P}(i:ah P)(h:Nat)(a:fw):m im->fw
 |[],k,b,d=>a k b d
 |.code q::e,.normal,b,d=>b0 i h q (g i h a e) b d
 |.code _::e,k,b,d=>g i h a e k b d
 |.blk id::e,.exit j,b,d=>if j=id then g i h a e .normal b d else g i h a e (.exit j) b d
 |.blk _::e,k,b,d=>g i h a e k b d
 |.S p o::e,.normal,b,d=>ff i h p o (g i h a e .normal) b d
 |.S _ _::e,k,b,d=>g i h a e k b d
section
variable {p:ah P}{bd:fw}{av:m im}
def g.aR(a:g p E bd [.code r] .normal F k):b0 p E r bd F k:=a
theorem g.skip(a:g p E bd av .normal F k):g p E bd (.code .skip::av) .normal F k:=b0.skip a
theorem g.seq{a b}(i:g p E bd (.code a::.code b::av) .normal F k):g p E bd (.code (.seq a b)::av) .normal F k:=by refine b0.seq (b0.mono i ?_);intro h d e j;cases h<;>exact j
theorem g.block{id}{r}(e:g p E bd (.code r::.blk id::av) .normal F k):g p E bd (.code (.block id r)::av) .normal F k:=by refine b0.block (b0.mono e ?_);intro d a b h;cases d<;>exact h
theorem g.iy{id}(a:g p E bd av .normal F k):g p E bd (.blk id::av) .normal F k:=a
theorem g.region{id}{aM}(a:g p E bd (.S aM.toList aM.toList::av) .normal F k):g p E bd (.code (.region id aM v)::av) .normal F k:=b0.region a
theorem g.hJ(a:g p E bd av .normal F k):g p E bd (.S all []::av) .normal F k:=ff.nil a
def g.dL:∀{av:m im},bd .ret F k->g p E bd av .ret F k
 |[],a=>a
 |.code _::av,a=>g.dL (av:=av) a
 |.blk _::av,a=>g.dL (av:=av) a
 |.S _ _::av,a=>g.dL (av:=av) a
def g.ret(a:bd .ret F k):g p E bd (.code .ret::av) .normal F k:=b0.ret (g.dL a)
def iV(id:Nat):m im->Option (m im)
 |[]=>n
 |.blk b::a=>match ad id b with|true=>f a|false=>iV id a
 |_::a=>iV id a
def g.toExit{id}:∀{av e:m im},iV id av=f e->g p E bd e .normal F k->g p E bd av (.exit id) F k
 |[],_,a,_=>by cases a
 |.blk i::av,e,a,d=>by
  simp[iV]at a;cases b:ad id i with
  |true=>
   simp[b]at a;subst a;have h:=dn b;simp[g,h,dA];exact d
  |false=>
   simp[b]at a;have j:id≠i:=λh=>by grind[Nat.beq_refl]
   simp[g,j,dm];exact g.toExit a d
 |.code _::av,e,a,d=>g.toExit (av:=av) a d
 |.S _ _::av,e,a,d=>g.toExit (av:=av) a d
theorem g.exit{id}{b}(a:iV id av=f b)(d:g p E bd b .normal F k):g p E bd (.code (.exit id)::av) .normal F k:=b0.exit (g.toExit a d)
theorem g.cond{r}{b d}{i}{o}(e:r=.tmp o)(a:look F o=ax (.bool i))(j:i=l->g p E bd (.code b::av) .normal F k)(h:i=v->g p E bd (.code d::av) .normal F k):g p E bd (.code (.cond r b d)::av) .normal F k:=b0.cond e a j h
def g.loop{br:Type}{r}(o:br->Prop)(a:br->bJ)(b:br->m ap)(q:br->Nat)(d)(w:o d)(t:iE F (a d))(s:b d=k)(round:∀d,o d->g p E (λj e h=>match j with
   |.normal=>∃i,o i/\q i<q d/\iE e (a i)/\h=b i
   |j=>g p E bd av j e h) [.code r] .normal (a d) (b d)):g p E bd (.code (.loop r)::av) .normal F k:=by refine b0.loop o a b q d w t s λi u=>b0.mono (round i u) ?_;intro j e h x;cases j<;>exact x
end
def eX{a d:Type}:m a->(m a->Option d)->Option d
 |[],b=>b []
 |h::g,b=>eX g λe=>b (h::e)
theorem hF{b:Type}(d)(a:m α->Option b):eX d a=a d:=by
 induction d generalizing a with
 |nil=>rfl
 |cons h g e=>simp[eX,e]
def yl(d:bJ)(a:m ao)(g:Nat):Option (Option Bool):=
 match c' g a with
 |some b=>match b.dst with
  |some e=>match look d e with
   |.n (.R (.c (.bool l)))=>f (f l)
   |.n (.R (.c (.bool v)))=>f (f v)
   |.Q []=>f n
   |_=>n
  |none=>n
 |none=>n
def ym{e}(s:yl F all t=f e){w}(g:bX E k b F w):yielded all.toArray w.tmps t=e:=by
 unfold yl at s;rw[ld]at s;unfold yielded;cases a:all[t]? with
 |none=>grind
 |some d=>
  simp[a]at s;simp[j8,a,n0];cases j:d.dst with
  |none=>grind
  |some N=>
   simp[j]at s;simp[n0];have r:=g.ak N;have key:∀aa,w.tmps.getD N I=aa->aa≠I->w.tmps[N]?=f aa:=by intro aa au p;simp[hA]at au;grind
   split at s
   .exact OT
   .exact OT
   .rename_i B;cases s;rw[B]at r;obtain⟨y,o,m⟩:=r;have h:y=[]:=by cases y with
     |nil=>rfl
     |cons _ _=>exact m.elim
    subst h;simp[hA]at o;grind
   grind
def yL(o:m (Nat×cm))(g:bJ)(d:m ap)(I:ao):Option (x×m ap×m Prop):=
 match I.op with
 |.move e|.assign e=>f (bD g e,d,[])
 |.pick u t z=>match bD g u with
  |.n (.R (.c (.bool l)))=>f (bD g t,d,[])
  |.n (.R (.c (.bool v)))=>f (bD g z,d,[])
  |_=>n
 |.binOp q _ e E _=>match bD g e,bD g E with
  |.n (.R (.c t)),.n (.R (.c z))=>match xc q t z with
   |some (u,y)=>f (ax u,d,y)
   |none=>n
  |_,_=>n
 |.unOp q _ e=>match bD g e with
  |.n (.R (.c t))=>match zy q t with
   |some u=>f (ax u,d,[])
   |none=>n
  |_=>n
 |.extract e C=>match bD g e with
  |.Q D=>match c' C D with
   |some p=>f (.n p,d,[])
   |none=>n
  |_=>n
 |.alloc r=>match bW o r with
  |some j=>eX (d++[.cells r (j.zero.map O.c)]) λh=>f (aI (c d) 0,h,[])
  |none=>n
 |.box r e=>match mm (bD g e)with
  |some a=>eX (d++[.cells r a]) λh=>f (aI (c d) 0,h,[])
  |none=>n
 |.load i e=>match bW o i with
  |some j=>match bD g e with
   |.n (.R (.ptr k b))=>match c' k d with
    |some (.cells _ a)=>match hj j (f_ b a)with
     |some p=>f (.n p,d,[])
     |none=>n
    |_=>n
   |.n (.R (.c (.O a)))=>match hj j (a.map O.c)with
    |some p=>f (.n p,d,[])
    |none=>n
   |_=>n
  |none=>n
 |.store i e E=>match bW o i with
  |some j=>match bD g e with
   |.n (.R (.ptr k b))=>match c' k d with
    |some (.cells r a)=>match mm (bD g E)with
     |some new=>match ad (c new) j.size with
      |true=>match i4 b new a with
       |some w=>eX (db.cu k (.cells r w) d) λh=>f (.any,h,[])
       |none=>n
      |false=>n
     |none=>n
    |_=>n
   |_=>n
  |none=>n
 |.fieldAddr i e B=>match lb o i B with
  |some (s,_)=>match bD g e with
   |.n (.R (.ptr k b))=>f (aI k (b+s),d,[])
   |.n (.R (.c (.O a)))=>f (ax (.O (f_ s a)),d,[])
   |_=>n
  |none=>n
 |.field i e B=>match lb o i B with
  |some (s,C)=>match bD g e with
   |.n (.agg a)=>match hj C (f_ s a)with
    |some p=>f (.n p,d,[])
    |none=>n
   |_=>n
  |none=>n
 |.nilCheck e=>match bD g e with
  |.n (.R (.ptr k b))=>f (aI k b,d,[])
  |.n (.R (.c (.O a)))=>f (ax (.O a),d,[])
  |_=>n
 |.build i parts=>match xg o (bD g) i parts.toList with
  |some a=>f (.n (.agg a),d,[])
  |none=>n
 |.buildSlice i F parts=>match rP o (bD g) i F parts.toList with
  |some (s,A)=>f (ax (.A l s F λj=>A.getD j []),d,[])
  |none=>n
 |_=>n
theorem Du{ac}(aY:bZ P ac){m}(a:yL ac F k q=f (m,an,cl))(s:T cl):a0 P q (bD F) k m an:=by
 unfold yL at a;split at a
 .grind [a0.move]
 .grind [a0.assign]
 .rename_i r u i b;split at a
  .rename_i j;cases a;exact a0.pick b j
  .rename_i j;cases a;exact a0.pick b j
  grind
 .grind [a0.binOp]
 .grind [a0.unOp]
 .grind [a0.extract,eo]
 .grind [hF,a0.alloc]
 .grind [hF,a0.box]
 .rename_i o p b;split at a
  .grind [a0.ho,eo,a0.hp]
  grind
 .rename_i o p x b;split at a
  .rename_i e bp;split at a
   .rename_i d off g;split at a
    .grind [hF,mM,a0.store,eo,Nat.eq_of_beq_eq_true]
    grind
   grind
  grind
 .rename_i o p w b;split at a
  .rename_i h t B;split at a
   .rename_i d off g;cases a;exact a0.g8 aY b g B
   .grind [a0.g_]
   grind
  grind
 .grind [a0.field]
 .grind [a0.hD,a0.hF]
 .grind [a0.build]
 .grind [a0.buildSlice]
 grind
def fi(a:Nat):Option Nat->Bool
 |some b=>ay (b+1) a
 |none=>l
def k8{b}(e:fi E b=l):∀a,b=f a->a<E:=by intro a d;subst d;exact fq e
theorem i_(b:q.guard=n){a:Act}:aS q (yielded all.toArray a.tmps)=l:=by simp[aS,b]
section
variable {ac:m (Nat×cm)}
def kF(a:ae->x):Option ae->Option (Option Int)
 |none=>f n
 |some d=>match a d with
  |.n (.R (.c (.int _ b)))=>f (f b)
  |_=>n
def kf{a:ae->X}(o:∀d,bv k b (a d) (η d)){g}{i}(e:kF η g=f i):(g.map a=n/\i=n)∨∃j h,g.map a=f (.int j h)/\i=f h:=by
 cases g with
 |none=>cases e;grind
 |some d=>
  right;simp[kF]at e;split at e
  .rename_i j h m;cases e;have:=o d;rw[m]at this;have:=b6 this;generalize p:a d=q at this;cases this;grind
  grind
def bU(a:Nat):Option Int->Nat
 |none=>a
 |some b=>b.toNat
def ji(d:Nat):Option Int->Option Int->m Prop
 |none,n=>[]
 |some b,n=>[0<=b,b<=d]
 |none,f a=>[0<=a,a<=d]
 |some b,f a=>[0<=b,b<=a,a<=d]
def vP{kn}{cap}(t:j<=cap){e5 bp}{d a}(o:(e5=n/\d=n)∨∃k h,e5=f (.int k h)/\d=f h)(p:(bp=n/\a=n)∨∃k h,bp=f (.int k h)/\a=f h)(b:T (ji j d a))(e):(aV kn j cap e5 bp n).run P e=.ok (bU 0 d,bU j a,cap) e/\bU 0 d<=bU j a/\bU j a<=j:=by
 rcases o with⟨rfl,rfl⟩|⟨m,d,rfl,rfl⟩<;>rcases p with⟨rfl,rfl⟩|⟨r,a,rfl,rfl⟩
 .exact⟨by simp[aV,bU],by simp[bU],by simp[bU]⟩
 .obtain⟨g,i⟩:0<=a/\a<=(j:Int):=b;refine⟨?_,by simp[bU],by simp[bU];omega⟩;simp[aV,bU,run_sliceBound (P:=P) e r a cap _ g u]
 .obtain⟨g,i⟩:0<=d/\d<=(j:Int):=b;refine⟨?_,by simp[bU];omega,by simp[bU]⟩;simp[aV,bU,run_sliceBound (P:=P) e m d j _ g i]
 obtain⟨g,i,s⟩:0<=d/\d<=a/\a<=(j:Int):=b;have q:=q_ u;refine⟨?_,by simp[bU];omega,by simp[bU];omega⟩;simp[aV,bU,run_sliceBound (P:=P) e r a cap _ u u,run_sliceBound (P:=P) e m d a.toNat _ g u]
def k'(g)(h)(e)(a:Nat)(code)(b:0<=e)(d:e<=(a:Int))(U):(Instr.sliceBound (.int h e) a code).events P g U=U:=by simp[Instr.sliceBound,asIntOf,b,d]
def u2{kn}{cap}{e5 bp}{d a}(y:j<=cap)(q:(e5=n/\d=n)∨∃k h,e5=f (.int k h)/\d=f h)(s:(bp=n/\a=n)∨∃k h,bp=f (.int k h)/\a=f h)(e:T (ji j d a))(b)(U):(aV kn j cap e5 bp n).events P b U=U:=by
 have w:∀kn (o:Option X) (p:Nat) b U,o=n->(aV kn j cap n n n).events P b U=U:=λkn o p b U _=>by simp[aV]
 rcases q with⟨rfl,rfl⟩|⟨m,d,rfl,rfl⟩<;>rcases s with⟨rfl,rfl⟩|⟨i,a,rfl,rfl⟩
 .simp[aV]
 .obtain⟨g,r⟩:0<=a/\a<=(j:Int):=e;simp[aV,k' (P:=P) b i a cap _ g u]
 .obtain⟨g,r⟩:0<=d/\d<=(j:Int):=e;simp[aV,k' (P:=P) b m d j _ g r]
 obtain⟨g,r,x⟩:0<=d/\d<=a/\a<=(j:Int):=e;have t:=q_ u;simp[aV,run_sliceBound (P:=P) b i a cap _ u u,k' (P:=P) b i a cap _ u u,k' (P:=P) b m d a.toNat _ g u]
def mo(a:m UInt8):Option Int->Option Int->m UInt8
 |none,n=>a
 |some d,n=>a.drop d.toNat
 |none,f b=>a.take b.toNat
 |some d,f b=>(a.take b.toNat).drop d.toNat
theorem a0.jW(aY:bZ P ac){r:ae}{e5 bp}(A:q.op=.slice o r e5 bp n){e}(F:bW ac o=f e)(J:e.desc=.string){b}{d m}(K:η r=ax (.V b))(p:kF η e5=f d)(C:kF η bp=f m)(E:T (ji (c b) d m)):a0 P q η k (ax (.V (mo b d m))) k:=by
 refine .aS λi u D h=>?_;have g:=h r;rw[K]at g;replace g:=b6 g;generalize w:u r=N at g;cases g with
 |@V a _ B O=>
 have z:a.size=c b:=by rw[<-B];exact m4.symm
 obtain⟨t,x,y⟩:=vP (P:=P) (kn:=v) (j:=a.size) (cap:=a.size) (bA _) (kf h p) (kf h C) M i.a;have s:=(aY o e F).run_underlying (Q:=i.a);rw[J]at s;have I:=u2 (P:=P) (kn:=v) (j:=a.size) (cap:=a.size) (bA _) (kf h p) (kf h C) M i.a;refine⟨.string (a.extract (bU 0 d) (bU a.size m)),?_,Rd.V ?_ ?_,by simp[ab,A,w,Instr.sliceAt,s,Instr.slice,I]⟩
 .simp[ab,A,w,Instr.sliceAt,s,Instr.slice,t]
 .rw[Lib.extract_data,B,z];rw[z]at x y;cases d<;>cases m<;>simp only[mo,bU]at x y⊢
  .simp
  .simp
  .grind [List.take_of_length_le]
  rw[List.drop_take]
 cases d<;>cases m<;>simp[mo,so,List.length_take]<;>omega
def fs(d:Nat)(a:Nat->m K):Nat->m K:=λb=>a (d+b)
def xF(eN:Bool):Option Int->Bool
 |none=>eN
 |some _=>v
theorem a0.jV(aY:bZ P ac){M:ae}{e5 a}(S:q.op=.slice o M e5 a n){e a4}(ai:bW ac o=f e)(ak:e.desc=.slice W)(al:bW ac W=f a4){eN}{d r}(Z:∀X Y,bv k X Y (η M)->Rd X.C Y (.A eN a4.size j U))(t:kF η e5=f d)(V:kF η a=f r)(z:T (ji j d r)):
  a0 P q η k (ax (.A (xF eN r) a4.size (bU j r-bU 0 d) (fs (bU 0 d) U))) k:=by
 refine .aS λg an ag b=>?_;have m:=Z g _ (b M);obtain⟨N,i,y,J,R,O,K,G,ah⟩:=m.b0;rw[J]at m;obtain⟨s,ao,x⟩:=vP (P:=P) (kn:=l) R (kf b t) (kf b V) z g.a;have E:=(aY o e ai).run_underlying (Q:=g.a);rw[ak]at E;refine⟨.slice (if i=bU 0 d then N else N.map (·.add (bU 0 d*a4.size))) (bU j r-bU 0 d) (i-bU 0 d),?_,?_,by simp[ab,S,J,Instr.sliceAt,E,Instr.slice,s,u2 (P:=P) (kn:=l) R (kf b t) (kf b V) z g.a]⟩
 .simp[ab,S,J,Instr.sliceAt,E,Instr.slice,s,(aY W a4 al).a']
 cases m with
 |A aa C af _ _ _ I F w A=>
  refine Rd.A aa (C+bU 0 d*a4.size) (λe B=>af (bU 0 d+e) B) u u ?_ (λe a=>I _ u) (λaq=>?_) (λe a B D p=>?_) (λe a B D p=>A _ u B D p)
  .intro h;cases r with
   |none=>simp[xF]at h;have:=K h;simp[bU];omega
   |some r=>cases h
  .rw[bm u,F u];simp[g0]
  have:=w (bU 0 d+e) u B D p;grind
def a0.iH(aY:bZ P ac){b dst:al}{i:ae}(w:q.op=.convert b dst i){x m:cm}{h d}{t}(o:bW ac b=f x)(y:bW ac dst=f m)(A:m.desc=.int d)(B:η i=ax (.int h t))(e:a8 d t):
  a0 P q η k (ax (.int d t)) k:=by refine .aS λg r z p=>?_;have a:=p i;rw[B]at a;replace a:=b6 a;generalize s:r i=C at a;cases a;have u:=(aY b x o).run_underlying (Q:=g.a);have j:=(aY dst m y).run_underlying (Q:=g.a);rw[A]at j;exact⟨.int d t,by simp[ab,w,s,convert,u,j,Conv.intToInt,r8 e],Rd.int e,by simp[ab,w,s,convert,u,j,Conv.intToInt]⟩
theorem a0.iJ(aY:bZ P ac){a dst:al}{g:ae}(t:q.op=.convert a dst g){u m:cm}{b}(i:bW ac a=f u)(w:bW ac dst=f m)(y:m.desc=.string)(z:η g=ax (.V b)):
  a0 P q η k (ax (.V b)) k:=by refine .aS λe o x j=>?_;have d:=j g;rw[z]at d;have s:=b6 d;generalize p:o g=A at s;cases s;have r:=(aY a u i).run_underlying (Q:=e.a);have h:=(aY dst m w).run_underlying (Q:=e.a);rw[y]at h;exact⟨_,by simp[ab,t,p,convert,r,h];rfl,by grind,by simp[ab,t,p,convert,r,h]⟩
def uM(a:Nat->m K):Nat->Nat->Option (m UInt8)
 |_,0=>f []
 |b,d+1=>match a b with
  |[.int .u8 g]=>match uM a (b+1) d with
   |some e=>f (UInt8.ofNat g.toNat::e)
   |none=>n
  |_=>n
def GJ{bz}{s:Nat->m K}:∀{h e:Nat}{i:m UInt8}{y:m X},uM s e h=f i->c y=h->(∀g,g<h->∀j,(s (e+g))[0]?=f j->∃o,y[g]?=f o/\Rd bz o j) ->
  ∃b:m Int,y=b.map (Value.int .u8)/\i=b.map (λk=>UInt8.ofNat k.toNat)
 |0,e,i,y,d,p,_=>by cases d;exact⟨[],by grind,a⟩
 |h+1,e,i,[],d,p,_=>by grind
 |h+1,e,i,o::y,d,p,q=>by
  simp[uM]at d;split at d
  .rename_i k C;split at d
   .rename_i D t;cases d;obtain⟨E,r,w⟩:=q 0 u (.int .u8 k) M
    simp at r;subst r;cases w;obtain⟨b,A,z⟩:=GJ (y:=y) t M (λg x j B=>by
     have:=q (g+1) u j M
     simpa using this)
    exact⟨k::b,by grind,by grind⟩
   grind
  grind
def LV{P}(e){g:X->ByteArray->Sem (ForInStep ByteArray)}(h:∀d b,g (.int .u8 d) b=pure (.yield (b.push (UInt8.ofNat d.toNat)))):∀(a:m Int)b,
  (forIn (m:=Sem) (a.map (Value.int .u8)) b g).run P e=.ok ⟨b.data++(a.map λd=>UInt8.ofNat d.toNat).toArray⟩ e
 |[],b=>by simp
 |d::a,b=>by simp only[me,List.forIn_cons,h,cK,dZ,c9];rw[LV e h a];congr 2;apply Array.ext';simp[ByteArray.push]
end
def aZ(p:ah P)(w:Nat)(a:m ao)(s:ao)(u:bJ)(i:m ap)(y:x)(e:m ap):Prop:=
  ∀h j,bX w i h u j->bb i h->∀(k:aG) r g (o:ai->a6->Prop) q b,k.kind≠.early->a.toArray[q]?=f s ->
    (∀t d,bv e d t y->bb e d->de i h e d->ce p o (G (k.ab (j.put s.dst t) (.inRegion a.toArray b::r)) g) d)->ce p o (G (k.ab j (.inRegion a.toArray (q::b)::r)) g) h
section
variable {p:ah P}{dF:bJ}{D:x}
theorem aZ.a1(N:∀k B e,bX E k B F e->aS q (yielded all.toArray e.tmps)=l)(K:a0 P q (bD F) k D an):aZ p E all q F k D an:=by
  intro B e w i R T J Q S u s t h;refine rl s t (N _ _ _ w) λo j=>?_;have m:=i.rely j;obtain⟨O,b,g,d,r,y,M⟩:=K o e.eval m (eF (w.rely j i));have x:=j.aI.trans (y.tooQ m);have z:kB o b ((ab e.eval q).events P o.a #[]):=⟨⟨k,an,m,r,y⟩,M⟩;cases O with
  |value C=>exact⟨_,b,C,g,.inl rfl,z,h C b d r x⟩
  |skip=>simp[Ai]at d;subst d;exact⟨_,b,I,g,.inr ⟨a,a⟩,z,h I b A r x⟩
  |_=>exact d.elim
def aZ.hM(o:∀k j d,bX E k j F d->aS q (yielded all.toArray d.tmps)=v):aZ p E all q F k (.Q []) k:=by intro j d s b w y m u x h t g e;exact .ctl b a (λ_=>abl g (o _ _ _ s)) λr i=>e I r ⟨[],a,A⟩ (b.rely i) i.aI
def ff.dd{aL:bJ->m ap->Prop}(N:aZ p E all q F k D an)(M:∀r,q.dst=f r->r<E)(Q:ff p E all bq aL (gb q.dst D F) an):ff p E all (q::bq) aL F k:=by
  intro S I t b C i e B idx g a x;cases idx with
  |nil=>exact a.elim
  |cons O idx=>
  refine N S I t b C i e B O idx g a.1 λT z y h d=>Q z _ ?_ h C i e B idx g a.2 λJ o A s R u w j=>x J o A s R u w (d.trans j);cases K:q.dst with
  |none=>exact t.mono d b.len
  |some r=>exact(t.mono d b.len).put (M r K) y
end
abbrev bK:=m x->m ap->Option (x×m ap×m Prop)
def tb:m (Nat×bK)->Nat->Option bK
  |[],_=>n
  | (d,b)::e,a=>cond (ad d a) (f b) (tb e a)
def bL(g:ah P)(h:a1)(i:bK):Prop:=∀args e b d a,i args e=f (b,d,a)->T a->Z g h args e b d
def ba(e:ah P)(a:m (Nat×bK)):Prop:=∀b d,tb a b=f d->bL e b d
def ba.nil{a:ah P}:ba a []:=λ_ _ b=>by cases b
def ba.cons{d:ah P}{e}{B}{CT}(j:bL d e B)(i:ba d CT):ba d ((e,B)::CT):=by
  intro b g a;simp[tb]at a;cases h:ad e b with
  |true=>grind[Nat.eq_of_beq_eq_true]
  |false=>rw[h]at a;exact i b g a
def n1:O->m Nat->m Nat
  |.ptr b _,a=>cond (ei b a) a (a++[b])
  |.w b _ _ _,a=>cond (ei b a) a (a++[b])
  |.aV b,a=>cond (ei b a) a (a++[b])
  |.N b _,a=>cond (ei b a) a (a++[b])
  |_,a=>a
def GH:m O->m Nat->m Nat
  |[],a=>a
  |b::d,a=>GH d (n1 b a)
def p8:x->m Nat->m Nat
  |.n (.R d),a=>n1 d a
  |.n (.agg b),a=>GH b a
  |_,a=>a
def GG:m x->m Nat->m Nat
  |[],a=>a
  |b::d,a=>GG d (p8 b a)
def s6(b:Nat):m Nat->Nat->Option Nat
  |[],_=>n
  |d::e,a=>match ad d b with|true=>f a|false=>s6 b e (a+1)
def JW{d}:∀{b:m Nat} {e g:Nat},s6 d b e=f g->e<=g/\b[g-e]?=f d
  |[],_,_,a=>by cases a
  |i::o,e,g,a=>by
    simp[s6]at a;cases h:ad i d with
    |true=>simp_all
    |false=>
      rw[h]at a;obtain⟨j,k⟩:=JW a;grind
def tO(a:m Nat):O->Option O
  |.ptr d e=>match s6 d a 0 with|some b=>f (.ptr b e)|none=>n
  |.aV d=>match s6 d a 0 with|some b=>f (.aV b)|none=>n
  |.N d g=>match s6 d a 0 with|some b=>f (.N b g)|none=>n
  |.w _ _ _ _=>n
  |.c h=>f (.c h)
  |.any=>f .any
def zz(a:m Nat):m O->Option (m O)
  |[]=>f []
  |b::g=>match tO a b with
    |some d=>match zz a g with
      |some e=>f (d::e)
      |none=>n
    |none=>n
def EB(a:m Nat):x->Option x
  |.n (.R e)=>match tO a e with|some b=>f (.n (.R b))|none=>n
  |.n (.agg d)=>match zz a d with|some b=>f (.n (.agg b))|none=>n
  |.Q _=>n
  |.any=>f .any
def tP(a:m Nat):m x->Option (m x)
  |[]=>f []
  |b::g=>match EB a b with
    |some d=>match tP a g with
      |some e=>f (d::e)
      |none=>n
    |none=>n
def M7{b i}(a:tO aU b=f i):ku aU i=b/\lU (c aU) i=l:=by
  cases b with
  |ptr d k=>
    simp[tO]at a;split at a
    · rename_i e bp
      cases a;exact Fj
    grind
  |aV d=>
    simp[tO]at a;split at a
    · rename_i e bp
      cases a;exact Fj
    grind
  |N d m=>
    simp[tO]at a;split at a
    · rename_i e bp
      cases a;exact Fj
    grind
  |w d h j g=>cases a
  |c o=>cases a;exact cS
  |any=>cases a;exact cS
def M_{aU}:∀{d b:m O},zz aU d=f b->qG aU b=d/\lg (c aU) b=l
  |[],b,a=>by cases a;exact cS
  |d::p,b,a=>by
    simp[zz]at a;split at a
    · rename_i q k
      split at a
      · rename_i o e
        cases a;obtain⟨i,g⟩:=M7 k;obtain⟨j,h⟩:=M_ e;exact⟨by simp[qG,i,j],by simp[lg,g,h]⟩
      grind
    grind
def adx{b i}(a:EB aU b=f i):fc aU i=b/\hQ (c aU) i=l:=by
  unfold EB at a;split at a
  · rename_i b
    split at a
    · rename_i j e;cases a;obtain⟨d,h⟩:=M7 e;exact⟨by simp[fc,pp,d],by exact cS⟩
    grind
  · rename_i g
    split at a
    · rename_i j e;cases a;obtain⟨d,h⟩:=M_ e;exact⟨by simp[fc,pp,d],by exact cS⟩
    grind
  · cases a
  · cases a;exact cS
def M9{aU}:∀{d b:m x},tP aU d=f b->gn aU b=d/\hd (c aU) b=l
  |[],b,a=>by cases a;exact cS
  |d::p,b,a=>by
    simp[tP]at a;split at a
    · rename_i q k
      split at a
      · rename_i o e
        cases a;obtain⟨i,g⟩:=adx k;obtain⟨j,h⟩:=M9 e;exact⟨by simp[gn,i,j],by simp[hd,g,h]⟩
      grind
    grind
def Bz(j:m (Nat×bK))(q:bJ)(k:m ap)(o:ae)(p:m ae):Option (x×m ap×m Prop):=
  match g1 (bD q o)with
  |none=>n
  |some (r,g)=>match tb j r with
    |none=>n
    |some s=>
      let args:=k4 (p.map (bD q)++e' g);let a:=GG args []
      match tP a args with
      |none=>n
      |some d=>match dx a k with
        |none=>n
        |some e=>match s d e with
          |none=>n
          |some (i,b,h)=>match eu e,eu b,fb a,ay (c a) (c b) with
            |true,l,l,l=>f (fc (a++gU (c k) (c b-c a)) i,db a b k,h)
            |_,_,_,_=>n
theorem aZ.gV{J:ah P}{CT}(p:ba J CT)(H:∀k g b,bX E k g F b->aS q (yielded all.toArray b.tmps)=l)(e:q.op=.call {callee:=.value cP,args:=af,argTypes:=ds}){i}(h:g1 (bD F cP)=f (i,cap)){B}(aw:tb CT i=f B){aQ}{res}(K:tP aU (k4 (af.toList.map (bD F)++e' cap))=f cQ)(X:dx aU k=f dh)(aq:B cQ dh=f (res,aQ,cl))(Z:eu dh=l)(av:eu aQ=l)(y:fb aU=l)(Y:c aU<=c aQ)(ao:T cl):aZ J E all q F k (fc (aU++gU (c k) (c aQ-c aU)) res) (db aU aQ k):=by
  obtain⟨al,W⟩:=M9 K;intro g b A t aA ak ab ax aB D s u r;have S:=p i B aw _ _ _ _ _ aq ao;have U:=eF A cP;unfold g1 at h;split at h
  case h_2=>cases h
  case h_1 u4 uR he=>
    cases h;rw[he]at U;have Q:=b6 U;generalize G:b.eval cP=ag at Q;cases Q with
    |fn m a x d ae j ai o ar C=>
      have O:m=[]:=jB x;subst O;have an:b4 k g a (e' cap):=p' (λz aa w=>⟨j z,o z M,C z aa w⟩) d;have au:b4 k g (af.toList.map b.eval++a) (gn aU cQ):=by rw[al];exact uQ ((m1 (eF A) af.toList).append an)
      obtain⟨fn,V,R,N⟩:=S.1;exact Gi s u (H _ _ _ A) t (λI=>(mL e V R N G I).1) (λI=>(mL e V R N G I).2) S au W X Z av y Y r
theorem aZ.call{b:ah P}{CT}(g:ba b CT){D}(p:∀k j d,bX E k j F d->aS q (yielded all.toArray d.tmps)=l)(i:q.op=.call {callee:=.value cP,args:=af,argTypes:=ds})(a:Bz CT F k cP af.toList=f (D,an,cl))(m:T cl):aZ b E all q F k D an:=by
  unfold Bz at a;split at a
  · cases a
  rename_i r e h;split at a
  · cases a
  rename_i s o;simp only at a;split at a
  · cases a
  grind[aZ.gV,Nat.le_of_ble_eq_true]
def LK{g}(e:hQ 0 g=l):fc [] g=g:=by
  have j:∀{a:O},lU 0 a=l->ku [] a=a:=by intro a d;cases a<;>simp[lU]at d<;>first|rfl|simp_all
  have p:∀{b:m O},lg 0 b=l->qG [] b=b:=by
    intro b;induction b with
    |nil=>exact cS
    |cons a q h=>
      intro e;simp[lg]at e;cases d:lU 0 a with
      |false=>grind
      |true=>simp[d]at e;simp[qG,j d,h e]
  have i:∀{a:E1},pb 0 a=l->pp [] a=a:=by
    intro a d;cases a with
    |R a=>simp[pp,j d]
    |agg o=>simp[pp,p d]
  have k:∀{b:m E1},og 0 b=l->ts [] b=b:=by
    intro b;induction b with
    |nil=>exact cS
    |cons a q h=>
      intro e;simp[og]at e;cases d:pb 0 a with
      |false=>grind
      |true=>simp[d]at e;simp[ts,i d,h e]
  cases g with
  |n s=>simp[fc,i e]
  |Q r=>simp[fc,k e]
  |any=>rfl
def BA(g:m (Nat×bK))(j:bJ)(h:ae)(i:m ae):Option (x×m Prop):=
  match g1 (bD j h)with
  |none=>n
  |some (k,d)=>match tb g k with
    |none=>n
    |some o=>match tP [] (k4 (i.map (bD j)++e' d))with
      |none=>n
      |some a=>match o a []with
        |some (b,[],e)=>match hQ 0 b with
          |true=>f (b,e)
          |false=>n
        |_=>n
theorem aZ.iE{P:aE}{o:ah P}{E}{all}{F}{k}{q}{CT}(h:ba o CT){cP}{af}{ds}{D}{cl}(x:∀k y p,bX E k y F p->aS q (yielded all.toArray p.tmps)=l)(j:q.op=.call {callee:=.value cP,args:=af,argTypes:=ds})(b:AM.BA CT F cP af.toList=f (D,cl))(t:T cl):aZ o E all q F k D k:=by
  unfold AM.BA at b;split at b
  · cases b
  rename_i z r i;split at b
  · cases b
  rename_i A u;split at b
  · cases b
  rename_i g e;split at b
  case h_2=>cases b
  rename_i s m d;split at b
  case h_2=>cases b
  rename_i w;cases b;have:=aZ.gV (k:=k) h x j i u e a d a a a (bA _) t;simpa[gU,LK w,db]using this
structure l_(E:Nat)(k:m ap)(b:a6)(FX:Nat->x)(w:Act):Prop where
 size:w.tmps.size=E
 defers:∃nz,ja k b w.defers nz
 ak:∀o,bv k b (w.tmps.getD o I) (FX o)
def l_.fi{e:Nat->x}{g}(d:l_ E k b e g)(i:∀a k b h,bv k b h (e a)->bv k b h (look F a)):bX E k b F g:=
 ⟨d.size,d.defers,λa=>i a _ _ _ (d.ak a)⟩
def eQ(a:Edge):Bool:=Region.binds .any a
structure q2{P:aE}(p:ah P)(E:Nat)(aM:Array ao)(F:bJ)(br:Nat->m ap)(D:Nat->x)(S:Nat->bJ)(qm r:Nat->Bool)(z:Nat->Nat->Prop)(idx:Nat->Option Nat)(dF:bJ):Prop where
 kj:P.follows Departure.mixedOrders=l
 cS:∀e q,aM[e]?=f q->∀au∈q.after,eQ au=l->au.on<e
 e3:∀e q N,aM[e]?=f q->q.dst=f N->idx N=f e/\N<E
 dM:∀N e,idx N=f e->∃q,aM[e]?=f q/\q.dst=f N
 aS:∀e,r e=v->br (e+1)=br e
 R:∀e q,aM[e]?=f q->qm e=v->aZ p E aM.toList q (S e) (br e) (D e) (br (e+1))
 all:∀e q,aM[e]?=f q->qm e=l->r e=v/\∀h,aZ p E aM.toList q (S e) (br h) (D e) (br h)
 fv:∀L:Nat->Prop,(∀e q,aM[e]?=f q->L e->∀au∈q.after,eQ au=l->L au.on)->∀e t,z e t->(L e->L t)/\∃q,aM[e]?=f q/\((∀au∈q.after,eQ au=l->L au.on)->L t)
 comp:∀e ak,e<aM.size->ak<aM.size->r ak=l->e≠ak->qm e=v->(ak<e/\z e ak)∨(e<ak/\z ak e)
 eS:∀e q,aM[e]?=f q->∀o k b aa,bv k b aa (match idx o with|some t=>(if ∃au∈q.after,eQ au=l/\au.on=t then D t else if ∃vy,aM[t]?=f vy/\∃au∈vy.after,eQ au=l/\au.on=e then look F o else .any)|none=>look F o)->bv k b aa (look (S e) o)
 fin:∀o k b aa,bv k b aa (match idx o with|some t=>D t|none=>look F o)->bv k b aa (look dF o)
open Classical in
noncomputable def gH(b:bJ)(e:Nat->x)(idx:Nat->Option Nat)(L:Array Bool)(a:Nat):x:=
 match idx a with
 |some d=>if L.getD d v=l then e d else look b a
 |none=>look b a
theorem pe:e∈aP .any aM L↔∃h,aM[e]?=f h/\L.getD e l=v/\∀a∈h.after,eQ a=l->L.getD a.on v=l:=by
 unfold aP;simp[iK,re,cn,je];constructor
 .rintro⟨b,B,i⟩;rw[iG b]at i;simp only[lD,h3,Array.all_eq_true',jC,je]at i;refine⟨aM[e],iG b,B,λa d g=>?_⟩;rcases i a d with k|k
  .unfold eQ at g;grind
  grind
 rintro⟨h,b,B,i⟩;have j:e<aM.size:=(jd.1 b).1;refine⟨j,B,?_⟩;rw[b];simp only[lD,h3,Array.all_eq_true',jC,je];intro a d;cases g:Region.binds .any a with
 |false=>grind
 |true=>exact .inr (i a d g)
section
variable {p:ah P}{dF:bJ}{br:Nat->m ap}{D:Nat->x}{S:Nat->bJ}{qm r:Nat->Bool}{z:Nat->Nat->Prop}{idx:Nat->Option Nat}
def q2.chain(j:q2 p E aM F br D S qm r z idx dF){e}:∀{h:Nat},e<=h->(∀b,e<=b->b<h->r b=v)->br h=br e
 |0,g,_=>by grind
 |h+1,g,i=>by
  rcases dW h e with a|a
  .grind
  rw[j.aS h (i h a u),j.chain (h:=h) a (λb d k=>i b d u)]
def q2.last(j:q2 p E aM F br D S qm r z idx dF)(C:∀q,q<aM.size->L.getD q v=l){h}{e}{m}(k:h<=aM.size)(K:∀i,i<aM.size->r i=l->(L.getD i v=l↔i<h))(o:l_ E (br h) b (gH F D idx L) m)(a:bb (br h) b)(g:de (br 0) e (br h) b):
  bX E (br aM.size) b dF m/\bb (br aM.size) b/\de (br 0) e (br aM.size) b:=by
 have w:br aM.size=br h:=j.chain k (λI x y=>by grind);rw[<-w]at o a g;refine⟨o.fi λt u b B s=>j.fin t u b B ?_,a,g⟩;unfold gH at s;cases d:idx t with
 |none=>grind
 |some J=>
  simp only[d]at s⊢;obtain⟨M,A,_⟩:=j.dM _ _ d;grind
theorem mx(a:e<L.size):(L.setIfInBounds e l).getD t v=l↔t=e∨L.getD t v=l:=Fy
theorem xE:∀{d:m Bool}{e:Nat},d[e]?=f v->c ((d.set e l).filter (λa=>!a))+1=c (d.filter (λa=>!a))
 |[],_,b=>by grind
 |a::g,0,b=>by grind
 |a::g,e+1,b=>by simp at b;have:=xE (d:=g) b;cases a<;>simp[List.set_cons_succ]<;>omega
theorem C9(o)(L):Region.linearise.go .any aM 0 o L []=[]:=by simp[Region.linearise.go]
theorem vq(j o)(L):Region.linearise.go .any aM (j+1) o L []=match(aP .any aM L)[o % c (aP .any aM L)]? with
  |some a=>a::Region.linearise.go .any aM j (o / c (aP .any aM L)) (L.setIfInBounds a l) []
  |none=>[]:=by
 simp only[Region.linearise.go]
 change (match(aP .any aM L)[o % c (aP .any aM L)]? with
   |some a=>Region.linearise.go .any aM j (o / c (aP .any aM L)) (L.setIfInBounds a l) [a]
   |none=>[].reverse)=_
 grind[linearise_go_acc]
def q2.eO(s:q2 p E aM F br D S qm r z idx dF){ab:ai->a6->Prop}{q:aG}{y}(I:q.kind≠.early){cG}(aK:∀b d,bX E (br aM.size) b dF d->bb (br aM.size) b->de (br 0) cG (br aM.size) b->ce p ab (G (q.ab d y) ag) b):
  ∀N L,L.size=aM.size->c (L.toList.filter (λq=>!q))<=N ->
   (∀e A,aM[e]?=f A->L.getD e v=l->∀m∈A.after,eQ m=l->L.getD m.on v=l) ->
   ∀j b d,j<=aM.size->(∀g,g<aM.size->r g=l->(L.getD g v=l↔g<j))->l_ E (br j) b (gH F D idx L) d->bb (br j) b->de (br 0) cG (br j) b ->
   ∀k,ce p ab (G (q.ab d (.inRegion aM (Region.linearise.go .any aM N k L [])::y)) ag) b:=by
 have fin:∀b d,bX E (br aM.size) b dF d->bb (br aM.size) b->de (br 0) cG (br aM.size) b->ce p ab (G (q.ab d (.inRegion aM []::y)) ag) b:=
  λb d kD j5 FY=>.ctl j5 a (λ_=>vT) λaV aF=>aK aV d (kD.rely aF j5) (j5.rely aF) (FY.trans aF.aI)
 intro N;induction N with
 |zero=>
  intro L aT aO J j b d b2 CP oe bP b7;have O:∀e,e<aM.size->L.getD e v=l:=by
   intro e t;have av:L[e]'u∈L.toList:=C;cases I:L[e]'u with
   |true=>simp[hA,iG (by omega:e<L.size),I]
   |false=>
    have:L[e]'u∈L.toList.filter (λq=>!q):=iK.2 ⟨av,by grind⟩;grind
  intro k;rw[C9];exact Oh
 |succ N aU=>
  intro L aT aO J j b d b2 CP oe bP b7;intro k;rw[vq];cases ba:(aP .any aM L)[k % c (aP .any aM L)]? with
  |none=>
   have aS:aP .any aM L=[]:=by
    cases aS:aP .any aM L with
    |nil=>rfl
    |cons bd bc=>
     grind[Nat.mod_lt]
   have O:∀e,e<aM.size->L.getD e v=l:=by
    intro e;induction e using Nat.strongRecOn with
    |_ e a8=>
     intro t;cases I:L.getD e v with
     |true=>rfl
     |false=>
      have av:e∈aP .any aM L:=pe.2 ⟨aM[e],iG t,by
       grind,λm X af=>by
       have:=s.cS e _ (iG t) m X af
       grind⟩
      grind
   exact Oh
  |some e=>
   have t:=b8 ba;obtain⟨A,w,a5,aQ⟩:=pe.1 t;have aE:e<aM.size:=(jd.1 w).1;have H:¬L.getD e v=l:=M;have T:=s.fv (λV=>L.getD V v=l) J;have aC:∀i,z i e->¬L.getD i v=l:=λi an aJ=>H ((T i e an).1 aJ);have a7:∀i,z e i->L.getD i v=l:=λi an=>by grind
   have K:(L.setIfInBounds e l).size=aM.size:=M;have a9:c ((L.setIfInBounds e l).toList.filter (λq=>!q))<=N:=by have h:L.toList[e]?=f v:=Ra;grind[xE]
   have a':∀V aB,aM[V]?=f aB->(L.setIfInBounds e l).getD V v=l->∀m∈aB.after,eQ m=l->(L.setIfInBounds e l).getD m.on v=l:=wy
   have al:bX E (br j) b (S e) d:=oe.fi λk a_ b Z Y=>s.eS e A w k a_ b Z (by
    unfold gH at Y;cases bi:idx k with
    |none=>grind
    |some V=>
     simp only[bi]at Y⊢;split
     .grind
     .split
      .grind
      .trivial)
   have aL:∀B o Z,de (br j) b B o->bv B o Z (D e)->l_ E B o (gH F D idx (L.setIfInBounds e l)) (d.put A.dst Z):=by
    intro B o Z W Y;cases aN:A.dst with
    |none=>
     refine⟨oe.size,oe.defers.imp λ_ h=>h.mono W.ext,λk=>?_⟩;have Q:=(oe.ak k).mono W.ext bP.len;simp only[Act.put];unfold gH at Q⊢;cases bi:idx k with
     |none=>grind
     |some V=>
      exact ON
    |some aI=>
     obtain⟨ar,a4⟩:=s.e3 e A aI w aN;refine⟨by simp[Act.put,oe.size],oe.defers.imp λ_ h=>h.mono W.ext,λk=>?_⟩;simp only[Act.put];by_cases m:aI=k
     .subst m;have ax:aI<d.tmps.size:=by rw[oe.size];omega
      simp only[hA,uz ax,h3];unfold gH;simp only[ar];rw[bo ((mx u).2 (.inl a))];exact Y
     have Q:=(oe.ak k).mono W.ext bP.len;simp only[hA]at Q⊢;rw[sA m];unfold gH at Q⊢;cases bi:idx k with
     |none=>grind
     |some V=>
      exact ON
   have aY:∀x,x<=aM.size->aZ p E aM.toList A (S e) (br j) (D e) (br x)->(∀g,g<aM.size->r g=l->((L.setIfInBounds e l).getD g v=l↔g<x)) ->
     ce p ab (G (q.ab d (.inRegion aM (e::Region.linearise.go .any aM N (k / c (aP .any aM L)) (L.setIfInBounds e l) [])::y)) ag) b:=by intro x au aw U;have:=aw b d al bP q y ag ab e (Region.linearise.go .any aM N (k / c (aP .any aM L)) (L.setIfInBounds e l) []) I M;simp only[wM]at this;exact this λZ o Y aq W=>aU _ K a9 a' x o _ au U (aL _ _ _ W Y) aq (b7.trans W) _
   have same:r e=v->∀g,g<aM.size->r g=l->((L.setIfInBounds e l).getD g v=l↔g<j):=wy;cases aA:qm e with
   |true=>
    obtain⟨aR,R⟩:=s.all e A w aA;exact aY j b2 (R j) (same aR)
   |false=>
    have aD:=s.R e A w aA;have a2:br e=br j:=by
     rcases Nat.le_total j e with aH|aH
     .refine s.chain aH λi h ae=>?_;cases X:r i with
      |false=>rfl
      |true=>
       exfalso;rcases s.comp e i aE u X u aA with⟨_,aa⟩|⟨aa,_⟩
       .grind
       omega
     refine(s.chain aH λi h ae=>?_).symm;cases X:r i with
     |false=>rfl
     |true=>
      exfalso;have a3:=(CP i u X).2 ae;by_cases ao:i=e
      .grind
      rcases s.comp e i aE u X (λm=>ao m.symm) aA with⟨aa,_⟩|⟨_,aa⟩
      .omega
      grind
    rw[a2]at aD;cases a0:r e with
    |false=>
     rw[s.aS e a0,a2]at aD;exact aY j b2 aD (same a0)
    |true=>
     refine aY (e+1) u aD λg ah ak=>?_;rw[mx u];by_cases a1:g=e
     .grind
     simp only[a1,false_or];rcases s.comp e g aE ah ak (λm=>a1 m.symm) aA with⟨h,aa⟩|⟨h,aa⟩
     .grind
     grind
end
def wI(P:aE):m TypeDesc->m Field->Nat->Prop
 |[],[],_=>True
 |e::a,b::d,g=>b.name≠ "_"/\b.offset=g/\P.underlying b.type=f e/\(match e with|.int _|.string|.bool=>True|_=>False)/\wI P a d (g+1)
 |_,_,_=>False
def u0(g:Nat)(b d:Array X)(a:Field)(_:Option Bool×Unit):Sem (ForInStep (Option Bool×Unit)):=
 if a.name= "_" then pure (ForInStep.yield (n,()))
 else do
  let e<-part a.type b a.offset;let i<-part a.type d a.offset;let h<-aN g a.type e i
  if h=v then pure (ForInStep.done (f v,()))else pure (ForInStep.yield (n,()))
def LU{P}(j)(u)(af e):∀{h:m TypeDesc}{s:m Field}{g:Nat}{y z:m X}{k:Bool},wI P h s g->nc h y z=f k->(∀p d,y[p]?=f d->af[g+p]?=f d)->(∀p d,z[p]?=f d->e[g+p]?=f d) ->
  (Op.eqFields (u+1) af e s).run P j=.ok k j/\∀b,(forIn s (n,()) (u0 (u+1) af e)).events P j b=b
 |[],[],g,[],[],k,_,i,_,_=>by cases i;simp[Op.eqFields]
 |[],[],g,_::_,_,k,_,i,_,_=>by cases i
 |[],[],g,[],_::_,k,_,i,_,_=>by cases i
 |[],_::_,g,_,_,k,I,_,_,_=>I.elim
 |_::_,[],g,_,_,k,I,_,_,_=>I.elim
 |B::h,o::s,g,[],_,k,_,i,_,_=>by cases i
 |B::h,o::s,g,_::_,[],k,_,i,_,_=>by cases i
 |B::h,o::s,g,d::y,q::N,k,⟨Q,U,J,V,G⟩,i,x,K=>by
  simp[nc]at i;cases w:rB B d q with
  |none=>grind
  |some C=>
   cases O:nc h y N with
   |none=>grind
   |some W=>
    simp[w,O]at i;subst i;obtain⟨aa,Z⟩:=LU j u af e G O (λp d H=>by have:=x (p+1) d M;grind) (λp d H=>by have:=K (p+1) d M;grind);have E:af[g]?=f d:=by simpa using x 0 d a
    have D:e[g]?=f q:=by simpa using K 0 q a
    have S:(isAgg o.type).run P j=.ok v j:=by unfold isAgg underlying;cases B<;>simp at V<;>simp[J]
    have A:∀r t,r[g]?=f t->(part o.type r o.offset).run P j=.ok t j:=by intro r t F;unfold part;simp[S,U,F]
    have T:∀r t,r[g]?=f t->∀b,(part o.type r o.offset).events P j b=b:=by intro r t F b;unfold part;simp[S,U,F]
    have Y:∀b,(aN (u+1) o.type d q).events P j b=b:=by
     intro b;unfold rB at w;split at w<;>first
      |(cases w;done)
      |(unfold aN;simp[underlying,J];done)
      |(unfold aN;simp[underlying,J];split<;>rfl)
    have R:(aN (u+1) o.type d q).run P j=.ok C j:=by unfold rB at w;grind[run_equalIn_int,run_equalIn_string,run_equalIn_bool]
    refine⟨?_,λb=>?_⟩
    .rw[Op.eqFields.eq_2,bo Q];simp[cK,A af d E,A e q D,R,c9];cases C
     .simp
     grind
    rw[List.forIn_cons];simp[u0,Q,dm,aD,cK,A af d E,A e q D,R,c9,aF,T af d E,T e q D,Y];cases C
    .simp
    simpa using Z b
def Yn{e:m Field}{bf}(i:P.underlying o=f (.struct e.toArray))(k:P.stoodInHeld o=v)(u:P.eqGuardType P.depth o=v)(p:wI P bf e 0):
  P.eqGuardType P.depth o=v/\∀d y b g,nc bf y b=f g->(Op.equal o (.agg y.toArray) (.agg b.toArray)).run P d=.ok g d/\∀a,(Op.equal o (.agg y.toArray) (.agg b.toArray)).events P d a=a:=by
 refine⟨u,λd y b g r=>?_⟩;have z:P.fieldsOf o=e.toArray:=by unfold Program.fieldsOf;rw[i]
 have key:=LU d 9998 y.toArray b.toArray p r (λt x q=>by grind) (λt x q=>by grind);refine⟨?_,λa=>?_⟩
 rotate_left
 .show (aN (9999+1) o _ _).events P d a=a;have s:=key.2 a;unfold aN;simp[underlying,i,k];show Result.evThen ((forIn e (n,()) (u0 9999 y.toArray b.toArray)).run P d) ((forIn e (n,()) (u0 (9998+1) y.toArray b.toArray)).events P d a) _=a;rw[s];cases(forIn e (n,()) (u0 9999 y.toArray b.toArray)).run P d with
  |ok j h=>obtain⟨w,_⟩:=j;cases w<;>rfl
  |halt A h=>rfl
 show(aN (9999+1) o _ _).run P d=_;grind[run_equalIn_agg]
def qd:m TypeDesc->m O->m O->Option Bool
 |[],[],[]=>f l
 |.int _::b,.c (.int j e)::a,.c (.int i g)::d=>match s7 j i with
  |true=>match qd b a d with
   |some h=>f ((e==g)&&h)
   |none=>n
  |false=>n
 |.string::b,.c (.V e)::a,.c (.V g)::d=>match qd b a d with
  |some h=>f ((e==g)&&h)
  |none=>n
 |.bool::b,.c (.bool e)::a,.c (.bool g)::d=>match qd b a d with
  |some h=>f ((e==g)&&h)
  |none=>n
 |_,_,_=>n
def B6:∀{i:m TypeDesc}{g j:m O}{A:Bool}{y a:m X},qd i g j=f A->bM k b y g->bM k b a j->nc i y a=f A:=by
 intro i;induction i with
 |nil=>
  intro g j A y a o r q;cases g<;>cases j<;>simp only[qd,reduceCtorEq]at o
  cases y<;>cases a<;>first|exact r.elim|exact q.elim|exact cS
 |cons J i s=>
  intro g j A y a o r q;unfold qd at o;split at o
  .grind
  .rename_i d t h u C I e dH heq;cases heq;split at o
   .rename_i b2;cases C0 b2;split at o
    .rename_i D B;cases o;cases y with
     |nil=>exact r.elim
     |cons x y=>cases a with
      |nil=>exact q.elim
      |cons z a=>
       obtain⟨p,w⟩:=r;obtain⟨w1,w2⟩:=q;cases(show Rd b.C x (.int h u)from p);cases(show Rd b.C z (.int h e)from w1);simp[nc,rB,s B w w2]
    grind
   grind
  .rename_i t u C e dH heq;cases heq;split at o
   .rename_i D B;cases o;cases y with
    |nil=>exact r.elim
    |cons x y=>cases a with
     |nil=>exact q.elim
     |cons z a=>
      obtain⟨p,w⟩:=r;obtain⟨w1,w2⟩:=q;cases(show Rd b.C x (.V u)from p)with
      |V E _=>
      cases(show Rd b.C z (.V e)from w1)with
      |V F _=>
      simp[nc,rB,s B w w2];grind[ByteArray.toList_eq]
   grind
  .rename_i t u C e dH heq;cases heq;split at o
   .rename_i D B;cases o;cases y with
    |nil=>exact r.elim
    |cons x y=>cases a with
     |nil=>exact q.elim
     |cons z a=>
      obtain⟨p,w⟩:=r;obtain⟨w1,w2⟩:=q;cases(show Rd b.C x (.bool u)from p);cases(show Rd b.C z (.bool e)from w1);simp[nc,rB,s B w w2]
   grind
  grind
section
variable {ac:m (Nat×cm)}
def h_:BinOp->Bool->Option Bool
 |.eql,a=>f a
 |.neq,a=>f (!a)
 |_,_=>n
def Gs{D bE}{Q}{i r}(N:match D,bE with|.agg _,.agg _=>True|.bool _,.bool _=>True|_,_=>False)(w:(Op.equal o D bE).run P Q=.ok i Q)(s:h_ op i=f r):
  (binOp op o D bE).run P Q=.ok (.bool r) Q:=by
 cases op<;>simp[h_,reduceCtorEq,e1]at s
 .exact Qr
 exact Qr
def Ip{D bE}{Q}{i r}(b:match D,bE with|.agg _,.agg _=>True|.bool _,.bool _=>True|_,_=>False)(e:(Op.equal o D bE).run P Q=.ok i Q)(a:∀U,(Op.equal o D bE).events P Q U=U)(d:h_ op i=f r)(U):
  (binOp op o D bE).events P Q U=U:=by cases op<;>simp[h_,reduceCtorEq,e1]at d<;>(cases D<;>cases bE<;>simp only at b<;>simp[binOp,a])
def UC(op)(o)(e g)(af a)(d)(b:P.eqGuardType P.depth o=v)(U):(eqGuard op o e g (.agg af) (.agg a)).events P d U=U:=by cases op<;>simp[eqGuard,b]
theorem a0.j7(aY:bZ P ac){D bE:ae}(w:q.op=.binOp op o D bE ty){e}(p:bW ac o=f e)(F:e.eq≠[]){ag U}{i r}(J:η D=.n (.agg ag))(I:η bE=.n (.agg U))(s:qd e.eq ag U=f i)(B:h_ op i=f r):a0 P q η k (ax (.bool r)) k:=by refine .aS λa K E g=>?_;have b:=g D;have d:=g bE;rw[J]at b;rw[I]at d;obtain⟨y,z,m⟩:=b;obtain⟨h,x,j⟩:=d;obtain⟨t,heq⟩:=(aY o e p).iO F;have u:=Gs (D:=.agg y.toArray) (bE:=.agg h.toArray) A (heq a.a y h i (B6 s m j)).1 B;have C:=Ip (D:=.agg y.toArray) (bE:=.agg h.toArray) A (heq a.a y h i (B6 s m j)).1 (heq a.a y h i (B6 s m j)).2 B;refine⟨.bool r,?_,Rd.bool,by simp[ab,w,z,x,aD,run_eqGuard_agg a.a op o D bE _ _ t,UC op o D bE _ _ a.a t,aF,cK,c9,u,C,Sem.events_pure]⟩;simp[ab,w,z,x,cK,run_eqGuard_agg a.a op o D bE _ _ t,c9,u,dZ]
theorem a0.iz(aY:bZ P ac){D bE:ae}(w:q.op=.binOp op o D bE ty){e}(p:bW ac o=f e)(E:e.desc=.bool){g i r}(I:η D=ax (.bool g))(F:η bE=ax (.bool i))(y:h_ op (g==i)=f r):a0 P q η k (ax (.bool r)) k:=by
 refine .aS λh m B j=>?_;have b:=j D;have d:=j bE;rw[I]at b;rw[F]at d;replace b:=b6 b;replace d:=b6 d;generalize u:m D=J at b;generalize x:m bE=K at d;cases b;cases d;have s:P.underlying o=f .bool:=by rw[(aY o e p).ec,E]
 have t:=Gs (P:=P) (Q:=h.a) (D:=.bool g) (bE:=.bool i) A (run_equal_bool h.a o g i s) y;have C:∀a,(Op.equal o (.bool g) (.bool i)).events P h.a a=a:=λa=>by show(aN (9999+1) o _ _).events P h.a a=a;unfold aN;simp[underlying,s]
 have z:=Ip (P:=P) (Q:=h.a) (D:=.bool g) (bE:=.bool i) A (run_equal_bool h.a o g i s) C y;refine⟨.bool r,?_,Rd.bool,by simp[ab,w,u,x,aD,eqGuard_at_bool,Sem.events_pure,dZ,aF,cK,c9,t,z]⟩;simp[ab,w,u,x,cK,eqGuard_at_bool,dZ,c9,t]
def a0.kh{m p:ae}(t:q.op=.binOp .xor o m p ty){a i}(C:η m=ax (.int .i64 a))(B:η p=ax (.int .i64 i))(J:0<=a)(x:0<=i):
  a0 P q η k (ax (.int .i64 ((a.toNat ^^^ i.toNat:Nat):Int))) k:=by
 refine .aS λu j y h=>?_;have b:=h m;have d:=h p;rw[C]at b;rw[B]at d;replace b:=b6 b;replace d:=b6 d;generalize r:j m=D at b;generalize s:j p=E at d;cases b with|int e=>
 cases d with|int g=>
 have I:a.toNat ^^^ i.toNat<2 ^ 63:=by apply Nat.xor_lt_two_pow<;>simp[a8]at e g<;>omega
 have z:a8 .i64 ((a.toNat ^^^ i.toNat:Nat):Int):=cS;refine⟨.int .i64 ((a.toNat ^^^ i.toNat:Nat):Int),?_,.int z,?_⟩
 rotate_left
 .simp only[ab,t,r,s,aD,qe,xX,aF,Go.binOp,d6,hB,dm,Op.intBits,cK,c9,dZ,Sem.events_pure]
 have w:((BitVec.ofInt 64 a) ^^^ (BitVec.ofInt 64 i)).toNat=a.toNat ^^^ i.toNat:=by rw[BitVec.toNat_xor,BitVec.toNat_ofInt,BitVec.toNat_ofInt];simp[a8]at e g;congr 1<;>omega
 have F:(BitVec.ofInt IntKind.i64.bits a ^^^ BitVec.ofInt IntKind.i64.bits i).toNat=a.toNat ^^^ i.toNat:=w;have A:(Go.binOp .xor o (.int .i64 a) (.int .i64 i)).run P u.a=.ok (.int .i64 ((a.toNat ^^^ i.toNat:Nat):Int)) u.a:=by simp only[Go.binOp,d6,hB,dm,Op.intBits,dZ];grind[r8]
 simp only[ab,t,r,s,cK,qe,c9,A,dZ]
def a0.iF(aY:bZ P ac){e dst:al}{m:ae}(V:q.op=.convert e dst m){N S h:cm}(F:bW ac e=f N)(O:bW ac dst=f S)(aa:N.desc=.slice W)(ao:S.desc=.string)(L:bW ac W=f h)(ar:h.desc=.int .u8){eN}{t}(af:∀d T,bv k d T (η m)->Rd d.C T (.A eN 1 j U))(E:uM U 0 j=f t):a0 P q η k (ax (.V t)) k:=by
 refine .du λd au r J=>?_;have g:=af d _ (J m);obtain⟨y,H,i⟩:=oy (P:=P) r g;obtain⟨A,o,aB,s,av,aA,_⟩:=g.b0;have G:j<=9223372036854775807:=u;have aq:c y=j:=by rw[H.len];omega
 obtain⟨w,C,ah⟩:=GJ (bz:=d.C) (y:=y) E aq (λak I ag aC=>by
  obtain⟨T,aL,an⟩:=H.rd ak I 0 ag M
  grind)
 have x:=(aY e N F).run_underlying (Q:=d.a);have D:=(aY dst S O).run_underlying (Q:=d.a);have R:=(aY W h L).run_underlying (Q:=d.a);rw[aa]at x;rw[ao]at D;rw[ar]at R;have Z:c t<=9223372036854775807:=M;have ai:∃z:ByteArray,(Conv.bytesToString (.slice A j o)).run P d.a=.ok (.string z) d.a/\z.data.toList=t:=by
  cases A with
  |none=>
   have aw:t=[]:=by
    have:y=[]:=by rw[s]at i;have b:=i.1;simp[Builtin.firstCells]at b;grind
    grind
   exact⟨ByteArray.empty,by simp[Conv.bytesToString],by exact bu⟩
  |some B=>
   rw[s]at i;have b:=i.1;simp[Builtin.firstCells,Nat.mul_one]at b;refine⟨⟨#[]++(w.map λm=>UInt8.ofNat m.toNat).toArray⟩,?_,by grind⟩;simp only[Conv.bytesToString,cK,b,c9,C];rw[List.forIn_toArray,LV (P:=P) d.a (λ_ _=>rfl) w ByteArray.empty];rfl
 obtain⟨z,Y,K⟩:=ai;refine⟨.string z,?_,Rd.V K Z,?_⟩
 rotate_left
 .intro aE p;simp only[ab,V,s,aD,convert,x,D,aF,c9,R,Y,cK,events_underlying,Sem.events_pure]at p;cases A with
  |none=>simp[Conv.bytesToString]at p
  |some B=>
   have X:=sS (P:=P) r (g.cz (λ_ _=>rfl)) (Q:=d.a) a;rw[s]at i X;have b:=i.1;simp only[Builtin.firstCells,Nat.mul_one]at b X;unfold Conv.bytesToString at p;simp only at p;rw[aD,b,aF,dz.bind (P:=P) ?_ λ_=>.pure]at p
   .grind [tr]
   rw[List.forIn_toArray];refine dz.ha (λm d=>?_) _ _;split
   .exact .pure
   exact .bind .stuck λ_=>.pure
 simp only[ab,V,s,cK,convert,x,D,c9,R,Y,dZ]
end
def rx(a:ae->x):m ae->Option (m K)
 |[]=>f []
 |g::e=>match a g with
  |.n (.R (.c b))=>match rx a e with
   |some d=>f (b::d)
   |none=>n
  |_=>n
def BJ{k}{b}{e:ae->X}{i:ae->x}(p:∀s,bv k b (e s) (i s)):∀{d:m ae}{a:m K},rx i d=f a->c d=c a/\∀(h:Nat)j,a[h]?=f j->∃q,(d.map e)[h]?=f q/\Rd b.C q j
 |[],a,g=>by cases g;grind
 |r::B,a,g=>by
  simp[rx]at g;split at g
  .rename_i j u;split at g
   .rename_i A t;cases g;obtain⟨y,w⟩:=BJ p t;refine⟨by grind,λh z o=>?_⟩;cases h with
    |zero=>
     simp at o;subst o;have:=p r;rw[u]at this;exact⟨e r,by simp,b6 this⟩
    |succ h=>grind
   grind
  grind
section
variable {ac:m (Nat×cm)}
theorem a0.makeFunc{fn}{b i}(m:q.op=.makeFunc fn b i){j h}(r:rx η b.toList=f j)(e:rx η i.toList=f h):a0 P q η k (ax (.fn fn j h)) k:=by
 refine .aS λy a s d=>?_;obtain⟨o,p⟩:=BJ d r;obtain⟨w,x⟩:=BJ d e;have t:b.map a=(b.toList.map a).toArray:=M;have u:i.map a=(i.toList.map a).toArray:=M;refine⟨.func fn (b.toList.map a).toArray (i.toList.map a).toArray,?_,?_,by simp only[ab,m,Instr.makeFunc];rfl⟩
 .simp only[ab,m,Instr.makeFunc,t,u];rfl
 refine Rd.fn _ _ M M (λg=>((b.toList.map a)[g]?).getD I) (λg=>((i.toList.map a)[g]?).getD I) M M M ?_;grind
def vl:TypeDesc->Bool
 |.interface _=>l
 |_=>v
def yD(b:al):x->Option K
 |.n (.R (.c d))=>f (.cd b d)
 |.n (.agg a)=>match h5 a with
  |some e=>f (.cD b e)
  |none=>n
 |_=>n
def ZJ{g}{r}(a:yD o g=f r)(d:bv k b aa g):Rd b.C (.iface o aa) r:=by
 unfold yD at a;split at a
 .cases a;exact Rd.cd (b6 d) (b6 d).cell
 .split at a
  .rename_i q h;cases a;obtain⟨y,rfl,j⟩:=d;have e:=ry h j;refine Rd.cD (by have:=e.cH;grind) (λt=>(y[t]?).getD I) (λt i=>by grind) λt r i=>?_;obtain⟨aa,p,m⟩:=e.get (t:=t) (w:=.c r) M;rw[p];exact m
  grind
 grind
theorem a0.makeInterface(aY:bZ P ac){o}{b}(m:q.op=.makeInterface o b){e}(g:bW ac o=f e)(a:vl e.desc=v){r}(p:yD o (η b)=f r):a0 P q η k (ax r) k:=by
 refine .aS λt i s h=>?_;have j:=(aY o e g).run_underlying (Q:=t.a);refine⟨.iface o (i b),?_,ZJ p (h b),?_⟩
 rotate_left
 .simp only[ab,m,Instr.makeInterface,aD,cK,j,aF,c9,events_underlying];cases d:e.desc<;>rw[d]at a<;>first|(cases a;done)|simp
 simp[ab,m,Instr.makeInterface,cK,j,c9];cases d:e.desc<;>rw[d]at a<;>first|(cases a;done)|simp
def tS(a:cm):Option E1:=match a.agg with
 |true=>f (.agg (a.zero.map O.c))
 |false=>n
def ad_{e}(p:eL P o e){j}(g:tS e=f j):∃a,(zeroValue o).run P b.a=.ok a b.a/\ey k b a j:=by
 obtain⟨a,u,i⟩:=p.hX k b;refine⟨a,u,?_⟩;obtain⟨w,m,t,x,A,s,y,⟨h,d⟩,z⟩:=p.cW;have q:m=a:=by
  have:(zeroValue o).run P b.a=.ok m b.a:=by simp[zeroValue,typeInfo,t,s]
  grind
 subst q;unfold tS at g;cases r:e.agg with
 |true=>
  rw[r]at g d;simp[dA]at d;cases g;rw[d]at i⊢;exact⟨h.toList,by simp,by simpa[Value.cells]using i⟩
 |false=>grind
def sC(g:al)(e:cm):K->Option (E1×Bool)
 |.cd a h=>match ad a g with
  |true=>f (.R (.c h),l)
  |false=>match tS e with
   |some b=>f (b,v)
   |none=>n
 |.cD a d=>match ad a g with
  |true=>f (.agg (d.map O.c),l)
  |false=>match tS e with
   |some b=>f (b,v)
   |none=>n
 |.bE=>match tS e with
  |some b=>f (b,v)
  |none=>n
 |_=>n
theorem a0.typeAssert(aY:bZ P ac){T}{R o}(aa:q.op=.typeAssert T R o l){e}(K:bW ac o=f e)(x:vl e.desc=v){r}(H:η T=ax r){w}{i}(h:sC o e r=f (w,i)):
  a0 P q η k (.Q [w,.R (.c (.bool i))]) k:=by
 refine .aS λb u ah V=>?_;have j:=V T;rw[H]at j;replace j:=b6 j;generalize af:u T=z at j;have E:=(aY o e K).run_underlying (Q:=b.a);have key:∀p i,(Instr.typeAssert z R o l).run P b.a=.ok (.tuple #[p,.bool i]) b.a->ey k b p w->(Instr.typeAssert z R o l).events P b.a #[]=#[]->∃p,(ab u q).run P b.a=.ok (.value p) b.a/\bv k b p (.Q [w,.R (.c (.bool i))])/\(ab u q).events P b.a #[]=#[]:=by intro p i j B m;refine⟨.tuple #[p,.bool i],?_,⟨[p,.bool i],a,B,Rd.bool,A⟩,by simp[ab,aa,af,aD,j,m,aF,Sem.events_pure]⟩;simp[ab,aa,af,cK,j,c9,dZ]
 have fail:∀F,tS e=f F->(∀I,(zeroValue o).run P b.a=.ok I b.a->(Instr.typeAssert z R o l).run P b.a=.ok (.tuple #[I,.bool v]) b.a/\(Instr.typeAssert z R o l).events P b.a #[]=#[])->w=F->i=v->∃p,(ab u q).run P b.a=.ok (.value p) b.a/\bv k b p (.Q [w,.R (.c (.bool i))])/\(ab u q).events P b.a #[]=#[]:=by intro F C al ak g;subst ak g;obtain⟨I,m,ao⟩:=ad_ (k:=k) (aY o e K) (b:=b) C;grind
 have D:∀ae,e.desc≠.interface ae:=by intro ae w;rw[w]at x;cases x
 cases j with
 |@cd t p r B ag=>
  simp[sC]at h;cases g:ad t o with
  |true=>
   rw[g]at h;cases h;have U:=dn g;subst U;refine key p l ?_ B ?_<;>
   .unfold Instr.typeAssert;simp only[cK,E,c9,aD,aF,events_underlying];cases s:e.desc<;>first|(exact absurd s (D _))|simp
  |false=>
   rw[g]at h;have X:t≠o:=λw=>by grind[Nat.beq_refl]
   simp only at h;split at h
   .rename_i F C;cases h;refine fail _ C (λI m=>⟨?_,?_⟩) a a<;>
    .unfold Instr.typeAssert;simp only[cK,E,c9,aD,aF,events_underlying];cases s:e.desc<;>first|(exact absurd s (D _))|simp[X,m]
   grind
 |@cD t y d N aq an G=>
  simp only[sC]at h;cases g:ad t o with
  |true=>
   rw[g]at h;cases h;have U:=dn g;subst U;refine key (.agg y.toArray) l ?_ ⟨y,a,?_⟩ ?_
   rotate_left 2
   .unfold Instr.typeAssert;simp only[E,aD,aF,events_underlying];cases s:e.desc<;>first|(exact absurd s (D _))|simp
   .unfold Instr.typeAssert;simp only[cK,E,c9];cases s:e.desc<;>first|(exact absurd s (D _))|simp
   have go:∀y d,c y=c d->(∀(S:Nat) r,d[S]?=f r->∃p,y[S]?=f p/\Rd b.C p r)->bM k b y (d.map O.c):=by
    intro y;induction y with
    |nil=>intro d N _;cases d with|nil=>trivial|cons _ _=>grind
    |cons p y W=>
     intro d N J;cases d with
     |nil=>grind
     |cons r d=>
      obtain⟨ar,Z,Y⟩:=J 0 r rfl;simp at Z;subst Z;exact⟨Y,W d M (λS r ai=>by simpa using J (S+1) r M)⟩
   grind
  |false=>
   rw[g]at h;have X:t≠o:=λw=>by grind[Nat.beq_refl]
   simp only at h;split at h
   .rename_i F C;cases h;refine fail _ C (λI m=>⟨?_,?_⟩) a a<;>
    .unfold Instr.typeAssert;simp only[cK,E,c9,aD,aF,events_underlying];cases s:e.desc<;>first|(exact absurd s (D _))|simp[X,m]
   grind
 |bE=>
  simp only[sC]at h;split at h
  .rename_i F C;cases h;refine fail _ C (λI m=>⟨?_,?_⟩) a a<;>
   .unfold Instr.typeAssert;simp only[cK,E,c9,aD,aF,events_underlying];cases s:e.desc<;>first|(exact absurd s (D _))|simp[m]
  grind
 |_=>simp[sC]at h
end
def uH(e:BinOp)(g:IntKind)(d:Int)(b:IntKind)(a:Int):Option (Int×m Prop):=
 match g with
 |.u64=>match e with
  |.shl=>f (((d.toNat*2 ^ a.toNat % 18446744073709551616:Nat):Int),[0<=a,a<=64])
  |.shr=>f (((d.toNat / 2 ^ a.toNat:Nat):Int),[0<=a,a<=64])
  |.and=>match b with|.u64=>f (((d.toNat &&& a.toNat:Nat):Int),[])|_=>n
  |.xor=>match b with|.u64=>f (((d.toNat ^^^ a.toNat:Nat):Int),[])|_=>n
  |_=>n
 |_=>n
section
variable {ac:m (Nat×cm)}
theorem Gv{a}(b:a8 .u64 a):(BitVec.ofInt IntKind.u64.bits a).toNat=a.toNat:=by rw[BitVec.toNat_ofInt];simp[a8]at b;simp[IntKind.bits];omega
def aa4{h d}{a i r}(o)(b:uH op h a d i=f (r,cl))(e:T cl)(g:a8 h a)(q:a8 d i)(j):
  a8 h r/\(Go.binOp op o (.int h a) (.int d i)).run P j=.ok (.int h r) j/\(Go.binOp op o (.int h a) (.int d i)).events P j #[]=#[]:=by
 unfold uH at b;split at b
 .split at b
  .cases b;obtain⟨p,m⟩:0<=i/\i<=64:=e;have x:a.toNat*2 ^ i.toNat % 18446744073709551616<18446744073709551616:=pU _ ca;simp[a8]at g;refine⟨by simp[a8];omega,?_⟩;have s:IntKind.wrap .u64 (a*2 ^ (min i.toNat IntKind.u64.bits))=((a.toNat*2 ^ i.toNat % 18446744073709551616:Nat):Int):=by have k:min i.toNat IntKind.u64.bits=i.toNat:=Rz;have t:a=(a.toNat:Int):=u;rw[k,t];simp only[IntKind.wrap,IntKind.bits,IntKind.signed,cZ];grind
   exact PA
  .cases b;obtain⟨p,m⟩:0<=i/\i<=64:=e;simp[a8]at g;have w:a.toNat / 2 ^ i.toNat<=a.toNat:=Nat.div_le_self _ _;refine⟨by simp[a8];grind,?_⟩;have s:a.fdiv (2 ^ (min i.toNat IntKind.u64.bits))=((a.toNat / 2 ^ i.toNat:Nat):Int):=by have k:min i.toNat IntKind.u64.bits=i.toNat:=Rz;grind
   exact PA
  .split at b
   .cases b;have m:a.toNat &&& i.toNat<=a.toNat:=Nat.and_le_left;have N:a8 .u64 ((a.toNat &&& i.toNat:Nat):Int):=by simp[a8]at g⊢;omega
    refine⟨N,?_⟩;have au:(BitVec.ofInt IntKind.u64.bits a &&& BitVec.ofInt IntKind.u64.bits i).toNat=a.toNat &&& i.toNat:=by grind[Gv]
    exact Qx
   grind
  .split at b
   .cases b;have N:a8 .u64 ((a.toNat ^^^ i.toNat:Nat):Int):=by simp[a8]at g q⊢;have:a.toNat ^^^ i.toNat<2 ^ 64:=Nat.xor_lt_two_pow u u;omega
    refine⟨N,?_⟩;have au:(BitVec.ofInt IntKind.u64.bits a ^^^ BitVec.ofInt IntKind.u64.bits i).toNat=a.toNat ^^^ i.toNat:=by grind[Gv]
    exact Qx
   grind
  grind
 grind
theorem a0.bits{j m:ae}{h e}{u i r}(z:q.op=.binOp op o j m ty)(F:η j=ax (.int h u))(D:η m=ax (.int e i))(C:uH op h u e i=f (r,cl))(t:T cl):
  a0 P q η k (ax (.int h r)) k:=by
 refine .aS λI g A d=>?_;have a:=d j;have b:=d m;rw[F]at a;rw[D]at b;replace a:=b6 a;replace b:=b6 b;generalize w:g j=J at a;generalize x:g m=K at b;cases a with|int p=>
 cases b with|int s=>
 obtain⟨E,y,B⟩:=aa4 (P:=P) o C t p s I.a;exact⟨.int h r,by simp[ab,z,cK,w,x,qe,c9,y,dZ],.int E,by simp[ab,z,w,x,qe,xX,y,B]⟩
end
def l3(e:Nat)(a:m K)(b:Nat->m K):Nat->m K:=λd=>if d=e then a else b d
def nK(e b:Nat)(g:m K)(a:Nat->m K):Nat->m K:=λd=>if e<=d/\d<b then g else a d
section
variable {ac:m (Nat×cm)}{B:Nat}{h:Nat}
def GF(C:bb k b)(q:k[d]?=f (.p W h j U)){m r}(x:cB k b aa (.N d (.bt B m e r)))(E:B=j):
  ∃g i y a,b.s[d]?=f ⟨.slice (f ⟨g,0,n⟩) 0 i,[g]⟩/\aa=.pointer (f ⟨g,e*m+r,n⟩)/\b.a.heap[g]?=f (.cells (y++a).toArray W (0,0))/\c (y++a)=i*h/\j<=i/\i<=9223372036854775807/\eU b.C h j U y/\∀w,b.C g w=n:=by
 obtain⟨J,⟨g,i,u,A⟩,_,O⟩:=x;obtain⟨L,s,p⟩:=(O _ _ _ _ q).2 E;rw[u]at p;rcases C.box d _ L q s with⟨_,rfl⟩|⟨K,g9,y,a,rfl,F,o,I,t,D,z⟩
 .cases p
 cases p;exact⟨g,i,y,a,s,A,F,o,I,t,D,z⟩
def DP{B:Nat->X}:∀{bf:m K}{z:Nat},(∀d e,bf[d]?=f e->Rd b.C (B (z+d)) e)->bM k b ((az (c bf)).map λd=>B (z+d)) (bf.map O.c)
 |[],z,_=>trivial
 |h::bf,z,g=>by rw[fh,wO];refine⟨g 0 h a,?_⟩;have:=DP (bf:=bf) (z:=z+1) (λd e i=>by have:=g (d+1) e M;rwa [show z+1+d=z+(d+1) by omega]);grind[Function.comp_def]
theorem a0.jf(aY:bZ P ac){i j:ae}(N:q.op=.indexAddr o i j){e a4}(m:bW ac o=f e)(K:e.desc=.slice W)(x:bW ac W=f a4){s}{t}{p}(H:η i=cD d (.A B a4.size s z))(F:η j=ax (.int p t))(af:0<=t)(R:t<z):a0 P q η k (cD d (.bt B a4.size (s+t.toNat) 0)) k:=by
 refine .aS λE g S b=>?_;have D:=b i;rw[H]at D;have a:=b j;rw[F]at a;replace a:=b6 a;generalize O:g j=Y at a;cases a;have C:=D;change cB k E (g i) (.N d _)at C;obtain⟨r,⟨ag,M,A,J,I,L,G,aa,Z,V⟩,U,T⟩:=C;obtain⟨y,rfl,rfl⟩:=V u;have w:=(aY o e m).run_underlying (Q:=E.a);rw[K]at w;obtain⟨h,rfl⟩:∃h:Nat,t=h:=⟨t.toNat,by omega⟩
 have X:h<z:=u;refine⟨.pointer (f ⟨y,(s+h)*a4.size,n⟩),?_,⟨r,⟨y,J,Z,by simp⟩,U,T⟩,?_⟩<;>
 simp[ab,N,I,O,Instr.indexAt,asIntOf,w,(aY W a4 x).a',g0,X,jD]
def a0.iS(aY:bZ P ac){b:ae}{r}(s:q.op=.fieldAddr o b r){z i}{t}(F:η b=cD d (.bt B z e i))(u:lb ac o r=f (off,t)):a0 P q η k (cD d (.bt B z e (i+off))) k:=by refine .aS λD j A g=>?_;have a:=g b;rw[F]at a;have m:=a;change cB k D (j b) (.N d _)at m;obtain⟨h,⟨p,E,C,w⟩,y,x⟩:=m;exact⟨.pointer (f ⟨p,e*z+i+off,n⟩),by simp[ab,s,w,y5 aY u],⟨h,⟨p,E,C,by grind⟩,y,x⟩,by simp[ab,s,w,xY aY u]⟩
theorem a0.jA{b:ae}(o:q.op=.nilCheck b){m p}(u:η b=cD d (.bt B m e p)):a0 P q η k (cD d (.bt B m e p)) k:=by refine .aS λw g s h=>?_;have a:=h b;rw[u]at a;have r:=a;have i:=a;change cB k w (g b) (.N d _)at i;obtain⟨t,⟨x,C,A,j⟩,z,y⟩:=i;exact⟨g b,by simp[ab,o,j],r,by simp[ab,o,j]⟩
theorem a0.jk(aY:bZ P ac){b:ae}(u:q.op=.call {callee:=.builtin .len,args:=#[b],argTypes:=ds})(O:ds[0]?=f o){e}(g:bW ac o=f e)(t:e.desc=.slice W){D A}(K:η b=cD d (.A B D A z)):a0 P q η k (ax (.int .i64 z)) k:=by
 refine .aS λr i w h=>?_;have a:=h b;rw[K]at a;have j:=a;change cB k r (i b) (.N d _)at j;obtain⟨y,⟨F,s,m,x,C,S,N,E,R,M⟩,J,I⟩:=j;have p:=(aY o e g).run_underlying (Q:=r.a);rw[t]at p;refine⟨.int .i64 z,?_,Rd.int cS,?_⟩<;>
 simp[ab,u,resolve,invoke,builtin,Builtin.len_,C,p,goInt,O]
theorem a0.sliceB(aY:bZ P ac){w:ae}{e5 bp}(J:q.op=.slice o w e5 bp n){e a4}(X:bW ac o=f e)(K:e.desc=.slice W)(x:bW ac W=f a4){N}{j t}(H:η w=cD d (.A B a4.size N z))(r:kF η e5=f j)(O:kF η bp=f t)(s:T (ji z j t)):a0 P q η k (cD d (.A B a4.size (N+bU 0 j) (bU z t-bU 0 j))) k:=by
 refine .aS λg D S b=>?_;have m:=b w;rw[H]at m;have I:=m;change cB k g (D w) (.N d _)at I;obtain⟨C,⟨F,y,h,R,E,M,af,aa,Z,Y⟩,V,U⟩:=I;obtain⟨p,ag,G⟩:=vP (P:=P) (kn:=l) M (kf b r) (kf b O) s g.a;have A:=(aY o e X).run_underlying (Q:=g.a);rw[K]at A;refine⟨.slice (if h=bU 0 j then F else F.map (·.add (bU 0 j*a4.size))) (bU z t-bU 0 j) (h-bU 0 j),?_,⟨C,⟨_,y,_,R,a,by omega,by omega,aa,Z,λah=>?_⟩,V,U⟩,by simp[ab,J,E,Instr.sliceAt,A,Instr.slice,p,u2 (P:=P) (kn:=l) M (kf b r) (kf b O) s g.a]⟩
 .simp[ab,J,E,Instr.sliceAt,A,Instr.slice,p,(aY W a4 x).a']
 obtain⟨i,rfl,rfl⟩:=Y u;exact PR
def a0.e8(aY:bZ P ac){N:ae}(T:q.op=.load o N){m}{D}{au}(ag:η N=cD d (.bt B h e m))(A:B=j)(F:k[d]?=f (.p W h j U))(w:bW ac o=f D)(R:hj D ((f_ m (U e)).map O.c)=f au)(Z:e<j):a0 P q η k (.n au) k:=by
 refine .du λb Q E J=>?_;have u:=J N;rw[ag]at u;obtain⟨i,av,y,aq,af,G,ah,H,an,L,x,ao⟩:=GF E F u A;have aL:=x.bF e Z;let B:Nat->X:=λa=>y.getD (e*h+a) I;have A:∀a r,(f_ m (U e))[a]?=f r->y[e*h+(m+a)]?=f (B (m+a))/\Rd b.C (B (m+a)) r:=by intro a r g;rw[rA,pT]at g;obtain⟨s,al,ar⟩:=x.rd e Z (m+a) r g;grind
 have K:=DP (k:=k) (b:=b) (B:=B) (bf:=f_ m (U e)) (z:=m) (λa r g=>(A a r g).2);have S:∀a s,((az (c (f_ m (U e)))).map λa=>B (m+a))[a]?=f s->b.a.cell? ⟨i,e*h+m+a,n⟩=f s:=by
  intro a s g;simp[m6]at g;by_cases V:a<c (f_ m (U e))
  .simp[V]at g;subst g;have ai:=(A a _ (bI V)).1;simp[aJ,ah];grind
  grind
 obtain⟨s,Y,aa⟩:=tx (b:=b) (k:=k) (P:=P) (aY o D w) (i:=i) (off:=e*h+m) (au:=au) S K R;refine⟨s,by simp[ab,T,G,Instr.loadAt,Instr.sureAddr,Y],aa,λt p=>?_⟩;have ak:t∈(loadVar o ⟨i,e*h+m,n⟩).events P b.a #[]:=by
  have au:ab Q q=(do pure (.value (<-loadVar o ⟨i,e*h+m,n⟩))):=by simp[ab,T,G,Instr.loadAt,Instr.sureAddr]
  rw[au]at p;simpa[Y]using p
 obtain⟨a,g,rfl⟩:=o5 (aY o D w) (j:=c (f_ m (U e))) (λa g=>⟨_,S a (B (m+a)) M⟩) (by have:=r7 R;grind) t ak;exact qf (b8 af) C
def eU.put{jw}{b}{gN ci}(m:eU bz h j U y)(p:e<j)(I:i4 b gN (U e)=f ci)(A:c jw=c gN)(E:∀(g:Nat)k,gN[g]?=f k->∃aa,jw[g]?=f aa/\Rd bz aa k):
  e*h+b+c jw<=c y/\eU bz h j (l3 e ci U) (y.take (e*h+b)++jw++y.drop (e*h+b+c jw)):=by
 obtain⟨x,s⟩:=Eb I;have Q:=m.bF e p;have z:e*h+h<=j*h:=by have:=g7 h (show e+1<=j by omega);grind
 have K:=m.len;have C:e*h+b+c jw<=c y:=u;have N:∀i,(y.take (e*h+b)++jw++y.drop (e*h+b+c jw))[i]?=if i<e*h+b then y[i]? else if i<e*h+b+c jw then jw[i-(e*h+b)]? else y[i]?:=by
  intro i;have D:c (y.take (e*h+b))=e*h+b:=M;by_cases o:i<e*h+b
  .grind
  rw[bm o];by_cases r:i<e*h+b+c jw
  .grind
  rw[bm r,ho M,pT];grind
 refine⟨C,⟨by grind,λd q=>?_,λd q g k a=>?_⟩⟩
 .simp only[l3];split
  .grind
  exact m.bF d q
 simp[l3]at a;rw[N];split at a
 .rename_i w;subst w;rw[s]at a;by_cases o:g<b
  .rw[mh,j6 M,h2,bo o]at a;rw[bo u];exact m.rd d p g k a
  by_cases r:g<b+c gN
  .rw[mh,ho M,j6 M]at a;obtain⟨aa,t,F⟩:=E _ k a;refine⟨aa,?_,F⟩;rw[bm u,bo u,<-t];congr 1;grind
  rw[ho M,pT]at a;rw[bm u,bm u];refine m.rd d p g k ?_;grind
 rename_i w;have O:g<h:=by have:=(cO.1 a).1;have:=m.bF d q;omega
 rcases dW d e with B|J
 .have:(d+1)*h<=e*h:=g7 h B;rw[jD,Nat.one_mul]at this;rw[bo u];exact m.rd d q g k a
 have:(e+1)*h<=d*h:=g7 h u;rw[jD,Nat.one_mul]at this;rw[bm u,bm u];exact m.rd d q g k a
def bb.gD(r:bb k b)(t:k[d]?=f (.p W h j U)){q p}{e}(R:b.s[d]?=f ⟨.slice (f ⟨i,0,n⟩) 0 e,[i]⟩)(X:c (y++q)=e*h)(F:j<=e)(I:e<=9223372036854775807){g:Nat->m K}(w:b.a.heap[i]?=f (.cells (y++q).toArray W (0,0)))(O:eU b.C h j g p)(V:c p=c y)(N:∀E,b.C i E=n):
  bb (k.set d (.p W h j g)) {b with a:=b.a.setRow i (p++q).toArray}/\cN k b (k.set d (.p W h j g)) {b with a:=b.a.setRow i (p++q).toArray}:=by
 have D:(b.a.setRow i (p++q).toArray).heap[i]?=f (.cells (p++q).toArray W (0,0)):=setRow_heap b.a i _ _ W _ w;have B:∀o,o≠i->(b.a.setRow i (p++q).toArray).heap[o]?=b.a.heap[o]?:=λo s=>setRow_other b.a i o _ s;have S:b.s.set d ⟨.slice (f ⟨i,0,n⟩) 0 e,[i]⟩=b.s:=mU;obtain⟨J,t2⟩:=r.b4 (cg:=b.C) (bg:=b.a.setRow i (p++q).toArray) (ec:=.p W h j g) (cu:=⟨.slice (f ⟨i,0,n⟩) 0 e,[i]⟩) t R ⟨λ_=>rfl,bA _⟩ C
  (λo s A=>B o M) (λ_ _ _ _=>rfl) (λ_ _ _ z=>z) (λo u Q x=>by
   have T:o≠i:=M;have:=r.mem o u Q x;rw[<-this];simp[aJ]
   grind) (λo s=>⟨.inl s,by grind⟩) a a a
  (.inr ⟨i,e,p,q,rfl,D,by grind,F,I,O,N⟩)
 grind
def Mj{e:Type}:∀{new d:m e},c new=c d->i4 0 new d=f new
 |[],[],_=>rfl
 |[],_::_,g=>by grind
 |_::_,[],g=>by grind
 |i::b,h::a,g=>by simp[i4,Mj (new:=b) (d:=a) M]
def a0.h4(aY:bZ P ac){F i:ae}(X:q.op=.store o F i){m}{x}{new}{gN ci}(al:η F=cD d (.bt B h e m))(ai:B=j)(w:k[d]?=f (.p W h j U))(u:bW ac o=f x)(ak:mm (η i)=f new)(K:c new=x.size)(G:h5 new=f gN)(I:c (U e)=h->i4 m gN (U e)=f ci)(aa:e<j):
  a0 P q η k .any (k.set d (.p W h j (l3 e ci U))):=by
 intro E b t z;have s:=z F;rw[al]at s;obtain⟨A,aw,y,p,T,aL,J,H,ag,ah,V,S⟩:=GF t w s ai;have D:=uS ak (z i);have R:=ry G D;have L:=bM.eY R;have aq:(b i).cells.toList.length=c gN:=by have:=R.cH;grind
 replace I:=I (V.bF e aa);obtain⟨av,N⟩:=V.put aa I aq L;have Z:(b i).cells.size=x.size:=by rw[<-K,<-D.cH,m4]
 obtain⟨O,t2⟩:=t.gD w T H ag ah J N M S;have Y:=run_storeCells_at P A (e*h+m) W (b i).cells.toList 0 (y++p).toArray E.a J M D.cell;have af:((y++p).toArray.toList.take (e*h+m+0)++(b i).cells.toList++(y++p).toArray.toList.drop (e*h+m+0+(b i).cells.toList.length))=y.take (e*h+m)++(b i).cells.toList++y.drop (e*h+m+(b i).cells.toList.length)++p:=M;rw[af]at Y;refine⟨.skip,_,?_,a,O,t2,?_⟩
 .simp[ab,X,aL,Instr.storeAt,Instr.sureAddr,storeVar,(aY o x u).a',Z,Y]
 intro r g;have an:ab b q=(do storeVar o ⟨A,e*h+m,n⟩ (b i);pure .skip):=by simp[ab,X,aL,Instr.storeAt,Instr.sureAddr]
 rw[an]at g;have ao:r∈(storeCells ⟨A,e*h+m,n⟩ (b i).cells.toList).events P E.a #[]:=by
  simp[storeVar,aD,(aY o x u).a',Z,aF,events_sizeOf,d6,hB,dm,cK,c9,Sem.events_pure]at g;generalize(storeCells ⟨A,e*h+m,n⟩ (b i).cells.toList).run P E.a=ar at g;cases ar with
  |ok aA Q=>simpa using g
  |halt F Q=>simpa using g
 rcases nd (b i).cells.toList 0 (y++p).toArray E.a #[] J M D.cell r ao with au|⟨ax,_,_,rfl⟩
 .grind
 exact n_ (b8 T) C (S _)
end
section
def bb.fx(j:bb k b)(q:∀a,b.C i a=n)(r:∀a e,y[a]?=f e->b.a.cell? ⟨i,a,n⟩=f e):
  bb (k.map λ_=>.M) {b with C:=λd a=>if d=i then y[a]? else b.C d a}/\∀d a e,b.C d a=f e->(if d=i then y[a]? else b.C d a)=f e:=by
 have g:=j.dU;refine⟨⟨λd a e h=>?_,g.len,λs p L aH o=>?_,g.a0,g.lt,g.own⟩,λd a e h=>?_⟩
 .by_cases m:d=i
  .grind
  simp[m,dm]at h;exact g.mem d a e h
 .have:=b8 aH;simp at this;rw[<-this.2];trivial
 grind
def dv.gI{e}{U}(r:dv {b with C:=e} U){L}(x:L∈b.s)(s:i∈L.aj)(w:∀h k g,b.C h k=f g->e h k=f g)(u:∀h k g,e h k=f g->h=i∨b.C h k=f g):dv b U:=by
 intro o q;have d:=r o q;unfold h6 at d⊢;split at d
 .obtain⟨kD,j5,a⟩:=d;refine⟨kD,j5,?_⟩;rcases a with a|⟨a,j⟩|⟨a,g,j⟩
  .grind
  .refine .inr (.inl ⟨a,λp=>?_⟩);have:=j p;rename_i m _;cases t:b.C m.block m.off with
   |none=>rfl
   |some g=>grind
  grind
 all_goals exact d
end
def nf(e:Nat)(a:Nat->Nat->X):Nat->m K:=λb=>(az e).map λd=>.val (a b d)
theorem sU{h}{a:Nat->Nat->X}{r}(b:(nf h a e)[t]?=f r):t<h/\r=.val (a e t):=by
 have d:t<h:=by have:=(cO.1 b).1;simpa[nf]using this
 simp[nf,d]at b;grind
def Cp{h}{a:Nat->Nat->X}(b:t<h):(nf h a e)[t]?=f (.val (a e t)):=by simp[nf,b]
def Rd.exact{bz}{aa}{o}{h j}{d:Nat->m K}(D:Rd bz aa (.A o h j d)):
  ∃k:Nat->Nat->X,Rd bz aa (.A o h j (nf h k))/\(∀a,a<j->c (d a)=h)/\∀a,a<j->∀b i,(d a)[b]?=f i->Rd bz (k a b) i:=by
 cases D with
 |A z q k y u x w t E p=>
  have B:∀a,a<j->∀b,b<h->∃i,(d a)[b]?=f i:=λa e b g=>⟨_,bI M⟩
  refine⟨k,.A z q k y u x (λa _=>by simp[nf]) t (λa e b i g=>?_) (λa e b i g=>?_),w,p⟩
  .grind [sU]
  obtain⟨r,rfl⟩:=sU g;obtain⟨C,s⟩:=B a e b r;exact .val (p a e b C s).cell
def DO{h}{L}{e r}{cap}(aH:k[d]?=f (.p W h j U))(p:b.s[d]?=f L)(m:L.v=.slice r 0 cap)(q:j<=cap)(o:cap<=9223372036854775807)(x:0<cap->∃g,r=f ⟨g,0,n⟩/\e=f ⟨g,0,n⟩):cB k b (.slice e j cap) (.N d (.A j h 0 j)):=
 ⟨L.v,⟨e,r,cap,cap,rfl,q,by omega,o,m,λu=>by grind⟩,(cO.1 aH).1,λw s t i a=>by rw[aH]at a;cases a;exact⟨bA _,λ_=>⟨L,p,rfl⟩⟩⟩
def Gh{bQ bR:ae}{a4}(s:j0 P q bQ bR W a4){z}{bC}{o:Nat->m K}{ak:ae->X}(t:bb k b)(bt:cB k b (ak bQ) (.N d (.A j a4.size 0 j)))(N:k[d]?=f (.p W a4.size j U))(av:Rd b.C (ak bR) (.A bC a4.size z o))(H:(j+z)*a4.bytes<=140737488355328):
  ∃a9 ai,(ab ak q).run P b.a=.ok a9 ai.a/\Ai (k.set d (.p W a4.size (j+z) (cf j U o))) ai a9 (cD d (.A (j+z) a4.size 0 (j+z)))/\bb (k.set d (.p W a4.size (j+z) (cf j U o))) ai/\cN k b (k.set d (.p W a4.size (j+z) (cf j U o))) ai/\dv b ((ab ak q).events P b.a #[]):=by
 obtain⟨bW,t2,g,bU,a5,e,J,aD,aE⟩:=s.op;have bT:=(cO.1 N).1;obtain⟨bV,⟨w,bo,aG,B,a6,bd,bG,bc,a2,bH⟩,_,a8⟩:=bt;obtain⟨L,F,ao⟩:=(a8 _ _ _ _ N).2 rfl;rw[a2]at ao;have aY:B=aG:=u;subst aY;have bD:0<B->∃i,bo=f ⟨i,0,n⟩/\w=f ⟨i,0,n⟩:=λs=>by grind
 have aL:=(cO.1 F).1;have bj:=b8 F;have bF:=t.box d _ L N F;rw[la a5,a6];have row:0<B->∃i y p,w=f ⟨i,0,n⟩/\L=⟨.slice (f ⟨i,0,n⟩) 0 B,[i]⟩/\b.a.heap[i]?=f (.cells (y++p).toArray W (0,0))/\c (y++p)=B*a4.size/\eU b.C a4.size j U y/\∀q,b.C i q=n:=by
  intro x;obtain⟨i,S,Y⟩:=bD x;rcases bF with⟨_,rfl⟩|⟨h,A,y,p,rfl,aa,aM,aN,aO,aP,aQ⟩
  .grind
  grind
 by_cases br:z=0
 .subst br;have aw:=y4 (P:=P) (ty:=q.type) e J aD aE s.elem t (w:=w) bd av;simp only[ka];have bw:bs j U (cf j U o):=λg e=>by simp[cf,e]
  have aT:ew (k.set d (.p W a4.size j (cf j U o))) ⟨b.s.set d L,b.C,b.a,b.own⟩ (.p W a4.size j (cf j U o)) L:=by
   rcases bF with aa|⟨h,A,y,p,av,aa,aM,aN,aO,aP,aQ⟩
   .exact .inl aa
   exact .inr ⟨h,A,y,p,av,aa,aM,aN,aO,aP.cz bw,aQ⟩
  have au:=t.b4 (cg:=b.C) (bg:=b.a) (ec:=.p W a4.size j (cf j U o)) (cu:=L) N F ⟨λ_=>rfl,bA _⟩ (bA _) (λ_ _ _=>rfl) (λ_ _ _ _=>rfl) (λ_ _ _ s=>s) t.mem
   (λi H=>⟨.inl H,t.lt L bj i H⟩) a a a aT
  refine⟨.value (.slice w j B),_,?_,?_,au.1,au.2,iU (xV e J aD aE s.elem t bd av)⟩
  .simp[aw]
  exact DO (W:=W) EU M ao bd bc bD
 .by_cases aI:j+z<=B
  .obtain⟨i,y,p,rfl,rfl,hw,G,E,af⟩:=row u;obtain⟨Q,an,aw⟩:=DW (P:=P) (ty:=q.type) e J aD aE s.elem t hw G av aI;have a7:=E.len;have bL:=an.len;have bJ:j*a4.size+z*a4.size<=B*a4.size:=by rw[<-jD];exact g7 _ aI
   have ah:((y++p).take (j*a4.size)++Q++(y++p).drop (j*a4.size+c Q))=(y++Q)++p.drop (c Q):=by rw[<-a7];simp
   rw[ah]at aw;have aA:=setRow_heap b.a i _ ((y++Q)++p.drop (c Q)).toArray W _ hw;have aB:∀h,h≠i->(b.a.setRow i ((y++Q)++p.drop (c Q)).toArray).heap[h]?=b.a.heap[h]?:=λh ba=>setRow_other b.a i h _ ba;obtain⟨aC,bh⟩:=t.b4 (cg:=b.C) (bg:=b.a.setRow i ((y++Q)++p.drop (c Q)).toArray) (ec:=.p W a4.size (j+z) (cf j U o)) (cu:=⟨.slice (f ⟨i,0,n⟩) 0 B,[i]⟩) N F ⟨λ_=>rfl,by omega⟩ C
    (λh ba bS=>aB h M) (λ_ _ _ _=>rfl) (λ_ _ _ s=>s) (λh bB R a3=>by
     have bK:h≠i:=M;have:=t.mem h bB R a3;rw[<-this];simp[aJ]
     grind) (λh ba=>⟨.inl ba,by grind⟩) a a a
    (.inr ⟨i,B,y++Q,p.drop (c Q),rfl,aA,by grind,aI,bc,E.append an,af⟩)
   refine⟨.value (.slice (f ⟨i,0,n⟩) (j+z) B),_,?_,?_,aC,bh,iU (B7 e J aD aE s.elem t hw G av aI bj C (λq _=>af q))⟩
   .simp[aw]
   exact DO (W:=W) EU (by simp only;rw[iq aL]) a aI bc λ_=>⟨i,a,a⟩
  .have a0:B<j+z:=u;obtain⟨bq,aK,bP,bN⟩:=av.exact;have aH:∃(cg:Mem) (Z:Nat->Nat->X),bb (k.map λ_=>.M) {b with C:=cg}/\(∀h q R,b.C h q=f R->cg h q=f R)/\Rd cg (.slice w j B) (.A v a4.size j (nf a4.size Z))/\(∀{U},dv {b with C:=cg} U->dv b U) /\
     (∀g,g<j->c (U g)=a4.size)/\∀g,g<j->∀r D,(U g)[r]?=f D->Rd b.C (Z g r) D:=by
    by_cases x:0<B
    .obtain⟨i,y,p,rfl,rfl,hw,G,E,af⟩:=row x;obtain⟨A,T⟩:=t.fx (i:=i) (y:=y) af (λq R a5=>by
      simp only[aJ,hw]
      grind)
     have bE:∀g,g<j->∀r D,(U g)[r]?=f D->y[g*a4.size+r]?=f (y.getD (g*a4.size+r) I)/\Rd b.C (y.getD (g*a4.size+r) I) D:=by intro g e r D O;obtain⟨R,a_,a'⟩:=E.rd g e r D O;grind
     have aV:∀g,g<j->∀r,r<a4.size->∃D,(U g)[r]?=f D:=λg e r O=>⟨_,bI (by rw[E.bF g e];exact O)⟩
     refine⟨_,λg r=>y.getD (g*a4.size+r) I,A,T,.A i 0 (λg r=>y.getD (g*a4.size+r) I) bd bc C (λg _=>by simp[nf]) bk (λg e r D O=>?_) (λg e r D O=>?_),λbx=>?_,E.bF,λg e r D O=>(bE g e r D O).2⟩
     .obtain⟨S,_⟩:=sU O;grind
     .obtain⟨S,rfl⟩:=sU O;obtain⟨bp,Y⟩:=aV g e r S;exact .val (bE g e r bp Y).2.cell
     exact bx.gI (i:=i) bj C T λh q R a6=>by grind
    have S:B=0:=u;have Y:j=0:=u;subst S Y;have aF:=t.dU;exact⟨b.C,λ_ _=>I,⟨aF.mem,aF.len,aF.box,aF.a0,aF.lt,aF.own⟩,λ_ _ _ s=>s,Rd.dJ,λs=>s,λg e=>by omega,λg e=>by omega⟩
   obtain⟨cg,Z,A,T,aU,aR,bO,bM⟩:=aH;have al:=aK.mono T;obtain⟨bl,p,bf,bm,aq,ar,ax,aw⟩:=vO (P:=P) (b:={b with C:=cg}) (ty:=q.type) e J aD aE s.elem A aU al a0 H s.bytes;have aZ:=u1 (P:=P) (b:={b with C:=cg}) (ty:=q.type) e J aD aE s.elem A aU al a0 H s.bytes;have aS:eU b.C a4.size (j+z) (cf j U o) bl:=by
    refine⟨bm.len,λg e=>?_,λg e r D O=>?_⟩
    .by_cases V:g<j
     .simp only[cf,V,dA];grind
     simp only[cf,V,dm];grind
    by_cases V:g<j
    .simp only[cf,V,dA]at O;have bn:r<a4.size:=M;obtain⟨R,a_,a'⟩:=bm.rd g e r (.val (Z g r)) (by simp only[cf,V,dA];exact Cp bn);grind[Rd.ba]
    simp only[cf,V,dm]at O;have bn:r<a4.size:=M;obtain⟨R,a_,a'⟩:=bm.rd g e r (.val (bq (g-j) r)) (by simp only[cf,V,dm];exact Cp bn);grind[Rd.ba]
   have bz:∀q,b.C b.a.heap.size q=n:=λq=>by
    cases ag:b.C b.a.heap.size q with
    |none=>rfl
    |some R=>have:=t.block ag;omega
   obtain⟨aC,bh⟩:=t.b4 (cg:=b.C) (bg:=b.a.drew.alloc (.cells (bl++p).toArray W)) (ec:=.p W a4.size (j+z) (cf j U o)) (cu:=⟨.slice (f ⟨b.a.heap.size,0,n⟩) 0 bf,[b.a.heap.size]⟩) N F
    ⟨λV=>absurd V u,by omega⟩ C (λi H _=>iX b.a.drew _ H) (λ_ _ _ _=>rfl) (λ_ _ _ s=>s) (λi q R ag=>by have a1:=t.block ag;rw[<-t.mem i q R ag];simp only[aJ];rw[iX b.a.drew _ a1];rfl) (λi H=>by simp at H;exact bu) a a a (.inr ⟨b.a.heap.size,bf,bl,p,rfl,lS b.a.drew _,ax,aq,ar,aS,bz⟩)
   refine⟨.value (.slice (f ⟨b.a.heap.size,0,n⟩) (j+z) bf),_,?_,?_,aC,bh,iU (aR aZ)⟩
   .simp only at aw;simp[aw]
   exact DO (W:=W) EU (by simp only;rw[iq aL]) a aq ar λ_=>⟨_,a,a⟩
def a0.ib{r s:ae}{a4}(x:j0 P q r s W a4){b}{p}{a:Nat->m K}(w:η r=cD d (.A j a4.size 0 j))(o:k[d]?=f (.p W a4.size j U))(u:∀g t,bv k g t (η s)->Rd g.C t (.A p a4.size b a))(h:(j+b)*a4.bytes<=140737488355328):
  a0 P q η k (cD d (.A (j+b) a4.size 0 (j+b))) (k.set d (.p W a4.size (j+b) (cf j U a))):=
 λg y i e=>Gh x i (by have:=e r;rw[w]at this;exact this) o (u g _ (e s)) h
section
variable {ac:m (Nat×cm)}
def a0.jr(aY:bZ P ac){g:ae}(s:q.op=.call {callee:=.builtin .len,args:=#[g],argTypes:=ds})(r:ds[0]?=f o){e}(b:bW ac o=f e)(m:e.desc=.slice W){i}{cap}(w:η g=ax (.val (.slice i j cap)))(u:j<=9223372036854775807):a0 P q η k (ax (.int .i64 j)) k:=by
 refine .aS λx y t d=>?_;have a:=d g;rw[w]at a;have p:=Rd.ba (b6 a);have h:=(aY o e b).run_underlying (Q:=x.a);rw[m]at h;refine⟨.int .i64 j,?_,Rd.int cS,?_⟩<;>
 simp[ab,s,resolve,invoke,builtin,Builtin.len_,p,h,goInt,r]
theorem a0.jg(aY:bZ P ac){r h:ae}(A:q.op=.indexAddr o r h){e a4}(m:bW ac o=f e)(D:e.desc=.slice W)(E:bW ac W=f a4){cap}{t}{p}(J:η r=ax (.val (.slice (f ⟨i,off,n⟩) j cap)))(I:η h=ax (.int p t))(N:0<=t)(B:t<j):a0 P q η k (ax (.val (.pointer (f ⟨i,off+t.toNat*a4.size,n⟩)))) k:=by
 refine .aS λK s C d=>?_;have w:=d r;rw[J]at w;have F:=Rd.ba (b6 w);have b:=d h;rw[I]at b;replace b:=b6 b;generalize z:s h=M at b;cases b;have x:=(aY o e m).run_underlying (Q:=K.a);rw[D]at x;obtain⟨g,rfl⟩:∃g:Nat,t=g:=⟨t.toNat,by omega⟩
 have y:g<j:=u;refine⟨.pointer (f ⟨i,off+g*a4.size,n⟩),?_,Rd.val a,?_⟩<;>
 simp[ab,A,F,z,Instr.indexAt,asIntOf,x,(aY W a4 E).a',g0,y]
def a0.iT(aY:bZ P ac){e:ae}{m}(p:q.op=.fieldAddr o e m){h}{t}(r:η e=ax (.val (.pointer (f ⟨i,off,n⟩))))(j:lb ac o m=f (h,t)):a0 P q η k (ax (.val (.pointer (f ⟨i,off+h,n⟩)))) k:=by refine .aS λw u s d=>?_;have b:=d e;rw[r]at b;have g:=Rd.ba (b6 b);exact⟨.pointer (f ⟨i,off+h,n⟩),by simp[ab,p,g,y5 aY j],Rd.val a,by simp[ab,p,g,xY aY j]⟩
def a0.jS(aY:bZ P ac){V F I:ae}(Z:q.op=.slice o V n (f F) (f I)){e a4}(K:bW ac o=f e)(H:e.desc=.slice W)(ai:bW ac W=f a4){eN}{h}{m p}{t z}(ak:∀aa ag,bv k aa ag (η V)->Rd aa.C ag (.A eN h j U))(L:η F=ax (.int m t))(ah:η I=ax (.int p z))(J:0<=t)(ao:t<=z)(aq:z<=j):a0 P q η k (ax (.A v h t.toNat U)) k:=by
 refine .aS λa E ar i=>?_;have T:=ak a _ (i V);have r:=i F;rw[L]at r;replace r:=b6 r;generalize O:E F=av at r;cases r;have D:=i I;rw[ah]at D;replace D:=b6 D;generalize af:E I=aw at D;cases D;obtain⟨X,b,y,x,G,aB,aL,aC,au⟩:=T.b0;rw[x]at T;have N:=(aY o e K).run_underlying (Q:=a.a);rw[H]at N;have em:=q_ u;have s:(aV l j b n (f (.int m t)) (f (.int p z))).run P a.a=.ok (0,t.toNat,z.toNat) a.a:=by simp[aV,run_sliceBound (P:=P) a.a p z b _ u u,run_sliceBound (P:=P) a.a m t z.toNat _ J u]
 have al:(aV l j b n (f (.int m t)) (f (.int p z))).events P a.a #[]=#[]:=by simp[aV,run_sliceBound (P:=P) a.a p z b _ u u,run_sliceBound (P:=P) a.a m t z.toNat _ J u,k' (P:=P) a.a p z b _ u u,k' (P:=P) a.a m t z.toNat _ J u]
 refine⟨.slice X t.toNat z.toNat,?_,?_,by simp[ab,Z,x,O,af,Instr.sliceAt,N,Instr.slice,s,al]⟩
 .simp[ab,Z,x,O,af,Instr.sliceAt,N,Instr.slice,s,(aY W a4 ai).a'];intro _;rcases X with _|⟨Y,d,sp⟩<;>simp[Addr.add]
 cases T with
 |A Y d an _ _ _ S R A B=>
  exact Rd.A Y d an u u C (λe w=>S e u) (λaA=>R u) (λe w t M g=>A e u t M g) (λe w t M g=>B e u t M g)
end
def eU.hP{h a}{kJ:Nat->m K}{jw}(p:eU bz h j U y)(q:eU bz h z kJ jw)(w:a+z<=j):
  eU bz h j (λb=>if a<=b/\b<a+z then kJ (b-a)else U b) (y.take (a*h)++jw++y.drop (a*h+c jw)):=by
 have D:=p.len;have F:=q.len;have C:a*h+z*h<=j*h:=by rw[<-jD];exact g7 h w
 have I:c (y.take (a*h))=a*h:=M;have s:∀i,(y.take (a*h)++jw++y.drop (a*h+c jw))[i]?=if i<a*h then y[i]? else if i<a*h+z*h then jw[i-a*h]? else y[i]?:=by
  intro i;by_cases e:i<a*h
  .grind
  rw[bm e];by_cases r:i<a*h+z*h
  .grind
  rw[bm r,ho M,pT];grind
 refine⟨by grind,λb g=>?_,λb g o t d=>?_⟩
 .by_cases k:a<=b/\b<a+z
  .rw[bo k];exact q.bF _ u
  rw[bm k];exact p.bF b g
 rw[s];by_cases k:a<=b/\b<a+z
 .rw[bo k]at d;have B:o<h:=by have:=(cO.1 d).1;rw[q.bF _ u]at this;omega
  have x:=g7 h k.1;have A:b*h+h<=a*h+z*h:=by rw[<-jD,<-oU];exact g7 h k.2
  rw[bm u,bo u];obtain⟨N,E,J⟩:=q.rd (b-a) u o t d;grind[Nat.sub_mul]
 rw[bm k]at d;have B:o<h:=by have:=(cO.1 d).1;rw[p.bF b g]at this;omega
 have:b*h+o<a*h∨a*h+z*h<=b*h+o:=by
  by_cases e:b<a
  .left;have:b*h+h<=a*h:=by rw[<-oU];exact g7 h e
   omega
  right;have:(a+z)*h<=b*h:=g7 h u;grind
 rcases this with e|e
 .rw[bo e];exact p.rd b g o _ d
 rw[bm u,bm u];exact p.rd b g o _ d
def Dm{W h i}{r:Nat->m K}{e}(w:Rd b.C aa (.A l i 0 r))(k:an[d]?=f (.p W h 0 U))(s:e[d]?=f ⟨.slice n 0 0,[]⟩):cB an {b with s:=e} aa (.N d (.A 0 h 0 0)):=by obtain⟨p,j,y,t,_,_,q,_,_⟩:=w.b0;have:=q a;subst this;refine⟨.slice n 0 0,⟨p,n,0,0,t,by omega,a,by omega,a,λg=>absurd g u⟩,(cO.1 k).1,λo x z kJ g=>?_⟩;rw[k]at g;cases g;exact⟨bA _,λ_=>⟨_,s,a⟩⟩
def dv.jm{a}{U}(i:dv {b with s:=a++[⟨aa,[]⟩]} U)(k:b.s=a):dv b U:=by
 intro h g;have e:=i h g;have key:∀d,(∃L∈a++[(⟨aa,[]⟩:Loc)],d∈L.aj)->∃L∈b.s,d∈L.aj:=λd ⟨L,m,j⟩=>by grind
 unfold h6 at e⊢;grind
def a0.ie{j t:ae}{a4}(E:j0 P q j t W a4){h}{s}{e:Nat->m K}(Q:η j=ax (.A l h 0 U))(J:∀b A,bv k b A (η t)->Rd b.C A (.A s a4.size z e))(p:(0+z)*a4.bytes<=140737488355328):
  a0 P q η k (cD (c k) (.A (0+z) a4.size 0 (0+z))) (k++[.p W a4.size (0+z) (cf 0 U e)]):=by intro b u bP i;have g:=i j;rw[Q]at g;have o:=J b _ (i t);obtain⟨I,F⟩:=bP.bY (bT:=.p W a4.size 0 U) (L:=⟨.slice n 0 0,[]⟩) (.refl _ _) rfl bP (.inl ⟨rfl,rfl⟩) C;have D:cB (k++[.p W a4.size 0 U]) {b with s:=b.s++[⟨.slice n 0 0,[]⟩]} (u j) (.N (c k) (.A 0 a4.size 0 0)):=Dm (W:=W) (U:=U) (b6 g) C tY;obtain⟨N,r,M,w,y,x,O⟩:=Gh (P:=P) (k:=k++[.p W a4.size 0 U]) (b:={b with s:=b.s++[⟨.slice n 0 0,[]⟩]}) (d:=c k) (U:=U) E I D C o p;have B:(k++[ap.p W a4.size 0 U]).set (c k) (.p W a4.size (0+z) (cf 0 U e))=k++[.p W a4.size (0+z) (cf 0 U e)]:=C;rw[B]at w y x;exact⟨N,r,M,w,y,F.trans x,O.jm a⟩
def qA(d e g:Nat)(a:Nat->m K):Nat->m K:=λb=>if d<=b/\b<d+g then a (e+(b-d))else a b
def a0.ic{a_ ba:ae}{a4}(aC:j0 P q a_ ba W a4)(bx:η a_=cD d (.A j a4.size 0 e))(bz:η ba=cD d (.A j a4.size t z))(s:k[d]?=f (.p W a4.size j U))(Z:e+z<=j)(aO:t+z<=j):
  a0 P q η k (cD d (.A j a4.size 0 (e+z))) (k.set d (.p W a4.size j (qA e t z U))):=by
 intro b a9 p aT;obtain⟨b1,t2,b3,bR,bu,r,ar,bd,aL⟩:=aC.op;have ao:=aT a_;rw[bx]at ao;change cB k b (a9 a_) (.N d _)at ao;have aq:=aT ba;rw[bz]at aq;change cB k b (a9 ba) (.N d _)at aq;obtain⟨bC,⟨w,bh,h,x,aU,bg,aK,V,aa,X⟩,_,bF⟩:=ao;obtain⟨L,D,bf⟩:=(bF _ _ _ _ s).2 rfl;rw[aa]at bf;obtain⟨bP,⟨o,bH,aB,bJ,aV,bX,bo,bp,au,bq⟩,_,aA⟩:=aq;obtain⟨bU,S,H⟩:=(aA _ _ _ _ s).2 rfl;rw[D]at S;cases S;rw[au,bf]at H;cases H;have aG:=b8 D;have ax:=r.run_underlying (Q:=b.a);have bc:=bd.run_underlying (Q:=b.a);rw[ar]at ax;rw[aL]at bc;rw[la bu,aU,aV];by_cases aP:j=0
 .have an:e=0:=u;have bl:z=0:=u;subst aP an bl;have aw:k.set d (.p W a4.size 0 (qA 0 t 0 U))=k:=by
   have:qA 0 t 0 U=U:=by funext bi;exact cS
   rw[this];exact mU
  have aY:Rd b.C (.slice o 0 aB) (.A v a4.size 0 λ_=>[]):=.A 0 0 (λ_ _=>I) u u C (λe r=>by omega) (λaC=>by omega) (λe r=>by omega) (λe r=>by omega);have bE:=y4 (P:=P) (ty:=q.type) r ar bd aL aC.elem p (w:=w) bg aY;rw[aw];refine⟨.value (.slice w 0 h),b,?_,?_,p,.refl _ _,iU (xV r ar bd aL aC.elem p bg aY)⟩
  .simp[bE]
  exact⟨bC,⟨w,bh,h,x,a,bg,aK,V,aa,X⟩,(cO.1 s).1,bF⟩
 rcases p.box d _ L s D with⟨al,_⟩|⟨i,ak,y,ah,rfl,B,aZ,a1,a2,ag,aH⟩
 .grind
 cases bf;have bV:0<h:=u;obtain⟨bY,an,rfl⟩:=X bV;cases an;have aM:x=h:=u;subst aM;rw[show i=i from a];have bO:=ag.len;have bB:e+z<=x:=u;have bK:e*a4.size+z*a4.size<=j*a4.size:=by rw[<-jD];exact g7 _ Z
 have bL:t*a4.size+z*a4.size<=j*a4.size:=by rw[<-jD];exact g7 _ aO
 obtain⟨ak,bk⟩:=p.fx (i:=i) (y:=y) aH (λbi aE G=>by
  simp[aJ,B]
  grind)
 let m:=(y.drop (t*a4.size)).take (z*a4.size);have aR:c m=z*a4.size:=M;have aQ:∀g,g<z*a4.size->m[g]?=y[t*a4.size+g]?:=λg F=>by grind
 have R:eU b.C a4.size z (λbi=>U (t+bi)) m:=by
  refine⟨aR,λbi G=>ag.bF _ u,λbi G g bj F=>?_⟩;have bN:g<a4.size:=by have:=(cO.1 F).1;rw[ag.bF _ u]at this;omega
  obtain⟨aE,N,E⟩:=ag.rd (t+bi) u g bj F;refine⟨aE,?_,E⟩;exact Ph
 have bQ:=R.cell;have af:Rd (λA bi=>if A=i then y[bi]? else b.C A bi) (.slice o z aB) (.A v a4.size z (nf a4.size λbi g=>y.getD ((t+bi)*a4.size+g) I)):=by
  refine .A i (t*a4.size) (λbi g=>y.getD ((t+bi)*a4.size+g) I) bX u C (λbi _=>by simp[nf]) (λF=>M) (λbi G g bj F=>?_) (λbi G g bj F=>?_)
  .obtain⟨a3,_⟩:=sU F;exact Ph
  obtain⟨a3,rfl⟩:=sU F;obtain⟨ai,aI⟩:∃ai,(U (t+bi))[g]?=f ai:=⟨_,bI (by rw[ag.bF _ u];exact a3)⟩
  obtain⟨aE,N,E⟩:=ag.rd (t+bi) u g ai aI;have al:y.getD ((t+bi)*a4.size+g) I=aE:=M;rw[al];exact .val E.cell
 obtain⟨O,bG,J,bt⟩:=oy (P:=P) (b:={b with C:=λA bi=>if A=i then y[bi]? else b.C A bi}) ak af;have aS:O=m:=by
  apply pZ;intro g;have bM:=bG.len;by_cases F:g<z*a4.size
  .have b2:0<a4.size:=M;have G:g / a4.size<z:=sn M;have ab:=ut g a4.size;obtain⟨aE,N,E⟩:=bG.rd _ G (g % a4.size) _ (Cp (pU _ b2));rw[ab]at N;rw[N,aQ g F,Rd.ba E];rw[jD,Nat.add_assoc,ab,aj,bI u];rfl
  grind
 subst aS;have aN:=sS (P:=P) (b:={b with C:=λA bi=>if A=i then y[bi]? else b.C A bi}) ak af (Q:=b.a) rfl;replace J:(Builtin.firstCells a4.size z (.slice o z aB)).run P b.a=.ok m.toArray b.a:=J;have bs:e*a4.size+c m<=c (y++ah):=M;have K:=run_storeCells_at P i (e*a4.size) W m 0 (y++ah).toArray b.a B M bQ;simp only[ka]at K;have av:((y++ah).toArray.toList.take (e*a4.size)++m++(y++ah).toArray.toList.drop (e*a4.size+c m))=y.take (e*a4.size)++m++y.drop (e*a4.size+c m)++ah:=M;rw[av]at K;have a5:=ag.hP R Z;have br:(λbi=>if e<=bi/\bi<e+z then(λbi=>U (t+bi)) (bi-e)else U bi)=qA e t z U:=rfl;rw[br]at a5;obtain⟨bD,a6⟩:=p.gD s D aZ a1 a2 B a5 M aH;have bS:(Builtin.lenOf (.slice o z aB)).run P b.a=.ok z b.a:=cS;have bW:(Builtin.lenOf (.slice o z aB)).events P b.a #[]=#[]:=cS;refine⟨.value (.slice (f ⟨i,0*a4.size,n⟩) (e+z) x),_,?_,?_,bD,a6,iU ?_⟩
 .have bE:(Builtin.append_ #[b1,t2] q.type #[.slice (f ⟨i,0*a4.size,n⟩) e x,.slice o z aB]).run P b.a=.ok (.slice (f ⟨i,0*a4.size,n⟩) (e+z) x) (b.a.setRow i (y.take (e*a4.size)++m++y.drop (e*a4.size+c m)++ah).toArray):=by unfold Builtin.append_;simp[j8,mf,nY,cK,ax,bc,c9,aC.elem.a',dZ,j_,dm,bS,bB,dA,is,J,g0,Nat.zero_mul,cW,K]
  grind[Go.Sem.run_bind,Go.Result.andThen_ok,Go.Sem.run_pure]
 .exact⟨.slice (f ⟨i,0,n⟩) 0 x,⟨_,_,x,x,a,bB,by omega,V,a,λ_=>⟨i,a,a⟩⟩,by grind,λbT bZ b0 kJ Y=>by rw[iq (cO.1 s).1]at Y;cases Y;exact⟨bA _,λ_=>⟨_,D,a⟩⟩⟩
 .intro al bb;unfold Builtin.append_ at bb;simp[j8,mf,nY,aD,cK,ax,bc,aF,aC.elem.a',dZ,j_,dm,bS,bW,bB,dA,is,J,g0,Nat.zero_mul,cW,K,
   sx,Sem.events_ite,events_underlying,events_sizeOf,Sem.events_pure]at bb
  rcases nd m 0 (y++ah).toArray b.a _ B M bQ al bb with bm|⟨g,_,_,rfl⟩
  .have bn:dv {b with C:=λA bi=>if A=i then y[bi]? else b.C A bi} #[al]:=dv.R (tr (aN al bm));exact bn.gI (i:=i) aG C bk (λA bi aE aU=>by grind) al C
  grind[n_]
section
variable {ac:m (Nat×cm)}
theorem a0.slice3B(aY:bZ P ac){C Q D E:ae}(R:q.op=.slice o C (f Q) (f D) (f E)){F a4}(x:bW ac o=f F)(H:F.desc=.slice W)(T:bW ac W=f a4){B h ai}{aa b r}{e t z}(X:η C=cD d (.A B h ai j))(U:η Q=ax (.int aa e))(V:η D=ax (.int b t))(S:η E=ax (.int r z))(av:0<=e)(Z:e<=t)(af:t<=z)(aw:z<=j):a0 P q η k (.n (.R .any)) k:=by
 refine .aS λg p ag m=>?_;have J:=m C;rw[X]at J;change cB k g (p C) (.N d _)at J;obtain⟨ah,⟨N,Y,i,aA,G,au,ao,ar,aq,L⟩,_,_⟩:=J;have A:=m Q;rw[U]at A;replace A:=b6 A;generalize O:p Q=ak at A;cases A;have s:=m D;rw[V]at s;replace s:=b6 s;generalize K:p D=al at s;cases s;have w:=m E;rw[S]at w;replace w:=b6 w;generalize M:p E=an at w;cases w;have I:=(aY o F x).run_underlying (Q:=g.a);rw[H]at I;have y:(aV l j i (f (.int aa e)) (f (.int b t)) (f (.int r z))).run P g.a=.ok (e.toNat,t.toNat,z.toNat) g.a:=by simp[aV,run_sliceBound (P:=P) g.a r z i _ u u,run_sliceBound (P:=P) g.a b t z.toNat _ u u,run_sliceBound (P:=P) g.a aa e t.toNat _ u u]
 have aL:(aV l j i (f (.int aa e)) (f (.int b t)) (f (.int r z))).events P g.a #[]=#[]:=by
  simp[aV,run_sliceBound (P:=P) g.a r z i _ u u,run_sliceBound (P:=P) g.a b t z.toNat _ u u,run_sliceBound (P:=P) g.a aa e t.toNat _ u u,
   k' (P:=P) g.a r z i _ u u,k' (P:=P) g.a b t z.toNat _ u u,k' (P:=P) g.a aa e t.toNat _ u u]
 refine⟨.slice (if z.toNat=e.toNat then N else N.map (·.add (e.toNat*a4.size))) (t.toNat-e.toNat) (z.toNat-e.toNat),?_,a,by simp[ab,R,G,O,K,M,Instr.sliceAt,I,Instr.slice,y,aL]⟩;simp[ab,R,G,O,K,M,Instr.sliceAt,I,Instr.slice,y,(aY W a4 T).a']
end
section drop
variable {aQ bq:m ap}
def a6.cut(a:a6)(b:Nat):a6:={a with s:=a.s.take b}
def cB.drop{g}(e:cB (aQ++bq) b aa g)(h:lU (c aQ) g=l):cB aQ (b.cut (c aQ)) aa g:=by
 have lt:∀{d:Nat},ay (d+1) (c aQ)=l->d<c aQ:=λq=>fq q;cases g with
 |c w=>exact e
 |any=>exact e
 |ptr d t=>
  have gQ:=lt h;obtain⟨a,L,o,j,ak⟩:=e;refine⟨λi k=>a i M,L,o,?_,ak⟩;simp[a6.cut,h2,gQ,dA];exact j
 |aV d=>
  have gQ:=lt h;obtain⟨a,L,j,ak⟩:=e;refine⟨λi k=>a i M,L,?_,ak⟩;simp[a6.cut,h2,gQ,dA];exact j
 |N d u=>
  have gQ:=lt h;obtain⟨m,a,_,ak⟩:=e;refine⟨m,a,gQ,λW gk Dl dH k=>?_⟩;exact O9
 |w d r s p=>
  have gQ:=lt h;obtain⟨a,_,ak⟩:=e;refine⟨a,gQ,λW gk Dl dH k=>?_⟩;exact O9
def bM.cF:∀{y:m X}{a:m O},bM (aQ++bq) b y a->lg (c aQ) a=l->bM aQ (b.cut (c aQ)) y a
 |[],[],_,_=>trivial
 |[],_::_,d,_=>d.elim
 |_::_,[],d,_=>d.elim
 |i::y,h::a,d,e=>by
  simp[lg]at e;cases g:lU (c aQ) h with
  |false=>grind
  |true=>simp[g]at e;exact⟨d.1.drop g,bM.cF d.2 e⟩
def ey.cF{aa}{a}(h:ey (aQ++bq) b aa a)(g:pb (c aQ) a=l):ey aQ (b.cut (c aQ)) aa a:=by
 cases a with
 |R j=>exact cB.drop h g
 |agg i=>obtain⟨y,d,e⟩:=h;exact⟨y,d,bM.cF e g⟩
def eV.cF:∀{y:m X}{a:m E1},eV (aQ++bq) b y a->og (c aQ) a=l->eV aQ (b.cut (c aQ)) y a
 |[],[],_,_=>trivial
 |[],_::_,d,_=>d.elim
 |_::_,[],d,_=>d.elim
 |i::y,h::a,d,e=>by
  simp[og]at e;cases g:pb (c aQ) h with
  |false=>grind
  |true=>simp[g]at e;exact⟨ey.cF d.1 g,eV.cF d.2 e⟩
def bv.drop{a}(h:bv (aQ++bq) b aa a)(g:hQ (c aQ) a=l):bv aQ (b.cut (c aQ)) aa a:=by
 cases a with
 |n j=>exact ey.cF h g
 |Q i=>obtain⟨y,d,e⟩:=h;exact⟨y,d,eV.cF e g⟩
 |any=>trivial
def de.drop{d}{h}(a:de d h (aQ++bq) b)(s:d.length<=c aQ):de d h aQ (b.cut (c aQ)):=by refine⟨a.size,a.a3,a.mem,a.bC,λL k r o=>a.bS L (gY k) r o,?_,a.os,a.tape,a.output,a.own⟩;intro p q L aH k;obtain⟨i,j,e,m,t⟩:=a.box p q L aH k;have g:p<c aQ:=eC (cO.1 aH).1 s;rw[j6 g]at e;exact⟨i,j,e,by simp[a6.cut,h2,g,dA];exact m,t⟩
def cB.cE{g}(j:c b.s=c k)(e:cB k b aa g):lU (c k) g=l:=by
 have ok:∀{a:Nat},a<c k->ay (a+1) (c k)=l:=λd=>Aq d;have lt:∀{a:Nat} {L:Loc},b.s[a]?=f L->a<c k:=λd=>by grind
 cases g with
 |c t=>rfl
 |any=>rfl
 |ptr a r=>obtain⟨_,L,o,h,_⟩:=e;exact ok (lt h)
 |aV a=>obtain⟨_,L,h,_⟩:=e;exact ok (lt h)
 |N a s=>obtain⟨m,_,d,_⟩:=e;exact ok d
 |w a p q i=>exact ok e.2.1
def bM.cE{k}(e:c b.s=c k):∀{y:m X}{a:m O},bM k b y a->lg (c k) a=l
 |[],[],_=>rfl
 |[],_::_,d=>d.elim
 |_::_,[],d=>d.elim
 |h::y,g::a,d=>by simp[lg,d.1.cE e];exact bM.cE e d.2
def ey.cE{k}(a:c b.s=c k){aa}{d}(e:ey k b aa d):pb (c k) d=l:=by
 cases d with
 |R i=>exact cB.cE a e
 |agg g=>obtain⟨y,_,h⟩:=e;exact bM.cE a h
def eV.cE{k}(e:c b.s=c k):∀{y:m X}{a:m E1},eV k b y a->og (c k) a=l
 |[],[],_=>rfl
 |[],_::_,d=>d.elim
 |_::_,[],d=>d.elim
 |h::y,g::a,d=>by simp[og,ey.cE e d.1];exact eV.cE e d.2
def bv.cE{k}(a:c b.s=c k){aa}{d}(e:bv k b aa d):hQ (c k) d=l:=by
 cases d with
 |n i=>exact ey.cE a e
 |Q h=>obtain⟨y,_,g⟩:=e;exact eV.cE a g
 |any=>rfl
def Aa(o:Nat)(d:m ap)(k:Nat)(b:ap):Prop:=(∃h a,b=.cells h a/\lg o a=l)∨d[k]?=f b∨(∃g e i j,b=.loop g e i/\d[k]?=f (.loop g e j))∨((∀h a,b≠.cells h a)/\∀g e i,b≠.loop g e i)
def bb.g1{w}{g}(r:bb g w)(x:g.length=c aQ)(O:∀d(s:ap),aQ[d]?=f s->Aa (c aQ) g d s)(j:bb (aQ++bq) b):bb aQ (b.cut (c aQ)):=by
 have E:c aQ<=c b.s:=by rw[j.len];simp
 refine⟨j.mem,by simp[a6.cut,E],?_,?_,?_,λh a=>⟨(j.own h a).1,λL e=>(j.own h a).2 L (gY e)⟩⟩
 .intro d s L aH e;have K:d<c aQ:=(cO.1 aH).1;simp[a6.cut,h2,K,dA]at e;have q:=j.box d s L M e;have z:∃A,w.s[d]?=f A:=⟨_,bI (by rw[r.len,x];exact K)⟩
  obtain⟨A,z⟩:=z;have aa:=r.len.trans x;cases s with
  |cells J S=>
   obtain⟨h,y,k,m,I,F⟩:=q;refine⟨h,y,k,m,bM.cF I ?_,F⟩;rcases O d _ aH with⟨_,_,t,i⟩|i|⟨_,_,_,_,t,_⟩|i
   .grind
   .obtain⟨_,_,_,_,Y,_⟩:=r.box d _ A i z;exact x▸Y.cE r.len
   .cases t
   grind
  |w J T U D=>exact q
  |J H=>exact q
  |M=>trivial
  |loop R Q Z=>
   obtain⟨o,tmps,fn,W,k,m,I,F,X⟩:=q;have key:∃p,g[d]?=f (.loop R Q p):=by
    rcases O d _ aH with⟨_,_,t,_⟩|i|⟨_,_,_,p,t,i⟩|i
    .cases t
    .grind
    .grind
    grind
   obtain⟨p,i⟩:=key;obtain⟨_,_,_,_,_,_,_,V,_⟩:=r.box d _ A i z;exact⟨o,tmps,fn,W,k,m,I,λN=>(F N).drop (x▸(V N).cE r.len),X⟩
  |bl=>exact q
  |p J T U D=>exact q
 .intro d o L C e B h a u;simp only[a6.cut,h2]at e B;split at e<;>split at B<;>first|exact j.a0 d o L C e B h a u|grind|grind
 intro L e h a;exact j.lt L (gY e) h a
def bb.iM{e}(g:bb aQ e)(d:bb (aQ++bq) b):bb aQ (b.cut (c aQ)):=g.g1 a (λ_ _ d=>.inr (.inl d)) d
def aZ.e4{u:ah P}{h}(m:aZ u E all q F k (.n (.R (.w (c k) h j U))) (k++[.w W h j U])):aZ u E all q F k (ax (.A v h j U)) k:=by
 intro D y A g w s i x C d a p o;refine m D y A g w s i x C d a p λI e r b t=>?_;have B:eZ e (e.cut (c k)):=⟨rfl,λ_ _ _ m=>m,λ_ _ _=>rfl,b.mem,λw a=>a.imp id λ⟨L,z,a⟩=>⟨L,gY z,a⟩⟩
 exact .aP B (o I (e.cut (c k)) r.1 (g.iM b) (t.drop (bA _)))
end drop
end Go.AM
