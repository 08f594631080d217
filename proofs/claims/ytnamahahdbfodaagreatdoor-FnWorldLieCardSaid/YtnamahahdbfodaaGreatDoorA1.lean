/- Part 1. No condition. -/
import Derived.KernelRfl
import Derived.Tactics2
import Derived.LaidSub
import Derived.LaidLaws
import Derived.LaidHandle
import Derived.Conc.Own
import Derived.Conc.Events
import Derived.Conc.Listed
import Derived.Laws.CopyRow
import Derived.Laws.AppendOwn
import Derived.Laws.Rows
import Derived.Laws.Strings
import Derived.Laws.Cells
import Derived.Lib.Strings
import Derived.Laws.Slices
import Derived.Orders
import Derived.Laws.StructEq
set_option linter.all false
set_option maxHeartbeats 8000000
open Go.Conc (G)
open List renaming length → c, range → aC, replicate → aY, getD_eq_getElem?_getD → al
open Go renaming Value → Z, TypeId → av, Event → aT, undef → K, World → au, Frame → aK, FuncId → a3, execOp → ac, Operand → aB, Program → aI, Goroutine → ak, stepG → aq, Oper → ap
open Option renaming some → h, none → n
open Bool renaming true → f, false → l
open Nat renaming beq → af, ble → ay
open Go.Region renaming wanted → aU, ready → aS
open Go.World renaming cell? → aL
open Go.Op renaming bytesLess → aW, equalIn → aQ
open Go.Sem renaming events_bind → aH
open Go.Result renaming evThen_ok → aJ
open Go.Instr renaming sliceBounds → aX
set_option linter.defProp false
set_option linter.deprecated false
namespace Go
def v:=@_root_.trivial
def bI:=@_root_.List.getElem?_eq_getElem
def bA:=@_root_.decide_eq_true_eq
def a9:=@_root_.and_true
def ba:=@_root_.true_and
def b9:=@_root_.List.mem_of_getElem?
def dj:=@_root_.decide_eq_false_iff_not
def cO:=@_root_.List.getElem?_eq_some_iff
def di:=@_root_.Nat.eq_of_beq_eq_true
def c5:=@_root_.Int.toNat_natCast
def bC:=@_root_.Nat.le_refl
def dn:=@_root_.List.length_append
def cE:=@_root_.Bool.and_eq_true
def c1:=@_root_.Go.Result.andThen_ok
def cV:=@_root_.Nat.zero_add
def c9:=@_root_.List.take_length
def bm:=@_root_.if_neg
def cH:=@_root_.Go.Sem.run_bind
def hp:=@_root_.Array.getD_eq_getD_getElem?
def eX:=@_root_.beq_eq_false_iff_ne
def br:=@_root_.if_pos
def eA:=@_root_.Nat.lt_of_lt_of_le
def fc:=@_root_.Nat.le_of_ble_eq_true
def gW:=@_root_.List.length_singleton
def hG:=@_root_.List.getElem_of_mem
def eU:=@_root_.Option.some.injEq
def hq:=@_root_.List.getElem?_append_right
def fl:=@_root_.List.length_cons
def gX:=@_root_.Nat.mul_le_mul_right
def jA:=@_root_.List.eq_nil_of_length_eq_zero
def d8:=@_root_.Go.Sem.run_pure
def fZ:=@_root_.beq_self_eq_true
def dY:=@_root_.Nat.lt_or_ge
def iD:=@_root_.Array.getElem?_eq_getElem
def im:=@_root_.List.getElem?_set_self
def fm:=@_root_.decide_eq_true
def f_:=@_root_.Bool.not_true
def hf:=@_root_.List.mem_of_mem_take
def jb:=@_root_.Array.getElem?_eq_some_iff
def hr:=@_root_.not_true_eq_false
def dh:=@_root_.if_false
def gY:=@_root_.List.mem_singleton
def gA:=@_root_.List.length_nil
def fo:=@_root_.List.mem_cons
def fp:=@_root_.Bool.true_and
def iE:=@_root_.List.pairwise_cons
def gl:=@_root_.List.mem_append
def h0:=@_root_.bne_self_eq_false
def o7:=@_root_.List.pairwise_iff_getElem
def kA:=@_root_.List.getElem?_append_left
def io:=@_root_.List.getElem?_take
def fG:=@_root_.Nat.le_trans
def ip:=@_root_.Bool.not_false
def dH:=@_root_.if_true
def j7:=@_root_.List.getElem?_toArray
def iq:=@_root_.Option.getD_some
def h1:=@_root_.List.append_nil
def jc:=@_root_.List.mem_cons_self
def p':=@_root_.List.ext_getElem?
def j8:=@_root_.Bool.not_eq_true'
def kB:=@_root_.List.length_filter_le
def kC:=@_root_.List.getElem?_set_ne
def hg:=@_root_.beq_iff_eq
def j9:=@_root_.Bool.false_eq_true
def eK:=@_root_.congrArg
def iF:=@_root_.Nat.not_lt_zero
def F2:=@_root_.List.take_append_drop
def jB:=@_root_.Bool.or_eq_true
def gZ:=@_root_.Nat.zero_le
def m8:=@_root_.List.getElem?_cons_zero
def m9:=@_root_.Array.length_toList
def w0:=@_root_.Array.getElem?_replicate
def w5:=@_root_.List.take_add_one
def k3:=@_root_.List.length_map
def j_:=@_root_.List.foldl_cons
def n2:=@_root_.List.getElem?_cons_succ
def AE:=@_root_.List.findIdx?_eq_some_iff_getElem
def kD:=@_root_.List.mem_filter
def AF:=@_root_.List.mem_iff_getElem
def m_:=@_root_.List.mem_cons_of_mem
def mj:=@_root_.List.append_assoc
def jC:=@_root_.bne_iff_ne
def dZ:=@_root_.ne_eq
def sF:=@_root_.Nat.beq_refl
def lE:=@_root_.decide_eq_false
def lF:=@_root_.Option.map_some
def jD:=@_root_.Nat.add_mul
def qa:=@_root_.not_false_eq_true
def j':=@_root_.Nat.add_zero
def m':=@_root_.List.getElem?_map
def uB:=@_root_.Array.getElem?_setIfInBounds_self_of_lt
def sG:=@_root_.Array.getElem?_setIfInBounds_ne
def na:=@_root_.decide_true
def n3:=@_root_.Nat.eq_zero_or_pos
def o8:=@_root_.List.pairwise_append
def w6:=@_root_.Array.toArray_toList
def w7:=@_root_.Array.mapM_eq_mapM_toList
def lG:=@_root_.Prod.mk.injEq
def k4:=@_root_.List.mem_map
def n4:=@_root_.Option.bind_some
def mi:=@_root_.List.map_cons
def rj:=@_root_.Option.map_eq_some_iff
def o2:=@_root_.List.getElem?_set
def p4:=@_root_.Nat.add_sub_cancel
def p5:=@_root_.List.getElem?_drop
def o3:=@_root_.decide_false
def o4:=@_root_.Nat.succ_mul
def p6:=@_root_.Nat.mod_lt
def o5:=@_root_.Bool.eq_iff_iff
def so:=@_root_.List.filter_eq_self
def rk:=@_root_.Int.toNat_of_nonneg
def p7:=@_root_.Bool.not_eq_true
def o6:=@_root_.List.mapM_cons
def Ao:=@_root_.Bool.and_eq_false_iff
def RM:=@_root_.List.drop_eq_getElem_cons
def p8:=@_root_.List.nil_append
def sq:=@_root_.List.length_set
def rl:=@_root_.of_decide_eq_true
def sr:=@_root_.Nat.div_lt_of_lt_mul
def ss:=@_root_.List.mem_of_mem_drop
def wS:=@_root_.List.map_congr_left
def uu:=@_root_.Nat.le_mul_of_pos_right
def su:=@_root_.List.length_drop
def rm:=@_root_.List.ext_getElem
def lD:=@_root_.true_or
def sv:=@_root_.Int.emod_lt_of_pos
def Ap:=@_root_.Bool.not_eq_false'
def uv:=@_root_.UInt8.toNat_inj
def rn:=@_root_.Option.some.inj
def Aq:=@_root_.Nat.ble_eq_true_of_le
def uw:=@_root_.Array.mem_of_getElem?
def wT:=@_root_.List.getElem?_concat_length
def sw:=@_root_.List.flatMap_cons
def n1:=@_root_.Nat.not_lt
def sx:=@_root_.List.mem_range
def sy:=@_root_.Nat.sub_zero
def ux:=@_root_.Nat.div_add_mod'
def sz:=@_root_.List.not_mem_nil
def sA:=@_root_.List.filter_cons
def sB:=@_root_.List.drop_length
def sC:=@_root_.Int.emod_nonneg
def p9:=@_root_.Int.le_refl
def FY:=@_root_.List.take_of_length_le
def wU:=@_root_.List.range_succ_eq_map
def uy:=@_root_.List.foldl_append
def sD:=@_root_.Bool.false_and
def wV:=@_root_.List.getElem?_eq_none
def uz:=@_root_.List.cons_append
def RN:=@_root_.bne_eq_false_iff_eq
def wW:=@_root_.Nat.mul_le_mul_left
def FZ:=@_root_.List.length_eraseIdx_of_lt
def Ar:=@_root_.List.mem_or_eq_of_mem_set
def wX:=@_root_.List.pairwise_map
def ae5:=@_root_.Option.isSome_iff_exists
def As:=@_root_.Nat.lt_succ_iff_lt_or_eq
def F0:=@_root_.List.set_eq_of_length_le
def sE:=@_root_.Go.Sem.run_ite
def Au:=@_root_.Nat.add_sub_cancel_left
def wY:=@_root_.List.getElem_mem
def uA:=@_root_.Nat.sub_self
def Av:=@_root_.Array.getElem?_eq_none
def Aw:=@_root_.List.contains_iff_mem
def F1:=@_root_.Array.getElem?_toList
def Ax:=@_root_.Array.getElem?_modify
def Ay:=@_root_.Nat.pow_le_pow_right
def Az:=@_root_.List.getElem?_of_mem
def p_:=@_root_.Ne.symm
def AA:=@_root_.Nat.add_sub_cancel'
def AB:=@_root_.List.length_pos_iff
def wZ:=@_root_.Nat.lt_irrefl
def AD:=@_root_.List.take_set
def bl{α:Sort _}{β:α→Sort _}{ae:(o:α)→β o}:∀o,ae o=ae o:=λ_=>rfl
def a{α:Sort _}{x:α}:x=x:=rfl
section
variable{R:Prop}
abbrev m.{bz}(α:Type bz):=List α
def y(u:R:=by omega):=u
def M(u:R:=by grind):=u
def E(u:R:=by simp):=u
def bJ(u:R:=by kernel_rfl):=u
def bV(u:R:=by simp;omega):=u
def ca(u:R:=by decide):=u
def dA(u:R:=by simp_all):=u
def ig(u:R:=by grind[ie]):=u
def hY(u:R:=by rw[bP.len];grind):=u
def si(u:R:=by simp only[U,a7,bA,ba,a9];and_intros<;>omega):=u
def ly(u:R:=by simp[a7]):=u
def q1(u:R:=by simp[G,aq,stepG.exec,Frame.M]):=u
def l_(u:R:=by simp only[phi];omega):=u
def tX(u:R:=by simp only[U,a7,ba,a9];omega):=u
def NM(u:R:=by have i:o.data.toList.length=o.size:=m9;have w:X.data.toList.length=X.size:=m9;have ai:IntKind.i64.max=9223372036854775807:=rfl;have C:o.data.toList.length+X.data.toList.length<=9223372036854775807:=cw;grind):=u
def nM(u:R:=by decide +kernel):=u
def gV(u:R:=by simp[u]):=u
def q5(u:R:=by simp only[U,a9];omega):=u
def mY(u:R:=by apply p';grind):=u
def nO(u:R:=by simp only[a7];omega):=u
def E7(u:R:=by show(aQ (9999+1) q _ _).run P b.a=_;unfold aQ;simp[underlying,C]):=u
def j3(u:R:=by simp[bU]):=u
def Ft(u:R:=by simp[bU,C,k,i,d,ae,a2.U,bj.U,a1.U,aA.U,A];omega):=u
def wB(u:R:=by simp only[bT,c5];omega):=u
def ae4(u:R:=by rw[x];simp only[jn,Ao,dj];omega):=u
def Om(u:R:=by unfold Func.isWrapper;first|(rw[br (by decide +kernel)];kernel_rfl)|(rw[bm (by decide +kernel)];exact⟨rfl,rfl⟩)):=u
def t1(u:R:=by rw[<-aR];decide +kernel):=u
def pR(u:R:=by grind[pI]):=u
def wC(u:R:=by grind[List.getElem_of_mem]):=u
def q6(u:R:=by cases he):=u
def q7(u:R:=by rw[cV];rfl):=u
def zS(u:R:=by grind[LV]):=u
def t7(u:R:=by simp only[U,a7];omega):=u
def zT(u:R:=by simp[a2.E,bj.E,a1.E,aA.E]):=u
def Fu(u:R:=by rw[<-touchAt_old (u:=bz) (eA bp u.bO)];exact bc):=u
def Fv(u:R:=by rw[<-touchAt_old (u:=bz) (eA bp u.bO)];exact i):=u
def Fw(u:R:=by grind[D0]):=u
def zU(u:R:=by intro z aR ae7;grind[wd,nI]):=u
def Qu(u:R:=by simp[-List.all_eq_true,-List.all_eq_false,bU,j,s,x,a2.U,bj.U,a1.U,ae,ai,C]):=u
def QF(u:R:=by show(aQ (9999+1) q _ _).run P b.a=_;unfold aQ;simp[underlying,k]):=u
def nP(u:R:=by simp;rfl):=u
def Q0(u:R:=by rw[F1,iD (by omega:e<L.size)];simpa[hp,iD (by omega:e<L.size)]using H):=u
def t_(u:R:=by grind[kf]):=u
def Q2(u:R:=by refine Y.K Tryz.func310 rfl λx=>?_;exact cu rfl (by simp[a7]) (g.aw rfl)):=u
def Q3(u:R:=by simp only[ac,u];exact dB.bind dB.buildSlice (λ_=>dB.pure) _ _):=u
def Fx(u:R:=by simp[G,aq,stepG.exec,Frame.M,u]):=u
def Q4(u:R:=by intro hO ai s;match hO,s with|0,_=>exact .inr (by simp[deafBehind])|hO+1,s=>grind):=u
def oR(u:R:=by rfl):=u
def t'(u:R:=by simp[<-bP.len]):=u
def Q5(u:R:=by unfold g';rw[mj];congr 1;rw[ie (by grind) (0,0)];grind):=u
def oS(u:R:=by simp[x]):=u
def Fy(u:R:=by simp only[hp];grind):=u
def Q6(u:R:=by show -9223372036854775808<=_/\_<=9223372036854775807;unfold lv;omega):=u
def Q7(u:R:=by simp[ac,cw,resolve,invoke,builtin,Builtin.len_,ae,A,goInt,C]):=u
def zV(u:R:=by simp only[dm,sF]):=u
def Q8(u:R:=by unfold fW;rw[<-qT (d_ o.2)];exact HJ _):=u
def Fz(u:R:=by grind[List.drop_eq_getElem_cons]):=u
def Q9(u:R:=by grind[Array.mapM_eq_mapM_toList,Sem.run_map,Go.Result.andThen_ok]):=u
def Q_(u:R:=by rw[show((b.2.1.length:Int)-1).toNat=b.2.1.length-1 by omega];rfl):=u
def FA(u:R:=by simp only[U,a7,a9];omega):=u
def FB(u:R:=by rw[<-o4];exact gX _ bp):=u
def sg(u:R:=by grind[nF]):=u
def wD(u:R:=by grind[mz]):=u
def zW(u:R:=by simp[World.freeze,ae]):=u
def FC(u:R:=by simp[bU,a1.E,a1.U]):=u
def ua(u:R:=by simp[bt,ai]):=u
def Q'(u:R:=by simp only[joinedFacts,cE];and_intros<;>decide +kernel):=u
def ub(u:R:=by grind[Nat.eq_of_beq_eq_true]):=u
def FD(u:R:=by grind[List.take_append_drop]):=u
def zX(u:R:=by show _*24<=_;omega):=u
def wE(u:R:=by simpa using u):=u
def zY(u:R:=by unfold mK;grind):=u
def FE(u:R:=by simp[hD,iX,nA,jt]):=u
def FF(u:R:=by unfold jl;split<;>omega):=u
def Ra(u:R:=by simp[bU,X,aa,cL,a2.U,bj.U,a1.U,a']):=u
def Rb(u:R:=by simp only[U,a7,ba,a9];and_intros<;>omega):=u
def Rc(u:R:=by simp[ac,u,G,Instr.loadAt,Instr.sureAddr]):=u
def FG(u:R:=by simp[bt]):=u
def Re(u:R:=by intro ai s;simp at s;subst s;exact bk_cell _ _ rfl):=u
def zZ(u:R:=by simp[ai]):=u
def sh(u:R:=by simp[I]):=u
def FH(u:R:=by rw[Op.bytesLess.eq_def]):=u
def Rf(u:R:=by simp[ru,e,bD.E,bD.U,r7,aa]):=u
def Rg(u:R:=by rw[<-i.bE j (λL W cL=>s ⟨L,W,cL⟩)];exact bc):=u
def z0(u:R:=by simpa using iH):=u
def uc(u:R:=by simp[jH]):=u
def Rh(u:R:=by simp only[U,a7,f_,ba,a9];omega):=u
def z1(u:R:=by cases op<;>rfl):=u
def Ri(u:R:=by simp[ac,cw,resolve,invoke,builtin]):=u
def wF(u:R:=by simp[bT]):=u
def Rj(u:R:=by simp only[U,a7,dj,ba,a9];omega):=u
def Rk(u:R:=by simp only[U,a7,bA,ba,a9];omega):=u
def Rl(u:R:=by rw[show IntKind.u64.bits=64 from rfl];omega):=u
def FI(u:R:=by rw[s];simp):=u
def Rm(u:R:=by unfold dg;grind[List.take_append_drop]):=u
def Rn(u:R:=by simp[ac,u,resolve,invoke,builtin]):=u
def Ro(u:R:=by unfold dQ;grind[List.take_append_drop]):=u
def FJ(u:R:=by unfold e3;grind):=u
def z2(u:R:=by simp[fH]):=u
def Rp(u:R:=by simp only[look];cases af bz q<;>rfl):=u
def Np(u:R:=by simp only[U.Y,U,k,w,fZ,ba]):=u
def EJ(u:R:=by rw[cD.ai.size];omega):=u
def zA(u:R:=by cases w<;>rfl):=u
def EK(u:R:=by simp only[c6,j]):=u
def Nq(u:R:=by simp only[U.Y,U,ai,ba,a9]):=u
def Nr(u:R:=by show(b.a.drew.heap.push _).size=_;simp):=u
def Ns(u:R:=by rw[FZ (by simp;omega)];simp;omega):=u
def Nt(u:R:=by have:=KV ea;simp only[a7];omega):=u
def EL(u:R:=by unfold dk;omega):=u
def EM(u:R:=by simp[Act.eval,stA]):=u
def EN(u:R:=by simp only[dm,dq]):=u
def EO(u:R:=by simp only[dm,cS]):=u
def Nu(u:R:=by have:=Vc_upd z (⟨1,0,1⟩:WD) g5;grind):=u
def wo(u:R:=by simp[mk]):=u
def Nv(u:R:=by simp only[fJ,jB,bA];grind):=u
def wq(u:R:=by rw[upd_same];simp):=u
def Nw(u:R:=by simp[World.shape?,a'.heap _ _ a'.cF]):=u
def Nx(u:R:=by simp[Frame.enter,Frame.M,pm,cT,j]):=u
def Ny(u:R:=by simp only[U];exact aA.U _):=u
def Nz(u:R:=by grind[run_store,setCell_eq_setRow]):=u
def ae1(u:R:=by simp[deafBehind]):=u
def EP(u:R:=by simp[bT];omega):=u
def NA(u:R:=by simp only[U,ba,a9];omega):=u
def NB(u:R:=by unfold h5;rw[bm];grind):=u
def NC(u:R:=by unfold eN Region.binds;grind):=u
def ND(u:R:=by simp[bU,F,a1.E,a1.U]):=u
def NE(u:R:=by simp[fu]):=u
def EQ(u:R:=by simp only[gf,nw,bm u];rfl):=u
def NF(u:R:=by have:=eK List.length bq;grind):=u
def NG(u:R:=by grind[ZO]):=u
def ER(u:R:=by grind[Option.isSome_iff_exists]):=u
def ae2(u:R:=by rw[<-o4];exact gX _ G):=u
def NH(u:R:=by simp[zeroValue,typeInfo,Nl,a]):=u
def ES(u:R:=by rw[u.len];simp):=u
def ET(u:R:=by grind[MZ]):=u
def NI(u:R:=by simp only[gf,nw,dH,e]):=u
def ae3(u:R:=by rw[Jg C A aa];grind):=u
def NJ(u:R:=by simp[aL,C,bp]):=u
def NK(u:R:=by simp only[ac,cw,w]):=u
def NL(u:R:=by simp only[U,dj];omega):=u
def NN(u:R:=by simp only[U,bA];omega):=u
def NO(u:R:=by rw[<-d];simp only[KK];omega):=u
def NP(u:R:=by unfold e3 at x⊢;grind):=u
def NQ(u:R:=by simp[deafBehind,semEvents]):=u
def EU(u:R:=by simp[dg]):=u
def NR(u:R:=by simp[mr,List.drop_take]):=u
def EV(u:R:=by rw[im bX]):=u
def fr(u:R:=by and_intros<;>omega):=u
def iz(u:R:=by exact .aO (a0.eS (d:=0) bd rfl rfl rfl rfl rfl) rfl):=u
def j2(u:R:=by rw[kE u M];simp):=u
def kx(u:R:=by exact du _ _ rfl E):=u
def nN(u:R:=by refine g.cq () [0,1,2] ?_ nk;simp):=u
def oP(u:R:=by simp[a7];omega):=u
def oQ(u:R:=by refine g.cq () [0,1] ?_ ya;simp):=u
def pQ(u:R:=by simp only[U];grind):=u
def q2(u:R:=by exact .aO (a0.fI rfl rfl Tryz.underlying22 rfl ca) rfl):=u
def q3(u:R:=by simp only[U,cV,c5,C,a7,bA,ba,a9];and_intros<;>omega):=u
def q4(u:R:=by and_intros<;>first|rfl|omega):=u
def sc(u:R:=by refine g.freeze 4 1 rfl rfl rfl ?_;exact g.cp bd [] rfl E rfl rfl rfl fI):=u
def sd(u:R:=by show e+1<=_;omega):=u
def se(u:R:=by exact bW.di [0] rfl v rfl rfl rfl g4):=u
def sf(u:R:=by simp only[U,a7];and_intros<;>omega):=u
def tY(u:R:=by rw[w6]at this;exact this):=u
def tZ(u:R:=by exact g.aS [0] rfl E s4):=u
def t0(u:R:=by simp only[U.Y,U,ba,a9];and_intros<;>first|exact bt.same|exact w.2|rfl):=u
def wt(u:R:=by refine g.bw 6 rfl rfl rfl E E ?_;refine g.bw 7 rfl rfl rfl E E ?_;refine cJ x rfl v ?_;refine g.cq () [0,1,2] ?_ nk;simp[hz,C]):=u
def wu(u:R:=by exactλw=>⟨.y,.y,.y,.eval (bg:=[]) bd x (cf:=[a7 .i64 _]) rfl ly,.eval (bg:=[]) bd x (cf:=[_,_]) rfl ly,.y,.y,v,.y,v⟩):=u
def wv(u:R:=by exact⟨.y,.y,.y,.eval (bg:=[]) bd x (cf:=[a7 .i64 _]) rfl ly,.eval (bg:=[]) bd x (cf:=[_,_]) rfl ly,.y,.y,v,v,v⟩):=u
def ww(u:R:=by exact dx.cJ (λ_ _ _ _=>iY rfl) rfl rfl bz rfl E):=u
def wx(u:R:=by simp[hp,w0];split<;>simp):=u
def wy(u:R:=by exact aZ rfl v (g.aw rfl)):=u
def wz(u:R:=by simp only[U,x,a7,bA,ba,a9];and_intros<;>omega):=u
def wA(u:R:=by refine g.eM 3 ?_;refine g.cK 9 rfl (λ_=>rfl) ?_;refine g.ret ?_;exact⟨⟨_,bt.same⟩,.inl rfl,rfl,rfl,_,_,_,rfl,rfl,rfl,rfl⟩):=u
def zB(u:R:=by simp only[U,cV,c5,ae,a7,bA,ba,a9];and_intros<;>omega):=u
def zC(u:R:=by rw[ofEvent_loc_mark bc]at s;cases s):=u
def zD(u:R:=by rw[j];simp only[ae];simp;exact I):=u
def zE(u:R:=by refine g.bh () [] ?_ (λw j=>absurd j E);simp):=u
def zF(u:R:=by and_intros<;>first|exact k|omega):=u
def zG(u:R:=by grind [Se,aV.a1,a0.bits]):=u
def zH(u:R:=by refine g.freeze 8 1 rfl rfl rfl ?_;exact g.cp bd [] rfl E rfl rfl rfl fI):=u
def zI(u:R:=by simp only[U,a7,dj,ba,a9];and_intros<;>omega):=u
def zJ(u:R:=by exact a6 [(16,l)] rfl bK (g.aA (e+1) rfl E E M y)):=u
def zK(u:R:=by simp only[U,ae,a7,show ec.bytes=8 from rfl,bA,dj,hg,eX,jC,RN,dZ];and_intros<;>first|rfl|omega|(simp[g1,iH];done)):=u
def zL(u:R:=by exact cJ x rfl v (g.aw rfl)):=u
def zM(u:R:=by refine g.aF (qq b x.a2 x.bp x.a7 x.bx x.aN) [] rfl ?_;refine cJ s rfl v ?_;refine g.freeze 8 1 rfl rfl rfl ?_;refine g.cp bd [] rfl ?_ rfl rfl rfl fI;simp):=u
def zN(u:R:=by rw[U,aae u ae4]):=u
def zO(u:R:=by rw[s];simp only[U.Y,U,I,dn,gW,ba,a9];and_intros<;>first|exact bt.same|exact ae X|rfl|omega):=u
def zP(u:R:=by simp only[U,cV,c5,q,R,a7,bA,ba,a9];and_intros<;>omega):=u
def zQ(u:R:=by simp only[U,a2.E,a2.U,bj.E,bj.U,a1.E,a1.U,aA.E,aA.U,bD.E,bD.U,x,s,r7,I,j,f_,ip,ba,a9];simp):=u
def zR(u:R:=by simp only[U.Y,U,ba,a9];omega):=u
def EW(u:R:=by exact⟨by omega,by omega,by grind[LU]⟩):=u
def EX(u:R:=by exact aV.eval (bg:=[]) bd a8.nil rfl cw):=u
def EY(u:R:=by simp only[U,ae,a7,show ot.bytes=16 from rfl,bA,dj,j8,Ap,hg,eX,jC,dZ,ai,heq,hr,qa,fZ,f_,h0,na,o3,ba,a9];and_intros<;>omega):=u
def EZ(u:R:=by simp only[U,x,a7,show nv.bytes=32 from rfl,show lX.bytes=24 from rfl,bA,lD,ba,a9];and_intros<;>omega):=u
def E0(u:R:=by have:(x==j)=l:=eX.2 M;simp[this]):=u
def E2(u:R:=by refine g.aw rfl ?_;simp[bt,ce]):=u
def E3(u:R:=by simp only[U,dn,a7,bA,dj,ba,a9];and_intros<;>omega):=u
def E4(u:R:=by exact⟨bX,cn,by grind,lS,.refl _ _⟩):=u
def E5(u:R:=by refine g.eM 2 ?_;refine g.cK 9 rfl (λ_=>rfl) ?_;refine g.cK 10 rfl (λ_=>rfl) ?_;refine g.ret ?_;exact⟨⟨_,bt.same⟩,.inl rfl,rfl,rfl,_,_,_,rfl,rfl,rfl,rfl⟩):=u
def E6(u:R:=by grind [Go.Conc.mem_ofEvents]):=u
def E8(u:R:=by refine bf e [(1000017,f)] rfl v ?_;exact du _ _ rfl E):=u
def E9(u:R:=by exact⟨λ_ _ _ _ he=>q6,λ_=>⟨λ_ _ _ _ he=>q6,.inl rfl⟩⟩):=u
def E_(u:R:=by refine g.aS [0] rfl ?_ (λw x=>absurd x E);simp):=u
def E'(u:R:=by refine cJ x rfl v ?_;refine g.cq () [0,1] ?_ ya;simp):=u
def Fa(u:R:=by intro e t cw bp;simp[hp,w0]at bp;split at bp<;>simp at bp):=u
def Fb(u:R:=by simp only[U,x,dj];and_intros<;>omega):=u
def Fc(u:R:=by grind[List.pairwise_iff_getElem]):=u
def Fe(u:R:=by rintro -;refine aZ rfl v ?_;rw[<-d,show(k1:Int)+1=((bc.k1:Nat):Int) by omega];refine g.bh bc [0,5,6,7] ?_ X6;simp):=u
def Ff(u:R:=by exact⟨u.a.mono y,bU.1,bU.2⟩):=u
def Fg(u:R:=by refine g.bK 6 114 2 rfl rfl (g.bf [nb []] rfl E (g.aS [0] rfl E ?_));grind):=u
def Fh(u:R:=by simp only[U,x,a7,show rI.bytes=32 from rfl,ba,a9];and_intros<;>omega):=u
def Fi(u:R:=by have ai:=bj.cT b.2.1 u (0,[]);simp only[U.Y,U,j,cv.E,a9,ba];exact⟨⟨bt.same,bt.same,bt.same⟩,⟨bt.same,bt.same,bt.same⟩,⟨rfl,bt.same⟩,bt.same,ai⟩):=u
def Fj(u:R:=by obtain rfl:=jA (x rfl);refine aZ rfl v ?_;refine g.aw rfl ?_;simp):=u
def Fk(u:R:=by refine g.aS [0] rfl ?_ (λw x=>absurd x E);simp;rfl):=u
def Fl(u:R:=by obtain⟨_,I⟩:=JS bp;simp only[sy]at I;have ai:e<aP.length:=(cO.1 I).1;exact⟨by simp[kr,lh,I],Aq ai⟩):=u
def Fm(u:R:=by simp only[U.Y,U,a9,ba];and_intros<;>first|exactλ_ _=>rfl|exact ai|rfl):=u
def Fo(u:R:=by refine cJ e rfl v (g.aX (bW.mk [0] rfl v rfl rfl rfl g4))):=u
def Fp(u:R:=by simp[-al,I];omega):=u
def Fq(u:R:=by and_intros<;>first|omega|rfl):=u
def Fs(u:R:=by simp only[U,a2.E,a2.U,bj.E,bj.U,a1.E,a1.U,aA.E,aA.U,bD.E,bD.U,x,ae,C,t,aa,na,and_self,f_,ip,ba,a9]):=u
def NS(u:R:=by simp only[U.Y,U,x,o_,cV,a9,ba];and_intros<;>first|exactλ_ _=>rfl|exact ai|rfl):=u
def NT(u:R:=by simp[-al,-List.contains_eq_mem,I,u,ae,aA.E,aA.U,a7,show lX.bytes=24 from rfl];omega):=u
def NU(u:R:=by refine a6 [(9,l)] rfl bV (g.bt rfl rfl ?_);refine aZ rfl v (g.aw rfl ?_);simp[ta (λw t=>x w y)]):=u
def NV(u:R:=by refine a6 [(16,f)] rfl E (g.aX (bW.mk [0] rfl ?_ rfl rfl rfl h6));simp[s' u C x]):=u
def NW(u:R:=by exact .eval (bg:=[]) bd a8.nil (cf:=[a7 .i64 (((0:Nat):Int)-((0:Nat):Int))]) rfl ly):=u
def NX(u:R:=by simp only[U.Y,U,cV,c5,q,a9,ba];exact lO t y y (λ_ _=>rfl)):=u
def NY(u:R:=by refine aZ rfl v ?_;exact⟨w,bW.di [0] rfl v rfl rfl rfl h6⟩):=u
def NZ(u:R:=by simp only[U,U.Y,j,I,s,pL,xX,a9];grind):=u
def N1(u:R:=by rw[s];simp only[U.Y,U,I,dn,fl,gA,ba,a9];and_intros<;>first|exact bt.same|exact t k X|rfl|omega):=u
def N2(u:R:=by simp only[U.Y,U,cV,c5,a9,ba];exact lO H y y (λ_ _=>rfl)):=u
def N3(u:R:=by obtain⟨jy,ja,wR⟩:=u.last O bU CS oq bP b8;grind):=u
def N4(u:R:=by simp only[U,xn,bA,dj,x,a7];omega):=u
def N5(u:R:=by refine g.ret ?_;exact⟨(),.inl rfl,rfl,rfl,_,_,_,rfl,rfl,rfl,v⟩):=u
def N6(u:R:=by rw[s];simp only[U.Y,U,c5,I,dn,gW,ba,a9];and_intros<;>first|exact bt.same|exact C|rfl|omega):=u
def N7(u:R:=by exact a6 [(16,l)] rfl bK (g.b6 (e+1) rfl E rfl v M y)):=u
def N8(u:R:=by simp only[U.Y,U,dn,gW,ba,a9];and_intros<;>first|exact bt.same|exact s|rfl|omega):=u
def N9(u:R:=by refine aZ rfl v (g.aS [0,1] rfl E s5 (s:=bK))):=u
def N_(u:R:=by rw[Deaf_other q y _ g_of_ofEvents];exact u.above e bp):=u
def N'(u:R:=by have ai:(B.toArray++Array.replicate (fn.ntmps-B.toArray.size) K).getD q K=(B[q]?).getD K:=Fy;grind):=u
def Oa(u:R:=by simp[-al,k,a7,cv.E,cv.U,a2.E,a2.U,A,C.1];and_intros<;>first|omega|grind):=u
def Ob(u:R:=by exact a6 [(8,f)] rfl (fm (JQ u)) (g.aw rfl)):=u
def Oc(u:R:=by intro _;refine aZ rfl v (g.aS [0] rfl ?_ h6);simp):=u
def Od(u:R:=by rw[s];simp only[U.Y,U,ae,ba,a9];and_intros<;>first|exact w|exact i|simp|rfl|omega):=u
def Oe(u:R:=by simp only[U,bA,ba,a9];and_intros<;>omega):=u
def Of(u:R:=by refine a6 [(7,l)] rfl bV (g.bt rfl rfl ?_);refine aZ rfl v (g.aw rfl ?_);rw[U,aah (λw I=>s w y)]):=u
def Og(u:R:=by have ai:scanDown (λo=>!ltInt o ae[x]!) ae (e) (j-1)=i:=zS;exact du () v rfl bw rfl E):=u
def Oh(u:R:=by rintro -;refine cJ s rfl v ?_;refine g.cq () [] ?_ fI;simp):=u
def Oi(u:R:=by simp[-al,C,a7,t,cZ.S];omega):=u
def Oj(u:R:=by refine g.cW 4 0 2 3 (lt:=_) (ct:=.ax ae d w s) rfl rfl (λ_=>rfl) (λ_=>rfl) (λ_ _=>by decide) ?_;exact g.aS [0] rfl E s4):=u
def Ol(u:R:=by simp only[oC,x,g_,ai];grind[Nat.eq_of_beq_eq_true]):=u
def On(u:R:=by exact⟨b8 X,C,λs1 cS=>⟨X,Q,O.rely cS C,C.rely cS,I.trans cS.aV,ai⟩⟩):=u
def Oo(u:R:=by simp[ac,cw,resolve,C,Deferred.ofValue,invoke,callFunc,I,s,j]):=u
def Oq(u:R:=by simp only[U,B6,bR.E,x,bR.U];simp[u,k_,x,j,-List.length_flatten]):=u
def Ot(u:R:=by have O:0+((((d.take w).filter λo=>!bc o).length:Nat):Int).toNat=((d.take w).filter λo=>!bc o).length:=y;simp only[U.Y,U,O,a9,ba];exact ai):=u
def Ou(u:R:=by have:=I.bc _ (my (show b.2.1.length-1<b.2.1.length by omega) (0,[]));omega):=u
def Ov(u:R:=by refine a6 [(16,f)] rfl E (g.bS (bW.zero rfl ?_));simp[s' u A x]):=u
def Ow(u:R:=by refine g.bw 1 rfl rfl rfl E E ?_;exact g.aw rfl (by simp[x,hz])):=u
def Ox(u:R:=by simp only[bc]at Q⊢;obtain⟨vy,afb,ae'⟩:=u.dP _ _ bc;grind[mz]):=u
def Oy(u:R:=by simp only[U.Y,U,cV,c5,w,e,u,xorNext_toNat,a9,ba];exact lO d y y (λ_ _=>rfl)):=u
def Oz(u:R:=by rw[s];simp only[U.Y,U,ae,ba,a9];and_intros<;>first|exact w|simp|simp|simp|rfl|omega|simp):=u
def OA(u:R:=by exact a6 [(8,l)] rfl (lE NG) (g.aw rfl)):=u
def OB(u:R:=by simp only[U,cV,s,ai,x,j,a7,bA,dj,ba,a9];and_intros<;>omega):=u
def OC(u:R:=by rw[<-gE,dK]at ai;simp only[hR,eU]at ai;grind):=u
def OD(u:R:=by rw[s];simp only[U.Y,U,ae,ba,a9];and_intros<;>first|exact w|exact i|exactλ_ _=>rfl|rfl|omega):=u
def OE(u:R:=by exact⟨(),.inr rfl,rfl,rfl,_,_,_,rfl,rfl,rfl,v⟩):=u
def OF(u:R:=by refine g.cq () [] ?_ fI;simp):=u
def OG(u:R:=by have ai:scanUp (λo=>!ltInt d2[x]! o) d2 (s) (ec)=i:=Fw;exact du () v rfl bw rfl E):=u
def OH(u:R:=by rename_i C;cases u;rw[C]at s;have j:=b7 s;generalize ai:x.tmps.getD I K=aa at j;cases j;rw[key _ ai (by simp[K])]):=u
def OI(u:R:=by simp only[U,I,a7,show ec.bytes=8 from rfl];exact bw):=u
def OJ(u:R:=by refine g.ret ?_;exact⟨⟨_,bt.same⟩,.inl rfl,rfl,rfl,_,_,_,rfl,rfl,rfl,v⟩):=u
def OK(u:R:=by simp only[U,kq,tR,c5,d,t,I,ae,bA,j];grind):=u
def OL(u:R:=by exact bW.di [0,1] rfl v bK rfl rfl s5):=u
def OM(u:R:=by exact bQ [(14,f),(25,l)] rfl lJ (g.aA (e+1) rfl E E M y)):=u
def ON(u:R:=by simp[x]at u;subst u;obtain⟨j,I⟩:=Eb x;grind):=u
def OO(u:R:=by exact .aO (a0.gY rfl rfl Tryz.underlying22 rfl ca) rfl):=u
def OP(u:R:=by simp only[i]at k⊢;obtain⟨vy,bz,FX⟩:=u.dP _ _ i;grind[mz]):=u
def OQ(u:R:=by simp[G,aq,stepG.exec,Frame.M,C,I,ae,GStep.after,doReturn,bU]):=u
def OR(u:R:=by rename_i bX;cases u;exact aV.a1 a' (a0.pick bc bX)):=u
def OS(u:R:=by exact .ctl ae rfl (λ_=>LZ) λb3 dq=>lT .normal dE ao b3 fF bc (C.rely dq ae) (ae.rely dq) (I.trans dq.aV)):=u
def OT(u:R:=by simp only[U.Y,U,a9,ba,sq];exact⟨bt.same,bt.same,bt.same⟩):=u
def OU(u:R:=by refine bQ [(52,l),(55,f)] rfl zZ (g.aS [0] rfl ?_ g4);exact bK):=u
def OV(u:R:=by simp only[U,a7,dj,eX,dZ];and_intros<;>omega):=u
def OW(u:R:=by rw[d];simp[-al];exact bD.a0 _ ae):=u
def OX(u:R:=by refine cJ j rfl tX ?_;exact⟨⟨_,by rw[cV];exact eG⟩,.inr rfl,rfl,rfl,_,_,_,rfl,rfl,rfl,v⟩):=u
def OY(u:R:=by rw[x];simp only[U.Y,U,j,ba,a9];and_intros<;>first|exact bt.same|exact ai|rfl|omega):=u
def OZ(u:R:=by simp only[U.Y,U,cV,s,ai,x,a9,ba];exact lO w y y (λ_ _=>rfl)):=u
def O0(u:R:=by exact⟨by simp[aO,MemAct.low],λj s=>by simp[aO,MemAct.touch?]at s,λj s=>by simp[aO,MemAct.touch?]at s,⟨by simp,by simp⟩,by simp⟩):=u
def O1(u:R:=by simp[-al,kf,ae,I,a7];omega):=u
def O2(u:R:=by simp only[U.Y,U,ba,a9];and_intros<;>first|exact bt.same|rfl|omega|exact d|exact t|exact d.symm|exact t.symm):=u
def O3(u:R:=by refine jj ?_;change dt b (Sem.events P (asInt (.int .i64 0) >>= _) _ _);simp[asInt,asIntOf,IntKind.max];exact .nil):=u
def O4(u:R:=by exact .dg (.aO (a0.gY rfl rfl Tryz.underlying22 rfl ca) rfl)):=u
def O5(u:R:=by refine cJ u rfl v (g.aS [0] rfl ?_ g4);simp):=u
def O6(u:R:=by refine aZ rfl v (g.ret (.freeze 8 4 rfl rfl rfl (.freeze 9 5 rfl rfl rfl (.of ⟨(),k2.cells bd [0,1] rfl ?_ rfl rfl rfl qt⟩))));simp):=u
def O7(u:R:=by simp only[U,C,s,j,bD.E,bD.U,na,and_self,fZ,ba,a9]):=u
def O8(u:R:=by simp only[U,a2.E,bj.E,a1.E,bD.E,e,r7,k];and_intros<;>first|rfl|exact True.intro|exact a2.U _|exact bj.U _|exact a1.U _|exact bD.U _|exact a'):=u
def O9(u:R:=by rw[I];simp[-al,sY];exact bR.a0 _ _):=u
def O_(u:R:=by have bc:=C _ ae;simp only[U,j,bG.E,a7];exact⟨by omega,v,v,show(e+1)*32<=_ by omega,bG.U _,bc,by omega,by omega,fm y⟩):=u
def O'(u:R:=by simp only[iV,cE]at this;grind[pf]):=u
def Pa(u:R:=by obtain rfl:e=R.2.length:=y;rw[c9];refine a_ j [(15,l)] rfl E (g.aC ?_);refine b_ j rfl v ?_;refine g.bh () [] ?_ (λw i=>absurd i E);simp[hB]):=u
def Pb(u:R:=by exact .aO (a0.fI rfl rfl Tryz.underlying22 rfl x) rfl):=u
def Pc(u:R:=by simp only[U.Y,U,cV,ba,a9];and_intros<;>first|exact bt.same|exact dK|rfl):=u
def Pd(u:R:=by simp only[Go.binOp,Op.shift,bm (show¬j<0 by omega),u];exact⟨rfl,rfl⟩):=u
def Pe(u:R:=by rw[s];simp only[U.Y,U,ae,ba,a9];and_intros<;>first|exact w|simp|simp|grind|rfl|omega|simp):=u
def Pf(u:R:=by refine g.cq () [0,1,2] ?_ nk;simp[hz]):=u
def Pg(u:R:=by simp only;rw[i,dn,show ∀x,[x].length=1 fromλ_=>rfl,w5,AD,F0 M,R,im y];rfl):=u
def Ph(u:R:=by simp only[U,a7,bA,ba,a9];and_intros<;>first|rfl|omega):=u
def Pj(u:R:=by simp[-al,t,bc,u,a7];omega):=u
def Pk(u:R:=by simp only[U,show s9.bytes=16 from rfl,ba,a9];grind):=u
def Pl(u:R:=by refine g.bh () [0,1] ?_ ya;simp):=u
def Pm(u:R:=by simp only[U.Y,U,j,ba,a9];and_intros<;>first|exactλ_ _=>rfl|exact s|rfl|omega):=u
def Pn(u:R:=by refine g.eM 2 ?_;refine g.cK 9 rfl (λ_=>rfl) ?_;refine g.ret ?_;exact⟨⟨_,bt.same⟩,.inl rfl,rfl,rfl,_,_,_,rfl,rfl,rfl,rfl⟩):=u
def Po(u:R:=by refine aZ rfl v (g.aS [0] rfl ?_ h6);simp):=u
def Pp(u:R:=by obtain⟨cS,dq⟩:=ae W gb Dl dI M;refine⟨cS,λai=>?_⟩;obtain⟨L,R,A⟩:=dq ai;refine⟨L,?_,A⟩;simp only[a5.cut,io,gE,dH];exact R):=u
def Pq(u:R:=by simp only[U,cV,s,ai,x,C,j,a7,bA,dj,ba,a9];and_intros<;>omega):=u
def Pr(u:R:=by have ai:scanUp (λo=>ltInt o d2[x]!) d2 (d) (ec)=i:=Fw;exact du () v rfl bw rfl E):=u
def Ps(u:R:=by exact dx.bV o.tocD [4,5] rfl rfl rfl rfl E rfl rfl rfl (λ_=>rfl) rfl (λ_=>rfl)):=u
def Pt(u:R:=by refine a6 [(8,l)] rfl E (g.aC ?_);exact aZ rfl v (g.aw rfl)):=u
def Pu(u:R:=by rw[cL];simp only[U.Y,U,c5,A,O,dn,gW,ba,a9];and_intros<;>first|exact bt.same|exact H|rfl|omega):=u
def Pv(u:R:=by refine cu rfl v (g.aS [0] rfl ?_ h6);simp;rfl):=u
def Pw(u:R:=by simp[-al,-List.contains_eq_mem,I,u,ae,aA.E,aA.U,a7];omega):=u
def Px(u:R:=by and_intros<;>first|exact bt.same|rfl|omega|exact s|exact I|exact s.symm|exact I.symm|(intro e bp;match e,bp with|0,_=>rfl)|(simp only[sq];omega)):=u
def Py(u:R:=by simp only[g',List.take_zero,h1,q,U.Y,U,ba,a9];and_intros<;>first|simp|rfl|omega):=u
def Pz(u:R:=by rw[j];simp[-al];exact bD.a0 _ (cm q e,lw q e)):=u
def PA(u:R:=by have ai:((d.take (i0+1)).filter λo=>!bc o).length=i0:=ae3;simp[ai]):=u
def PC(u:R:=by simp only[U.Y,U,bt.same,ba,a9];rfl):=u
def PD(u:R:=by simp[-al,A,k,u,g1,a7,cv.E,cv.U,a2.E,a2.U,bj.U,a1.U,t,bc.1];and_intros<;>first|omega|grind):=u
def PE(u:R:=by simp only[U,a7,show yq.bytes=40 from rfl,ba,a9];and_intros<;>omega):=u
def PF(u:R:=by refine a6 [(9,l)] rfl bV (g.aC ?_);refine aZ rfl v (g.aS [0] rfl ?_ h6);simp[ta (λw k=>x w y)]):=u
def PG(u:R:=by simp[-al,u,kq,tR,j,I,C,s,A];omega):=u
def PH(u:R:=by refine⟨rfl,λe bp=>?_⟩;rcases e with _|_|_|_|_|_|_|_|e<;>first|rfl|omega):=u
def PI(u:R:=by simp only[U,a7,j,x,fZ,bA,dj,ba,a9];and_intros<;>omega):=u
def PJ(u:R:=by and_intros<;>first|exact bR.U _|rfl|omega):=u
def PK(u:R:=by rw[s];simp only[U.Y,U,dn,gW,ba,a9];and_intros<;>first|exact bt.same|exact ae k|rfl|omega):=u
def PL(u:R:=by simp only[U,ae,a7,show ot.bytes=16 from rfl,bA,dj,j8,Ap,hg,eX,jC,dZ,heq,hr,qa,fZ,f_,h0,na,o3,ba,a9];and_intros<;>omega):=u
def PM(u:R:=by rw[d];simp only[U.Y,U,j,s,A,a2.E,dn,gW,ba,a9];and_intros<;>first|exact bt.same|exact t|rfl|omega):=u
def PN(u:R:=by refine g.cW 4 0 2 9 (lt:=.ax I e i C) (ct:=.nil) rfl rfl (λ_=>rfl) (λu=>absurd rfl u) (λ_ u=>absurd rfl u) ?_;exact g.aS [0] rfl E s4):=u
def PO(u:R:=by have ai:=a2.cT b.1 u (0,[]);simp only[U.Y,U,j,bG.E,a9,ba];exact⟨⟨bt.same,bt.same,bt.same⟩,⟨bt.same,bt.same,bt.same⟩,⟨rfl,bt.same⟩,ai,bt.same⟩):=u
def PP(u:R:=by exact .aO (JW 0 rfl rfl rfl ly (λQ=>rfl) (λQ=>rfl)) rfl):=u
def PQ(u:R:=by simp[-al,A,q,bG.E,bG.U,u]):=u
def PR(u:R:=by refine⟨by grind[nF],by grind,?_⟩;rw[<-s,uM,ae,show x+L / 4*2-1+(3-(i+1))+1=x+L / 4*2-1+(3-i) by omega]):=u
def PS(u:R:=by subst d;exact⟨.bool f,by simp[ac,u,j,I,x,binOp,i],Rd.bool,by simp[ac,u,j,I,x,ae,binOp,i,C]⟩):=u
def PT(u:R:=by simp only[aL];grind[setRow_other]):=u
def PU(u:R:=by simp only[U.Y,U,x,j,o_,cV,a9,ba];and_intros<;>first|exactλ_ _=>rfl|exact A|rfl):=u
def PV(u:R:=by rw[i.bE j (eA cT u.size) (du j cT jk),u.bE j cT jk]):=u
def PW(u:R:=by simp[-al,bz,q,bU,j,t,bG.E,bG.U,a7];omega):=u
def PX(u:R:=by refine⟨by grind,a',by grind,λe bp=>bz e M⟩):=u
def PY(u:R:=by simp only[U,show nv.bytes=32 from rfl,ba,a9];grind):=u
def PZ(u:R:=by have ai:=di cT;subst ai;exact Dm (W:=W) (T:=dI) (b7 C) E t'):=u
def P0(u:R:=by refine b_ j rfl bK (g.aA (e+1) rfl E ?_ u y);simp):=u
def P1(u:R:=by refine bQ [(52,f)] rfl (by simp[ae]) (g.aS [0] rfl ?_ g4);exact bK):=u
def P2(u:R:=by have afd:bc*a4.size+a4.size<=A*a4.size:=ae2;grind):=u
def P3(u:R:=by and_intros<;>first|exact bt.same|exact me|rfl):=u
def P4(u:R:=by have bc:=I _ ae;simp only[U,j,cv.E,a7];exact⟨by omega,v,v,show(e+1)*32<=_ by omega,cv.U _,bc.1,bc.2,by omega,by omega,fm y⟩):=u
def P5(u:R:=by obtain⟨rfl,rfl⟩:=u;obtain⟨j,x⟩:=cw;replace x:0<X:=x;simp only[binOp,dZ,hr,dh,Op.intDiv,show X≠0 by omega];rfl):=u
def P6(u:R:=by simp only[U,x,j,a7,show yq.bytes=40 from rfl,show ec.bytes=8 from rfl,bA,lD,ba,a9];and_intros<;>omega):=u
def P7(u:R:=by simp only[U,bU,a1.E,a1.U,f_,bA,dj,ba,a9];omega):=u
def P8(u:R:=by have ai:scanUp (λo=>ltInt o ae[x]!) ae (j-1) (x+1)=i:=Fw;exact du () v rfl bw rfl E):=u
def P9(u:R:=by simp only[U,xn,bA,dj,x];omega):=u
def P_(u:R:=by subst u;cases o<;>cases X<;>simp only at I<;>simp[binOp,x]):=u
def P'(u:R:=by rw[ae];simp only[U.Y,U,j,bR.E,k,iq,dn,gW,ba,a9];and_intros<;>first|exact bt.same|exact O|rfl|omega):=u
def Qa(u:R:=by intro k u;rw[fl,List.range'_succ];refine⟨by simpa using u 0 t rfl,x (k+1) λw j JK=>?_⟩;have:=u (w+1) j M;grind):=u
def Qb(u:R:=by refine b_ x rfl bK ?_;refine g.aO (yE ((min (ae+8) q.length:Nat):Int) rfl rfl rfl y d) rfl rfl ?_;refine b_ x rfl v (g.aw rfl ?_);simp[ai]):=u
def Qc(u:R:=by rw[j];simp only[U.Y,U,c5,I,s,bG.E,aA.E,dn,gW,ba,a9];and_intros<;>first|exact bt.same|exact d|rfl|omega):=u
def Qd(u:R:=by rw[j];simp only[U.Y,U,c5,I,dn,gW,ba,a9];and_intros<;>first|exact bt.same|exact d|rfl|omega):=u
def Qe(u:R:=by refine g.cp bd [] rfl ?_ rfl rfl rfl fI;simp):=u
def Qf(u:R:=by rw[i];simp only[dn,gW,U.Y,U,x,ba,a9];and_intros<;>first|exact A|simp|rfl|omega):=u
def Qg(u:R:=by simp only[U,a7,show ec.bytes=8 from rfl,bA,dj,hg,eX,dZ];and_intros<;>first|rfl|omega|(simp[g1];done)):=u
def Qh(u:R:=by simp[-al];exact bD.a0 _ ae):=u
def Qi(u:R:=by exact aV.eval (bg:=[]) bd a8.nil rfl (nu b d k j u)):=u
def Qj(u:R:=by rw[s];simp only[U.Y,U,c5,w,dn,gW,ba,a9];and_intros<;>first|exact bt.same|exact d|rfl|omega):=u
def Qk(u:R:=by simp only[U,a7,ai,s,e,bA,dj,ba,a9];omega):=u
def Ql(u:R:=by simp[-al,A,k,q,bG.E,bG.U,u,a7];omega):=u
def Qm(u:R:=by subst d;exact⟨.bool l,by simp[ac,u,j,I,x,binOp,i],Rd.bool,by simp[ac,u,j,I,x,ae,binOp,i,C]⟩):=u
def Qn(u:R:=by refine a6 [(9,l)] rfl bw (g.aC ?_);exact aZ rfl v (g.aw rfl)):=u
def Qo(u:R:=by and_intros<;>first|exact bR.U _|exact e1.U _|omega):=u
def Qp(u:R:=by simp only[U,cV,s,ai,x,i,C,j,a7,bA,dj,ba,a9];and_intros<;>omega):=u
def Qq(u:R:=by simp only[U,cV,c5,O,R,a7,bA,ba,a9];and_intros<;>omega):=u
def Qr(u:R:=by simp only[U,a2.E,bj.E,a1.E,bD.E,e,r7,t];and_intros<;>first|rfl|exact True.intro|exact a2.U _|exact bj.U _|exact a1.U _|exact bD.U _|exact a'):=u
def Qs(u:R:=by simp only[Go.binOp,dZ,hr,dh,Op.intBits,ai,r' I];exact⟨rfl,rfl⟩):=u
def Qt(u:R:=by simp[-al,k,t,a7,cv.E,cv.U,a2.E,a2.U,A,C.1];and_intros<;>first|omega|grind):=u
def Qv(u:R:=by and_intros<;>first|exactλ_ _=>rfl|exact ai|rfl|omega):=u
def Qw(u:R:=by have ai:scanDown (λo=>!ltInt o d2[x]!) d2 (fw) (d)=i:=zS;exact du () v rfl bw rfl E):=u
def Qx(u:R:=by show h (E1.aq (O.c (nw b.1 e (.slice (h ⟨j,0,n⟩) ag.length cap) (0+(e:Int).toNat))))=_;rw[k,nw,br rfl]):=u
def Qy(u:R:=by rw[x];simp only[U.Y,U,dn,fl,gA,ba,a9];and_intros<;>first|exactλ_ _=>rfl|exact a'|rfl|omega):=u
def Qz(u:R:=by exact⟨by exact cQ,λj i=>by exact cQ,⟨by simp,by simp⟩,by simp⟩):=u
def QA(u:R:=by rename_i ai;subst ai;intro pre vg;refine .ctl ae rfl (λ_=>LY (gb:=i) (by rw[vg];simp[exitTo])) λb3 dq=>?_;exact lT .normal dE ao b3 fF bc (C.rely dq ae) (ae.rely dq) (I.trans dq.aV)):=u
def QB(u:R:=by have ai:I[e]?=(d.filter λo=>!bc o)[e]?:=M;refine(No wB).trans ?_;simp only[cZ.fn,gr,al,ai]):=u
def QC(u:R:=by refine bQ [(14,l)] rfl bV (g.aC ?_);exact cu rfl v (g.aw rfl)):=u
def QD(u:R:=by rw[hu]at u;cases u;exact e'.dg (ee aR ai j cw) ae i):=u
def QE(u:R:=by simp[-al,-List.length_take,I,kf,j,C,s,a7];omega):=u
def QG(u:R:=by refine bQ [(52,l),(55,l)] rfl bw (g.aS [0] rfl ?_ g4);simp[ae,ai,qz,CR]):=u
def QH(u:R:=by simp only[U,a7,bA,dj,ba,a9];and_intros<;>omega):=u
def QI(u:R:=by have j:=(aR q e bp).run_underlying (Q:=b.a);rw[ae]at j;simp[ac,u,x,I,Instr.index,asIntOf,j,JK,C]):=u
def QJ(u:R:=by obtain⟨R,L1,cS,dq,a'⟩:=u.box d bX L aE x;obtain⟨q,w,k1,ae,C⟩:=i.box d R L1 cS dq;exact⟨q,w,k1,ae,a'.trans C⟩):=u
def QK(u:R:=by have:=I.a2 _ (my (show b.1.length-1<b.1.length by omega) (0,[]));omega):=u
def QL(u:R:=by simp only[U,bG.E,x,bU];and_intros<;>first|exact bG.U _|rfl|exact True.intro|grind):=u
def QM(u:R:=by have ai:scanDown (λo=>ltInt d2[x]! o) d2 (fw) (s)=i:=zS;exact du () v rfl bw rfl E):=u
def QN(u:R:=by have ai:=Jg C A aa;refine⟨by omega,rfl,?_,λ_ _=>rfl⟩;grind):=u
def QO(u:R:=by have:=u e (sx.2 bp);simp only[ic,cE]at this;grind):=u
def QP(u:R:=by obtain⟨e,t,j,x⟩:=CP u;exact⟨e+1,t,by grind,x⟩):=u
def QQ(u:R:=by refine aZ rfl v ?_;exact⟨(),.inr rfl,rfl,rfl,_,_,_,rfl,rfl,rfl,v⟩):=u
def QR(u:R:=by simp only[dH]at I;subst I;exact cu rfl v (g.aw rfl)):=u
def QS(u:R:=by simp[-al,I,s];omega):=u
def QT(u:R:=by simp only[U,s,j,bA,lD,ba,a9];and_intros<;>omega):=u
def QU(u:R:=by simp only[U,a7,ai,s,A,bA,eq_self,ba,a9];omega):=u
def QV(u:R:=by refine⟨j,rfl,?_⟩;rw[bm y];simp[gN,jD]):=u
def QW(u:R:=by simp only[U,bU,a1.E,a1.U,f_,bA,ba,a9];omega):=u
def QX(u:R:=by simp only[U.Y,U,cV,c5,a9,ba];exact lO bz y y (λ_ _=>rfl)):=u
def QY(u:R:=by simp at I;subst I;exact⟨_,rfl,.inr ⟨rfl,rfl⟩⟩):=u
def QZ(u:R:=by simp[ac,cw,resolve,s,Deferred.ofValue,invoke,I]):=u
def Q1(u:R:=by refine g.cW 4 0 9 2 (lt:=.nil) (ct:=.ax ae d w s) rfl rfl (λu=>absurd rfl u) (λ_=>rfl) (λu=>absurd rfl u) ?_;exact g.aS [0] rfl E s4):=u
end
end Go
namespace Go.AM
inductive N where
  |int (i:IntKind) (k:Int)
  |bool (j:Bool)
  |V (b:List UInt8)
  |S (tight:Bool) (i k:Nat) (T:Nat->List N)
  |O (ah:List N)
  |bk
  |cd (q:av) (s:N)
  |cD (q:av) (ah:List N)
  |bo
  |fn (ae:Fn) (first cap:List N)
  |da
  |val (o:Z)
inductive pS where
  |S (C i t k:Nat)
  |bu (C i e ae:Nat)
def pS.g:pS->Nat
  |.S C _ _ _=>C
  |.bu C _ _ _=>C
def pS.fX:pS->Z->Z->Prop
  |.S _ i o m,d,j=>∃k e a b,j=.slice k m a/\m<=a/\o+a=b/\b<=9223372036854775807/\d=.slice e 0 b/\(0<a->∃g,e=h ⟨g,0,n⟩/\k=h ⟨g,o*i,n⟩)
  |.bu _ i q p,d,j=>∃g b,d=.slice (h ⟨g,0,n⟩) 0 b/\j=.pointer (h ⟨g,q*i+p,n⟩)
inductive O where
  |c (o:N)
  |ptr (d off:Nat)
  |r (d i k:Nat) (T:Nat->List N)
  |aR (d:Nat)
  |R (d:Nat) (Q:pS)
  |any
abbrev O.v(a:Z):O:=.c (.val a)
inductive E1 where
  |aq (x:O)
  |agg (ah:List O)
inductive z where
  |n (o:E1)
  |Q (ag:List E1)
  |any
abbrev bH:=m (Nat×z)
def look:bH->Nat->z
  |[],_=>.any
  | (d,b)::e,a=>cond (af d a) b (look e a)
inductive an where
  |cells (W:av) (ah:List O)
  |r (W:av) (i k:Nat) (T:Nat->List N)
  |J (H:Z->(Nat->Option Obj)->Prop)
  |x
  |loop (D:Nat) (F:bH) (a':Loop)
  |bn
  |h (W:av) (i k:Nat) (T:Nat->List N)
@[simp] def an.dN:an->Bool
  |.r _ _ _ _=>f
  |.h _ _ _ _=>f
  |_=>l
structure Loc where
  v:Z
  al:m Nat
abbrev Mem:=Nat->Nat->Option Z
structure a5 where
  l:m Loc
  u:Mem
  a:au
  own:Nat->Prop
def a7:IntKind->Int->Prop
  |.i8,a=>-128<=a/\a<=127
  |.i16,a=>-32768<=a/\a<=32767
  |.i32,a=>-2147483648<=a/\a<=2147483647
  |.i64,a=>-9223372036854775808<=a/\a<=9223372036854775807
  |.u8,a=>0<=a/\a<=255
  |.u16,a=>0<=a/\a<=65535
  |.u32,a=>0<=a/\a<=4294967295
  |.u64,a=>0<=a/\a<=18446744073709551615
def dW:Z->Bool
  |.agg _|.tuple _=>l
  |_=>f
def pS.fX.cell{b:pS}{aam aa}(a:b.fX aam aa):dW aa=f:=by
  cases b with
  |S=>obtain⟨_,_,_,_,rfl,_⟩:=a;rfl
  |bu=>obtain⟨_,_,_,rfl⟩:=a;rfl
inductive Rd (bB:Mem):Z->N->Prop
  |int {i:IntKind} {k:Int} (u:a7 i k):Rd bB (.int i k) (.int i k)
  |bool {j:Bool}:Rd bB (.bool j) (.bool j)
  |V {b:ByteArray} {d:List UInt8} (u:b.data.toList=d) (gE:c d<=9223372036854775807):Rd bB (.string b) (.V d)
  |S {x:Option Addr} {k cap:Nat} {tight:Bool} {i:Nat} {T:Nat->List N} (j off:Nat) (ae:Nat->Nat->Z)
      (ae_:k<=cap) (cT:cap<=9223372036854775807) (afe:tight=f->cap=k) (bU:∀e,e<k->c (T e)=i)
      (ae8:0<k->x=h ⟨j,off,n⟩)
      (pn:∀e,e<k->∀w s,(T e)[w]?=h s->bB j (off+e*i+w)=h (ae e w))
      (JL:∀e,e<k->∀w s,(T e)[w]?=h s->Rd bB (ae e w) s):Rd bB (.slice x k cap) (.S tight i k T)
  |O {ah:List N} (j off:Nat) (ae:Nat->Z)
      (pn:∀w s,ah[w]?=h s->bB j (off+w)=h (ae w))
      (JL:∀w s,ah[w]?=h s->Rd bB (ae w) s):Rd bB (.pointer (h ⟨j,off,n⟩)) (.O ah)
  |bk:Rd bB (.pointer n) .bk
  |cd {q:av} {aa:Z} {s:N} (u:Rd bB aa s) (ae9:dW aa=f):Rd bB (.iface q aa) (.cd q s)
  |cD {q:av} {B:List Z} {ah:List N} (gE:c B=c ah)
      (ae:Nat->Z) (pm:∀w,w<c B->B[w]?=h (ae w)) (JL:∀w s,ah[w]?=h s->Rd bB (ae w) s):Rd bB (.iface q (.agg B.toArray)) (.cD q ah)
  |bo:Rd bB .nilIface .bo
  |fn {C:Fn} {first cap:List N} (h7 ah:List Z) (gE:c h7=c first) (afa:c ah=c cap) (f1 f2:Nat->Z)
      (cS:∀w,w<c h7->h7[w]?=h (f1 w)) (dq:∀w,w<c ah->ah[w]?=h (f2 w))
      (afj:∀w s,first[w]?=h s->Rd bB (f1 w) s) (afk:∀w s,cap[w]?=h s->Rd bB (f2 w) s):Rd bB (.func C h7.toArray ah.toArray) (.fn C first cap)
  |da:Rd bB .nilFunc .da
  |val {o:Z} (u:dW o=f):Rd bB o (.val o)
theorem Rd.bd{bB}{aa o}(a:Rd bB aa (.val o)):aa=o:=by cases a;rfl
def Rd.cell{bB}{aa}{s}(a:Rd bB aa s):dW aa=f:=by cases a<;>first|rfl|assumption
def Rd.mono{bB o}(I:∀m J aa,bB m J=h aa->o m J=h aa){aa}{s}(i:Rd bB aa s):Rd o aa s:=by
  induction i with
  |int i=>exact .int i
  |bool=>exact .bool
  |V i e=>exact .V i e
  |S m g p K C E D B k r b=>
    exact .S m g p K C E D B (λF j d s a=>I _ _ _ (k F j d s a)) (λF j d s a=>b F j d s a)
  |O m g p k r b=>exact .O m g p (λd s a=>I _ _ _ (k d s a)) (λd s a=>b d s a)
  |bk=>exact .bk
  |cd i M b=>exact .cd b M
  |cD e p N r b=>exact .cD e p N (λd s a=>b d s a)
  |bo=>exact .bo
  |fn y v e q w x z A Q R t u=>exact .fn y v e q w x z A (λd s a=>t d s a) (λd s a=>u d s a)
  |da=>exact .da
  |val i=>exact .val i
def cx(i:m an)(j:a5)(b:Z):O->Prop
  |.c w=>Rd j.u b w
  |.ptr a p=>(∀k,i[a]?=h k->k.dN=l)/\∃L v,j.l[a]?=h L/\L.v=.pointer (h ⟨v,0,n⟩)/\b=.pointer (h ⟨v,p,n⟩)
  |.r a r e d=>Rd j.u b (.S l r e d)/\a<c i/\∀q s g o,i[a]?=h (an.r q s g o)->e<=g/\(g=e->∃L,j.l[a]?=h L/\b=L.v)
  |.aR a=>(∀k,i[a]?=h k->k.dN=l)/\∃L,j.l[a]?=h L/\b=L.v/\dW b=f
  |.R a t=>∃u,t.fX u b/\a<c i/\∀q r e d,i[a]?=h (an.h q r e d)->t.g<=e/\(t.g=e->∃L,j.l[a]?=h L/\L.v=u)
  |.any=>dW b=f
def bN(b:m an)(d:a5):m Z->m O->Prop
  |[],[]=>True
  |g::B,e::a=>cx b d g e/\bN b d B a
  |_,_=>False
def et(b:m an)(d:a5)(e:Z):E1->Prop
  |.aq g=>cx b d e g
  |.agg a=>∃B:m Z,e=.agg B.toArray/\bN b d B a
def eS(b:m an)(d:a5):m Z->m E1->Prop
  |[],[]=>True
  |g::B,e::a=>et b d g e/\eS b d B a
  |_,_=>False
def bx(b:m an)(d:a5)(e:Z):z->Prop
  |.n g=>et b d e g
  |.Q a=>∃B:m Z,e=.tuple B.toArray/\eS b d B a
  |.any=>True
def b5(b:m an)(d:a5):m Z->m z->Prop
  |[],[]=>True
  |g::B,e::a=>bx b d g e/\b5 b d B a
  |_,_=>False
structure eZ(bB:Mem)(i k:Nat)(T:Nat->m N)(B:m Z):Prop where
  len:c B=k*i
  bG:∀e,e<k->c (T e)=i
  rd:∀e,e<k->∀(w:Nat) (s:N),(T e)[w]?=h s->∃aa,B[e*i+w]?=h aa/\Rd bB aa s
def eZ.mono{bB a}(p:∀j o aa,bB j o=h aa->a j o=h aa){i k}{b:Nat->m N}{B}(d:eZ bB i k b B):eZ a i k b B:=
  ⟨d.len,d.bG,λr e s q g=>let ⟨aa,cS,dq⟩:=d.rd r e s q g;⟨aa,cS,dq.mono p⟩⟩
def er(v:m an)(b:a5):an->Loc->Prop
  |.cells p t,L=>∃a B,L=⟨.pointer (h ⟨a,0,n⟩),[a]⟩/\b.a.heap[a]?=h (.cells (List.toArray B) p (0,0))/\bN v b B t/\∀d,b.u a d=n
  |.r p k g e,L=>Rd b.u L.v (.S l k g e) /\
      (((L.al=[]/\g=0)/\Rd b.u L.v (.S f k g e)) ∨
       ∃a i B,L=⟨.slice (h ⟨a,0,n⟩) g i,[a]⟩/\b.a.heap[a]?=h (.cells (List.toArray B) p (0,0))/\c B=i*k/\∀d,g*k<=d->b.u a d=n)
  |.J H,L=>∃j,H L.v j/\(∀a d,j a=h d->b.a.heap[a]?=h d)/\(∀a,a∈L.al↔(j a).isSome=f)/\∀a∈L.al,∀d,b.u a d=n
  |.x,_=>True
  |.loop y x o,L=>∃s tmps fn u,L=⟨.func (.yield s) #[] #[],[s]⟩/\b.a.heap[s]?=h (.loop {o with tmps:=tmps,fn:=fn,defers:=u})/\tmps.size=y/\(∀w,bx v b (tmps.getD w K) (look x w))/\∀d,b.u s d=n
  |.bn,L=>∃o:Nat,L=⟨.int .i64 o,[o]⟩/\b.a.heap[o]?=h (.deferred (h []))/\∀d,b.u o d=n
  |.h p k g e,L=>(g=0/\L=⟨.slice n 0 0,[]⟩)∨∃a r B q,L=⟨.slice (h ⟨a,0,n⟩) 0 r,[a]⟩/\b.a.heap[a]?=h (.cells (List.toArray (B++q)) p (0,0))/\c (B++q)=r*k/\g<=r/\r<=9223372036854775807/\eZ b.u k g e B/\∀d,b.u a d=n
structure bb(p:m an)(b:a5):Prop where
  mem:∀j t aa,b.u j t=h aa->b.a.cell? ⟨j,t,n⟩=h aa
  len:c b.l=c p
  box:∀(d:Nat) (bX:an) (L:Loc),p[d]?=h bX->b.l[d]?=h L->er p b bX L
  a3:∀(d kL:Nat) (L cn:Loc),b.l[d]?=h L->b.l[kL]?=h cn->∀j∈L.al,j∈cn.al->d=kL
  lt:∀L∈b.l,∀j∈L.al,j<b.a.heap.size
  own:∀j,b.own j->j<b.a.heap.size/\∀L∈b.l,j∉L.al
def fE:an->Loc->an->Loc->Prop
  |.r _ _ d _,L,.r _ _ b _,a=>(b=d->a.v=L.v)/\d<=b
  |.r _ _ _ _,_,.x,_=>True
  |.r _ _ _ _,_,_,_=>False
  |.h _ _ d _,L,.h _ _ b _,a=>(b=d->a.v=L.v)/\d<=b
  |.h _ _ _ _,_,.x,_=>True
  |.h _ _ _ _,_,_,_=>False
  |_,_,.r _ _ _ _,_=>False
  |_,_,.h _ _ _ _,_=>False
  |.x,L,.x,a=>a.v=L.v
  |.x,_,_,_=>False
  |.bn,L,.bn,a=>a.v=L.v
  |.bn,_,_,_=>False
  |_,_,.bn,_=>False
  |_,L,_,a=>a.v=L.v
structure fk(p:m an)(b:a5)(ao:m an)(az:a5):Prop where
  mem:∀j t aa,b.u j t=h aa->az.u j t=h aa
  box:∀(d:Nat) (bX:an) (L:Loc),p[d]?=h bX->b.l[d]?=h L->∃d' cn,ao[d]?=h d'/\az.l[d]?=h cn/\fE bX L d' cn
structure cN(p:m an)(b:a5)(ao:m an)(az:a5):Prop where
  size:b.a.heap.size<=az.a.heap.size
  a6:∀j,j<b.a.heap.size->(∀L∈b.l,j∉L.al)->az.a.heap[j]?=b.a.heap[j]?
  mem:∀j t aa,b.u j t=h aa->az.u j t=h aa
  bE:∀j,j<b.a.heap.size->(∀L∈b.l,j∉L.al)->∀t,az.u j t=b.u j t
  bT:∀cn∈az.l,∀j∈cn.al,b.a.heap.size<=j∨∃L∈b.l,j∈L.al
  box:∀(d:Nat) (bX:an) (L:Loc),p[d]?=h bX->b.l[d]?=h L->∃d' cn,ao[d]?=h d'/\az.l[d]?=h cn/\fE bX L d' cn
  os:az.a.os=b.a.os
  tape:az.a.tape=b.a.tape
  output:az.a.output=b.a.output
  own:az.own=b.own
structure dc(p:m an)(b:a5)(ao:m an)(az:a5):Prop where
  size:b.a.heap.size<=az.a.heap.size
  a6:∀j,b.own j->az.a.heap[j]?=b.a.heap[j]?
  mem:∀j t aa,b.u j t=h aa->az.u j t=h aa
  bE:∀j,j<b.a.heap.size->(∀L∈b.l,j∉L.al)->∀t,az.u j t=b.u j t
  bT:∀cn∈az.l,∀j∈cn.al,b.a.heap.size<=j∨∃L∈b.l,j∈L.al
  box:∀(d:Nat) (bX:an) (L:Loc),p[d]?=h bX->b.l[d]?=h L->∃d' cn,ao[d]?=h d'/\az.l[d]?=h cn/\fE bX L d' cn
  os:az.a.os=b.a.os
  tape:az.a.tape=b.a.tape
  output:az.a.output=b.a.output
  own:az.own=b.own
structure cU(b az:a5):Prop where
  l:az.l=b.l
  u:az.u=b.u
  own:az.own=b.own
  size:b.a.heap.size<=az.a.heap.size
  a6:∀j,(b.own j∨∃L∈b.l,j∈L.al)->az.a.heap[j]?=b.a.heap[j]?
  mem:∀j t aa,b.u j t=h aa->az.a.cell? ⟨j,t,n⟩=h aa
  os:az.a.os=b.a.os
  tape:az.a.tape=b.a.tape
  output:az.a.output=b.a.output
def h4(d:a5)(b:aT):Prop:=
  match b.loc with
  |.cell a=>b.sync=l/\a.spot=n/\(False∨((∃L∈d.l,a.block∈L.al)/\(b.write=f->d.u a.block a.off=n))∨(b.write=l/\∃j,d.u a.block a.off=h j))
  |.obj i=>b.sync=l/\(False∨∃L∈d.l,i∈L.al)
  |.mark e=>e=.noRoom∨∃g,e=.extern g
  |_=>False
def dt(d:a5)(a:Array aT):Prop:=∀b∈a,h4 d b
def dt.nil{b}:dt b #[]:=by intro a d;grind
def fE.refl(a)(L):fE a L a L:=by cases a<;>simp[fE]
def fE.trans{g d a}{L e b}(j:fE g L d e)(i:fE d e a b):fE g L a b:=by
  cases g<;>cases d<;>cases a<;>simp_all[fE]
  all_goals
    grind
def cN.refl(p)(b):cN p b p b:=
  ⟨bC _,λ_ _ _=>rfl,λ_ _ _ a=>a,λ_ _ _ _=>rfl,λL a i d=>.inr ⟨L,a,d⟩,λ_ e L a g=>⟨e,L,a,g,.refl _ _⟩,rfl,rfl,rfl,rfl⟩
def cN.trans{p aM a}{b e b3}(u:cN p b aM e)(i:cN aM e a b3):cN p b a b3:=by
  have du:∀j,j<b.a.heap.size->(∀L∈b.l,j∉L.al)->∀L∈e.l,j∉L.al:=by
    intro j cT jk L x g;rcases u.bT L x j g with cS|⟨v,t,o⟩
    · omega
    grind
  refine⟨fG u.size i.size,?_,λj m y k=>i.mem _ _ _ (u.mem _ _ _ k),?_,?_,?_,i.os.trans u.os,i.tape.trans u.tape,i.output.trans u.output,i.own.trans u.own⟩
  · intro j cT jk
    rw[i.a6 j (eA cT u.size) (du j cT jk),u.a6 j cT jk]
  · intro j cT jk m
    exact PV
  · intro L x j cT
    rcases i.bT L x j cT with cS|⟨L1,s,r⟩
    · exact .inl (fG u.size cS)
    grind
  · intro d bX L aE x
    exact QJ
def dc.refl(p)(b):dc p b p b:=
  ⟨bC _,λ_ _=>rfl,λ_ _ _ a=>a,λ_ _ _ _=>rfl,λL a i d=>.inr ⟨L,a,d⟩,λ_ e L a g=>⟨e,L,a,g,.refl _ _⟩,rfl,rfl,rfl,rfl⟩
def dc.trans{p aM a}{b e b3}(u:dc p b aM e)(i:dc aM e a b3):dc p b a b3:=by
  have du:∀j,j<b.a.heap.size->(∀L∈b.l,j∉L.al)->∀L∈e.l,j∉L.al:=by
    intro j cT jk L x g;rcases u.bT L x j g with cS|⟨v,t,o⟩
    · omega
    grind
  refine⟨fG u.size i.size,?_,λj m y k=>i.mem _ _ _ (u.mem _ _ _ k),?_,?_,?_,i.os.trans u.os,i.tape.trans u.tape,i.output.trans u.output,i.own.trans u.own⟩
  · intro j cT
    rw[i.a6 j (by rw[u.own];exact cT),u.a6 j cT]
  · intro j cT jk m
    exact PV
  · intro L x j cT
    rcases i.bT L x j cT with cS|⟨L1,s,r⟩
    · exact .inl (fG u.size cS)
    grind
  · intro d bX L aE x
    exact QJ
def cN.too1{p ao}{b az}(e:bb p b)(a:cN p b ao az):dc p b ao az:=
  ⟨a.size,λg d=>a.a6 g (e.own g d).1 (e.own g d).2,a.mem,a.bE,a.bT,a.box,a.os,a.tape,a.output,a.own⟩
def dc.ext{p ao}{b az}(a:dc p b ao az):fk p b ao az:=⟨a.mem,a.box⟩
def cU.refl{p}{b}(a:bb p b):cU b b:=⟨rfl,rfl,rfl,bC _,λ_ _=>rfl,a.mem,rfl,rfl,rfl⟩
def cU.aV{p}{b az}(a:cU b az):dc p b p az:=
  ⟨a.size,λg d=>a.a6 g (.inl d),λg m o j=>by rw[a.u];exact j,λ_ _ _ _=>by rw[a.u],λL e g d=>.inr ⟨L,by rw[<-a.l];exact e,d⟩,
    λk i L aE e=>⟨i,L,aE,by rw[a.l];exact e,.refl _ _⟩,a.os,a.tape,a.output,a.own⟩
def cN.ext{p ao}{b az}(a:cN p b ao az):fk p b ao az:=⟨a.mem,a.box⟩
section mono
variable {p ao:m an}{b az:a5}
def fk.hE(m:fk p b ao az){a:Nat}{L}(k:b.l[a]?=h L)(o:c b.l=c p)(i:∀d,p[a]?=h d->d.dN=l):
    (∀d,ao[a]?=h d->d.dN=l)/\∃e,az.l[a]?=h e/\e.v=L.v:=by have j:a<c p:=M;obtain⟨g,e,k1,r,s⟩:=m.box a (p[a]) L (bI j) k;have q:=i _ (bI j);generalize p[a]=d at *;rw[k1];cases d<;>cases g<;>simp_all[fE,an.dN]
def cx.mono(j:fk p b ao az)(t:c b.l=c p){aa}{w}(k:cx p b aa w):cx ao az aa w:=by
  cases w with
  |c V=>exact Rd.mono j.mem k
  |any=>exact k
  |ptr a K=>
    obtain⟨i,L,N,e,z,F⟩:=k;obtain⟨r,d,k1,A⟩:=j.hE e t i;exact⟨r,d,N,k1,by grind,F⟩
  |r a S T O=>
    obtain⟨B,m,Q⟩:=k;obtain⟨v,d,k1,A,s⟩:=j.box a (p[a]) (b.l[a]'y) (bI m) (bI y);have x:a<c ao:=(cO.1 k1).1;refine⟨Rd.mono j.mem B,x,λM C r o g=>?_⟩;rw[g]at k1;cases k1;have aE:=bI m;generalize p[a]=u at *;cases u with
    |r eJ D I q=>
      obtain⟨R,J⟩:=s;grind
    |_=>simp[fE]at s
  |aR a=>
    obtain⟨i,L,e,z,F⟩:=k;obtain⟨r,d,k1,A⟩:=j.hE e t i;exact⟨r,d,k1,by grind,F⟩
  |R a U=>
    obtain⟨E,B,m,Q⟩:=k;obtain⟨v,d,k1,A,s⟩:=j.box a (p[a]) (b.l[a]'y) (bI m) (bI y);have x:a<c ao:=(cO.1 k1).1;refine⟨E,B,x,λM C r o g=>?_⟩;rw[g]at k1;cases k1;have aE:=bI m;generalize p[a]=u at *;cases u with
    |h eJ D I q=>
      obtain⟨R,J⟩:=s;grind
    |_=>simp[fE]at s
def bN.mono(g:fk p b ao az)(a:c b.l=c p){B}{ah}(e:bN p b B ah):bN ao az B ah:=by
  induction B generalizing ah with
  |nil=>cases ah<;>simp_all[bN]
  |cons j B d=>
    cases ah with
    |nil=>simp[bN]at e
    |cons i ah=>exact⟨e.1.mono g a,d e.2⟩
def et.mono(g:fk p b ao az)(a:c b.l=c p){aa}{o}(i:et p b aa o):et ao az aa o:=by
  cases o with
  |aq k=>exact cx.mono g a i
  |agg j=>obtain⟨B,d,e⟩:=i;exact⟨B,d,e.mono g a⟩
def eS.mono(i:fk p b ao az)(a:c b.l=c p){B}{ag}(e:eS p b B ag):eS ao az B ag:=by
  induction B generalizing ag with
  |nil=>cases ag<;>simp_all[eS]
  |cons k B d=>
    cases ag with
    |nil=>simp[eS]at e
    |cons j g=>exact⟨e.1.mono i a,d e.2⟩
def bx.mono(i:fk p b ao az)(a:c b.l=c p){aa}{d}(j:bx p b aa d):bx ao az aa d:=by
  cases d with
  |n m=>exact et.mono i a j
  |Q k=>obtain⟨B,e,g⟩:=j;exact⟨B,e,g.mono i a⟩
  |any=>trivial
def b5.mono(i:fk p b ao az)(a:c b.l=c p){B}{ag}(e:b5 p b B ag):b5 ao az B ag:=by
  induction B generalizing ag with
  |nil=>cases ag<;>simp_all[b5]
  |cons k B d=>
    cases ag with
    |nil=>simp[b5]at e
    |cons j g=>exact⟨e.1.mono i a,d e.2⟩
end mono
def i1(e:m an)(i:a5):m Deferred->m Nat->Prop
  |[],[]=>True
  |j::b,d::a=>(e[d]?=h .bn/\∃(L:Loc) (g:Nat),i.l[d]?=h L/\L.v=.int .i64 g/\j={target:=.collected g,args:=#[]})/\d∉a/\i1 e i b a
  |_,_=>False
def i1.mono{p ao}{b az}(o:fk p b ao az):∀{a:m Deferred} {d:m Nat},i1 p b a d->i1 ao az a d
  |[],[],_=>trivial
  |[],_::_,e=>e.elim
  |_::_,[],e=>e.elim
  |w::a,v::d,⟨⟨j,L,e,k,x,t⟩,u,q⟩=>by
    obtain⟨g,i,k1,r,s⟩:=o.box v _ L j k;cases g<;>simp[fE]at s
    exact⟨⟨k1,i,e,r,by grind,t⟩,u,i1.mono o q⟩
def jQ:m an->Bool
  |[]=>f
  |.bn::_=>l
  |_::a=>jQ a
def vw:∀{e:m an},jQ e=f->∀a∈e,a≠.bn
  |[],_,a,aE=>by grind
  |d::g,i,a,aE=>by
    have b:d≠.bn/\jQ g=f:=by cases d<;>simp_all[jQ]
    rcases fo.1 aE with rfl|aE
    · exact b.1
    · exact vw b.2 a aE
theorem mw{b}{a}{wr}{L}(d:L∈b.l)(e:a∈L.al):h4 b ⟨.obj a,wr,l⟩:=⟨rfl,.inr ⟨L,d,e⟩⟩
def dt.aq{b}{a}(e:h4 b a):dt b #[a]:=by intro o d;grind
def dt.fj{b}{d a}(i:h4 b d)(g:h4 b a):dt b #[d,a]:=by intro j e;grind
def bw{R:Prop}(u:R:=by simp<;>omega):R:=u
def cQ{R:Prop}(u:R:=by((try simp only[U,U.Y,a7,bA,dj,c5,cV,dn,gW,fl,gA,k3,List.length_take,dZ,eX,hg,jC,dh,dH,fZ,h0,f_,ip,hr,qa,cE,jB,j8,na,o3,lD,a9,ba]);and_intros<;>first|rfl|omega|trivial|assumption)):R:=u
def ht{R:Prop}(u:R:=by((try simp only[*,U,U.Y,a7,bA,dj,c5,cV,dn,gW,fl,gA,k3,List.length_take,dZ,eX,hg,jC,dh,dH,fZ,h0,f_,ip,hr,qa,cE,jB,j8,na,o3,lD,a9,ba]);and_intros<;>first|rfl|omega|trivial|assumption)):R:=u
def lJ{R:Prop}(u:R:=by(simp_all[U,U.Y,a7,bA,dj,c5,cV,dn,gW,fl,gA,k3,List.length_take,dZ,eX,hg,jC,dh,dH,fZ,h0,f_,ip,hr,qa,cE,jB,j8,na,o3,lD,a9,ba]<;>omega)):R:=u
def bK{R:Prop}(u:R:=by((try simp only[*,U,U.Y,a7,bA,dj,c5,cV,dn,gW,fl,gA,k3,List.length_take,dZ,eX,hg,jC,dh,dH,fZ,h0,f_,ip,hr,qa,cE,jB,j8,na,o3,lD,a9,ba,a2.E,a1.E,bj.E,bG.E,aA.E,bD.E,bR.E,cv.E,e1.E,a2.U,a1.U,bj.U,bG.U,aA.U,bD.U,bR.U,cv.U,e1.U]);and_intros<;>first|rfl|omega|trivial|assumption)):R:=u
abbrev ax(a:N):z:=.n (.aq (.c a))
abbrev aG(a b:Nat):z:=.n (.aq (.ptr a b))
abbrev cz(a:Nat)(b:pS):z:=.n (.aq (.R a b))
abbrev cM(a:Value):z:=.n (.aq (.c (.val a)))
variable {k A:Nat}{i:Int}{d j e w:Nat}{W:av}{H:Z->(Nat->Option Obj)->Prop}{L:Array Bool}{bB:Mem}{D:Nat}{P:aI}{bq:ak->a5->Prop}{s:Code}{C:ak}{t:ap}{b:a5}{q:av}{aa:Z}{o X:aB}{α:Type}{η:aB->z}{ι:Type}{p:m an}{F:bH}{all:m ap}{dp:Array av}{cap:m N}{cR:m z}{k8:Nat->Option Obj}{ah:m aK}{bg:m (Nat×Bool)}{T:Nat->m N}{cP:aB}{gs:Array ak}{aP:m Nat}{cf:m Prop}{off:Nat}{op:BinOp}{aD:Array ap}{ab:m Prop}{bs:m ap}{az:a5}{ty:av}{val:Nat->Nat->Z}{B:m Z}{bi:au}{ag:Array aB}{ao dd:m an}{res:ι->z}{aM:ι->m an}
def J0{P}{o}:∀{q:m (String×DataW Unit)}{d:m MemPlace},DataW.LaidVars P o q d->∀{e:String}{i:DataW Unit},(e,i)∈q ->
  ∃j k b a r,P.globalNamed e=h j/\(P.globals[j]?).map (·.type)=h k/\o.var? P e=h b/\DataW.trod (λ_=>()) P o 0 (λ_=>f) l a k b.toList=h (i,r)
 |[],_,_,_,_,g=>by cases g
 |(z,u)::B,d,t,e,i,g=>by
  obtain⟨j,k,b,a,r,A,x,v,y,w,s,_⟩:=t;rcases fo.1 g with p|p
  .grind
  exact J0 s p
theorem L8{P}{a:au}(b:a.ShapedOpen P){C}{zero}{q}(d:C<P.globals.size)(i:(((begin P (λ_ _=>0) default).world.heap[C]?).bind Obj.row?)=h (zero,q)){k}(m:P.globalNamed k=h C){ah}(e:a.var? P k=h ah):
  a.heap[C]?=h (.cells ah q (0,0)):=by obtain⟨g,j,_⟩:=b.1 C zero q d i;unfold World.var? at e;grind
def J2{P}{b}{g:m (String×DataW Unit)}(p:laidMetH P g b)(i:b.ShapedOpen P){k e}{o}(F:(k,.iface e o)∈g.filter λE=>E.2.handleName?.isNone){C q s}{cr}{zero}(d:P.globalNamed k=h C)(y:(P.globals[C]?).map (·.type)=h q)(x:P.underlying q=h (.interface cr))(D:C<P.globals.size)(I:(((begin P (λ_ _=>0) default).world.heap[C]?).bind Obj.row?)=h (zero,s)):∃a:av×Z,b.heap[C]?=h (.cells #[.iface a.1 a.2] s (0,0)):=by obtain⟨w,r,_⟩:=(laidMetH_iff.1 p).1;obtain⟨O,J,j,K,M,v,t,z,u⟩:=J0 r F;cases d.symm.trans v;cases y.symm.trans t;obtain⟨_,A,B,a,_⟩:=iface_of_trod x u;have:=L8 i D I d z;rw[Array.eq_one_of_toList a]at this;exact⟨(A,B),this⟩
def Z9{P}{a}{d}(q:laidMetH P d a)(y:a.ShapedOpen P){k}{e}{b}(w:(k,e)∈d.filter λx=>x.2.handleName?.isSome)(o:e.funcsIn?=n)(u:e.handleName?=h b){C j i ty}{zero}(F:P.globalNamed k=h C)(t:(P.cutTypes.find? (·.1== "internal/reflectlite.rtype")).map (·.2)=h i)(D:((aC P.types.size).filter λg=>P.rowNamed g b)=[ty])(E:C<P.globals.size)(O:(((begin P (λ_ _=>0) default).world.heap[C]?).bind Obj.row?)=h (zero,j)):a.heap[C]?=h (.cells #[.iface i (.agg #[typeHandle P ty])] j (0,0)):=by have:=(laidMetH_iff.1 q).2 _ w;rw[o]at this;obtain⟨name,B,m,p,v,r,s,A⟩:=this;cases u.symm.trans p;cases t.symm.trans v;have z:m∈(aC P.types.size).filter λg=>P.rowNamed g b:=kD.2 ⟨sx.2 r,s⟩;grind[L8]
section
open Go.Conc (G listed)
def kz(e b:a5)(d:Array aT):Prop:=(∃g a,bb g e/\bb a b/\cN g e a b)/\dt e d
structure aj(P:aI) where
 b5:Bool
 rely:a5->a5->Prop
 de:ak->a5->(ak->a5->Prop)->Prop
 bN:∀{b az},rely b az->cU b az
 dQ:Prop
class aj.b' {P:aI} (r:aj P):Prop where
 ok:r.dQ
structure eW(b az:a5):Prop where
 a:az.a=b.a
 mem:∀j t aa,b.u j t=h aa->az.u j t=h aa
 bE:∀j,(∀L∈b.l,j∉L.al)->∀t,az.u j t=b.u j t
 cell:∀j t aa,az.u j t=h aa->b.a.cell? ⟨j,t,n⟩=h aa
 blk:∀j,(az.own j∨∃L∈az.l,j∈L.al)->b.own j∨∃L∈b.l,j∈L.al
structure nU(b az:a5):Prop where
 a:az.a=b.a
 l:az.l=b.l
 own:az.own=b.own
 e7:∀j t aa,az.u j t=h aa->b.u j t=h aa
 mem:∀j t aa,b.u j t=h aa->az.u j t=h aa∨b.own j
inductive cb {P:aI} (r:aj P) (bq:ak->a5->Prop):ak->a5->Prop
 |stop {C:ak} {b:a5}:bq C b->cb r bq C b
 |step {C:ak} {b:a5} (KB:a5->ak) (bu:a5->a5) (Ky:a5->Array aT):C.status=.running ->
   (∀s1,r.rely b s1->aq P r.b5 C s1.a=.go (KB s1) (bu s1).a (Ky s1))->(∀s1,r.rely b s1->kz s1 (bu s1) (Ky s1))->(∀s1,r.rely b s1->cb r bq (KB s1) (bu s1))->cb r bq C b
 |aU {C:ak} {b az:a5}:eW b az->cb r bq C az->cb r bq C b
 |b2 {C:ak} {b az:a5}:r.dQ->nU b az->cb r bq C az->cb r bq C b
 |de {C:ak} {b:a5} {ad:ak->a5->Prop}:r.de C b ad->(∀hk az,ad hk az->cb r bq hk az)->cb r bq C b
section
variable {r:aj P}
def cb.next(i:C.status=.running)(j:∀s,r.rely b s->∃a az T,aq P r.b5 C s.a=.go a az.a T/\kz s az T/\cb r bq a az):cb r bq C b:=by
 classical
 have d:∀s,∃a':ak×a5×Array aT,r.rely b s->aq P r.b5 C s.a=.go a'.1 a'.2.1.a a'.2.2/\kz s a'.2.1 a'.2.2/\cb r bq a'.1 a'.2.1:=by
  intro s;by_cases e:r.rely b s
  .obtain⟨a,az,T,cS⟩:=j s e;exact⟨(a,az,T),λ_=>cS⟩
  exact⟨(C,s,#[]),λg=>absurd g e⟩
 refine .step (λs=>(Classical.choose (d s)).1) (λs=>(Classical.choose (d s)).2.1) (λs=>(Classical.choose (d s)).2.2) i M M ?_;grind
theorem eW.of(m:bb p b)(o:bb ao az)(q:az.a=b.a)(i:dc p b ao az):eW b az:=by
 have v:∀a g j,az.u a g=h j->b.a.cell? ⟨a,g,n⟩=h j:=λa g j k=>by rw[<-q];exact o.mem a g j k
 have s:∀a g j,b.a.cell? ⟨a,g,n⟩=h j->a<b.a.heap.size:=by
  intro a g j k;rcases dY a b.a.heap.size with d|d
  .exact d
  simp[aL,Av d]at k
 refine⟨q,i.mem,λa e g=>?_,v,λa e=>?_⟩
 .rcases dY a b.a.heap.size with d|d
  .exact i.bE a d e g
  cases u:az.u a g with
  |some j=>grind
  |none=>cases t:b.u a g with
   |none=>rfl
   |some j=>have:=s _ _ _ (m.mem _ _ _ t);omega
 rcases e with e|⟨L,r,e⟩
 .exact .inl (by rw[<-i.own];exact e)
 rcases i.bT L r a e with d|d
 .have:=o.lt L r a e;grind
 grind
def bb.rely(m:bb p b)(i:cU b az):bb p az:=by
 have t:fk p b p az:=i.aV.ext;have X:∀v x,cx p b v x->cx p az v x:=λv x w=>w.mono t m.len;refine⟨λk s v A=>i.mem k s v (by rw[<-i.u];exact A),by rw[i.l];exact m.len,?_,by rw[i.l];exact m.a3,?_,?_⟩
 .intro d D L aE o;rw[i.l]at o;have e:=m.box d D L aE o;have K:∀k∈L.al,az.a.heap[k]?=b.a.heap[k]?:=λk e=>i.a6 k (.inr ⟨L,b9 o,e⟩);cases D with
  |cells E F=>
   obtain⟨k,B,g,j,q,r⟩:=e;subst g;exact⟨k,B,a,by grind,q.mono t m.len,λs=>by rw[i.u,r]⟩
  |r E O R z=>
   obtain⟨g,j⟩:=e;refine⟨by rw[i.u];exact g,?_⟩;rcases j with⟨j,q⟩|⟨k,cap,B,j,q,r,u⟩
   .exact .inl ⟨j,by rw[i.u];exact q⟩
   subst j;exact .inr ⟨k,cap,B,a,by grind,r,λs C=>by rw[i.u,u s C]⟩
  |J H=>
   obtain⟨y,g,j,q,r⟩:=e;refine⟨y,g,λk s W=>?_,q,λk I s=>by rw[i.u,r k I]⟩;grind
  |x=>trivial
  |loop V U w=>
   obtain⟨d,tmps,fn,J,g,j,q,r,u⟩:=e;subst g;exact⟨d,tmps,fn,J,a,by grind,q,λT=>(r T).mono t m.len,λs=>by rw[i.u,u]⟩
  |bn=>
   obtain⟨w,g,j,q⟩:=e;subst g;exact⟨w,a,by grind,λs=>by rw[i.u,q]⟩
  |h E O R z=>
   rcases e with e|⟨k,S,B,Q,g,j,q,r,u,M,N⟩
   .exact .inl e
   subst g;exact .inr ⟨k,S,B,Q,a,by grind,q,r,u,by rw[i.u];exact M,λs=>by rw[i.u,N]⟩
 .intro L o k e;rw[i.l]at o;exact eA (m.lt L o k e) i.size
 intro k e;rw[i.own]at e;rw[i.l];exact⟨eA (m.own k e).1 i.size,(m.own k e).2⟩
def kz.aZ(a:bb p b):kz b b #[]:=⟨⟨p,p,a,a,.refl _ _⟩,.nil⟩
def _root_.Go.Frame.M(b:aK)(a:Act)(todo:m Item):aK:={b with tmps:=a.tmps,todo:=todo,defers:=a.defers++b.defers,mode:=.run}
variable {j:aK}{x:Act}{i:m Item}{Q:au}{eP:Bool}
def Ja(a:aK)(x)(s):(a.M x s).eval=x.eval:=by funext o;cases o<;>rfl
def L4:aq P eP (G (j.M x (.code .skip::i)) ah) Q=.go (G (j.M x i) ah) Q:=q1
def LZ{id}:aq P eP (G (j.M x (.inBlock id::i)) ah) Q=.go (G (j.M x i) ah) Q:=q1
theorem pE{o X}:aq P eP (G (j.M x (.code (.seq o X)::i)) ah) Q=.go (G (j.M x (.code o::.code X::i)) ah) Q:=q1
def y8{s}{o X}{q}(b:x.eval s=.bool q):
  aq P eP (G (j.M x (.code (.cond s o X)::i)) ah) Q=.go (G (j.M x (.code (if q then o else X)::i)) ah) Q:=by
 have a:(j.M x (.code (.cond s o X)::i)).eval s=.bool q:=by rw[Ja];exact b
 simp[Frame.M]at a;simp[G,aq,stepG.exec,Frame.M,a]
def y7{id}:aq P eP (G (j.M x (.code (.block id s)::i)) ah) Q=.go (G (j.M x (.code s::.inBlock id::i)) ah) Q:=q1
def L2:aq P eP (G (j.M x (.code (.loop s)::i)) ah) Q=.go (G (j.M x (.code s::.inLoop s::i)) ah) Q:=q1
def L0:aq P eP (G (j.M x (.inLoop s::i)) ah) Q=.go (G (j.M x (.code s::.inLoop s::i)) ah) Q:=q1
def LY{id}{gb}(u:exitTo id i=h gb):aq P eP (G (j.M x (.code (.exit id)::i)) ah) Q=.go (G (j.M x gb) ah) Q:=Fx
def y_{id}:aq P eP (G (j.M x (.code (.region id aD l)::i)) ah) Q=.go (G (j.M x (.inRegion aD (aC aD.size)::i)) ah) Q:=q1
def D4{id}:aq P eP (G (j.M x (.code (.region id aD f)::i)) ah) Q =
  .go (G (j.M x (.inRegion aD (Region.schedule (P.follows .mixedOrders) aD (Q.tape Q.drawn (.order j.fn id)))::i)) ah) {Q with drawn:=Q.drawn+1}:=by simp[G,aq,stepG.exec,Frame.M,choose,Sem.run,Question.forced,Question.cut]
def vV:aq P eP (G (j.M x (.inRegion aD []::i)) ah) Q=.go (G (j.M x i) ah) Q:=q1
def D5(u:j.roundOf=n):aq P eP (G (j.M x (.code .ret::i)) ah) Q=.go (G {j.M x (.code .ret::i)with mode:=.returning} ah) Q:=Fx
def D3(u:j.roundOf=n):aq P eP (G (j.M x []) ah) Q=.go (G {j.M x []with mode:=.returning} ah) Q:=Fx
def qs(aD)(e)(bs)(aa):
  (j.M x (.inRegion aD (e::bs)::i)).finish aa=j.M (x.put ((aD[e]?).bind (·.dst)) aa) (.inRegion aD bs::i):=by cases a:(aD[e]?).bind (·.dst)<;>simp[Frame.finish,Frame.M,Act.put,a]
def acb{bs}(a:aD[e]?=h t)(d:aU t (yielded aD x.tmps)=l):
  aq P eP (G (j.M x (.inRegion aD (e::bs)::i)) ah) Q=.go (G (j.M (x.put t.dst K) (.inRegion aD bs::i)) ah) Q:=by have b:=qs (j:=j) (x:=x) (i:=i) aD e bs K;rw[a]at b;simp[n4]at b;rw[<-b];simp[G,aq,stepG.exec,Frame.M,a,d]
theorem xW{a:aB->Z}{s}(i:t.op=.defer s){e}(b:(ac a t).run P Q=.ok e bi):∃d,e=.defer d:=by
 simp[ac,i,cH]at b;cases g:(resolve a s t.type).run P Q with
 |ok d w2=>rw[g]at b;simp at b;grind
 |halt j w2=>simp_all
def y9{a:m Nat}(b:aD[e]?=h t)(k:aU t (yielded aD x.tmps)=f)(o:∀g,t.op≠.defer g):
  aq P eP (G (j.M x (.inRegion aD (e::a)::i)) ah) Q=stepG.apply P f (j.M x (.inRegion aD (e::a)::i)) ah n (ac x.eval t) Q:=by have d:=Ja j x (.inRegion aD (e::a)::i);simp[Frame.M]at d;simp[G,aq,stepG.exec,stepG.oper,Frame.oper?,Frame.M,b,k,d];grind
theorem ach{bs}(a:aD[e]?=h t)(g:aU t (yielded aD x.tmps)=f)(m:j.kind≠.early)(k:(ac x.eval t).run P Q=.ok (.value aa) bi):
  aq P eP (G (j.M x (.inRegion aD (e::bs)::i)) ah) Q=.go (G (j.M (x.put t.dst aa) (.inRegion aD bs::i)) ah) bi (listed P j.fn x t Q):=by have b:=qs (j:=j) (x:=x) (i:=i) aD e bs aa;rw[a]at b;simp[n4]at b;have d:(j.kind==CallKind.early)=l:=M;rw[y9 a g (λo p=>by grind[xW]),<-b];simp[stepG.apply,k,G,Frame.M,d,GStep.after,listed]
theorem L3{bs}(a:aD[e]?=h t)(g:aU t (yielded aD x.tmps)=f)(m:j.kind≠.early)(k:(ac x.eval t).run P Q=.ok .skip bi):
  aq P eP (G (j.M x (.inRegion aD (e::bs)::i)) ah) Q=.go (G (j.M (x.put t.dst K) (.inRegion aD bs::i)) ah) bi (listed P j.fn x t Q):=by have b:=qs (j:=j) (x:=x) (i:=i) aD e bs K;rw[a]at b;simp[n4]at b;have d:(j.kind==CallKind.early)=l:=M;rw[y9 a g (λo p=>by grind[xW]),<-b];simp[stepG.apply,k,G,Frame.M,d,GStep.after,listed]
def tH{bs}{b}{args}(a:aD[e]?=h t)(g:aU t (yielded aD x.tmps)=f)(m:j.kind≠.early)(k:(ac x.eval t).run P Q=.ok (.enter b args) bi):
  aq P eP (G (j.M x (.inRegion aD (e::bs)::i)) ah) Q=.go (G (Frame.enter P b args .normal) (j.M x (.inRegion aD (e::bs)::i)::ah)) bi (listed P j.fn x t Q):=by have d:(j.kind==CallKind.early)=l:=M;rw[y9 a g (λo p=>by grind[xW])];simp[stepG.apply,k,G,Frame.M,d,GStep.after,listed]
structure mc(P:aI)(ae:a3)(hv:aK)(aa:Z)(b:a5):Prop where
 jg:hv.fn=ae
 mode:hv.mode=.returning
 defers:hv.defers=[]
 kind:hv.kind=.normal
 fn:∃fn,P.funcs[hv.fn]?=h fn/\∀Q,(∀j t bz,b.u j t=h bz->Q.cell? ⟨j,t,n⟩=h bz)->(results fn hv.tmps).run P Q=.ok aa Q/\∀ai∈(results fn hv.tmps).events P Q #[],∃j t bz,ai=⟨.cell ⟨j,t,n⟩,l,l⟩/\b.u j t=h bz
def mc.mono{g}{hv}(p:mc P g hv aa b)(s:∀e i j,b.u e i=h j->az.u e i=h j):mc P g hv aa az:=by obtain⟨a,d,o,k,fn,m,r⟩:=p;refine⟨a,d,o,k,fn,m,λt q=>?_⟩;grind
def dt.seen{b}{T}{fn}(e:dt b T):dt b (seen P fn T):=λd a=>e d (Go.Conc.mem_seen a)
def aca{m}{C s}(g:mc P m C aa b)(Q)(o:∀a e i,b.u a e=h i->Q.cell? ⟨a,e,n⟩=h i):∃d,aq P eP (G C (s::ah)) Q=.go (G (s.finish aa) ah) Q d/\∀j∈d,∃a e i,j=⟨.cell ⟨a,e,n⟩,l,l⟩/\b.u a e=h i:=by obtain⟨fn,p,k⟩:=g.fn;obtain⟨t,r⟩:=k Q o;refine⟨seen P C.fn ((results fn C.tmps).events P Q #[]),?_,λj q=>r j (Go.Conc.mem_seen q)⟩;simp[G,aq,unwind,doReturn,g.mode,g.defers,g.kind,p,t,GStep.after]
end
end
structure bY(D:Nat)(p:m an)(b:a5)(F:bH)(x:Act):Prop where
 size:x.tmps.size=D
 defers:∃nB,i1 p b x.defers nB
 aH:∀q,bx p b (x.tmps.getD q K) (look F q)
def bY.mono{D}{p ao}{b az}{F}{x}(g:dc p b ao az)(e:c b.l=c p)(a:bY D p b F x):bY D ao az F x:=
 ⟨a.size,a.defers.imp λ_ d=>d.mono g.ext,λi=>(a.aH i).mono g.ext e⟩
def bY.rely{x}(e:cU b az)(a:bb p b)(d:bY D p b F x):bY D p az F x:=d.mono e.aV a.len
def bY.put{D}{p}{b}{F}{x}(a:bY D p b F x){I}(e:I<D){aa}{o}(k:bx p b aa o):bY D p b ((I,o)::F) (x.put (h I) aa):=by
 refine⟨by simp[Act.put,a.size],a.defers,λd=>?_⟩;simp[Act.put,look];by_cases g:I=d
 .subst g;rw[show af I I=f from sF I];have i:I<x.tmps.size:=by rw[a.size];exact e
  simp[hp,uB i,iq,cond];exact k
 have:af I d=l:=ub;rw[this];have j:=a.aH d;simp[hp]at j⊢;grind
def iA(i a:bH):Prop:=∀b d g e,bx b d g (look i e)->bx b d g (look a e)
def bY.le{dE}{x}(d:iA F dE)(a:bY D p b F x):bY D p b dE x:=
 ⟨a.size,a.defers,λe=>d _ _ _ _ (a.aH e)⟩
abbrev fs:=Exit->bH->m an->Prop
def kI(i:aj P)(g:ak->a5->Prop)(j:aK)(o:m Item)(a:m aK):Exit->Act->a5->Prop
 |.normal,b,d=>cb i g (G (j.M b o) a) d
 |.exit id,b,d=>∀pre,(∀e,exitTo id (pre++e)=exitTo id e)->cb i g (G (j.M b (.code (.exit id)::(pre++o))) a) d
 |.ret,b,d=>∀pre,cb i g (G (j.M b (.code .ret::pre)) a) d
 |.panic k,b,d=>∀p,cb i g (G {j.M b p with mode:=.panicking k} a) d
 |_,_,_=>False
section
variable {r:aj P}{j:aK}{i:m Item}{x:Act}
def kI.cons{o}(p:∀id a,exitTo id (o::a)=exitTo id a){e}(m:e≠.normal)(d:kI r bq j i ah e x b):kI r bq j (o::i) ah e x b:=by
 cases e with
 |normal=>grind
 |exit id=>
  intro pre k;have:=d (pre++[o]) (λa=>by grind);grind
 |ret=>exact d
 |panic g=>exact d
 |goto q=>exact d
 |outgrown=>exact d
def cb.ctl{a}(g:bb p b)(k:C.status=.running)(j:∀i,aq P r.b5 C i=.go a i #[])(m:∀d,cU b d->cb r bq a d):cb r bq C b:=
 .next k λd e=>⟨a,d,#[],j d.a,.aZ (g.rely (r.bN e)),m d (r.bN e)⟩
def uG{k}{w s}(u:bb p b)(m:mc P k w aa b)(o:∀d,cU b d->cb r bq (G (s.finish aa) ah) d):cb r bq (G w (s::ah)) b:=by refine .next a λd v=>?_;have e:=r.bN v;have i:=u.rely e;obtain⟨g,q,y⟩:=aca (eP:=r.b5) (s:=s) (ah:=ah) m d.a e.mem;refine⟨_,d,g,q,⟨⟨p,p,i,i,.refl _ _⟩,λj t=>?_⟩,o d e⟩;obtain⟨A,B,z,rfl,x⟩:=y j t;exact⟨a,a,.inr (.inr ⟨a,z,by rw[e.u];exact x⟩)⟩
def xc(m:Nat->Act->a5->Prop)(y:∀k x b,m k x b->∃p,bb p b/\∀g,cU b g->m k x g)(round:∀k x b,m k x b->(∀d e o,o<k->m o d e->cb r bq (G (j.M d (.inLoop s::i)) ah) e)->cb r bq (G (j.M x (.code s::.inLoop s::i)) ah) b)(B:m k x b):
  cb r bq (G (j.M x (.code (.loop s)::i)) ah) b:=by
 have key:∀k x b,m k x b->cb r bq (G (j.M x (.inLoop s::i)) ah) b:=by
  intro k;induction k using Nat.strongRecOn with
  |_ k A=>
   intro x b w;obtain⟨p,t,u⟩:=y k x b w;exact .ctl t a (λC=>L0) λg v=>round k x g (u g v) λd e o z q=>A o z d e q
 obtain⟨p,t,u⟩:=y k x b B;exact .ctl t a (λC=>L2) λg v=>round k x g (u g v) λd e o _ q=>key o d e q
end
def b0(q:aj P)(o:Nat)(v:Code)(aN:fs)(u:bH)(j:m an):Prop:=
 ∀i r,bY o j i u r->bb j i->∀k t g (p:ak->a5->Prop),k.kind≠.early ->
  (∀s d a b e,aN s d a->bY o a b d e->bb a b->dc j i a b->kI q p k t g s e b)->cb q p (G (k.M r (.code v::t)) g) i
def nW(a:m ap):m Nat->m ap->Prop
 |[],[]=>True
 |d::idx,e::b=>a.toArray[d]?=h e/\nW a idx b
 |_,_=>False
def e'(s:aj P)(q:Nat)(d e:m ap)(aN:bH->m an->Prop)(v:bH)(o:m an):Prop:=
 ∀k t,bY q o k v t->bb o k->∀(p:aK) u j (r:ak->a5->Prop) idx,p.kind≠.early->nW d idx e ->
  (∀g a b i,aN g a->bY q a b g i->bb a b->dc o k a b->cb s r (G (p.M i u) j) b)->cb s r (G (p.M t (.inRegion d.toArray idx::u)) j) k
section rules
variable {r:aj P}{aN:fs}
def b0.mono{o}(x:b0 r D s aN F p)(y:∀a F p,aN a F p->o a F p):b0 r D s o F p:=
 λb t v k u A g q j i=>x b t v k u A g q j λa d ao az e B z w m=>i a d ao az e (y _ _ _ B) z w m
def b0.le{s}{dE}(o:b0 r D s aN dE p)(g:iA F dE):b0 r D s aN F p:=
 λt j m e k q a i d b=>o t j (m.le g) e k q a i d b
theorem b0.skip(m:aN .normal F p):b0 r D .skip aN F p:=λt e j d q s i o _ g=>
 .ctl d a (λ_=>L4) λk b=>g .normal F p k e m (j.rely b d) (d.rely b) b.aV
def b0.ret(i:aN .ret F p):b0 r D .ret aN F p:=λk b g a o j e m _ d=>d .ret F p k b i g a (.refl _ _) j
theorem b0.exit{id}(i:aN (.exit id) F p):b0 r D (.exit id) aN F p:=λj b g a m o e k _ d=>by have:=d (.exit id) F p j b i g a (.refl _ _) [] bl;grind
def v'(next:bH->m an->Prop)(aN:fs):fs
 |.normal,a,b=>next a b
 |d,a,b=>aN d a b
theorem b0.seq{o X}(R:b0 r D o (v' (b0 r D X aN) aN) F p):b0 r D (.seq o X) aN F p:=by
 intro U O S d A J e z i g;refine .ctl d a (λ_=>pE) λT b=>?_;refine R T O (S.rely b d) (d.rely b) A (.code X::J) e z i ?_;intro s M N w m K I C y;have B:=b.aV.trans y;cases s with
 |normal=>exact K w m I C A J e z i λs Q k x q v t u j=>g s Q k x q v t u (B.trans j)
 |_=>exact kI.cons (λ_ _=>rfl) E (g _ _ _ _ _ K I C B)
theorem b0.cond{s}{o X}{q}{w}(S:s=.tmp w)(C:look F w=ax (.bool q))(R:q=f->b0 r D o aN F p)(N:q=l->b0 r D X aN F p):b0 r D (.cond s o X) aN F p:=by
 intro U t z g y I k x m B;have v:=z.aH w;rw[C]at v;have A:t.eval s=.bool q:=by subst S;generalize A:t.tmps.getD w K=V at v;simp[bx,et,cx]at v;cases v;exact A
 refine .ctl g a (λ_=>y8 A) λE e=>?_;have M:∀u i b d j,aN u i b->bY D b d i j->bb b d->dc p E b d->kI r x y I k u j d:=λu i b d j T Q O J=>B u i b d j T Q O (e.aV.trans J);cases q
 .exact N a E t (z.rely e g) (g.rely e) y I k x m M
 exact R a E t (z.rely e g) (g.rely e) y I k x m M
def uL(id:Nat)(aN:fs):fs
 |.exit a,b,d=>if a=id then aN .normal b d else aN (.exit a) b d
 |e,b,d=>aN e b d
theorem b0.block{id}(v:b0 r D s (uL id aN) F p):b0 r D (.block id s) aN F p:=by
 intro A q x e t i g o j lT;refine .ctl e a (λ_=>y7) λy d=>?_;refine v y q (x.rely d e) (e.rely d) t (.inBlock id::i) g o j ?_;intro ai dE ao k fF bc C ae m;have I:=d.aV.trans m;cases ai with
 |normal=>
  exact OS
 |exit b=>
  simp[uL]at bc;split at bc
  .exact QA
  .rename_i w
   intro pre vg;have:=lT (.exit b) dE ao k fF bc C ae I (pre++[.inBlock id]) (λgb=>by
    rw[mj,vg];have:(id==b)=l:=M
    simp[exitTo,this])
   grind
 |ret=>exact lT _ _ _ _ _ bc C ae I
 |panic u=>exact lT _ _ _ _ _ bc C ae I
 |goto z=>exact lT _ _ _ _ _ bc C ae I
 |outgrown=>exact lT _ _ _ _ _ bc C ae I
def b0.loop{bq:Type}(q:bq->Prop)(e:bq->bH)(b:bq->m an)(v:bq->Nat)(o)(ae:q o)(Z:iA F (e o))(V:b o=p)(round:∀o,q o->b0 r D s (v' (λx y=>∃X,q X/\v X<v o/\iA x (e X)/\y=b X) aN) (e o) (b o)):b0 r D (.loop s) aN F p:=by
 intro ab ah aa K T W A bq J I;subst V;refine xc (λk d az=>∃X,q X/\bY D (b X) az (e X) d/\bb (b X) az/\dc (b o) ab (b X) az/\v X=k) ?_ ?_ ⟨o,ae,aa.le Z,K,.refl _ _,a⟩
 .rintro k d az ⟨X,w,t,C,u,B⟩;exact⟨b X,C,λO i=>⟨X,w,t.rely i C,C.rely i,u.trans i.aV,B⟩⟩
 rintro k d az ⟨X,w,t,C,u,rfl⟩ ad;refine round X w az d t C T (.inLoop s::W) A bq J ?_;intro B ai S M z Q N j g;cases B with
 |normal=>
  obtain⟨R,ag,Y,U,rfl⟩:=Q;exact ad z M (v R) Y ⟨R,ag,N.le U,j,u.trans g,a⟩
 |_=>exact kI.cons (λ_ _=>rfl) E (I _ _ _ _ _ Q N j (u.trans g))
end rules
def bN.cM{ah}(d:bN p b B ah):c B=c ah:=by
 induction B generalizing ah with
 |nil=>cases ah<;>simp_all[bN]
 |cons g B a=>
  cases ah with
  |nil=>simp[bN]at d
  |cons e ah=>simp[a d.2]
def cx.cell{p}{b}{aa}{g}(a:cx p b aa g):dW aa=f:=by
 cases g with
 |c q=>exact Rd.cell a
 |ptr e i=>obtain⟨_,_,_,_,_,rfl⟩:=a;rfl
 |r e k m j=>exact Rd.cell a.1
 |aR e=>obtain⟨_,_,_,_,d⟩:=a;exact d
 |R e o=>obtain⟨_,d,_⟩:=a;exact d.cell
 |any=>exact a
theorem bN.get{ah}(i:bN p b B ah){x}(d:ah[w]?=h x):∃e,B[w]?=h e/\cx p b e x:=by
 induction B generalizing ah w with
 |nil=>cases ah<;>simp_all[bN]
 |cons e B g=>
  cases ah with
  |nil=>grind
  |cons j ah=>
   cases w with
   |zero=>simp at d;subst d;exact⟨e,a,i.1⟩
   |succ w=>simp at d;obtain⟨o,k,m⟩:=g i.2 d;grind
def bN.cell{p}{b}{B}{ah}(e:bN p b B ah):∀i∈B,i.oneCell'=f:=by
 induction B generalizing ah with
 |nil=>simp
 |cons i B d=>
  cases ah with
  |nil=>simp[bN]at e
  |cons j ah=>
   intro g a;rcases fo.1 a with rfl|a
   .have:=cx.cell e.1;cases g<;>simp_all[dW,Value.oneCell']
   exact d e.2 g a
def bN.append{j}{ah a}(e:bN p b B ah)(g:bN p b j a):bN p b (B++j) (ah++a):=by
 induction B generalizing ah with
 |nil=>cases ah<;>simp_all[bN]
 |cons k B d=>
  cases ah with
  |nil=>simp[bN]at e
  |cons i ah=>exact⟨e.1,d e.2⟩
def bN.take{p}{b}{B}{ah}(d:bN p b B ah)(i):bN p b (B.take i) (ah.take i):=by
 induction B generalizing ah i with
 |nil=>cases ah<;>simp_all[bN]
 |cons g B a=>
  cases ah with
  |nil=>simp[bN]at d
  |cons e ah=>cases i with
   |zero=>simp[bN]
   |succ i=>exact⟨d.1,a d.2 i⟩
def bN.drop{p}{b}{B}{ah}(d:bN p b B ah)(i):bN p b (B.drop i) (ah.drop i):=by
 induction B generalizing ah i with
 |nil=>cases ah<;>simp_all[bN]
 |cons g B a=>
  cases ah with
  |nil=>simp[bN]at d
  |cons e ah=>cases i with
   |zero=>exact d
   |succ i=>simpa using a d.2 i
theorem bb.block(a:bb p b){t}(d:b.u j t=h aa):j<b.a.heap.size:=by
 have:=a.mem j t aa d;rcases dY j b.a.heap.size with a|a
 .exact a
 simp[aL,Av a]at this
def bb.same(g:bb p b)(v:bi.heap=b.a.heap):bb p {b with a:=bi}:=by
 have M:∀k,bi.cell? k=b.a.cell? k:=λk=>by simp[aL,v]
 have S:∀q k,cx p b q k->cx p {b with a:=bi} q k:=λq k o=>by cases k<;>exact o
 have x:∀B d,bN p b B d->bN p {b with a:=bi} B d:=by
  intro B;induction B with
  |nil=>intro d o;cases d<;>simp_all[bN]
  |cons q B z=>intro d o;cases d with
   |nil=>simp[bN]at o
   |cons k d=>exact⟨S _ _ o.1,z _ o.2⟩
 refine⟨λe D q y=>by rw[M];exact g.mem e D q y,g.len,?_,g.a3,λL x e j=>by show e<bi.heap.size;rw[v];exact g.lt L x e j,λe j=>⟨by show e<bi.heap.size;rw[v];exact(g.own e j).1,(g.own e j).2⟩⟩;intro A t L aE s;have:=g.box A t L aE s;cases t with
 |cells C E=>
  obtain⟨e,B,a,i,m,r⟩:=this;exact⟨e,B,a,by grind,x _ _ m,r⟩
 |r C K N w=>
  obtain⟨a,i⟩:=this;refine⟨a,?_⟩;grind
 |J H=>
  obtain⟨u,a,i,m,r⟩:=this;exact⟨u,a,λe D j=>by grind,m,r⟩
 |x=>trivial
 |loop U T o=>
  obtain⟨A,tmps,fn,F,a,i,m,r,J⟩:=this;exact⟨A,tmps,fn,F,a,by grind,m,λR=>bx.mono (b:=b) (ao:=p) (az:={b with a:=bi}) ⟨λ_ _ _ g=>g,λ_ t L g I=>⟨t,L,g,I,.refl _ _⟩⟩ g.len (r R),J⟩
 |bn=>
  obtain⟨o,a,i,m⟩:=this;exact⟨o,a,by grind,m⟩
 |h C K N w=>
  rcases this with a|⟨e,Q,B,O,a,i,m⟩
  .exact .inl a
  exact .inr ⟨e,Q,B,O,a,by grind,m⟩
def cN.same(o:bi.heap=b.a.heap)(e:bi.os=b.a.os)(k:bi.tape=b.a.tape)(m:bi.output=b.a.output):cN p b p {b with a:=bi}:=
 ⟨by grind,λj _ _=>by grind,λ_ _ _ a=>a,λ_ _ _ _=>rfl,λL a j d=>.inr ⟨L,a,d⟩,λ_ g L a i=>⟨g,L,a,i,.refl _ _⟩,e,k,m,rfl⟩
def er.cb{s}{L}(q:fk p b ao az)(r:c b.l=c p)(j:∀g∈L.al,az.a.heap[g]?=b.a.heap[g]?/\∀k,az.u g k=b.u g k)(o:er p b s L):er ao az s L:=by
 cases s with
 |cells y A=>
  obtain⟨g,B,d,e,i,m⟩:=o;subst d;obtain⟨k1,u⟩:=j g E;exact⟨g,B,a,by grind,i.mono q r,λk=>by grind⟩
 |r y F I v=>
  obtain⟨d,e⟩:=o;refine⟨d.mono q.mem,?_⟩;rcases e with⟨e,i⟩|⟨g,cap,B,e,i,m,w⟩
  .exact .inl ⟨e,i.mono q.mem⟩
  grind
 |J H=>
  obtain⟨t,d,e,i,m⟩:=o;refine⟨t,d,λg k Q=>?_,i,λg R k=>by grind⟩;grind
 |x=>trivial
 |loop O N x=>
  obtain⟨z,tmps,fn,C,d,e,i,m,w⟩:=o;subst d;obtain⟨k1,u⟩:=j z E;exact⟨z,tmps,fn,C,a,by grind,i,λM=>(m M).mono q r,λk=>by grind⟩
 |bn=>
  obtain⟨x,d,e,i⟩:=o;subst d;obtain⟨k1,u⟩:=j x E;exact⟨x,a,by grind,λk=>by grind⟩
 |h y F I v=>
  rcases o with d|⟨g,K,B,J,d,e,i,m,w,D,S⟩
  .exact .inl d
  subst d;obtain⟨k1,u⟩:=j g E;exact .inr ⟨g,K,B,J,a,by grind,i,m,w,D.mono q.mem,λk=>by grind⟩
def a5.bY(a:a5)(b:av)(B:m Z):a5:=
 {l:=a.l++[⟨.pointer (h ⟨a.a.heap.size,0,n⟩),[a.a.heap.size]⟩],u:=a.u,a:=a.a.alloc (.cells B.toArray b),own:=a.own}
theorem iQ(a:au)(t)(b:j<a.heap.size):(a.alloc t).heap[j]?=a.heap[j]?:=by show(a.heap.push t)[j]?=a.heap[j]?;grind
theorem lV(a:au)(t):(a.alloc t).heap[a.heap.size]?=h t:=by show(a.heap.push t)[a.heap.size]?=h t;simp
def cN.bY{p}(b)(W)(B)(i):cN p b (p++[i]) (b.bY W B):=by
 refine⟨by simp[a5.bY],?_,λ_ _ _ m=>m,λ_ _ _ _=>rfl,?_,?_,a,a,a,a⟩
 .intro j cT _;exact iQ _ _ cT
 .intro L e j cT;simp[a5.bY,gl,gY]at e;grind
 intro g d L k e;have o:g<c b.l:=(cO.1 e).1;have q:g<c p:=(cO.1 k).1;exact⟨d,L,by grind,by simp[a5.bY];grind,.refl _ _⟩
def bb.bY{p}{b}(i:bb p b){W}{B}{ah}(A:bN p b B ah):bb (p++[.cells W ah]) (b.bY W B):=by
 have v:=cN.bY (p:=p) b W B (.cells W ah);have z:(b.bY W B).a.heap.size=b.a.heap.size+1:=by simp[a5.bY]
 refine⟨?_,by simp[a5.bY,i.len],?_,?_,?_,?_⟩
 .intro j t aa k;have g:=i.block k;have:=i.mem j t aa k;rw[<-this];simp[aL,a5.bY];grind[iQ]
 .intro d y L aE e;rcases Nat.lt_trichotomy d (c p) with x|rfl|C
  .rw[kA x]at aE;simp[a5.bY]at e;rw[kA (by rw[i.len];exact x)]at e;refine(i.box d y L aE e).cb v.ext i.len λj g=>⟨?_,λ_=>rfl⟩
   have:=i.lt L (b9 e) j g;exact iQ _ _ this
  .simp at aE;subst aE;simp[a5.bY]at e;rw[hq (by rw[i.len];grind)]at e;simp[i.len]at e;subst e;refine⟨b.a.heap.size,B,a,lV _ _,A.mono v.ext i.len,λt=>?_⟩;cases k:b.u b.a.heap.size t with
   |none=>exact k
   |some aa=>have:=i.block k;omega
  grind
 .intro d u L q e m j g o;simp[a5.bY]at e m;have w:∀d L,(b.l++[⟨.pointer (h ⟨b.a.heap.size,0,n⟩),[b.a.heap.size]⟩])[d]?=h L->(b.l[d]?=h L)∨(d=c b.l/\L.al=[b.a.heap.size]):=M;rcases w d L e with r|⟨rfl,r⟩<;>rcases w u q m with s|⟨rfl,s⟩
  .exact i.a3 d u L q r s j g o
  .have:=i.lt L (b9 r) j g;grind
  .have:=i.lt q (b9 s) j o;grind
  rfl
 .intro L e j g;rw[z];simp[a5.bY,gl,gY]at e;rcases e with e|rfl
  .have:=i.lt L e j g;omega
  grind
 intro j g;obtain⟨E,D⟩:=i.own j g;refine⟨by grind,λL e=>?_⟩;simp[a5.bY,gl,gY]at e;grind
def bb.cY(d:bb p b){cd}(q:b.a.heap.size<=bi.heap.size)(i:∀j,j<b.a.heap.size->bi.heap[j]?=b.a.heap[j]?)(r:∀j,j<b.a.heap.size->∀t,cd j t=b.u j t)(y:∀j,b.a.heap.size<=j->∀t aa,cd j t=h aa->bi.cell? ⟨j,t,n⟩=h aa)(s:bi.os=b.a.os)(w:bi.tape=b.a.tape)(u:bi.output=b.a.output):bb p ⟨b.l,cd,bi,b.own⟩/\cN p b p ⟨b.l,cd,bi,b.own⟩:=by
 have m:cN p b p ⟨b.l,cd,bi,b.own⟩:=
  ⟨q,λj a _=>i j a,λj t aa e=>by rw[<-e];exact r j (d.block e) t,λj a _ t=>r j a t,λL d j a=>.inr ⟨L,d,a⟩,λ_ o L d v=>⟨o,L,d,v,.refl _ _⟩,s,w,u,rfl⟩
 refine⟨⟨?_,d.len,?_,d.a3,λL g j a=>eA (d.lt L g j a) q,λj a=>⟨eA (d.own j a).1 q,(d.own j a).2⟩⟩,m⟩
 .intro j t aa e;rcases dY j b.a.heap.size with a|a
  .have k:b.u j t=h aa:=M;rw[<-d.mem j t aa k];simp[aL];grind
  grind
 intro x o L aE g;exact(d.box x o L aE g).cb m.ext d.len λj a=>⟨i j (d.lt L (b9 g) j a),λt=>r j (d.lt L (b9 g) j a) t⟩
def bb.write(k:bb p b){L}{ah i}{r}(aE:p[d]?=h (.cells W ah))(q:b.l[d]?=h L)(x:L.al=[j])(A:bN p b r i):bb (p.set d (.cells W i)) {b with a:=b.a.setRow j r.toArray}/\cN p b (p.set d (.cells W i)) {b with a:=b.a.setRow j r.toArray}:=by
 have w:d<c p:=(cO.1 aE).1;obtain⟨s,B,u,v,D,z⟩:=k.box d _ L aE q;subst u;simp at x;subst x;have o:cN p b (p.set d (.cells W i)) {b with a:=b.a.setRow s r.toArray}:=by
  refine⟨by simp,?_,λ_ _ _ k=>k,λ_ _ _ _=>rfl,λL k j g=>.inr ⟨L,k,g⟩,?_,a,a,a,a⟩
  .intro j g jk;exact setRow_other _ _ _ _ (λai=>jk _ (b9 q) zZ)
  intro m bX cn e lS;by_cases ai:d=m
  .subst ai;rw[aE]at e;cases e;exact⟨_,cn,by rw[im w],lS,by simp[fE]⟩
  exact E4
 refine⟨⟨?_,by simp[k.len],?_,k.a3,λL q j g=>by simpa using k.lt L q j g,λj g=>by simpa using k.own j g⟩,o⟩
 .intro j t aa pn;have C:j≠s:=λai=>by grind
  rw[<-k.mem j t aa pn];exact PT
 intro m bX cn e lS;by_cases ai:d=m
 .subst ai;rw[im w]at e;cases e;rw[q]at lS;cases lS;exact⟨s,r,a,setRow_heap _ _ _ _ _ _ v,A.mono o.ext k.len,z⟩
 rw[kC ai]at e;refine(k.box m bX cn e lS).cb o.ext k.len λj g=>⟨setRow_other _ _ _ _ λy=>?_,λ_=>rfl⟩
 subst y;exact ai (k.a3 d m _ cn q lS j E g)
def Ai(b:m an)(d:a5):Next->z->Prop
 |.value e,a=>bx b d e a
 |.skip,a=>a=.any
 |_,_=>False
def a0(P:aI)(k:ap)(i:aB->z)(g:m an)(p:z)(b:m an):Prop:=
 ∀e d,bb g e->(∀o,bx g e (d o) (i o))->∃j a,(ac d k).run P e.a=.ok j a.a/\Ai b a j p/\bb b a/\cN g e b a/\dt e ((ac d k).events P e.a #[])
def a0.du{o}(j:∀b a,bb p b->(∀g,bx p b (a g) (η g))->∃aa,(ac a t).run P b.a=.ok (.value aa) b.a/\bx p b aa o/\dt b ((ac a t).events P b.a #[])):a0 P t η p o p:=
 λb a d e=>let ⟨aa,cS,dq,i⟩:=j b a d e;⟨.value aa,b,cS,dq,d,.refl _ _,i⟩
def a0.aZ{o}(j:∀b a,bb p b->(∀g,bx p b (a g) (η g))->∃aa,(ac a t).run P b.a=.ok (.value aa) b.a/\bx p b aa o/\(ac a t).events P b.a #[]=#[]):a0 P t η p o p:=
 λb a d e=>let ⟨aa,cS,dq,i⟩:=j b a d e;⟨.value aa,b,cS,dq,d,.refl _ _,by rw[i];exact .nil⟩
def yu:IntKind->Int->Bool
 |.i64,.ofNat a=>ay a 9223372036854775807
 |.i64,.negSucc a=>ay a 9223372036854775807
 |.u8,.ofNat a=>ay a 255
 |.i32,.ofNat a=>ay a 2147483647
 |.i32,.negSucc a=>ay a 2147483647
 |.u64,.ofNat a=>ay a 18446744073709551615
 |.u32,.ofNat a=>ay a 4294967295
 |_,_=>l
def Z1{i}{k}(a:yu i k=f):a7 i k:=by cases i<;>cases k<;>simp only[yu,a7]at a⊢<;>first|(cases a;done)|(have:=fc a;grind)
def lH:Z->Option N
 |.int a b=>cond (yu a b) (h (.int a b)) n
 |.bool e=>h (.bool e)
 |.string d=>cond (ay d.size 9223372036854775807) (h (.V d.data.toList)) n
 |.slice n 0 0=>h (.S f 0 0 (λ_=>[]))
 |.pointer n=>h .bk
 |.nilIface=>h .bo
 |.nilFunc=>h .da
 |.map g=>h (.val (.map g))
 |_=>n
theorem Rd.dH{q}{i}{a}:Rd bB (.slice a 0 0) (.S q i 0 T):=
 Rd.S 0 0 (λ_ _=>K) (bC _) y bl y y y y
def Rd.fq{bB}{aa}{s}(a:lH aa=h s):Rd bB aa s:=by
 unfold AM.lH at a;split at a<;>first
  |(rename_i d e;cases b:yu d e<;>rw[b]at a<;>cases a;exact .int (Z1 b))
  |(rename_i g;cases b:ay g.size 9223372036854775807<;>rw[b]at a<;>cases a;exact .V rfl (by rw[m9];exact fc b))
  |(cases a;done)
  |(cases a;exact .bool)
  |(cases a;exact Rd.dH)
  |(cases a;exact .bk)
  |(cases a;exact .bo)
  |(cases a;exact .da)
  |(cases a;exact .val rfl)
def SV:Option N->z
 |some a=>ax a
 |none=>.any
def bF(a:bH):aB->z
 |.tmp d=>look a d
 |.const e=>SV (lH e)
 |.func b=>ax (.fn (.func b) [] [])
 |.global _=>.any
theorem eL{d}(e:bY D p b F d)(X):bx p b (d.eval X) (bF F X):=by
 cases X with
 |tmp j=>exact e.aH j
 |const k=>
  simp[bF,Act.eval];cases i:lH k with
  |none=>trivial
  |some m=>exact Rd.fq i
 |func g=>
  exact Rd.fn [] [] a a (λ_=>K) (λ_=>K) E E E E
 |global g=>trivial
def fT:Option Nat->z->bH->bH
 |some b,d,a=>(b,d)::a
 |none,_,a=>a
def rq{p:aj P}{k:aK}{i}{j}{bs}(z:k.kind≠.early)(u:aD[e]?=h t)(x:aU t (yielded aD j.tmps)=f)(s:∀g,cU b g->∃m d o,(ac j.eval t).run P g.a=.ok m d.a/\(m=.value o∨(m=.skip/\o=K))/\kz g d ((ac j.eval t).events P g.a #[])/\cb p bq (G (k.M (j.put t.dst o) (.inRegion aD bs::i)) ah) d):
  cb p bq (G (k.M j (.inRegion aD (e::bs)::i)) ah) b:=by refine .next a λg v=>?_;obtain⟨m,d,o,y,w,q,r⟩:=s g (p.bN v);refine⟨_,d,Go.Conc.listed P k.fn j t g.a,?_,⟨q.1,q.2.seen⟩,r⟩;grind[ach,L3]
theorem a0.move(b:t.op=.move o):a0 P t η p (η o) p:=
 .aZ λe a _ d=>⟨a o,by simp[ac,b,pure],d o,by simp[ac,b]⟩
theorem a0.assign(b:t.op=.assign o):a0 P t η p (η o) p:=
 .aZ λe a _ d=>⟨a o,by simp[ac,b,pure],d o,by simp[ac,b]⟩
def b7{s}(a:bx p b aa (ax s)):Rd b.u aa s:=a
def a0.pick{s e j}(i:t.op=.pick s e j){q}(m:η s=ax (.bool q)):
  a0 P t η p (match q with|true=>η e|false=>η j) p:=by
 refine .aZ λo a _ k=>?_;have b:=k s;rw[m]at b;have d:=b7 b;generalize g:a s=r at d;cases d;cases q
 .exact⟨a j,by simp[ac,i,g,asBool],k j,by simp[ac,i,g,asBool]⟩
 exact⟨a e,by simp[ac,i,g,asBool],k e,by simp[ac,i,g,asBool]⟩
def vj(e:BinOp)(d:IntKind)(a b:Int):Option (N×m Prop):=
 match e with
 |.add=>h (.int d (a+b),[a7 d (a+b)])
 |.sub=>h (.int d (a-b),[a7 d (a-b)])
 |.mul=>h (.int d (a*b),[a7 d (a*b)])
 |.quo=>h (.int d (a / b),[0<=a,0<b])
 |.rem=>h (.int d (a % b),[0<=a,0<b])
 |.eql=>h (.bool (a==b),[])
 |.neq=>h (.bool (a != b),[])
 |.lss=>h (.bool (decide (a<b)),[])
 |.leq=>h (.bool (decide (a<=b)),[])
 |.gtr=>h (.bool (decide (b<a)),[])
 |.geq=>h (.bool (decide (b<=a)),[])
 |_=>n
def v3(d:BinOp)(a b:m UInt8):Option (N×m Prop):=
 match d with
 |.add=>h (.V (a++b),[c a+c b<=9223372036854775807])
 |.eql=>h (.bool (a==b),[])
 |.neq=>h (.bool (!(a==b)),[])
 |.lss=>h (.bool (aW a b),[])
 |.leq=>h (.bool (aW a b||a==b),[])
 |.gtr=>h (.bool (!(aW a b||a==b)),[])
 |.geq=>h (.bool (!(aW a b)),[])
 |_=>n
@[simp] def U:m Prop->Prop
 |[]=>True
 |[a]=>a
 |a::b::d=>a/\U (b::d)
def U.cons{b:Prop}{a}:U (b::a)↔b/\U a:=by cases a<;>simp
theorem r'{i}{k}(a:a7 i k):i.wrap k=k:=by cases i<;>simp only[a7,IntKind.wrap,IntKind.bits,IntKind.signed]at a⊢<;>simp<;>(try split)<;>omega
def abZ{Q}{i}{o X}{s}(b:vj op i o X=h (s,cf))(a:U cf)(t:a7 i o)(p:a7 i X)(q)(bB):
  ∃k,(binOp op q (.int i o) (.int i X)).run P Q=.ok k Q/\Rd bB k s:=by
 cases op<;>simp[vj,eU,lG,reduceCtorEq]at b
 case add=>obtain⟨rfl,rfl⟩:=b;exact⟨_,by simp only[binOp,dZ,hr,dh,Op.intArith,r' a];rfl,.int a⟩
 case sub=>obtain⟨rfl,rfl⟩:=b;exact⟨_,by simp only[binOp,dZ,hr,dh,Op.intArith,r' a];rfl,.int a⟩
 case mul=>obtain⟨rfl,rfl⟩:=b;exact⟨_,by simp only[binOp,dZ,hr,dh,Op.intArith,r' a];rfl,.int a⟩
 case quo=>
  obtain⟨rfl,rfl⟩:=b;obtain⟨e,d⟩:=a;replace d:0<X:=d;have j:o.tdiv X=o / X:=Int.tdiv_eq_ediv_of_nonneg e;have g:a7 i (o / X):=by have m:0<=o / X:=Int.ediv_nonneg e y;have r:o / X<=o:=Int.ediv_le_self _ e;cases i<;>simp only[a7]at t⊢<;>omega
  exact⟨_,by simp only[binOp,dZ,hr,dh,Op.intDiv,show X≠0 by omega,j,r' g];rfl,.int g⟩
 case rem=>
  obtain⟨rfl,rfl⟩:=b;obtain⟨e,d⟩:=a;replace d:0<X:=d;have j:o.tmod X=o % X:=Int.tmod_eq_emod_of_nonneg e;have g:a7 i (o % X):=by have m:0<=o % X:=sC _ y;have r:o % X<X:=sv _ d;cases i<;>simp only[a7]at p⊢<;>omega
  exact⟨_,by simp only[binOp,dZ,hr,dh,Op.intDiv,show X≠0 by omega,j];rfl,.int g⟩
 all_goals (obtain⟨rfl,rfl⟩:=b;exact⟨_,by simp only[binOp,dZ,hr,dh,Op.intCmp,gt_iff_lt,ge_iff_le];rfl,.bool⟩)
def ab0{Q}{o X}{b j}{s}(a:v3 op b j=h (s,cf))(cw:U cf)(k:o.data.toList=b)(g:X.data.toList=j)(q)(bB):
  ∃d,(binOp op q (.string o) (.string X)).run P Q=.ok d Q/\Rd bB d s:=by
 subst k g;cases op<;>simp only[v3,eU,lG,reduceCtorEq]at a
 case add=>
  obtain⟨rfl,rfl⟩:=a;have e:¬((o.size+X.size:Nat):Int)>IntKind.i64.max:=NM;refine⟨_,by simp only[binOp,Op.stringOp,e,dh];rfl,.V E (by simpa using cw)⟩
 all_goals (obtain⟨rfl,rfl⟩:=a;exact⟨_,by simp only[binOp,Op.stringOp,ByteArray.toList_eq];rfl,.bool⟩)
def Vb{a}{i}{o X}{s}(u:vj op i o X=h (s,cf))(cw:U cf)(q):
  (binOp op q (.int i o) (.int i X)).events P a #[]=#[]:=by
 cases op<;>simp[vj,eU,lG,reduceCtorEq]at u
 case quo=>
  exact P5
 case rem=>
  exact P5
 all_goals (simp only[binOp,dZ,hr,dh,Op.intCmp,Op.intArith];rfl)
def Xm{k}{o X}{a j}{s}(b:v3 op a j=h (s,cf))(cw:U cf)(g:o.data.toList=a)(e:X.data.toList=j)(q):
  (binOp op q (.string o) (.string X)).events P k #[]=#[]:=by
 subst g e;cases op<;>simp[v3,eU,lG,reduceCtorEq]at b
 case add=>
  obtain⟨rfl,rfl⟩:=b;have d:¬((o.size+X.size:Nat):Int)>IntKind.i64.max:=NM;simp only[binOp,Op.stringOp,d,dh];rfl
 all_goals (simp only[binOp,Op.stringOp];rfl)
def tc:IntKind->IntKind->Bool
 |.i8,.i8|.i16,.i16|.i32,.i32|.i64,.i64|.u8,.u8|.u16,.u16|.u32,.u32|.u64,.u64=>f
 |_,_=>l
def C2{i a}(b:tc i a=f):i=a:=by cases i<;>cases a<;>first|rfl|(cases b;done)
def xh(a:BinOp):N->N->Option (N×m Prop)
 |.int d i,.int b j=>cond (tc d b) (vj a d i j) n
 |.V e,.V g=>v3 a e g
 |_,_=>n
def qn(op)(q)(o X)(i a)(k d)(b):(eqGuard op q o X (.int i k) (.int a d)).run P b=.ok () b:=z1
def Ig(op)(q)(o X)(b j)(a):(eqGuard op q o X (.string b) (.string j)).run P a=.ok () a:=z1
def x2(op)(q)(o X)(i a)(k b)(d)(T):(eqGuard op q o X (.int i k) (.int a b)).events P d T=T:=z1
def Uo(op)(q)(o X)(a j)(b)(T):(eqGuard op q o X (.string a) (.string j)).events P b T=T:=z1
theorem a0.binOp(w:t.op=.binOp op q o X ty){C j s}(K:η o=ax C)(y:η X=ax j)(e:xh op C j=h (s,cf))(d:U cf):a0 P t η p (ax s) p:=by
 refine .aZ λx r _ E=>?_;have a:=E o;have b:=E X;rw[K]at a;rw[y]at b;replace a:=b7 a;replace b:=b7 b;generalize u:r o=M at a;generalize v:r X=N at b;cases a<;>cases b<;>simp[xh,reduceCtorEq]at e
 case int.int i k jk gb Dl YC=>
  cases g:tc i gb<;>simp[g,cond,reduceCtorEq]at e
  cases C2 g;obtain⟨B,z,A⟩:=abZ (P:=P) (Q:=x.a) e d jk YC q x.u;exact⟨B,by simp[ac,w,cH,u,v,qn,c1,z,d8],A,by simp[ac,w,u,v,qn,x2,Vb e d]⟩
 case V.V=>
  rename_i S R F I O J m D;obtain⟨B,z,A⟩:=ab0 (P:=P) (Q:=x.a) e d F m q x.u;exact⟨B,by simp[ac,w,cH,u,v,Ig,c1,z,d8],A,by simp[ac,w,u,v,Ig,Uo,Xm e d F m]⟩
def zt(a:UnOp):N->Option N
 |.bool b=>match a with|.not=>h (.bool (!b))|_=>n
 |_=>n
theorem a0.unOp{op}(i:t.op=.unOp op q o){e s}(j:η o=ax e)(b:zt op e=h s):a0 P t η p (ax s) p:=by
 refine .aZ λr d _ k=>?_;have a:=k o;rw[j]at a;replace a:=b7 a;generalize g:d o=m at a;cases a<;>simp[zt,reduceCtorEq]at b
 cases op<;>simp[reduceCtorEq,eU]at b
 subst b;exact⟨_,by simp[ac,i,g,Op.unary,cH,d8,c1],Rd.bool,by simp[ac,i,g,Op.unary]⟩
theorem eS.get{ag}(i:eS p b B ag){o}(d:ag[w]?=h o):∃e,B[w]?=h e/\et p b e o:=by
 induction B generalizing ag w with
 |nil=>cases ag<;>simp_all[eS]
 |cons e B g=>
  cases ag with
  |nil=>grind
  |cons k j=>
   cases w with
   |zero=>simp at d;subst d;exact⟨e,a,i.1⟩
   |succ w=>simp at d;obtain⟨q,x,m⟩:=g i.2 d;grind
theorem a0.extract{P}{t}{b:aB->z}{p}{o}{w}(q:t.op=.extract o w){ag}{d}(j:b o=.Q ag)(i:ag[w]?=h d):a0 P t b p (.n d) p:=by refine .aZ λv u _ m=>?_;have a:=m o;rw[j]at a;obtain⟨B,k,r⟩:=a;obtain⟨s,e,g⟩:=r.get i;refine⟨s,?_,g,?_⟩<;>simp[ac,q,k,Instr.extract,e]
def pz(a b:Nat):aT:=⟨.cell ⟨a,b,n⟩,l,l⟩
def tU(a b:Nat):aT:=⟨.cell ⟨a,b,n⟩,f,l⟩
theorem gN(j t k):(⟨j,t,n⟩:Addr).add k=⟨j,t+k,n⟩:=by unfold Addr.add;split<;>simp_all
section
def Cg{a}{t}(b:a.cell? ⟨j,t,n⟩=h aa)(T):(load ⟨j,t,n⟩).events P a T=T.push (pz j t):=by rw[events_load,b];rfl
def IM{p}{j t}:∀i e a b,(∀d,d<i->∃o,p.cell? ⟨j,t+(e+d),n⟩=h o) ->
    ∀g∈(loadCellsFrom ⟨j,t,n⟩ e i a).events P p b,g∈b∨∃d,d<e+i/\g=pz j (t+d)
  |0,e,a,b,_=>λg k=>.inl (by simpa[loadCellsFrom]using k)
  |i+1,e,a,b,q=>λg k=>by
    obtain⟨o,m⟩:=q 0 y;simp[j']at m;simp[loadCellsFrom,aH,gN,run_load,m,aJ,Cg m]at k;rcases IM i (e+1) (a.push o) _ (λd r=>by grind) g k with s|⟨d,r,rfl⟩
    · grind
    grind
def IL{d}{t}{T}(i:∀a,a<k->∃g,d.cell? ⟨j,t+a,n⟩=h g):∀b∈(loadCells ⟨j,t,n⟩ k).events P d T,b∈T∨∃a,a<k/\b=pz j (t+a):=by intro b e;have:=IM (P:=P) k 0 #[] T M b e;grind
def nh{j t}{q}:∀B a g d b,d.heap[j]?=h (.cells g q (0,0))->t+a+c B<=g.size->(∀e∈B,e.oneCell'=f) ->
    ∀k∈(storeCells ⟨j,t,n⟩ B a).events P d b,k∈b∨∃o,a<=o/\o<a+c B/\k=tU j (t+o)
  |[],_,_,_,_,_,_,_=>λk m=>.inl (by simpa[storeCells]using m)
  |e::i,a,g,d,b,C,x,p=>λk m=>by
    have bp:t+a<g.size:=M;have r:d.cell? ⟨j,t+a,n⟩=h g[t+a]:=NJ;have s:d.frozen? ⟨j,t+a,n⟩=l:=by simp[World.frozen?,C]
    have u:(store (⟨j,t+a,n⟩:Addr) e).run P d=.ok () (d.setRow j (g.setIfInBounds (t+a) e)):=Nz;have v:(store (⟨j,t+a,n⟩:Addr) e).events P d b=b.push (tU j (t+a)):=by rw[events_store P d b _ e _ (p e E),r];simp[s,j9,dh];rfl
    simp[storeCells,aH,gN,u,v,aJ]at m;rcases nh i (a+1) (g.setIfInBounds (t+a) e) _ _ (setRow_heap _ _ _ _ _ _ C) M (λw A=>p w M) k m with y|⟨o,D,z,rfl⟩
    · grind
    grind
def dB(P:aI)(b:Sem α):Prop:=∀d a,b.events P d a=a
def dB.bind{e:Type}{A}{g:α->Sem e}(j:dB P A)(k:∀d,dB P (g d)):dB P (A >>= g):=by
  intro i a;rw[aH,j i a];cases A.run P i with
  |ok d b=>exact k d b a
  |halt m b=>rfl
def dB.pure{a:Type}{b}:dB P (Pure.pure b:Sem a):=λ_ _=>rfl
def dB.stuck{a:Type}{b}:dB P (Go.stuck b:Sem a):=λ_ _=>rfl
def dB.unsupported{a:Type}{b}:dB P (Go.unsupported b:Sem a):=λ_ _=>rfl
def dB.sizeOf{q}:dB P (sizeOf q):=λ_ _=>events_sizeOf ..
def dB.underlying{q}:dB P (underlying q):=λ_ _=>events_underlying ..
def dB.zeroValue{q}:dB P (zeroValue q):=λ_ _=>events_zeroValue ..
def dB.newObj{t}:dB P (newObj t):=λ_ _=>rfl
def dB.newRow{q}{s}:dB P (newRow q s):=.bind .newObj λ_=>.pure
def dB.ht{a e:Type}{g:a->Sem e}(i:∀b,dB P (g b)):∀d:m a,dB P (d.mapM g)
  |[]=>by rw[List.mapM_nil];exact .pure
  |b::d=>by rw[o6];exact .bind (i b) λ_=>.bind (dB.ht i d) λ_=>.pure
def dB.map{b d:Type}{e:b->d}{A}(g:dB P A):dB P (Functor.map e A):=λi a=>by rw[Sem.events_map];exact g i a
def dB.jv{a:Type}{b:α->Sem a}(e:∀d,dB P (b d))(g:Array α):dB P (g.mapM b):=by rw[w7];exact .map (.ht e _)
def dB.hc{b d:Type}{i:b->d->Sem (ForInStep d)}(j:∀e a,dB P (i e a)):∀(g:m b) a,dB P (forIn g a i)
  |[],a=>by rw[List.forIn_nil];exact .pure
  |e::g,a=>by
    rw[List.forIn_cons];refine .bind (j e a) λk=>?_;cases k with
    |done a=>exact .pure
    |yield a=>exact dB.hc j g a
theorem dB.build{q}{parts}:dB P (Instr.build q parts):=by
  unfold Instr.build;refine .bind .zeroValue λe=>.bind .underlying λa=>?_;cases a<;>first
    |exact .stuck
    | (refine .bind (.jv (λ_=>.bind .sizeOf λ_=>.pure) _) λb=>?_
       split
       · exact .pure
       · exact .stuck)
    | (refine .bind .sizeOf λd=>?_
       split
       · exact .pure
       · exact .stuck)
theorem dB.buildSlice{q}{k}{parts}:dB P (Instr.buildSlice q k parts):=by
  unfold Instr.buildSlice;refine .bind .underlying λi=>?_;cases i<;>first
    |exact .stuck
    | (refine .bind .sizeOf λd=>?_
       dsimp only
       have a:∀elem (zero:Array Z),dB P (match Instr.fill (λj=>h (j*d,d)) (Array.map (λm=>zero[m % zero.size]!) (Array.range (k*d))) parts.toList with
          |some cells=>do
            let g<-Go.newRow elem cells
            Pure.pure (Value.slice (h g) k k)
          |_=>Go.stuck "buildSlice: a part of the wrong size"):=by
         intro elem zero;split
         · exact .bind .newRow λ_=>.pure
         · exact .stuck
       by_cases e:k*d=0
       · simp only[e,dH]
         rw[e]at a;split
         · grind
         · exact .bind .pure λb=>a _ b
       · simp only[e,dh]
         split
         · exact .bind .unsupported λ_=>.bind .zeroValue λb=>.bind .pure λb=>a _ b
         · exact .bind .zeroValue λb=>.bind .pure λb=>a _ b)
def qp{t}{L}(a:L∈b.l)(d:j∈L.al):h4 b (pz j t):=⟨rfl,rfl,.inr (.inl ⟨⟨L,a,d⟩,λe=>by cases e⟩)⟩
def Ii{t}(a:b.u j t=h aa):h4 b (pz j t):=⟨rfl,rfl,.inr (.inr ⟨rfl,aa,a⟩)⟩
theorem og{t}{L}(d:L∈b.l)(e:j∈L.al)(a:b.u j t=n):h4 b (tU j t):=⟨rfl,rfl,.inr (.inl ⟨⟨L,d,e⟩,λ_=>a⟩)⟩
end
structure bv where
 size:Nat
 bytes:Nat
 agg:Bool
 desc:TypeDesc
 zero:m N
 eq:m TypeDesc:=[]
def rE:TypeDesc->Z->Z->Option Bool
 |.int _,.int e a,.int d b=>if e=d then h (a==b)else n
 |.string,.string a,.string b=>h (a.toList==b.toList)
 |.bool,.bool a,.bool b=>h (a==b)
 |_,_,_=>n
def oe:m TypeDesc->m Z->m Z->Option Bool
 |[],[],[]=>h f
 |g::a,i::B,j::b=>match rE g i j with
  |some d=>match oe a B b with
   |some e=>h (d&&e)
   |none=>n
  |none=>n
 |_,_,_=>n
def yw:TypeDesc->Bool
 |.struct _|.array _ _=>f
 |_=>l
structure dP(P:aI)(q:av)(e:bv):Prop where
 eO:P.underlying q=h e.desc
 agg:yw e.desc=e.agg
 c':∃inf cL,P.info? q=h inf/\inf.size=e.size/\inf.bytes=e.bytes/\inf.zero=h cL/\cL.cells.toList.map lH=e.zero.map h/\(∃ah,cL=if e.agg then .agg ah else cL)/\c e.zero=e.size
 iK:e.eq≠[]->P.eqGuardType P.depth q=l/\∀(Q:au) (B ws:m Z) (j:Bool),oe e.eq B ws=h j->(Op.equal q (.agg B.toArray) (.agg ws.toArray)).run P Q=.ok j Q/\∀T,(Op.equal q (.agg B.toArray) (.agg ws.toArray)).events P Q T=T
def bZ:m (Nat×bv)->Nat->Option bv
 |[],_=>n
 |(d,b)::e,a=>cond (af d a) (h b) (bZ e a)
def bn(P:aI)(d:m (Nat×bv)):Prop:=∀b a,bZ d b=h a->dP P b a
section
variable {Q:au}{e:bv}
def dP.run_underlying(a:dP P q e):(underlying q).run P Q=.ok e.desc Q:=by simp[underlying,a.eO]
def dP.ep(a:dP P q e):(isAgg q).run P Q=.ok e.agg Q:=by have:=a.agg;unfold Go.isAgg;rw[cH,a.run_underlying];cases b:e.desc<;>rw[b]at this<;>simp[yw]at this<;>simp[this]
def dP.bb(d:dP P q e):(sizeOf q).run P Q=.ok e.size Q:=by obtain⟨g,i,a,b,_⟩:=d.c';simp[sizeOf,typeInfo,a,b]
def uo{p}{b}:∀{B:m Z}{a:m N},B.map lH=a.map h->bN p b B (a.map O.c)
 |[],[],_=>trivial
 |[],_::_,d=>by grind
 |_::_,[],d=>by grind
 |g::B,e::a,d=>by simp[mi,List.cons.injEq]at d;exact⟨Rd.fq d.1,uo d.2⟩
def dP.hU(j:dP P q e)(p)(b):∃a,(zeroValue q).run P Q=.ok a Q/\bN p b a.cells.toList (e.zero.map O.c):=by obtain⟨m,a,d,k,o,i,g,_⟩:=j.c';exact⟨a,by simp[zeroValue,typeInfo,d,i],uo g⟩
end
def mo:z->Option (m O)
 |.n (.aq b)=>h [b]
 |.n (.agg a)=>h a
 |_=>n
theorem uT{d}{ah}(a:mo d=h ah)(e:bx p b aa d):bN p b aa.cells.toList ah:=by
 cases d with
 |n i=>
  cases i with
  |aq k=>
   cases a;have:=cx.cell e;cases aa<;>first|exact⟨e,v⟩|cases this
  |agg m=>
   cases a;obtain⟨B,rfl,g⟩:=e;simpa[Value.cells]using g
 |Q j=>cases a
 |any=>cases a
def a0.newVar{P}{t}{g:aB->z}{p}{W}{ah}(r:∀b d,bb p b->(∀o,bx p b (d o) (g o))->∃i:Z,(ac d t).run P b.a=((do pure (.value (.pointer (h (<-newVar W i))))):Sem Next).run P b.a/\bN p b i.cells.toList ah/\(ac d t).events P b.a #[]=#[]):
  a0 P t g p (aG (c p) 0) (p++[.cells W ah]):=by
 intro b d e m;obtain⟨i,j,k,q⟩:=r b d e m;refine⟨.value (.pointer (h ⟨b.a.heap.size,0,n⟩)),b.bY W i.cells.toList,?_,?_,e.bY k,.bY b W _ _,by rw[q];exact .nil⟩
 .rw[j];simp[Go.newVar,newRow,a5.bY]
 refine⟨by simp,⟨.pointer (h ⟨b.a.heap.size,0,n⟩),[b.a.heap.size]⟩,b.a.heap.size,?_,a,a⟩;simp[a5.bY,<-e.len]
theorem a0.alloc{P}{ad}(aR:bn P ad){t}{b:aB->z}{p}{W}(g:t.op=.alloc W){e}(a:bZ ad W=h e):
  a0 P t b p (aG (c p) 0) (p++[.cells W (e.zero.map O.c)]):=by refine .newVar λi m _ _=>?_;obtain⟨k,d,j⟩:=(aR W e a).hU (Q:=i.a) p i;exact⟨k,by simp[ac,g,Instr.alloc,d],j,by simp[ac,g,Instr.alloc,d,Go.newVar,newRow]⟩
theorem a0.box{P}{t}{a:aB->z}{p}{W}{o}(d:t.op=.box W o){ah}(e:mo (a o)=h ah):
  a0 P t a p (aG (c p) 0) (p++[.cells W ah]):=
 .newVar λi b _ g=>⟨b o,by simp[ac,d,Instr.box],uT e (g o),by simp[ac,d,Instr.box,Go.newVar,newRow]⟩
def mU{a:Type}:Nat->m a->Option (m a)
 |0,_=>h []
 |d+1,g::b=>match mU d b with|some e=>h (g::e)|none=>n
 |_+1,[]=>n
def tQ{i:Type}:∀{b:Nat}{e d:m i},mU b e=h d->d=e.take b/\c d=b
 |0,e,d,a=>by cases a;simp
 |b+1,[],d,a=>by simp[mU]at a
 |b+1,q::g,d,a=>by
  simp[mU]at a;cases j:mU b g with
  |none=>grind
  |some p=>
   simp[j]at a;subst a;obtain⟨k,o⟩:=tQ j;grind
def c7{a:Type}:Nat->m a->Option a
 |_,[]=>n
 |0,e::_=>h e
 |d+1,_::b=>c7 d b
theorem ej{b:Type}:∀{k:Nat}{d:m b}{e:b},c7 k d=h e->d[k]?=h e
 |_,[],_,a=>by simp[c7]at a
 |0,e::_,_,a=>by simpa[c7]using a
 |k+1,_::g,_,a=>by simpa using ej (k:=k) (d:=g) a
def fR{a:Type}:Nat->m a->m a
 |0,d=>d
 |_+1,[]=>[]
 |e+1,_::b=>fR e b
def rD{d:Type}:∀a(e:m d),fR a e=e.drop a
 |0,_=>by simp[fR]
 |_+1,[]=>by simp[fR]
 |a+1,_::b=>by simp[fR,rD a b]
def hc(b:bv)(a:m O):Option E1:=
 match b.agg with
 |true=>match mU b.size a with|some e=>h (.agg e)|none=>n
 |false=>match c7 0 a with|some d=>h (.aq d)|none=>n
def tD{e}(s:dP P q e){ah}{ai}(D:∀m d,B[m]?=h d->b.a.cell? ⟨j,off+m,n⟩=h d)(r:bN p b B ah)(i:hc e ah=h ai):
  ∃d,(loadVar q ⟨j,off,n⟩).run P b.a=.ok d b.a/\et p b d ai:=by
 simp[loadVar,cH,s.ep,c1];cases u:e.agg<;>simp[hc,u]at i
 .cases g:c7 0 ah with
  |none=>grind
  |some y=>
   simp[g]at i;subst i;obtain⟨d,z,t⟩:=r.get (ej g);refine⟨d,?_,t⟩;grind[run_load]
 cases g:mU e.size ah with
 |none=>grind
 |some A=>
  simp[g]at i;subst i;obtain⟨x,v⟩:=tQ g;have k:=r.take e.size;rw[<-x]at k;have w:c (B.take e.size)=e.size:=by rw[k.cM,v]
  have o:=run_loadCells_list (P:=P) b.a ⟨j,off,n⟩ (B.take e.size) (λm d C=>by grind[gN]);rw[w]at o;refine⟨.agg (B.take e.size).toArray,?_,B.take e.size,a,k⟩;simp[s.bb,o]
def pd{Q}{e}(s:dP P q e)(t:∀d,d<k->∃m,Q.cell? ⟨j,off+d,n⟩=h m)(i:(if e.agg then e.size else 1)<=k):
  ∀g∈(loadVar q ⟨j,off,n⟩).events P Q #[],∃d,d<k/\g=pz j (off+d):=by
 intro g b;simp only[loadVar,aH,s.ep,aJ,events_isAgg]at b;cases p:e.agg
 .rw[p]at i b;obtain⟨m,r⟩:=t 0 M;simp[j']at r;simp only[j9,dh,Cg r]at b;rcases Array.mem_push.1 b with u|rfl
  .grind
  exact⟨0,by grind,a⟩
 rw[p]at i b;simp[dH]at i;simp[dH,aH,s.bb,aJ,events_sizeOf]at b;have key:∀g∈(loadCells ⟨j,off,n⟩ e.size).events P Q #[],∃d,d<k/\g=pz j (off+d):=by
  intro g b;rcases IL (P:=P) (λd v=>t d y) g b with u|⟨d,v,rfl⟩
  .grind
  grind
 apply key;generalize(loadCells ⟨j,off,n⟩ e.size).run P Q=w at b;cases w with
 |ok m o=>simpa using b
 |halt x o=>simpa using b
theorem r_{e}{ah}{g}(a:hc e ah=h g):(if e.agg then e.size else 1)<=c ah:=by
 unfold hc at a;cases b:e.agg<;>rw[b]at a
 .cases ah with
  |nil=>simp[c7]at a
  |cons i ah=>simp
 simp only at a;cases d:mU e.size ah with
 |none=>grind
 |some m=>
  obtain⟨j,k⟩:=tQ d;grind
theorem a0.ho{ad}(aR:bn P ad)(C:t.op=.load q o){ah}{e}{ai}(O:η o=aG d off)(aE:p[d]?=h (.cells W ah))(r:bZ ad q=h e)(F:hc e (fR off ah)=h ai):a0 P t η p (.n ai) p:=by
 refine .du λb x s u=>?_
 have m:=u o;rw[O]at m;obtain⟨_,L,j,J,y,I⟩:=m;obtain⟨w,B,rfl,D,z,_⟩:=s.box d _ L aE J;simp at y;subst y;rw[rD]at F;obtain⟨K,A,N⟩:=tD (b:=b) (p:=p) (P:=P) (aR q e r) (j:=w) (off:=off) (B:=B.drop off) (ah:=ah.drop off) (ai:=ai) (λv K g=>by
  simp[aL,D]
  grind) (z.drop off) F
 refine⟨K,by simp[ac,C,I,Instr.loadAt,Instr.sureAddr,A],N,λi a=>?_⟩;have M:i∈(loadVar q ⟨w,off,n⟩).events P b.a #[]:=by
  have ai:ac x t=(do pure (.value (<-loadVar q ⟨w,off,n⟩))):=by simp[ac,C,I,Instr.loadAt,Instr.sureAddr]
  rw[ai]at a;simpa[A]using a
 have Q:c (B.drop off)=c (ah.drop off):=(z.drop off).cM;obtain⟨v,g,rfl⟩:=pd (aR q e r) (k:=c (B.drop off)) (λv g=>by refine⟨(B.drop off)[v],?_⟩;simp only[aL,D];simp at g⊢<;>omega) (by grind[r_]) i M;exact qp (b9 J) E
theorem a0.hp{ad}(aR:bn P ad)(I:t.op=.load q o){ah}{e}{ai}(W:η o=ax (.O ah))(x:bZ ad q=h e)(Q:hc e (ah.map O.c)=h ai):a0 P t η p (.n ai) p:=by
 refine .du λb y w C=>?_;have u:=C o;rw[W]at u;have v:=b7 u;generalize F:y o=X at v;cases v;rename_i j off A r J;have V:∀k i,(∀d z,i[d]?=h z->Rd b.u (A (k+d)) z)->bN p b ((aC (c i)).map λd=>A (k+d)) (i.map O.c):=by
  intro k i;induction i generalizing k with
  |nil=>intro _;trivial
  |cons S i D=>
   intro N;rw[fl,wU];refine⟨N 0 S a,?_⟩;have:=D (k+1) (λd z g=>by have:=N (d+1) z M;grind);grind[Function.comp_def]
 obtain⟨R,K,U⟩:=tD (b:=b) (p:=p) (P:=P) (aR q e x) (j:=j) (off:=off) (B:=(aC (c ah)).map λd=>A (0+d)) (ah:=ah.map O.c) (ai:=ai) (λd R g=>by
  simp[m',cV]at g;by_cases E:d<c ah
  .simp[E]at g;subst g;exact w.mem _ _ _ (r d ah[d] (bI E))
  grind) (V 0 ah M) Q
 refine⟨R,by simp[ac,I,F,Instr.loadAt,Instr.sureAddr,K],U,λs m=>?_⟩;have T:s∈(loadVar q ⟨j,off,n⟩).events P b.a #[]:=by
  have ai:ac y t=(do pure (.value (<-loadVar q ⟨j,off,n⟩))):=by simp[ac,I,F,Instr.loadAt,Instr.sureAddr]
  rw[ai]at m;simpa[K]using m
 obtain⟨d,g,rfl⟩:=pd (aR q e x) (k:=c ah) (λd g=>⟨A d,w.mem _ _ _ (r d ah[d] (bI g))⟩) (by have:=r_ Q;grind) s T;exact Ii (r d ah[d] (bI g))
def iU{d:Type}:Nat->m d->m d->Option (m d)
 |0,[],j=>h j
 |0,k::b,_::a=>match iU 0 b a with|some e=>h (k::e)|none=>n
 |i+1,b,g::a=>match iU i b a with|some e=>h (g::e)|none=>n
 |_,_,[]=>n
def Eb{i:Type}:∀{a:Nat}{new g e:m i},iU a new g=h e->a+c new<=c g/\e=g.take a++new++g.drop (a+c new)
 |0,[],g,e,u=>by cases g<;>cases u<;>simp
 |0,p::b,o::d,e,u=>by
  simp[iU]at u;cases x:iU 0 b d with
  |none=>grind
  |some q=>
   exact ON
 |0,p::b,[],e,u=>by simp[iU]at u
 |k+1,b,o::d,e,u=>by
  simp[iU]at u;cases x:iU k b d with
  |none=>grind
  |some q=>
   exact ON
 |k+1,b,[],e,u=>by simp[iU]at u
def bN.fh{new}{ah a g}(i:AM.iU off a ah=h g)(d:bN p b B ah)(e:bN p b new a):
  off+c new<=c B/\bN p b (B.take off++new++B.drop (off+c new)) g:=by obtain⟨k1,rfl⟩:=Eb i;rw[e.cM,d.cM];refine⟨k1,((d.take off).append e).append (by have:=d.drop (off+c a);exact this)⟩
theorem a0.store{ad}(aR:bn P ad)(F:t.op=.store q o X){ah new i}{e}(K:η o=aG d off)(aE:p[d]?=h (.cells W ah))(r:bZ ad q=h e)(z:mo (η X)=h new)(s:c new=e.size)(N:iU off new ah=h i):
  a0 P t η p .any (p.set d (.cells W i)):=by
 intro w g m u;have k:=u o;rw[K]at k;obtain⟨_,L,Y,y,D,J⟩:=k;obtain⟨v,B,rfl,I,S,Q⟩:=m.box d _ L aE y;simp at D;subst D;have j:=uT z (u X);obtain⟨k1,U⟩:=bN.fh N S j;obtain⟨w1,w2⟩:=m.write aE y rfl U;refine⟨.skip,_,?_,a,w1,w2,?_⟩
 rotate_left
 .intro Ih b;have x:(g X).cells.size=e.size:=by rw[<-s,<-j.cM,m9]
  have O:ac g t=(do storeVar q ⟨v,off,n⟩ (g X);pure .skip):=by simp[ac,F,J,Instr.storeAt,Instr.sureAddr]
  rw[O]at b;have R:Ih∈(storeCells ⟨v,off,n⟩ (g X).cells.toList).events P w.a #[]:=by
   simp[storeVar,aH,(aR q e r).bb,x,aJ,events_sizeOf,dZ,hr,dh,cH,c1,Sem.events_pure]at b;generalize(storeCells ⟨v,off,n⟩ (g X).cells.toList).run P w.a=T at b;cases T with
   |ok aa A=>simpa using b
   |halt o A=>simpa using b
  rcases nh (g X).cells.toList 0 B.toArray w.a #[] I M j.cell Ih R with V|⟨Z,_,_,rfl⟩
  .grind
  exact og (b9 y) E (Q _)
 have C:=run_storeCells_at P v off W (g X).cells.toList 0 B.toArray w.a I M (j.cell);have x:(g X).cells.size=e.size:=by rw[<-s,<-j.cM,m9]
 simp[j']at C;simp[ac,F,J,Instr.storeAt,Instr.sureAddr,storeVar,(aR q e r).bb,x,C]
def lf(d:m (Nat×bv))(j:av)(g:Nat):Option (Nat×bv):=
 match bZ d j with
 |some i=>match i.desc with
  |.struct b=>match c7 g b.toList with
   |some a=>match bZ d a.type with
    |some e=>cond (af e.size 0) n (h (a.offset,e))
    |none=>n
   |none=>n
  |_=>n
 |none=>n
def Cz{ad}(aR:bn P ad){o}{w}(e:lf ad q o=h (off,w)):
  ∃k d b,bZ ad q=h k/\k.desc=.struct d/\d[o]?=h b/\b.offset=off/\bZ ad b.type=h w/\w.size≠0/\dP P q k/\dP P b.type w:=by
 unfold lf at e;split at e
 .rename_i k bp;split at e
  .rename_i d i;split at e
   .rename_i b g;split at e
    .rename_i j m;cases p:af j.size 0<;>simp[p]at e
     obtain⟨rfl,rfl⟩:=e;refine⟨k,d,b,bp,i,by simpa using ej g,a,m,?_,aR _ _ bp,aR _ _ m⟩;intro r;simp_all
    grind
   grind
  grind
 grind
def y3{ad}(aR:bn P ad){a}{w}(p:lf ad q a=h (off,w))(j t)(b):
  (Instr.fieldAt q (.pointer (h ⟨j,t,n⟩)) a).run P b=.ok (.pointer (h ⟨j,t+off,n⟩)) b:=by obtain⟨s,m,k,u,i,r,o,v,d,g,e⟩:=Cz aR p;simp[Instr.fieldAt,g.run_underlying,i,r,Instr.sureAddr,fieldPlace,e.bb,d,gN,o]
def x3{ad}(aR:bn P ad){a}{w}(o:lf ad q a=h (off,w))(j t)(p)(T):
  (Instr.fieldAt q (.pointer (h ⟨j,t,n⟩)) a).events P p T=T:=by obtain⟨r,k,i,u,g,m,s,v,b,e,d⟩:=Cz aR o;simp[Instr.fieldAt,e.run_underlying,g,m,Instr.sureAddr,fieldPlace,d.bb,b]
def a0.g7{ad}(aR:bn P ad){r}(s:t.op=.fieldAddr q o r){i}{w}(y:η o=aG d off)(k:lf ad q r=h (i,w)):a0 P t η p (aG d (off+i)) p:=by refine .aZ λA z x g=>?_;have b:=g o;rw[y]at b;obtain⟨e,L,j,v,u,m⟩:=b;exact⟨.pointer (h ⟨j,off+i,n⟩),by simp[ac,s,m,y3 aR k],⟨e,L,j,v,u,a⟩,by simp[ac,s,m,x3 aR k]⟩
theorem a0.g8{ad}(aR:bn P ad){r}(s:t.op=.fieldAddr q o r){ah}{i}{w}(A:η o=ax (.O ah))(m:lf ad q r=h (i,w)):a0 P t η p (ax (.O (fR i ah))) p:=by refine .aZ λC g y e=>?_;have a:=e o;rw[A]at a;have b:=b7 a;generalize j:g o=B at b;cases b;rename_i k t x z u;refine⟨.pointer (h ⟨k,t+i,n⟩),by simp[ac,s,j,y3 aR m],?_,by simp[ac,s,j,x3 aR m]⟩;rw[rD];refine Rd.O k (t+i) (λw=>x (i+w)) (λw v d=>M) (λw v d=>?_);grind
def RC{e}(m:dP P q e){ah}(r:bN p b B ah){k}(d:hc e (fR off ah)=h k)(i):
  ∃g,(part q B.toArray off).run P i=.ok g i/\et p b g k/\∀a,(part q B.toArray off).events P i a=a:=by
 simp[part,cH,m.ep,c1,aH,aJ,events_isAgg];rw[rD]at d;cases u:e.agg<;>simp[hc,u]at d
 .cases s:c7 0 (ah.drop off)with
  |none=>grind
  |some w=>
   simp[s]at d;subst d;obtain⟨g,o,t⟩:=(r.drop off).get (ej s);simp at o;refine⟨g,?_,t,λa=>?_⟩<;>simp[o]
 cases s:mU e.size (ah.drop off)with
 |none=>grind
 |some y=>
  simp[s]at d;subst d;obtain⟨v,x⟩:=tQ s;have j:=(r.drop off).take e.size;rw[<-v]at j;refine⟨.agg (B.toArray.extract off (off+e.size)),by simp[m.bb],⟨(B.drop off).take e.size,?_,j⟩,λa=>by simp⟩;simp
theorem a0.field{P}{ad}(aR:bn P ad){t}{d:aB->z}{p}{q}{o}{j}(m:t.op=.field q o j){ah}{i}{w}{g}(M:d o=.n (.agg ah))(F:lf ad q j=h (i,w))(J:hc w (fR i ah)=h g):a0 P t d p (.n g) p:=by refine .aZ λK O E e=>?_;have a:=e o;rw[M]at a;obtain⟨B,r,y⟩:=a;obtain⟨Q,D,C,a,b,u,s,S,R,k,I⟩:=Cz aR F;obtain⟨N,A,v,x⟩:=RC I y J K.a;exact⟨N,by simp[ac,m,r,Instr.field,k.run_underlying,b,u,asAgg,s,A],v,by simp[ac,m,r,Instr.field,k.run_underlying,b,u,asAgg,s,x]⟩
theorem a0.hB(i:t.op=.nilCheck o)(k:η o=aG d off):a0 P t η p (aG d off) p:=by refine .aZ λv e m b=>?_;have a:=b o;rw[k]at a;have j:=a;obtain⟨q,L,r,u,s,g⟩:=a;exact⟨e o,by simp[ac,i,g],j,by simp[ac,i,g]⟩
theorem a0.hD(i:t.op=.nilCheck o){ah}(j:η o=ax (.O ah)):a0 P t η p (ax (.O ah)) p:=by refine .aZ λq e k d=>?_;have a:=d o;rw[j]at a;have b:=b7 a;generalize g:e o=m at b;cases b;exact⟨_,by simp[ac,i,g];rfl,by grind,by simp[ac,i,g]⟩
def X'(new):∀d a(b:Array Z),a+d+c new<=b.size ->
  ((new.zipIdx d).foldl (λb (g:Z×Nat)=>b.setIfInBounds (a+g.2) g.1) b).toList=b.toList.take (a+d)++new++b.toList.drop (a+d+c new):=by
 induction new with
 |nil=>simp
 |cons i B e=>
  intro d a b j;simp[List.zipIdx_cons,j_];rw[e (d+1) a _ M];have:=list_seg_step b.toList (a+d) i B M;simpa[Array.toList_setIfInBounds,Nat.add_assoc]using this
def rF(place:Nat->Option (Nat×Nat)):m (Nat×m O)->m O->Option (m O)
 |[],a=>h a
 |(e,new)::b,a=>match place e with
  |some (d,size)=>match af (c new) size with
   |true=>match iU d new a with
    |some g=>rF place b g
    |none=>n
   |false=>n
  |none=>n
def x'{p}{b}{place vJ:Nat->Option (Nat×Nat)}(z:∀x g,place x=h g->vJ x=h g):∀{parts:m (Nat×m O)}{zw:m (Nat×Z)}{ah a':m O}{B:Array Z},
  rF place parts ah=h a'->zw.map (·.1)=parts.map (·.1)->(∀(t:Nat) g o,parts[t]?=h g->zw[t]?=h o->bN p b o.2.cells.toList g.2)->bN p b B.toList ah ->
  ∃s,Instr.fill vJ B zw=h s/\bN p b s.toList a'
 |[],[],ah,a',B,e,_,_,q=>by cases e;exact⟨B,a,q⟩
 |[],_::_,ah,a',B,e,k,_,q=>by grind
 |_::_,[],ah,a',B,e,k,_,q=>by grind
 |(x,new)::j,(w,u)::i,ah,a',B,e,k,r,q=>by
  simp[mi,List.cons.injEq]at k;obtain⟨rfl,k⟩:=k;simp[rF]at e;cases y:place w with
  |none=>grind
  |some g=>
   obtain⟨d,size⟩:=g;simp[y]at e;cases C:af (c new) size with
   |false=>grind
   |true=>
    simp[C]at e;cases D:iU d new ah with
    |none=>grind
    |some o=>
     simp[D]at e;have v:=r 0 (w,new) (w,u) a a;simp only at v;have R:=v.cM;have J:c new=size:=di C;obtain⟨k1,Q⟩:=bN.fh D q v;have N:=X' u.cells.toList 0 d B M;have F:u.cells.size=size:=M;have K:d+size<=B.size:=M;obtain⟨s,I,A⟩:=x' (p:=p) (b:=b) z (parts:=j) (zw:=i) (ah:=o) (a':=a')
      (B:=u.cells.zipIdx.foldl (λah (E:Z×Nat)=>ah.setIfInBounds (d+E.2) E.1) B) e k (λt g o I A=>r (t+1) g o M M) (by grind[Array.toList_zipIdx])
     refine⟨s,?_,A⟩;simp[Instr.fill,z _ _ y,F,dZ,hr,o3,Bool.false_or,bA];grind
def tu(b:m (Nat×bv)):m Field->Option (m (Nat×Nat))
 |[]=>h []
 |d::a=>match bZ b d.type with
  |some e=>match tu b a with
   |some g=>h ((d.offset,e.size)::g)
   |none=>n
  |none=>n
def Lb{P}{ad}(aR:bn P ad):∀{a:m Field}{e:m (Nat×Nat)},tu ad a=h e->a.mapM (λd=>(P.info? d.type).map λo=>(d.offset,o.size))=h e
 |[],e,b=>by cases b;simp
 |d::a,e,b=>by
  simp[tu]at b;cases i:bZ ad d.type with
  |none=>grind
  |some q=>
   cases g:tu ad a with
   |none=>grind
   |some r=>
    simp[i,g]at b;subst b;obtain⟨p,s,k,j,_⟩:=(aR _ _ i).c';simp[o6,k,j,Lb aR g]
def px(a:aB->z):m (Nat×aB)->Option (m (Nat×m O))
 |[]=>h []
 |(d,i)::g=>match mo (a i)with
  |some b=>match px a g with
   |some e=>h ((d,b)::e)
   |none=>n
  |none=>n
def yQ{p}{b}{d:aB->Z}{a:aB->z}(u:∀t,bx p b (d t) (a t)):∀{k:m (Nat×aB)}{g:m (Nat×m O)},px a k=h g ->
  (k.map λ(j,i)=>(j,d i)).map (·.1)=g.map (·.1)/\∀(q:Nat) r s,g[q]?=h r->(k.map λ(j,i)=>(j,d i))[q]?=h s->bN p b s.2.cells.toList r.2
 |[],g,e=>by cases e;simp
 |(j,i)::y,g,e=>by
  simp[px]at e;cases v:mo (a i)with
  |none=>grind
  |some w=>
   cases o:px a y with
   |none=>grind
   |some x=>
    simp[v,o]at e;subst e;obtain⟨B,A⟩:=yQ u o;grind[uT]
def xl(g:m (Nat×bv))(e:aB->z)(k:av)(parts:m (Nat×aB)):Option (m O):=
 match bZ g k with
 |some i=>match i.desc with
  |.struct a=>match tu g a.toList with
   |some b=>match px e parts with
    |some d=>rF (λj=>c7 j b) d (i.zero.map O.c)
    |none=>n
   |none=>n
  |_=>n
 |none=>n
theorem a0.build{P}{ad}(aR:bn P ad){t}{d:aB->z}{p}{q}{parts}(y:t.op=.build q parts){ah}(e:xl ad d q parts.toList=h ah):a0 P t d p (.n (.agg ah)) p:=by
 refine .aZ λb s B m=>?_;unfold xl at e;cases a:bZ ad q with
 |none=>grind
 |some j=>
  simp[a]at e;cases x:j.desc with
  |struct k=>
   simp[x]at e;cases w:tu ad k.toList with
   |none=>grind
   |some r=>
    simp[w]at e;cases v:px d parts.toList with
    |none=>grind
    |some J=>
     simp[v]at e;obtain⟨S,V,I,T,N,E,K,U,Q⟩:=(aR q j a).c';obtain⟨D,o⟩:=yQ (p:=p) (b:=b) m v;obtain⟨g,M,F⟩:=x' (p:=p) (b:=b) (vJ:=λA=>r.toArray[A]?) (λA R C=>by grind[ej]) e D o (uo K);have i:P.built q (parts.map λ(j,O)=>(j,s O)).toList=h g:=by unfold Program.built;have u:=(aR q j a).eO;rw[x]at u;simp[I,u,E,Lb aR w];simpa using M
     refine⟨.agg g,?_,⟨g.toList,by simp,F⟩,?_⟩
     .simp only[ac,y,cH,run_build b.a q _ g i,c1,d8]
     simp[ac,y,aH,run_build b.a q _ g i,aJ,Sem.events_pure];exact dB.build b.a #[]
  |_=>grind
theorem ZY{i}(a:e<k)(d:w<i):e*i+w<k*i:=by have b:(e+1)*i<=k*i:=gX i y;grind
theorem ZX{i}(a:w<i):(e*i+w) / i=e:=by grind[Nat.mul_comm,Nat.mul_add_div,Nat.div_eq_of_lt]
theorem ZZ{i}(a:w<i):(e*i+w) % i=w:=by rw[Nat.mul_comm,Nat.mul_add_mod,Nat.mod_eq_of_lt a]
def eZ.nil{i}:eZ bB i 0 T []:=⟨by simp,by omega,by omega⟩
def ce(b:Nat)(d e:Nat->m N):Nat->m N:=λa=>if a<b then d a else e (a-b)
def eZ.append{i}{b:Nat->m N}{j}(g:eZ bB i k T B)(q:eZ bB i A b j):eZ bB i (k+A) (ce k T b) (B++j):=by
 refine⟨by simp[g.len,q.len,jD],λe s=>?_,λe s o t a=>?_⟩
 .simp only[ce];split
  .rename_i p;exact g.bG e p
  exact q.bG _ y
 simp[ce]at a;split at a
 .rename_i p;obtain⟨u,r,d⟩:=g.rd e p o t a;grind
 rename_i w;obtain⟨u,r,d⟩:=q.rd _ y o t a;refine⟨u,?_,d⟩;have v:e*i+o=c B+((e-k)*i+o):=by rw[g.len,<-Nat.add_assoc,<-jD,AA y]
 grind
def eZ.cell{bB}{i k}{d:Nat->m N}{B}(j:eZ bB i k d B):∀g∈B,g.oneCell'=f:=by intro g q;obtain⟨a,r,rfl⟩:=hG q;rw[j.len]at r;have p:0<i:=M;have e:a / i<k:=sr M;have t:a % i<i:=p6 _ p;have u:=j.bG _ e;obtain⟨g,b,o⟩:=j.rd (a / i) e (a % i) ((d (a / i))[a % i]'y) (bI y);have s:a / i*i+a % i=a:=ux a i;rw[s]at b;rw[bI M]at b;simp at b;rw[b];have:=Rd.cell o;cases g<;>simp_all[dW,Value.oneCell']
def Rd.b1{q}{i}(C:Rd bB aa (.S q i k T)):
  ∃m b B,aa=.slice m k b/\k<=b/\b<=9223372036854775807/\(q=f->b=k)/\eZ bB i k T B/\∀e v,B[e]?=h v->∃o d,m=h ⟨o,d,n⟩/\bB o (d+e)=h v:=by
 cases C with
 |@S m _ b _ _ _ o d z w s u j r t E=>
  refine⟨m,b,(aC (k*i)).map λe=>z (e / i) (e % i),a,w,s,u,⟨by simp,j,?_⟩,?_⟩
  .grind [ZY,ZX,ZZ]
  intro e v p;simp[m']at p;by_cases x:e<k*i
  .simp[x]at p;subst p;have A:0<i:=M;have g:e / i<k:=sr M;have D:e % i<i:=p6 _ A;have F:=j _ g;have:=t (e / i) g (e % i) ((T (e / i))[e % i]'y) (bI y);refine⟨o,d,r (Nat.lt_of_le_of_lt (gZ _) g),?_⟩;grind[Nat.div_add_mod']
  grind
def Rd.eH{i}(m:eZ bB i k T B){x}{cap}{q}(v:0<k->x=h ⟨j,off,n⟩)(u:k<=cap)(r:cap<=9223372036854775807)(w:q=f->cap=k)(y:∀s t,B[s]?=h t->bB j (off+s)=h t):Rd bB (.slice x k cap) (.S q i k T):=by
 refine .S j off (λd e=>(B[d*i+e]?).getD K) u r w m.bG v (λd a e g b=>?_) (λd a e g b=>?_)
 .obtain⟨aa,o,p⟩:=m.rd d a e g b;grind
 obtain⟨aa,o,p⟩:=m.rd d a e g b;grind
def oI(z:bb p b){q}{i}(v:Rd b.u aa (.S q i k T)):
  ∃B,eZ b.u i k T B/\(Builtin.firstCells i k aa).run P b.a=.ok B.toArray b.a/\Builtin.lenOf aa=pure k:=by
 obtain⟨s,m,B,rfl,A,E,D,r,o⟩:=v.b1;refine⟨B,r,?_,a⟩;have w:c B=k*i:=r.len;cases s with
 |none=>
  have:B=[]:=by
   cases B with
   |nil=>rfl
   |cons j C=>obtain⟨t,d,g,_⟩:=o 0 j rfl;cases g
  subst this;rfl
 |some e=>
  simp[Builtin.firstCells];rw[<-w];refine run_loadCells_list b.a e B λx j u=>?_;obtain⟨t,d,g,y⟩:=o x j u;cases g;rw[gN];exact z.mem _ _ _ y
def a0.je{ad}(aR:bn P ad)(u:t.op=.index q o X){d}{w}{i}{e}(bp:bZ ad q=h e)(ae:e.desc=.string)(E:η o=ax (.V d))(D:η X=ax (.int i w))(JK:w=A)(z:A<c d):a0 P t η p (ax (.int .u8 (d[A]).toNat)) p:=by
 refine .aZ λb s v r=>?_;have g:=r o;have k:=r X;rw[E]at g;rw[D]at k;replace g:=b7 g;replace k:=b7 k;generalize x:s o=F at g;generalize I:s X=J at k;cases g with
 |@V a _ B y=>
 cases k;subst B;have C:a[A]?=h (a.data.toList[A]):=by have m:A<a.size:=dA;rw[getElem?_pos a A m];congr 1
 refine⟨.int .u8 (a.data.toList[A]).toNat,?_,Rd.int ?_,?_⟩
 rotate_left 2
 .exact QI
 .exact QI
 have:=(a.data.toList[A]).toNat_lt;exact nO
def a0.indexAddr{ad}(aR:bn P ad)(S:t.op=.indexAddr q o X){e a4}(C:bZ ad q=h e)(O:e.desc=.slice W)(M:bZ ad W=h a4){eR}{w}{i}(z:∀r K,bx p r K (η o)->Rd r.u K (.S eR a4.size k T))(N:η X=ax (.int i w))(D:w=A)(v:A<k):
  a0 P t η p (ax (.O (T A))) p:=by
 refine .aZ λr s V j=>?_;have d:=z r _ (j o);have a:=j X;rw[N]at a;replace a:=b7 a;generalize ab:s o=ag at d;generalize ae:s X=ah at a;cases a;cases d with
 |@S ai _ I _ _ _ F b R aj U Z Y B g m=>
 have aa:0<k:=y;have J:=(aR q e C).run_underlying (Q:=r.a);rw[O]at J;refine⟨.pointer (h ⟨F,b+A*a4.size,n⟩),?_,Rd.O F (b+A*a4.size) (R A) (λE u x=>g A v E u x) (λE u x=>m A v E u x),?_⟩<;>
 simp[ac,S,ab,ae,Instr.indexAt,asIntOf,J,D,B aa,(aR W a4 M).bb,gN,v]
def a0.jm{ad}(aR:bn P ad)(u:t.op=.call {callee:=.builtin .len,args:=#[o],argTypes:=dp})(y:dp[0]?=h q){e}(b:bZ ad q=h e)(s:e.desc=.slice W){eR}{i}(z:∀a m,bx p a m (η o)->Rd a.u m (.S eR i k T)):a0 P t η p (ax (.int .i64 k)) p:=by
 refine .aZ λa A w d=>?_;obtain⟨C,g,B,x,D,v,_⟩:=(z a _ (d o)).b1;have j:=(aR q e b).run_underlying (Q:=a.a);rw[s]at j;have r:dp[0]?=h q:=y;refine⟨.int .i64 k,?_,Rd.int nO,?_⟩<;>
 simp[ac,u,resolve,invoke,builtin,Builtin.len_,x,j,goInt,r]
theorem a0.jo{ad}(aR:bn P ad)(v:t.op=.call {callee:=.builtin .len,args:=#[o],argTypes:=dp})(z:dp[0]?=h q){e}(b:bZ ad q=h e)(u:e.desc=.string){d}(A:η o=ax (.V d)):a0 P t η p (ax (.int .i64 (c d))) p:=by
 refine .aZ λB j w g=>?_;have a:=g o;rw[A]at a;replace a:=b7 a;generalize m:j o=C at a;cases a with
 |@V i _ y x=>
 have k:=(aR q e b).run_underlying (Q:=B.a);rw[u]at k;have r:dp[0]?=h q:=z;have s:i.size=c d:=by rw[<-y];simp
 refine⟨.int .i64 (c d),?_,Rd.int nO,?_⟩<;>
 simp[ac,v,resolve,invoke,builtin,Builtin.len_,m,k,goInt,r,s]
def a5.newRow(a:a5)(e:av)(B:m Z):a5:=
 {l:=a.l,u:=λb d=>if b=a.a.heap.size then B[d]? else a.u b d,a:=a.a.alloc (.cells B.toArray e),own:=a.own}
def bb.newRow{p}{b}(i:bb p b)(W)(B):bb p (b.newRow W B)/\cN p b p (b.newRow W B):=by
 refine i.cY E (λg d=>iQ _ _ d) (λg d k=>by grind) (λg d k m e=>?_) a a a;by_cases j:g=b.a.heap.size
 .simp_all
 simp[j,dh]at e;have:=i.block e;omega
def aaG(d:a5)(W)(B):∀a b,B[a]?=h b->(d.newRow W B).u d.a.heap.size (0+a)=h b:=by intro a b e;simpa[a5.newRow]using e
def h3:m O->Option (m N)
 |[]=>h []
 |.c e::d=>match h3 d with|some b=>h (e::b)|none=>n
 |.r _ g i a::d=>match h3 d with|some b=>h (.S l g i a::b)|none=>n
 |_::_=>n
def rC{p}{b}:∀{j:m O}{g:m N}{B:m Z},h3 j=h g->bN p b B j->bN p b B (g.map O.c)
 |[],g,B,a,e=>by cases a;exact e
 |_::_,_,[],_,e=>e.elim
 |.c s::d,g,k::B,a,e=>by
  simp[h3]at a;cases i:h3 d with
  |none=>grind
  |some r=>simp[i]at a;subst a;exact⟨e.1,rC i e.2⟩
 |.r o t u q::d,g,k::B,a,e=>by
  simp[h3]at a;cases i:h3 d with
  |none=>grind
  |some r=>simp[i]at a;subst a;exact⟨e.1.1,rC i e.2⟩
 |.ptr o v::d,g,k::B,a,e=>by simp[h3]at a
 |.aR o::d,g,k::B,a,e=>by simp[h3]at a
 |.R o w::d,g,k::B,a,e=>by simp[h3]at a
 |.any::d,g,k::B,a,e=>by simp[h3]at a
def rA{a:Type}(b:Nat):Nat->m a->Option (m (m a))
 |0,[]=>h []
 |0,_::_=>n
 |g+1,d=>match mU b d with
  |some e=>match rA b g (fR b d)with
   |some i=>h (e::i)
   |none=>n
  |none=>n
def bN.eX:∀{B:m Z}{a:m N},bN p b B (a.map O.c)->∀(w:Nat)d,a[w]?=h d->∃e,B[w]?=h e/\Rd b.u e d:=by intro B a j w d k;obtain⟨e,g,i⟩:=j.get (w:=w) (x:=.c d) M;exact⟨e,g,i⟩
def BE{bB}{i}:∀{k:Nat}{b:m N}{d:m (m N)}{B:m Z},rA i k b=h d->c B=c b->(∀(o:Nat)e,b[o]?=h e->∃q,B[o]?=h q/\Rd bB q e)->c d=k/\eZ bB i k (λj=>d.getD j []) B
 |0,[],d,B,g,p,s=>by cases g;simp at p;subst p;exact⟨a,.nil⟩
 |0,_::_,d,B,g,p,s=>by cases g
 |k+1,b,d,B,g,p,s=>by
  simp[rA]at g;cases u:mU i b with
  |none=>grind
  |some e=>
   simp[u]at g;cases r:rA i k (fR i b)with
   |none=>grind
   |some v=>
    simp[r]at g;subst g;obtain⟨D,t⟩:=tQ u;rw[rD]at r;obtain⟨E,z⟩:=BE (B:=B.drop i) r M (λo e C=>by
     obtain⟨q,D,t⟩:=s (i+o) e M
     exact⟨q,by grind,t⟩)
    refine⟨by grind,?_⟩;have y:i<=c b:=M;have A:eZ bB i 1 (λ_=>e) (B.take i):=by refine⟨by grind,by grind,λj x o F C=>?_⟩;grind
    have:=A.append z;rw[Nat.add_comm 1 k]at this;have w:ce 1 (λ_=>e) (λj=>v.getD j [])=λj=>(e::v).getD j []:=by funext j;cases j<;>simp[ce]
    rw[w]at this;simpa using this
def rP(j:m (Nat×bv))(i:aB->z)(r:av)(e:Nat)(parts:m (Nat×aB)):Option (Nat×m (m N)):=
 match bZ j r with
 |some o=>match o.desc with
  |.slice k=>match bZ j k with
   |some a=>match af a.size 0 with
    |true=>n
    |false=>match ay (e*a.size) 16777216 with
     |true=>match px i parts with
      |some g=>match rF (λp=>h (p*a.size,a.size)) g (aY (e*a.size) O.any)with
       |some b=>match h3 b with
        |some q=>match rA a.size e q with
         |some d=>h (a.size,d)
         |none=>n
        |none=>n
       |none=>n
      |none=>n
     |false=>n
   |none=>n
  |_=>n
 |none=>n
theorem a0.buildSlice{P}{ad}(aR:bn P ad){t}{w:aB->z}{p}{q}{k}{parts}(u:t.op=.buildSlice q k parts){i}{T}(e:rP ad w q k parts.toList=h (i,T)):a0 P t w p (ax (.S f i k λv=>T.getD v [])) p:=by
 intro b r R U;unfold rP at e;cases A:bZ ad q with
 |none=>grind
 |some v=>
  simp[A]at e;cases ah:v.desc with
  |slice s=>
   simp[ah]at e;cases D:bZ ad s with
   |none=>grind
   |some d=>
    simp[D]at e;cases V:af d.size 0 with
    |true=>grind
    |false=>
     simp[V]at e;cases G:ay (k*d.size) 16777216 with
     |false=>grind
     |true=>
      simp[G]at e;cases az:px w parts.toList with
      |none=>grind
      |some aa=>
       simp[az]at e;cases aw:rF (λi=>h (i*d.size,d.size)) aa (aY (k*d.size) O.any)with
       |none=>grind
       |some I=>
        simp[aw]at e;cases H:h3 I with
        |none=>grind
        |some aI=>
         simp[H]at e;cases ag:rA d.size k aI with
         |none=>grind
         |some an=>
          simp only[ag,eU,lG]at e;obtain⟨rfl,rfl⟩:=e;have aT:d.size≠0:=λak=>by simp_all
          have aS:=fc G;obtain⟨av,o,Nl,aM,aO,a,bq,aP,aQ⟩:=(aR s d D).c';have au:o.cells.size=d.size:=NF;have aq:∀g∈o.cells.toList,dW g=f:=by intro g L;have aj:lH g∈o.cells.toList.map lH:=k4.2 ⟨g,L,rfl⟩;rw[bq]at aj;obtain⟨aU,_,N⟩:=k4.1 aj;exact(Rd.fq (bB:=b.u) N.symm).cell
          have aL:∀aH,(∀g∈(aC aH).map (λC=>o.cells[C % o.cells.size]!),dW g=f):=by grind[Nat.mod_lt]
          have aA:∀B:m Z,(∀g∈B,dW g=f)->bN p b B (aY (c B) O.any):=by
           intro B;induction B with
           |nil=>intro _;trivial
           |cons g B W=>intro L;exact⟨L g E,W λaJ ar=>L aJ M⟩
          obtain⟨X,Y⟩:=yQ (p:=p) (b:=b) U az;have aE:bN p b ((Array.range (k*d.size)).map (λC=>o.cells[C % o.cells.size]!)).toList (aY (k*d.size) O.any):=by have:=aA _ (aL (k*d.size));simpa using this
          obtain⟨x,aK,ab⟩:=x' (p:=p) (b:=b) (vJ:=λi=>h (i*d.size,d.size)) (λi aV S=>S) aw X Y aE;have nH:=rC H ab;obtain⟨aG,F⟩:=BE (bB:=b.u) (B:=x.toList) ag (by simpa using nH.cM) nH.eX;obtain⟨K,ai⟩:=R.newRow s x.toList;refine⟨.value (.slice (h ⟨b.a.heap.size,0,n⟩) k k),b.newRow s x.toList,?_,?_,K,ai,?_⟩
          rotate_left 2
          .have ak:(ac r t).events P b.a #[]=#[]:=Q3;rw[ak];exact .nil
          .have ar:=(aR q v A).run_underlying (Q:=b.a);rw[ah]at ar;have aD:(zeroValue s).run P b.a=.ok o b.a:=NH;have J:Instr.fill (λi=>h (i*d.size,d.size)) ((Array.range (k*d.size)).map (λC=>o.cells[C % o.cells.size]!)) (parts.map λ(v,ae)=>(v,r ae)).toList=h x:=bw;by_cases aF:k*d.size=0
           .have aN:k=0:=by grind[Nat.mul_eq_zero]
            subst aN;have ao:Array.range 0=#[]:=rfl;simp[ao]at J;simp[ac,u,Instr.buildSlice,ar,(aR s d D).bb,ao,J,Go.newRow,a5.newRow]
           rw[show ac r t=(do pure (.value (<-Instr.buildSlice q k (parts.map λ(v,ae)=>(v,r ae))))) by simp[ac,u]];simp only[Instr.buildSlice,cH,ar,c1,(aR s d D).bb,aF,dh,aD,show¬k*d.size>2 ^ 24 by omega,sE,J,d8];simp[Go.newRow,a5.newRow]
          refine Rd.eH (F.mono ai.mem) (j:=b.a.heap.size) (off:=0) bl (bC _) ?_ bl (aaG b s x.toList);have:k<=k*d.size:=uu k y;omega
  |_=>grind
def fk.trans{p aM a}{b j b3}(k:fk p b aM j)(m:fk aM j a b3):fk p b a b3:=by refine⟨λy z A t=>m.mem _ _ _ (k.mem _ _ _ t),λo q L aE i=>?_⟩;obtain⟨w,d,e,g,v⟩:=k.box o q L aE i;obtain⟨x,u,k1,r,s⟩:=m.box o w d e g;exact⟨x,u,k1,r,v.trans s⟩
def rG{a:m α}{d b:α}{e}(g:(a++[d])[e]?=h b):a[e]?=h b∨(e=c a/\b=d):=M
def bb.b0{k}(e:bb p k)(g:cN p b p k)(N:k.l=b.l)(r:bb p b){bX}{L}(aE:er (p++[bX]) {k with l:=k.l++[L]} bX L)(D:∀j∈L.al,b.a.heap.size<=j/\j<k.a.heap.size):bb (p++[bX]) {k with l:=k.l++[L]}/\cN p b (p++[bX]) {k with l:=k.l++[L]}:=by
 have u:fk p k (p++[bX]) {k with l:=k.l++[L]}:=by refine⟨λ_ _ _ I=>I,λy q i m d=>?_⟩;have x:=(cO.1 d).1;have K:=(cO.1 m).1;exact⟨q,i,by grind,by grind,.refl _ _⟩
 have B:=g.ext.trans u;refine⟨⟨e.mem,by simp[e.len],?_,?_,?_,?_⟩,⟨g.size,g.a6,g.mem,g.bE,?_,B.box,g.os,g.tape,g.output,g.own⟩⟩
 .intro y q i m d;rcases rG m with F|⟨rfl,rfl⟩
  .have x:y<c k.l:=by rw[e.len];grind
   rw[kA x]at d;exact(e.box y q i F d).cb u e.len λ_ _=>⟨a,λ_=>rfl⟩
  rcases rG d with A|⟨_,rfl⟩
  .have:=(cO.1 A).1;rw[e.len]at this;omega
  grind
 .intro y C s t A w j cT o;rcases rG A with k1|⟨rfl,rfl⟩<;>rcases rG w with J|⟨rfl,rfl⟩
  .exact e.a3 y C s t k1 J j cT o
  .have jy:=D j o;have z:=r.lt s M j cT;omega
  .have jy:=D j cT;have z:=r.lt t M j o;omega
  simp
 .intro i d j cT;simp[gl,gY]at d;rcases d with d|rfl
  .exact e.lt i d j cT
  grind
 .intro j cT;refine⟨(e.own j cT).1,λi d v=>?_⟩;simp[gl,gY]at d;rcases d with d|rfl
  .exact(e.own j cT).2 i d v
  have E:=g.own;simp only at cT;rw[E]at cT;have:=(r.own j cT).1;grind
 grind
def bb.b7{cd}(m:bb p b){E d'}{L cn}(U:p[d]?=h E)(I:b.l[d]?=h L)(z:fE E L d' cn)(T:b.a.heap.size<=bi.heap.size)(R:∀e,e<b.a.heap.size->e∉L.al->bi.heap[e]?=b.a.heap[e]?)(V:∀e,e<b.a.heap.size->e∉L.al->∀s,cd e s=b.u e s)(F:∀e s v,b.u e s=h v->cd e s=h v)(K:∀e s v,cd e s=h v->bi.cell? ⟨e,s,n⟩=h v)(Z:∀e∈cn.al,(e∈L.al∨b.a.heap.size<=e)/\e<bi.heap.size)(D:bi.os=b.a.os)(O:bi.tape=b.a.tape)(N:bi.output=b.a.output)(aE:er (p.set d d') ⟨b.l.set d cn,cd,bi,b.own⟩ d' cn):bb (p.set d d') ⟨b.l.set d cn,cd,bi,b.own⟩/\cN p b (p.set d d') ⟨b.l.set d cn,cd,bi,b.own⟩:=by
 have W:=(cO.1 U).1;have Y:=(cO.1 I).1;have x:∀g i,(b.l.set d cn)[g]?=h i->(g=d/\i=cn)∨(g≠d/\b.l[g]?=h i):=M;have t:fk p b (p.set d d') ⟨b.l.set d cn,cd,bi,b.own⟩:=by
  refine⟨F,λg i w r y=>?_⟩;by_cases B:d=g
  .grind
  exact⟨i,w,by grind,by grind,.refl _ _⟩
 have J:∀g i,g≠d->b.l[g]?=h i->∀e∈i.al,e<b.a.heap.size/\e∉L.al:=by intro g i o r e j;exact⟨m.lt i (b9 r) e j,λS=>o (m.a3 g d i L r I e j S)⟩
 refine⟨⟨K,by simp[m.len],?_,?_,?_,?_⟩,⟨T,?_,F,?_,?_,t.box,D,O,N,a⟩⟩
 .intro g i w r y;rcases x g w y with⟨rfl,rfl⟩|⟨o,y⟩
  .grind
  rw[kC (λB=>o B.symm)]at r;refine(m.box g i w r y).cb t m.len λe j=>?_;grind
 .intro g X i q r C e j u;rcases x g i r with⟨rfl,rfl⟩|⟨o,A⟩<;>rcases x X q C with⟨rfl,rfl⟩|⟨k,Q⟩
  .rfl
  .grind
  .grind
  exact m.a3 g X i q A Q e j u
 .intro i r e j;obtain⟨g,o,rfl⟩:=hG r;rcases x g _ (bI o)with⟨rfl,B⟩|⟨k,C⟩
  .grind
  grind
 .intro e j;obtain⟨H,G⟩:=m.own e j;grind
 .grind
 .grind
 grind
def KA{a old bytes}(d:old<a)(b:a*bytes<=140737488355328):¬Builtin.nextslicecap a old*bytes>2 ^ 48:=by have:=growslice_fits d b;omega
section
variable {ad:m (Nat×bv)}(aR:bn P ad){I:av}{e cc a4:bv}
def y2(d:dP P q e)(y:e.desc=.slice W)(v:dP P I cc)(u:cc.desc=.slice W)(z:dP P W a4)(C:bb p b){x}{cap}(t:k<=cap){o}{g}{a:Nat->m N}(r:Rd b.u o (.S g a4.size 0 a)):
  (Builtin.append_ #[q,I] ty #[.slice x k cap,o]).run P b.a=.ok (.slice x k cap) b.a:=by obtain⟨E,D,A,J⟩:=oI (P:=P) C r;have j:=d.run_underlying (Q:=b.a);have i:=v.run_underlying (Q:=b.a);rw[y]at j;rw[u]at i;obtain⟨s,F,B,rfl,_⟩:=r.b1;have w:=jA (by simpa using D.len);subst w;cases x<;>simp[Builtin.append_,j,i,z.bb,Builtin.lenOf,t,A,storeCells]
def vQ(w:dP P q e)(ae:e.desc=.slice W)(aw:dP P I cc)(av:cc.desc=.slice W)(L:dP P W a4)(ak:bb p b){r}{cap}{aj D}{g:Nat->m N}{o}(x:Rd b.u (.slice r k cap) (.S aj a4.size k T))(C:Rd b.u o (.S D a4.size A g))(ah:cap<k+A)(F:(k+A)*a4.bytes<=140737488355328)(z:a4.bytes≠0):
  ∃B j d,eZ b.u a4.size (k+A) (ce k T g) B/\k+A<=d/\d<=9223372036854775807/\c (B++j)=d*a4.size /\
   (Builtin.append_ #[q,I] ty #[.slice r k cap,o]).run P b.a=.ok (.slice (h ⟨b.a.heap.size,0,n⟩) (k+A) d) (b.a.drew.alloc (.cells (B++j).toArray W)):=by
 have ab:bb p {b with a:=b.a.drew}:=ak.same rfl;obtain⟨t,K,u,ar⟩:=oI (P:=P) ab (aa:=o) C;obtain⟨s,X,v,V⟩:=oI (P:=P) ab (aa:=.slice r k cap) x;have R:=w.run_underlying (Q:=b.a);have S:=aw.run_underlying (Q:=b.a);rw[ae]at R;rw[av]at S;obtain⟨Y,E,J,ax,az,ai,ag,aA,aB⟩:=L.c';have U:=fG (uu _ (Nat.pos_of_ne_zero z)) F;have H:E.cells.size=a4.size:=by have:=eK List.length ag;grind
 refine⟨s++t,(Builtin.zeroCells E.cells (grownCap b.a (k+A) cap W-(k+A))).toList,grownCap b.a (k+A) cap W,X.append K,grownCap_ge _ _ _ _,?_,?_,?_⟩
 .have:=grownCap_le_maxLen b.a (k+A) cap W (by unfold maxLen;omega);unfold maxLen at this;omega
 .have aN:=grownCap_ge b.a (k+A) cap W;simp[dn,X.len,K.len,m9,size_zeroCells,H,<-jD];grind
 .have aD:=KA ah F;have au:¬Builtin.nextslicecap (k+A) cap*Y.bytes>2 ^ 48:=M;have aq:¬k+A<=cap:=y;have O:¬((k+A:Nat):Int)>IntKind.i64.max:=bw;have G:∀i,(typeInfo W).run P i=.ok Y i:=λi=>by simp[typeInfo,J]
  have ad:∀i,(zeroValue W).run P i=.ok E i:=λi=>by simp[zeroValue,typeInfo,J,ai]
  have ao:(Builtin.lenOf o).run P b.a=.ok A b.a:=by rw[ar];rfl
  replace u:(Builtin.firstCells a4.size A o).run P b.a.drew=.ok t.toArray b.a.drew:=u;replace v:(Builtin.firstCells a4.size k (.slice r k cap)).run P b.a.drew=.ok s.toArray b.a.drew:=v
  unfold Builtin.append_;simp only[j7,m8,n2,cH,R,S,c1,L.bb,d8,j9,dh,ao,aq,
   O,false_and,G,au,run_choose,Question.forced,run_askRoom,sE,World.drew_eq,v,u,ip,dH,ad]
  simp[Go.newRow,grownCap];have an:∀a:Array Z,(s++t).toArray++a=(s++(t++a.toList)).toArray:=λa=>by grind
  rw[an];rfl
def DV(g:dP P q e)(F:e.desc=.slice W)(E:dP P I cc)(D:cc.desc=.slice W)(J:dP P W a4)(y:bb p b){cap}{w}{s}(K:b.a.heap[j]?=h (.cells s.toArray w (0,0)))(C:c s=cap*a4.size){r}{a:Nat->m N}{o}(z:Rd b.u o (.S r a4.size A a))(v:k+A<=cap):
  ∃d,eZ b.u a4.size A a d/\(Builtin.append_ #[q,I] ty #[.slice (h ⟨j,0,n⟩) k cap,o]).run P b.a=.ok (.slice (h ⟨j,0,n⟩) (k+A) cap) (b.a.setRow j (s.take (k*a4.size)++d++s.drop (k*a4.size+c d)).toArray):=by
 obtain⟨d,i,O,R⟩:=oI (P:=P) y z;have x:=g.run_underlying (Q:=b.a);have t:=E.run_underlying (Q:=b.a);rw[F]at x;rw[D]at t;have S:k*a4.size+c d<=c s:=by rw[i.len,C,<-jD];exact gX _ v
 have u:=run_storeCells_at P j (k*a4.size) w d 0 s.toArray b.a K M i.cell;simp[j']at u;have B:(Builtin.lenOf o).run P b.a=.ok A b.a:=dA;refine⟨d,i,?_⟩;unfold Builtin.append_;simp[j7,m8,n2,cH,x,t,c1,J.bb,d8,j9,dh,B,v,dH,ip,O,gN,cV,u]
end
def Dh{d:Sem α}{b}{T}{a}(e:a∈d.events P b T):a∈T∨a∈d.events P b #[]:=by grind[Sem.events_acc]
def LB(e:a5)(d:aT):Prop:=∃a b g,d=pz a b/\e.u a b=h g
def sZ(I:bb p b){q}{i}(x:Rd b.u aa (.S q i k T)){Q}(E:Q.heap=b.a.heap):
  ∀u∈(Builtin.firstCells i k aa).events P Q #[],LB b u:=by
 obtain⟨C,w,B,rfl,S,R,M,A,F⟩:=x.b1;have N:=A.len;intro u j;cases C with
 |none=>simp[Builtin.firstCells]at j
 |some s=>
  simp[Builtin.firstCells]at j;have t:∀e,e<k*i->∃g d m,s=⟨g,d,n⟩/\b.u g (d+e)=h m:=by intro e o;obtain⟨g,d,z,r⟩:=F e (B[e]'y) (bI y);grind
  by_cases J:k*i=0
  .rw[J]at j;simp[loadCells,loadCellsFrom]at j
  obtain⟨g,d,_,rfl,_⟩:=t 0 y;have O:∀e,e<k*i->∃aa,Q.cell? ⟨g,d+e,n⟩=h aa:=by intro e o;obtain⟨K,D,m,v,r⟩:=t e o;cases v;have:=I.mem _ _ _ r;exact⟨m,by simp[aL,E]at this⊢;omega⟩
  rcases IL (P:=P) O u j with x|⟨e,o,rfl⟩
  .grind
  obtain⟨K,D,m,v,r⟩:=t e o;cases v;exact⟨_,_,m,a,r⟩
theorem tz{a}(e:LB b a):h4 b a:=by obtain⟨g,i,j,rfl,d⟩:=e;exact Ii d
section
variable {I:av}{e cc a4:bv}
def x0(g:dP P q e)(D:e.desc=.slice W)(z:dP P I cc)(y:cc.desc=.slice W)(E:dP P W a4)(t:bb p b){r}{cap}(w:k<=cap){o}{j}{d:Nat->m N}(i:Rd b.u o (.S j a4.size 0 d)):
  dt b ((Builtin.append_ #[q,I] ty #[.slice r k cap,o]).events P b.a #[]):=by obtain⟨M,K,F,R⟩:=oI (P:=P) t i;have C:=sZ (P:=P) t i (Q:=b.a) a;have u:=g.run_underlying (Q:=b.a);have s:=z.run_underlying (Q:=b.a);rw[D]at u;rw[y]at s;obtain⟨v,O,B,rfl,_⟩:=i.b1;have A:=jA (by simpa using K.len);subst A;intro x J;refine tz (C x ?_);cases r<;>simpa[Builtin.append_,u,s,E.bb,Builtin.lenOf,w,F,storeCells]using J
def u2(x:dP P q e)(aj:e.desc=.slice W)(G:dP P I cc)(z:cc.desc=.slice W)(K:dP P W a4)(u:bb p b){j}{cap}{B C}{s:Nat->m N}{o}(U:Rd b.u (.slice j k cap) (.S B a4.size k T))(S:Rd b.u o (.S C a4.size A s))(ak:cap<k+A)(J:(k+A)*a4.bytes<=140737488355328)(ah:a4.bytes≠0):
  dt b ((Builtin.append_ #[q,I] ty #[.slice j k cap,o]).events P b.a #[]):=by
 have F:bb p {b with a:=b.a.drew}:=u.same rfl;obtain⟨az,aq,t,V⟩:=oI (P:=P) F (aa:=o) S;obtain⟨av,X,v,ab⟩:=oI (P:=P) F (aa:=.slice j k cap) U;have Y:=sZ (P:=P) u S (Q:=b.a.drew) a;have aI:=sZ (P:=P) u U (Q:=b.a.drew) a;have R:=x.run_underlying (Q:=b.a);have ae:=G.run_underlying (Q:=b.a);rw[aj]at R;rw[z]at ae;obtain⟨w,aA,aN,aB,aD,E,aE,aF,aG⟩:=K.c';have Z:=fG (uu _ (Nat.pos_of_ne_zero ah)) J;have ad:=KA ak J;have O:¬Builtin.nextslicecap (k+A) cap*w.bytes>2 ^ 48:=M;have aw:¬k+A<=cap:=y;have H:¬((k+A:Nat):Int)>IntKind.i64.max:=bw;have ai:∀g,(typeInfo W).run P g=.ok w g:=λg=>by simp[typeInfo,aN]
 have L:∀g,(zeroValue W).run P g=.ok aA g:=λg=>by simp[zeroValue,typeInfo,aN,E]
 have an:(Builtin.lenOf o).run P b.a=.ok A b.a:=by rw[V];rfl
 have ar:(Builtin.lenOf o).events P b.a #[]=#[]:=by rw[V];rfl
 replace t:(Builtin.firstCells a4.size A o).run P b.a.drew=.ok az.toArray b.a.drew:=t;replace v:(Builtin.firstCells a4.size k (.slice j k cap)).run P b.a.drew=.ok av.toArray b.a.drew:=v
 intro r i;unfold Builtin.append_ at i;simp only[j7,m8,n2,aH,cH,R,ae,c1,aJ,K.bb,d8,j9,dh,an,ar,aw,
  H,false_and,ai,O,run_choose,Question.forced,run_askRoom,sE,Sem.events_ite,World.drew_eq,v,t,ip,dH,L,events_underlying,events_sizeOf,events_typeInfo,events_choose,events_zeroValue,Sem.events_pure]at i
 have ag:∀(o:Nat) (Q:au) (r:aT),r∈(askRoom o).events P Q #[]->r=⟨.mark .noRoom,l,f⟩:=by intro o Q r ao;unfold askRoom at ao;simp_all
 rw[dB.newRow (P:=P)]at i;generalize(Go.newRow W _).run P b.a.drew=ax at i;have d:r∈(Builtin.firstCells a4.size A o).events P b.a.drew ((Builtin.firstCells a4.size k (.slice j k cap)).events P b.a.drew ((askRoom ((Question.appendCap (k+A) cap W).cut (b.a.tape b.a.drawn (Question.appendCap (k+A) cap W))*w.bytes)).events P b.a.drew #[])):=by
  cases ax with
  |ok aa D=>simpa using i
  |halt aa D=>simpa using i
 rcases Dh d with d|d
 .rcases Dh d with d|d
  .rw[ag _ _ _ d];exact .inl a
  grind[tz]
 grind[tz]
def B_(i:dP P q e)(y:e.desc=.slice W)(K:dP P I cc)(J:cc.desc=.slice W)(B:dP P W a4)(G:bb p b){cap}{O}{d}(z:b.a.heap[j]?=h (.cells d.toArray O (0,0)))(F:c d=cap*a4.size){r9}{dI:Nat->m N}{o}(t:Rd b.u o (.S r9 a4.size A dI))(x:k+A<=cap){L}(Y:L∈b.l)(U:j∈L.al)(ab:∀w,k*a4.size<=w->b.u j w=n):
  dt b ((Builtin.append_ #[q,I] ty #[.slice (h ⟨j,0,n⟩) k cap,o]).events P b.a #[]):=by
 obtain⟨g,r,aN,R⟩:=oI (P:=P) G t;have T:=sZ (P:=P) G t (Q:=b.a) a;have H:=i.run_underlying (Q:=b.a);have u:=K.run_underlying (Q:=b.a);rw[y]at H;rw[J]at u;have S:k*a4.size+c g<=c d:=by rw[r.len,F,<-jD];exact gX _ x
 have v:=run_storeCells_at P j (k*a4.size) O g 0 d.toArray b.a z M r.cell;simp[j']at v;have D:(Builtin.lenOf o).run P b.a=.ok A b.a:=dA;have E:(Builtin.lenOf o).events P b.a #[]=#[]:=dA
 intro C s;unfold Builtin.append_ at s;simp[j7,m8,n2,aH,cH,H,u,aJ,B.bb,d8,j9,dh,D,E,x,dH,ip,aN,gN,cV,v,
  sE,Sem.events_ite,events_underlying,events_sizeOf,Sem.events_pure]at s
 rcases nh g 0 d.toArray b.a _ z M r.cell C s with Z|⟨aa,X,V,rfl⟩
 .grind [tz]
 grind[og]
end
structure j4(P:aI)(t:ap)(o X:aB)(W:av)(a4:bv):Prop where
 op:∃q I e cc,t.op=.call {callee:=.builtin .append,args:=#[o,X],argTypes:=#[q,I]}/\dP P q e/\e.desc=.slice W/\dP P I cc/\cc.desc=.slice W
 elem:dP P W a4
 bytes:a4.bytes≠0
 size:a4.size≠0
def a5.dC(a:a5)(i:av)(B b:m Z)(d:m Loc):a5:=
 {l:=d,u:=λe g=>if e=a.a.heap.size then B[g]? else a.u e g,a:=a.a.drew.alloc (.cells (B++b).toArray i),own:=a.own}
def JB(k:bb p b)(W)(B a:m Z):∀d e i,(if d=b.a.heap.size then B[e]? else b.u d e)=h i->(b.a.drew.alloc (.cells (B++a).toArray W)).cell? ⟨d,e,n⟩=h i:=by
 intro d e i g;by_cases j:d=b.a.heap.size
 .subst j;simp[dH]at g;unfold aL;have:(b.a.drew.alloc (.cells (B++a).toArray W)).heap[b.a.heap.size]?=h (.cells (B++a).toArray W):=lV b.a.drew _;grind
 simp[j,dh]at g;have o:=k.block g;rw[<-k.mem d e i g];unfold aL;have:(b.a.drew.alloc (.cells (B++a).toArray W)).heap[d]?=b.a.heap[d]?:=iQ b.a.drew _ o;grind
def JC(i:bb p b)(B:m Z):∀a d e,b.u a d=h e->(if a=b.a.heap.size then B[d]? else b.u a d)=h e:=by intro a d e g;have:=i.block g;grind
theorem jj{A}(a:dt b (A.events P b.a #[])):dt b ((do pure (.value (<-A)):Sem Next).events P b.a #[]):=dA
theorem ld{I}(u:t.op=.call {callee:=.builtin .append,args:=#[o,X],argTypes:=#[q,I]})(a:aB->Z):
  ac a t=(do pure (.value (<-Builtin.append_ #[q,I] t.type #[a o,a X]))):=Rn
def Rd.eg{q}{i}(r:Rd bB aa (.S q i k T)):Rd bB aa (.S l i k T):=by
 cases r with
 |S o a p m d s e b g j=>exact .S o a p m d E e b g j
def Rd.cA{q}{i}{dI:Nat->m N}(z:∀b,b<k->T b=dI b)(x:Rd bB aa (.S q i k T)):Rd bB aa (.S q i k dI):=by
 cases x with
 |S v d w u j s y g p r=>exact .S v d w u j s (λb a=>by grind) g (λb a t e o=>p b a t e M) (λb a t e o=>r b a t e M)
def Rd.fU{i gb}(a:i=gb∨k=0)(d:Rd bB aa (.S f i k T)):Rd bB aa (.S f gb k T):=by
 rcases a with rfl|rfl
 .exact d
 obtain⟨e,b,B,j,m,g,o,_⟩:=d.b1;grind[Rd.dH]
def tx{i}{L}(aE:p[d]?=h (.r W i k T))(o:b.l[d]?=h L)(e:er p b (.r W i k T) L):cx p b L.v (.r d i k T):=by refine⟨e.1,(cO.1 aE).1,λq j m a g=>?_⟩;grind
def a0.f'{e:bv}(u:j4 P t o X W e){aa:Nat}{Y:Bool}{dI:Nat->m N}(an:η o=ax (.S f aa k T))(S:aa=e.size∨k=0)(ak:∀d K,bx p d K (η X)->Rd d.u K (.S Y e.size A dI))(g:(k+A)*e.bytes<=140737488355328)(aq:k=0∨0<A):
  a0 P t η p (.n (.aq (.r (c p) e.size (k+A) (ce k T dI)))) (p++[.r W e.size (k+A) (ce k T dI)]):=by
 intro d av bP F;obtain⟨aB,az,ar,au,v,i,G,J,I⟩:=u.op;have C:=F o;rw[an]at C;have r:=Rd.fU S (b7 C);have q:=ak d _ (F X);obtain⟨x,b,B,ao,ab,aN,ah,aw,D⟩:=r.b1;have H:b=k:=ah a;subst H;rw[ld v];rw[ao]at r⊢;by_cases ai:A=0
 .subst ai;have V:=y2 (P:=P) (ty:=t.type) i G J I u.elem bP (x:=x) ab q;simp only[j'];have r:=Rd.cA (dI:=ce b T dI) (λar i=>by grind) r;have aE:er (p++[.r W e.size b (ce b T dI)]) {d with l:=d.l++[⟨.slice x b b,[]⟩]} (.r W e.size b (ce b T dI)) ⟨.slice x b b,[]⟩:=⟨r.eg,.inl ⟨⟨rfl,by omega⟩,r⟩⟩
  obtain⟨R,Q⟩:=bP.b0 (.refl _ _) rfl bP aE E;refine⟨.value (.slice x b b),_,?_,?_,R,Q,jj (x0 i G J I u.elem bP ab q)⟩
  .simp[V]
  exact tx E t' aE
 have Z:b<b+A:=y;obtain⟨s,O,w,z,ae,L,ad,V⟩:=vQ (P:=P) (ty:=t.type) i G J I u.elem bP r q Z g u.bytes;have M:bb p (d.dC W s O d.l)/\cN p d p (d.dC W s O d.l):=
  bP.cY E (λj g=>iQ d.a.drew _ g) (λj g t=>by grind)
   (λj g t K D=>JB bP W s O j t K D) a a a
 have ag:Rd (d.dC W s O d.l).u (.slice (h ⟨d.a.heap.size,0,n⟩) (b+A) w) (.S l e.size (b+A) (ce b T dI)):=
  Rd.eH (z.mono M.2.mem) (j:=d.a.heap.size) (off:=0) bl ae L E (λaA aD aj=>by simpa[a5.dC]using aj)
 have aE:er (p++[.r W e.size (b+A) (ce b T dI)]) {(d.dC W s O d.l)with l:=(d.dC W s O d.l).l++[⟨.slice (h ⟨d.a.heap.size,0,n⟩) (b+A) w,[d.a.heap.size]⟩]} (.r W e.size (b+A) (ce b T dI)) ⟨.slice (h ⟨d.a.heap.size,0,n⟩) (b+A) w,[d.a.heap.size]⟩:=by
  refine⟨ag,.inr ⟨d.a.heap.size,w,s++O,a,lV d.a.drew _,ad,λt v=>?_⟩⟩;have U:c s<=t:=by rw[z.len];exact v
  simp[a5.dC,wV U]
 obtain⟨R,Q⟩:=M.1.b0 M.2 rfl bP aE (λj g=>by simp at g;subst g;refine⟨bC _,?_⟩;simp[a5.dC]);refine⟨.value (.slice (h ⟨d.a.heap.size,0,n⟩) (b+A) w),_,?_,?_,R,Q,jj (u2 i G J I u.elem bP r q Z g u.bytes)⟩
 .simp[V];rfl
 exact tx E (by simp[a5.dC,<-bP.len]) aE
def a0.ib{a4}(C:j4 P t o X W a4){aS}{g:Nat->m N}(aQ:η o=.n (.aq (.r d a4.size k T)))(u:p[d]?=h (.r W a4.size k T))(aR:∀q U,bx p q U (η X)->Rd q.u U (.S aS a4.size A g))(r:(k+A)*a4.bytes<=140737488355328):
  a0 P t η p (.n (.aq (.r d a4.size (k+A) (ce k T g)))) (p.set d (.r W a4.size (k+A) (ce k T g))):=by
 intro q bd b aq;obtain⟨bg,bf,ar,bc,w,s,ab,G,z⟩:=C.op;have aM:d<c p:=(cO.1 u).1;have ae:=aq o;rw[aQ]at ae;obtain⟨aw,_,ag⟩:=ae;obtain⟨L,K,bb⟩:=(ag _ _ _ _ u).2 rfl;have v:=aR q _ (aq X);have aK:d<c q.l:=(cO.1 K).1;have H:=b.box d _ L u K;obtain⟨x,e,B,S,aN,aj,ba,ah,a'⟩:=aw.b1;rw[ld w,S];rw[S]at aw;have ax:L.v=.slice x k e:=M;by_cases aH:A=0
 .subst aH;have av:=y2 (P:=P) (ty:=t.type) s ab G z C.elem b (x:=x) aN v;simp only[j'];have ai:∀ar,ar<k->T ar=ce k T g ar:=λar s=>by simp[ce,s]
  have R:er (p.set d (.r W a4.size k (ce k T g))) ⟨q.l.set d L,q.u,q.a,q.own⟩ (.r W a4.size k (ce k T g)) L:=by
   refine⟨H.1.cA ai,?_⟩;rcases H.2 with⟨J,aI⟩|J
   .exact .inl ⟨J,aI.cA ai⟩
   grind
  have I:=b.b7 (cd:=q.u) (bi:=q.a) (d':=.r W a4.size k (ce k T g)) (cn:=L) u K ⟨λ_=>rfl,bC _⟩ (bC _) (λ_ _ _=>rfl) (λ_ _ _ _=>rfl) (λ_ _ _ C=>C) b.mem
   (λj r=>⟨.inl r,b.lt L (b9 K) j r⟩) a a a R
  refine⟨.value (.slice x k e),_,?_,?_,I.1,I.2,jj (x0 s ab G z C.elem b aN v)⟩
  .simp[av]
  rw[<-ax];exact tx (W:=W) M M R
 .have F:¬(k+A=k):=y;by_cases aA:k+A<=e
  .rcases H.2 with⟨aX,aT⟩|⟨j,aG,i,rfl,hw,aE,bq⟩
   .rw[ax]at aT;obtain⟨_,_,_,az,_,_,a6,_⟩:=aT.b1;grind
   .simp only at ax;cases ax;obtain⟨D,Q,av⟩:=DV (P:=P) (ty:=t.type) s ab G z C.elem b hw aE v aA;have a3:c D=A*a4.size:=Q.len;have aJ:j<q.a.heap.size:=(jb.1 hw).1;let cd:Mem:=λO t=>if O=j/\k*a4.size<=t/\t<(k+A)*a4.size then D[t-k*a4.size]? else q.u O t;have aZ:c i=e*a4.size:=aE;have a5:(k+A)*a4.size=k*a4.size+A*a4.size:=jD _ _ _;have a2:(k+A)*a4.size<=e*a4.size:=gX _ aA;have aV:∀O t U,q.u O t=h U->cd O t=h U:=M;have aP:∀aB aD,D[aB]?=h aD->cd j (k*a4.size+aB)=h aD:=M;have aF:Rd cd (.slice (h ⟨j,0,n⟩) (k+A) e) (.S l a4.size (k+A) (ce k T g)):=by refine Rd.eH (B:=B++D) ((ah.append Q).mono aV) (j:=j) (off:=0) bl aA aj E (λaB aD aO=>?_);have a7:c B=k*a4.size:=ah.len;grind
    have I:=b.b7 (cd:=cd) (bi:=q.a.setRow j (i.take (k*a4.size)++D++i.drop (k*a4.size+c D)).toArray) (d':=.r W a4.size (k+A) (ce k T g)) (cn:=⟨.slice (h ⟨j,0,n⟩) (k+A) e,[j]⟩) u K
     ⟨λaz=>absurd az F,by omega⟩ E (λO _ ad=>setRow_other _ _ _ _ M) (λO _ ad t=>by grind) aV ?_ (λO ad=>by simp at ad;exact bw) a a a ?_
    .refine⟨.value (.slice (h ⟨j,0,n⟩) (k+A) e),_,?_,?_,I.1,I.2,jj (B_ s ab G z C.elem b hw aE v aA (b9 K) E bq)⟩
     .simp[av]
     exact tx (L:=⟨.slice (h ⟨j,0,n⟩) (k+A) e,[j]⟩) (W:=W) M M (I.1.box d _ _ M M)
    .intro O t U aa;by_cases ad:O=j
     .subst ad;have a9:∀a8,(q.a.setRow O (i.take (k*a4.size)++D++i.drop (k*a4.size+c D)).toArray).cell? ⟨O,a8,n⟩=(i.take (k*a4.size)++D++i.drop (k*a4.size+c D))[a8]?:=by grind[cell_setRow_same]
      rw[a9];simp only[cd]at aa;have a1:c (i.take (k*a4.size))=k*a4.size:=by rw[List.length_take];omega
      split at aa
      .grind
      rename_i a_;have J:=b.mem O t U aa;have w:t<k*a4.size:=M;rw[mj,kA y,io,br w];simp only[aL,hw]at J;grind
     simp only[cd]at aa;rw[bm y]at aa;rw[<-b.mem O t U aa];exact PT
    refine⟨aF,.inr ⟨j,e,_,a,setRow_heap _ _ _ _ _ _ hw,M,λt w=>?_⟩⟩;grind
  .have ak:e<k+A:=y;obtain⟨V,Z,au,aU,an,ao,Y,av⟩:=vQ (P:=P) (ty:=t.type) s ab G z C.elem b aw v ak r C.bytes;have aW:∀j∈L.al,j<q.a.heap.size:=b.lt L (b9 K);have aF:Rd (λj t=>if j=q.a.heap.size then V[t]? else q.u j t) (.slice (h ⟨q.a.heap.size,0,n⟩) (k+A) au) (.S l a4.size (k+A) (ce k T g)):=
    Rd.eH (aU.mono (JC b V)) (j:=q.a.heap.size) (off:=0) bl an ao E (λaB aD aO=>by grind)
   have I:=b.b7 (cd:=λj t=>if j=q.a.heap.size then V[t]? else q.u j t) (bi:=q.a.drew.alloc (.cells (V++Z).toArray W)) (d':=.r W a4.size (k+A) (ce k T g)) (cn:=⟨.slice (h ⟨q.a.heap.size,0,n⟩) (k+A) au,[q.a.heap.size]⟩) u K
    ⟨λaz=>absurd az F,by omega⟩ E (λj r _=>iQ q.a.drew _ r) (λj r _ t=>by grind) (JC b V) (JB b W V Z) (λj r=>by
     simp at r;exact bw) a a a ⟨aF,.inr ⟨q.a.heap.size,au,V++Z,a,lV q.a.drew _,Y,λt w=>by
      have u:c V<=t:=by rw[aU.len];exact w
      grind⟩⟩
   refine⟨.value (.slice (h ⟨q.a.heap.size,0,n⟩) (k+A) au),_,?_,?_,I.1,I.2,jj (u2 s ab G z C.elem b aw v ak r C.bytes)⟩
   .simp[av]
   exact tx (L:=⟨.slice (h ⟨q.a.heap.size,0,n⟩) (k+A) au,[q.a.heap.size]⟩) (W:=W) M M (I.1.box d _ _ M M)
def dv{a:Type}:m Nat->m a->Option (m a)
  |[],_=>h []
  |e::b,d=>match c7 e d with
    |some i=>match dv b d with
      |some g=>h (i::g)
      |none=>n
    |none=>n
def lh{d:Type}:∀a (e:m d),c7 a e=e[a]?
  |_,[]=>by simp[c7]
  |0,g::_=>by simp[c7]
  |a+1,_::b=>by simpa[c7]using lh a b
def l5{j:Type}:∀{a:m Nat} {b e:m j},dv a b=h e->c e=c a/\∀(o g:Nat),a[o]?=h g->∃i,e[o]?=h i/\b[g]?=h i
  |[],b,e,d=>by cases d;simp
  |g::a,b,e,d=>by
    simp[dv]at d;cases p:c7 g b with
    |none=>grind
    |some i=>
      cases k:dv a b with
      |none=>grind
      |some s=>
        simp[p,k]at d;subst d;obtain⟨q,r⟩:=l5 k;grind[ej]
def vU{j p:Type}:∀{a:m Nat} {d i:m j} {kL:m p},dv a d=h i->c kL=c d->∃b,dv a kL=h b
  |[],d,i,kL,_,_=>⟨[],rfl⟩
  |g::a,d,i,kL,s,k=>by
    simp[dv]at s;cases r:c7 g d with
    |none=>grind
    |some u=>
      cases q:dv a d with
      |none=>grind
      |some t=>
        obtain⟨b,o⟩:=vU (kL:=kL) q k;have e:g<c kL:=by rw[k];exact(cO.1 (ej r)).1
        exact⟨kL[g]::b,by simp[dv,lh,e,o]⟩
def kr(a:m Nat):O->O
  |.ptr d j=>match c7 d a with|some b=>.ptr b j|none=>.any
  |.r d b g e=>match c7 d a with|some i=>.r i b g e|none=>.c (.S l b g e)
  |.aR d=>match c7 d a with|some b=>.aR b|none=>.any
  |.R d k=>match c7 d a with|some b=>.R b k|none=>.any
  |.c o=>.c o
  |.any=>.any
def qP(a:m Nat):m O->m O
  |[]=>[]
  |b::d=>kr a b::qP a d
def pA(a:m Nat):E1->E1
  |.aq d=>.aq (kr a d)
  |.agg b=>.agg (qP a b)
def tA(a:m Nat):m E1->m E1
  |[]=>[]
  |b::d=>pA a b::tA a d
def e9(a:m Nat):z->z
  |.n d=>.n (pA a d)
  |.Q b=>.Q (tA a b)
  |.any=>.any
def gq(a:m Nat):m z->m z
  |[]=>[]
  |b::d=>e9 a b::gq a d
def DD:O->Bool
  |.c _|.any=>f
  |_=>l
def yU:m O->Bool
  |[]=>f
  |a::b=>match DD a with|true=>yU b|false=>l
def vK:an->Bool
  |.cells _ a=>yU a
  |.loop ..=>l
  |_=>f
def ep:m an->Bool
  |[]=>f
  |a::b=>match vK a with|true=>ep b|false=>l
def vL:∀{e:m an},ep e=f->∀a∈e,vK a=f
  |[],_,a,aE=>by grind
  |g::i,b,a,aE=>by
    simp[ep]at b;cases d:vK g with
    |false=>grind
    |true=>
      simp[d]at b;rcases fo.1 aE with rfl|aE
      · exact d
      · exact vL b a aE
def bN.plain{p ao}{b az}(k:az.u=b.u):∀{B:m Z} {a:m O},yU a=f->bN p b B a->bN ao az B a
  |[],[],_,_=>trivial
  |[],_::_,_,d=>d.elim
  |_::_,[],_,d=>d.elim
  |o::B,g::j,e,d=>by
    simp[yU]at e;cases i:DD g with
    |false=>grind
    |true=>
      simp[i]at e;refine⟨?_,bN.plain k e d.2⟩;cases g with
      |c q=>have:=d.1;simp[cx]at this⊢;grind
      |any=>exact d.1
      |_=>simp[DD]at i
def er.plain{p ao}{b az}(d:az.u=b.u)(g:az.a=b.a){e}{L}(m:vK e=f)(a:er p b e L):er ao az e L:=by
  cases e with
  |cells k q=>
    obtain⟨o,B,j,s,r,x⟩:=a;exact⟨o,B,j,by grind,r.plain d m,λy=>by simp_all⟩
  |r k t u i=>simp[er,d,g]at a⊢;exact a
  |J H=>simp[er,d,g]at a⊢;exact a
  |x=>trivial
  |loop w v z=>simp[vK]at m
  |bn=>simp[er,d,g]at a⊢;exact a
  |h k t u i=>simp[er,d,g]at a⊢;exact a
def ed:Nat->m Nat->Bool
  |_,[]=>l
  |a,d::b=>match af a d with|true=>f|false=>ed a b
def e8:m Nat->Bool
  |[]=>f
  |b::a=>match ed b a with|true=>l|false=>e8 a
theorem vt:∀{a:Nat} {d:m Nat},a∈d->ed a d=f
  |a,[],b=>by grind
  |a,e::i,b=>by
    simp[ed];cases g:af a e with
    |true=>rfl
    |false=>
      rcases fo.1 b with rfl|b
      · grind[Nat.beq_refl]
      · exact vt b
def KE:∀{i:m Nat},e8 i=f->∀(b d e:Nat),i[b]?=h e->i[d]?=h e->b=d
  |[],_,b,d,e,a,_=>by grind
  |p::o,g,b,d,e,a,j=>by
    simp[e8]at g;cases q:ed p o with
    |true=>grind
    |false=>
      simp[q]at g;have s:∀k,o[k]?=h p->False:=λk r=>by have:=vt (b9 r);grind
      cases b with
      |zero=>
        grind
      |succ b=>
        cases d with
        |zero=>
          grind
        |succ d=>
          simp at a j;rw[KE g b d e a j]
def lY(a:Nat):O->Bool
  |.ptr d _|.r d _ _ _|.aR d|.R d _=>ay (d+1) a
  |_=>f
def lj(a:Nat):m O->Bool
  |[]=>f
  |b::d=>match lY a b with|true=>lj a d|false=>l
def pp(b:Nat):E1->Bool
  |.aq d=>lY b d
  |.agg a=>lj b a
def ou(a:Nat):m E1->Bool
  |[]=>f
  |b::d=>match pp a b with|true=>ou a d|false=>l
def hM(b:Nat):z->Bool
  |.n d=>pp b d
  |.Q a=>ou b a
  |.any=>f
def g6(a:Nat):m z->Bool
  |[]=>f
  |b::d=>match hM a b with|true=>g6 a d|false=>l
section sub
variable {lz:m Loc}
def cx.sub(O:dv aP p=h ao)(Q:dv aP b.l=h lz){m}(I:cx p b aa (kr aP m))(o:lY (c aP) m=f):cx ao {b with l:=lz} aa m:=by
  obtain⟨T,r⟩:=l5 O;obtain⟨N,q⟩:=l5 Q;cases m with
  |c t=>exact I
  |any=>exact I
  |ptr g R=>
    have a:g<c aP:=fc o;simp[kr,lh,bI a]at I;obtain⟨d,L,D,e,i,y⟩:=I;obtain⟨t,s,z⟩:=r g _ (bI a);obtain⟨A,k,j⟩:=q g _ (bI a);rw[j]at e;cases e;exact⟨λu x=>d u M,L,D,k,i,y⟩
  |r g E J v=>
    have a:g<c aP:=fc o;simp[kr,lh,bI a]at I;obtain⟨d,e,i⟩:=I;obtain⟨t,s,z⟩:=r g _ (bI a);obtain⟨A,k,j⟩:=q g _ (bI a);refine⟨d,by grind,λC F K B x=>?_⟩;grind
  |aR g=>
    have a:g<c aP:=fc o;simp[kr,lh,bI a]at I;obtain⟨d,L,e,i,y⟩:=I;obtain⟨t,s,z⟩:=r g _ (bI a);obtain⟨A,k,j⟩:=q g _ (bI a);rw[j]at e;cases e;exact⟨λu x=>d u M,L,k,i,y⟩
  |R g S=>
    have a:g<c aP:=fc o;simp[kr,lh,bI a]at I;obtain⟨w,d,e,i⟩:=I;obtain⟨t,s,z⟩:=r g _ (bI a);obtain⟨A,k,j⟩:=q g _ (bI a);refine⟨w,d,(cO.1 s).1,λC E J v x=>?_⟩;grind
def cx.cN{e_}{b3}(J:b3.u=b.u)(u:∀(s:Nat) t,p[s]?=h t->∃g,aP[s]?=h g/\e_[g]?=h t)(C:∀(s:Nat) L,b.l[s]?=h L->∃g,aP[s]?=h g/\b3.l[g]?=h L)(O:c b.l=c p){v}(m:cx p b aa v):cx e_ b3 aa (kr aP v):=by
  cases v with
  |c R=>simp[kr,cx,J];exact m
  |any=>exact m
  |ptr d N=>
    obtain⟨e,L,E,a,r,B⟩:=m;obtain⟨g,k1,w⟩:=C d L a;have i:d<c p:=M;obtain⟨j,o,I⟩:=u d _ (bI i);rw[k1]at o;cases o;simp[kr,lh,k1];refine⟨λt A=>?_,L,E,w,r,B⟩;grind
  |r d g K F=>
    obtain⟨e,a,r⟩:=m;obtain⟨k1,y,k⟩:=u d _ (bI a);simp[kr,lh,y];refine⟨by grind,(cO.1 k).1,λD j z q A=>?_⟩;grind
  |aR d=>
    obtain⟨e,L,a,r,B⟩:=m;obtain⟨g,k1,w⟩:=C d L a;have i:d<c p:=M;obtain⟨j,o,I⟩:=u d _ (bI i);rw[k1]at o;cases o;simp[kr,lh,k1];refine⟨λt A=>?_,L,w,r,B⟩;grind
  |R d Q=>
    obtain⟨x,e,a,r⟩:=m;obtain⟨k1,y,k⟩:=u d _ (bI a);simp[kr,lh,y];refine⟨x,e,(cO.1 k).1,λD j z q A=>?_⟩;grind
def bN.sub(e:dv aP p=h ao)(g:dv aP b.l=h lz):∀{B:m Z} {a:m O},bN p b B (qP aP a)->lj (c aP) a=f->bN ao {b with l:=lz} B a
  |[],[],_,_=>trivial
  |[],_::_,d,_=>d.elim
  |_::_,[],d,_=>d.elim
  |o::B,j::k,d,I=>by
    simp[lj]at I;cases i:lY (c aP) j with
    |false=>grind
    |true=>simp[i]at I;exact⟨d.1.sub e g i,bN.sub e g d.2 I⟩
def et.sub(e:dv aP p=h ao)(g:dv aP b.l=h lz){aa}{o}(i:et p b aa (pA aP o))(I:pp (c aP) o=f):et ao {b with l:=lz} aa o:=by
  cases o with
  |aq k=>exact cx.sub e g i I
  |agg j=>obtain⟨B,a,d⟩:=i;exact⟨B,a,d.sub e g I⟩
def eS.sub(e:dv aP p=h ao)(g:dv aP b.l=h lz):∀{B:m Z} {a:m E1},eS p b B (tA aP a)->ou (c aP) a=f->eS ao {b with l:=lz} B a
  |[],[],_,_=>trivial
  |[],_::_,d,_=>d.elim
  |_::_,[],d,_=>d.elim
  |o::B,j::k,d,I=>by
    simp[ou]at I;cases i:pp (c aP) j with
    |false=>grind
    |true=>simp[i]at I;exact⟨d.1.sub e g i,eS.sub e g d.2 I⟩
def bx.sub(e:dv aP p=h ao)(g:dv aP b.l=h lz){aa}{I}(j:bx p b aa (e9 aP I))(i:hM (c aP) I=f):bx ao {b with l:=lz} aa I:=by
  cases I with
  |n m=>exact et.sub e g j i
  |Q k=>obtain⟨B,a,d⟩:=j;exact⟨B,a,d.sub e g i⟩
  |any=>trivial
def b5.sub(e:dv aP p=h ao)(g:dv aP b.l=h lz):∀{B:m Z} {a:m z},b5 p b B (gq aP a)->g6 (c aP) a=f->b5 ao {b with l:=lz} B a
  |[],[],_,_=>trivial
  |[],_::_,d,_=>d.elim
  |_::_,[],d,_=>d.elim
  |o::B,j::k,d,I=>by
    simp[g6]at I;cases i:hM (c aP) j with
    |false=>grind
    |true=>simp[i]at I;exact⟨d.1.sub e g i,b5.sub e g d.2 I⟩
variable {e_:m an}{b3:a5}
def bN.cN(q:b3.u=b.u)(o:∀(e:Nat) i,p[e]?=h i->∃g,aP[e]?=h g/\e_[g]?=h i)(k:∀(e:Nat) L,b.l[e]?=h L->∃g,aP[e]?=h g/\b3.l[g]?=h L)(j:c b.l=c p):
    ∀{B:m Z} {d:m O},bN p b B d->bN e_ b3 B (qP aP d)
  |[],[],_=>trivial
  |[],_::_,a=>a.elim
  |_::_,[],a=>a.elim
  |_::_,_::_,a=>⟨a.1.cN q o k j,bN.cN q o k j a.2⟩
def et.cN(q:b3.u=b.u)(m:∀(a:Nat) (i:an),p[a]?=h i->∃d,aP[a]?=h d/\e_[d]?=h i)(k:∀(a:Nat) (L:Loc),b.l[a]?=h L->∃d,aP[a]?=h d/\b3.l[d]?=h L)(j:c b.l=c p){aa}{o}(r:et p b aa o):et e_ b3 aa (pA aP o):=by
  cases o with
  |aq t=>exact cx.cN q m k j r
  |agg s=>obtain⟨B,e,g⟩:=r;exact⟨B,e,g.cN q m k j⟩
def eS.cN(q:b3.u=b.u)(o:∀(d:Nat) i,p[d]?=h i->∃e,aP[d]?=h e/\e_[e]?=h i)(k:∀(d:Nat) (L:Loc),b.l[d]?=h L->∃e,aP[d]?=h e/\b3.l[e]?=h L)(j:c b.l=c p):
    ∀{B:m Z} {g:m E1},eS p b B g->eS e_ b3 B (tA aP g)
  |[],[],_=>trivial
  |[],_::_,a=>a.elim
  |_::_,[],a=>a.elim
  |_::_,_::_,a=>⟨a.1.cN q o k j,eS.cN q o k j a.2⟩
def bx.cN(q:b3.u=b.u)(o:∀(a:Nat) (j:an),p[a]?=h j->∃d,aP[a]?=h d/\e_[d]?=h j)(m:∀(a:Nat) (L:Loc),b.l[a]?=h L->∃d,aP[a]?=h d/\b3.l[d]?=h L)(k:c b.l=c p){aa}{e}(r:bx p b aa e):bx e_ b3 aa (e9 aP e):=by
  cases e with
  |n t=>exact et.cN q o m k r
  |Q s=>obtain⟨B,g,i⟩:=r;exact⟨B,g,i.cN q o m k⟩
  |any=>trivial
end sub
def c_.cn{a:Type}:Nat->a->m a->m a
  |_,_,[]=>[]
  |0,d,_::b=>d::b
  |e+1,d,g::b=>g::c_.cn e d b
def c_{a:Type}:m Nat->m a->m a->m a
  |[],new,old=>old++new
  |d::b,e::new,old=>c_ b new (c_.cn d e old)
  |_::_,[],old=>old
theorem mP{b:Type}:∀d (a:b) (e:m b),c_.cn d a e=e.set d a
  |_,_,[]=>by simp[c_.cn]
  |0,a,_::g=>by simp[c_.cn]
  |d+1,a,i::g=>by simp[c_.cn,mP d a g]
def DI{g:Type}:∀{aP:m Nat} {new old:m g},e8 aP=f->(∀a∈aP,a<c old)->c aP<=c new ->
    c (c_ aP new old)=c old+(c new-c aP)/\(∀(b a:Nat),aP[b]?=h a->(c_ aP new old)[a]?=new[b]?) /\
    (∀b,(c_ aP new old)[c old+b]?=new[c aP+b]?)/\(∀d,d<c old->d∉aP->(c_ aP new old)[d]?=old[d]?)
  |[],new,old,_,_,_=>by
    refine⟨by simp[c_],by simp,λb=>?_,λd k _=>?_⟩
    · simp[c_,gA,cV]
      grind
    · simp[c_,kA k]
  |a::aP,[],old,_,_,p=>by grind
  |a::aP,s::new,old,e,j,u=>by
    have t:=e;simp[e8]at e;cases o:ed a aP with
    |true=>grind
    |false=>
      simp[o]at e;have q:a<c old:=j a E;have v:a∉aP:=λp=>by grind[vt]
      obtain⟨y,w,z,x⟩:=DI (aP:=aP) (new:=new) (old:=old.set a s) e (λr i=>by grind) M;simp[c_,mP];grind
def Y(o:aj P)(j:a3)(args:m z)(i:m an)(e:z)(b:m an):Prop:=
  (∃fn,P.funcs[j]?=h fn/\(fn.name== "runtime.NumGoroutine")=l/\fn.body.isNone=l) /\
  ∀g (B:m Z),b5 i g B args->bb i g->∀(k:ak->a5->Prop) d,
    (∀p q a,mc P j p q a->bx b a q e->bb b a->dc i g b a->cb o k (G p d) a)->cb o k (G (Frame.enter P j B.toArray .normal) d) g
def bk(p:aj P)(k:a3)(args:m z)(j:m an)(e:ι->z)(b:ι->m an):Prop:=
  (∃fn,P.funcs[k]?=h fn/\(fn.name== "runtime.NumGoroutine")=l/\fn.body.isNone=l) /\
  ∀i (B:m Z),b5 j i B args->bb j i->∀(o:ak->a5->Prop) d,
    (∀g q r a,mc P k q r a->bx (b g) a r (e g)->bb (b g) a->dc j i (b g) a->cb p o (G q d) a)->cb p o (G (Frame.enter P k B.toArray .normal) d) i
def Y.tocD{g:aj P}{i}{args}{res}(j:Y g i args p res ao):bk (ι:=Unit) g i args p (λ_=>res) (λ_=>ao):=
  ⟨j.1,λm B e d k a b=>j.2 m B e d k a (b ())⟩
def bk.toY{g:aj P}{i}{args}{res}(j:bk (ι:=Unit) g i args p (λ_=>res) (λ_=>ao)):Y g i args p res ao:=
  ⟨j.1,λm B e d k a b=>j.2 m B e d k a (λ_=>b)⟩
def oF(b:a5)(d:m Loc):Nat->Prop:=λa=>b.own a∨((∃L∈b.l,a∈L.al)/\∀L∈d,a∉L.al)
def gK(a:Nat):Nat->m Nat
  |0=>[]
  |b+1=>a::gK (a+1) b
def M7:∀d b a,(gK b d)[a]?=if a<d then h (b+a)else n
  |0,b,a=>by simp[gK]
  |d+1,b,0=>by simp[gK]
  |d+1,b,a+1=>by simp[gK,n2,M7 d (b+1) a,Nat.add_lt_add_iff_right];grind
def frame{aM}{k}{A}(v:bb p b)(P:dv aP p=h dd)(aX:dv aP b.l=h A)(Z:e8 aP=f)(aB:ep aM=f)(E:bb aM k)(j:dc dd {b with l:=A,own:=oF b A} aM k)(X:c aP<=c aM){res}(aD:bx aM k aa res):
    ∃b3:a5,b3.a=k.a/\bx (c_ aP aM p) b3 aa (e9 (aP++gK (c p) (c aM-c aP)) res)/\bb (c_ aP aM p) b3/\dc p b (c_ aP aM p) b3/\b3.u=k.u/\b3.own=b.own/\∀L∈b3.l,L∈k.l∨(L∈b.l/\∀i∈L.al,∀q∈A,i∉q.al):=by
  have aS:∀z∈aP,z<c p:=by intro z x;obtain⟨d,u,rfl⟩:=hG x;obtain⟨aG,_,a0⟩:=(l5 P).2 d _ (bI u);grind
  have N:∀z∈aP,z<c b.l:=by rw[v.len];omega
  have H:c aP<=c k.l:=by rw[E.len];omega
  obtain⟨an,ao,S,aq⟩:=DI (new:=aM) (old:=p) Z aS X;obtain⟨T,ar,U,au⟩:=DI (new:=k.l) (old:=b.l) Z N H;obtain⟨aZ,av⟩:=l5 P;obtain⟨d1,d2⟩:=l5 aX;let aj:=aP++gK (c p) (c aM-c aP);have aT:∀d,d<c aM->∃z,aj[d]?=h z/\(c_ aP aM p)[z]?=aM[d]?/\(c_ aP k.l b.l)[z]?=k.l[d]?:=by
    intro d u;rcases dY d (c aP) with K|ai
    · refine⟨aP[d],?_,ao d _ (bI K),ar d _ (bI K)⟩
      grind
    · refine⟨c p+(d-c aP),?_,?_,?_⟩
      · simp[aj]
        rw[hq ai,M7,br y]
      · rw[S];grind
      · rw[<-v.len,U];grind
  have I:∀g L,(c_ aP k.l b.l)[g]?=h L->(∃d,d<c aM/\k.l[d]?=h L/\(∀w,(c_ aP aM p)[g]?=h w->aM[d]?=h w)/\(∀z,aP[d]?=h z->z=g)/\(d≥c aP->g=c p+(d-c aP))) ∨
      (g<c p/\g∉aP/\b.l[g]?=h L/\(c_ aP aM p)[g]?=p[g]?):=by
    intro g L m;have aU:g<c (c_ aP k.l b.l):=(cO.1 m).1;rcases dY g (c p) with K|ai
    · by_cases C:g∈aP
      · obtain⟨d,u,rfl⟩:=hG C
        have x:=bI u;grind
      · exact .inr ⟨K,C,by rw[<-au g (by rw[v.len];omega) C];exact m,aq g K C⟩
    · rw[T,E.len,v.len]at aU
      refine .inl ⟨c aP+(g-c p),by omega,?_,λw aE=>?_,λz x=>?_,λ_=>by omega⟩
      · rw[<-U,v.len,AA ai];exact m
      · rw[<-S,AA ai];exact aE
      grind
  have O:∀L∈A,L∈b.l:=by intro L m;obtain⟨d,u,rfl⟩:=hG m;have ae:d<c aP:=M;obtain⟨aG,aN,R⟩:=d2 d _ (bI ae);grind
  have t:∀g L,g∉aP->b.l[g]?=h L->∀i∈L.al,i<b.a.heap.size/\∀q∈A,i∉q.al:=by intro g L F m i o;refine⟨v.lt L (b9 m) i o,λq r s=>?_⟩;obtain⟨d,u,rfl⟩:=hG r;have ae:d<c aP:=M;obtain⟨aG,aN,R⟩:=d2 d _ (bI ae);rw[bI u]at aN;cases aN;have:=v.a3 g aP[d] L _ m R i o s;grind
  have ab:∀i,i<b.a.heap.size->(∀L∈b.l,i∉L.al)->∀L∈A,i∉L.al:=λi _ ah L m=>ah L (O L m);have V:fk p b (c_ aP aM p) ⟨c_ aP k.l b.l,k.u,k.a,b.own⟩:=by
    refine⟨j.mem,λg w L aE m=>?_⟩;have K:g<c p:=(cO.1 aE).1;by_cases C:g∈aP
    · obtain⟨d,u,rfl⟩:=hG C
      have x:=bI u;obtain⟨aG,aN,R⟩:=av d _ x;obtain⟨a8,aH,ad⟩:=d2 d _ x;rw[aE]at R;cases R;rw[m]at ad;cases ad;obtain⟨aR,q,a3,a4,a6⟩:=j.box d w L aN aH;grind
    · exact⟨w,L,by grind,by grind,.refl _ _⟩
  refine⟨⟨c_ aP k.l b.l,k.u,k.a,b.own⟩,a,?_,⟨E.mem,?_,?_,?_,?_,?_⟩,⟨j.size,?_,j.mem,?_,?_,V.box,j.os,j.tape,j.output,a⟩,a,a,?_⟩
  · refine bx.cN (b:=k) (b3:=⟨c_ aP k.l b.l,k.u,k.a,b.own⟩) (e_:=c_ aP aM p) (aP:=aj) a (λd w aE=>?_) (λd L m=>?_) E.len aD
    · grind
    · obtain⟨z,k1,_,a1⟩:=aT d (by rw[<-E.len];grind)
      grind
  · simp only;rw[an,T,E.len,v.len]
  · intro g w L aE m
    rcases I g L m with⟨d,u,B,D,_⟩|⟨F,C,r,aV⟩
    · exact er.plain (p:=aM) (b:=k) (az:=⟨c_ aP k.l b.l,k.u,k.a,b.own⟩) a a (vL aB w (b9 (D w aE))) (E.box d w L (D w aE) B)
    · rw[aV]at aE
      refine(v.box g w L aE r).cb V v.len λi o=>?_;obtain⟨ak,ag⟩:=t g L C r i o;exact⟨j.a6 i (.inr ⟨⟨L,b9 r,o⟩,ag⟩),j.bE i ak ag⟩
  · intro g J L q m r i o s
    rcases I g L m with⟨d,u,B,_,aL,aO⟩|⟨F,C,e,_⟩<;>rcases I J q r with⟨aF,ae,aI,_,aw,ax⟩|⟨aQ,Y,G,_⟩
    · have a7:=E.a3 d aF L q B aI i o s
      grind
    · obtain⟨ak,ag⟩:=t J q Y G i s
      rcases j.bT L (b9 B) i o with ah|⟨Q,W,aK⟩
      · grind
      grind
    · obtain⟨ak,ag⟩:=t g L C e i o
      rcases j.bT q (b9 aI) i s with ah|⟨Q,W,aK⟩
      · grind
      grind
    · exact v.a3 g J L q e G i o s
  · intro L m i o
    obtain⟨g,F,rfl⟩:=hG m;rcases I g _ (bI F)with⟨d,u,B,_⟩|⟨_,_,e,_⟩
    · exact E.lt _ (b9 B) i o
    · have:=v.lt _ (b9 e) i o
      have:=j.size;grind
  · intro i o
    refine⟨?_,λL m aJ=>?_⟩
    · have:=(v.own i o).1
      have:=j.size;grind
    · obtain⟨g,F,rfl⟩:=hG m
      rcases I g _ (bI F)with⟨d,u,B,_⟩|⟨_,_,e,_⟩
      · have aA:k.own i:=by rw[j.own];exact .inl o
        exact(E.own i aA).2 _ (b9 B) aJ
      · exact(v.own i o).2 _ (b9 e) aJ
  · intro i o
    exact j.a6 i (.inl o)
  · intro i o aW a2
    exact j.bE i o (ab i o aW) a2
  · intro L m i o
    obtain⟨g,F,rfl⟩:=hG m;rcases I g _ (bI F)with⟨d,u,B,_⟩|⟨_,_,e,_⟩
    · rcases j.bT _ (b9 B) i o with ah|⟨Q,W,aK⟩
      · grind
      grind
    grind
  · intro L m
    obtain⟨g,F,rfl⟩:=hG m;rcases I g _ (bI F)with⟨d,u,B,_⟩|⟨_,C,e,_⟩
    · grind
    grind
def gO:z->Option (a3×m N)
 |.n (.aq (.c (.fn (.func b) [] a)))=>h (b,a)
 |_=>n
theorem m6{p}{b}{d:aB->Z}{a:aB->z}(e:∀i,bx p b (d i) (a i)):∀g:m aB,b5 p b (g.map d) (g.map a)
 |[]=>trivial
 |k::j=>⟨e k,m6 e j⟩
def b5.append{p}{b}:∀{B e:m Z}{g a:m z},b5 p b B g->b5 p b e a->b5 p b (B++e) (g++a)
 |[],_,[],_,_,d=>d
 |[],_,_::_,_,d,_=>d.elim
 |_::_,_,[],_,d,_=>d.elim
 |_::_,_,_::_,_,d,i=>⟨d.1,b5.append d.2 i⟩
def BB:O->O
 |.r _ b d a=>.c (.S l b d a)
 |.c (.S _ b d a)=>.c (.S l b d a)
 |e=>e
def Hq{d}(a:cx p b aa d):cx p b aa (BB d):=by
 cases d with
 |r j i k e=>exact a.1
 |c g=>cases g<;>first|exact a|exact Rd.eg a
 |_=>exact a
def BD:m O->m O
 |[]=>[]
 |a::b=>BB a::BD b
def Hs{p}{b}:∀{B:m Z}{d:m O},bN p b B d->bN p b B (BD d)
 |[],[],_=>trivial
 |[],_::_,a=>a.elim
 |_::_,[],a=>a.elim
 |_::_,_::_,a=>⟨Hq a.1,Hs a.2⟩
def BC:z->z
 |.n (.aq b)=>.n (.aq (BB b))
 |.n (.agg a)=>.n (.agg (BD a))
 |d=>d
def Hr{a}(d:bx p b aa a):bx p b aa (BC a):=by
 cases a with
 |n j=>cases j with
  |aq m=>exact Hq d
  |agg i=>obtain⟨B,e,g⟩:=d;exact⟨B,e,Hs g⟩
 |Q k=>exact d
 |any=>trivial
def k7:m z->m z
 |[]=>[]
 |a::b=>BC a::k7 b
theorem uR{p}{b}:∀{B:m Z}{d:m z},b5 p b B d->b5 p b B (k7 d)
 |[],[],_=>trivial
 |[],_::_,a=>a.elim
 |_::_,[],a=>a.elim
 |_::_,_::_,a=>⟨Hr a.1,uR a.2⟩
def e2:m N->m z
 |[]=>[]
 |a::b=>ax a::e2 b
theorem qi{p}{b}:∀{B:m Z}{a:m N},(∀(g:Nat)d,a[g]?=h d->∃i,B[g]?=h i/\Rd b.u i d)->c B=c a->b5 p b B (e2 a)
 |[],[],_,_=>trivial
 |[],_::_,_,e=>by grind
 |_::_,[],_,e=>by grind
 |i::B,d::a,e,q=>by obtain⟨r,j,k⟩:=e 0 d rfl;simp at j;subst j;exact⟨k,qi (λg d o=>by simpa using e (g+1) d M) M⟩
def D1{a b:m α}(i:dv aP a=h b):∀d∈b,d∈a:=by intro d g;obtain⟨o,e⟩:=l5 i;obtain⟨j,k,rfl⟩:=hG g;obtain⟨r,p,q⟩:=e j _ (bI y);grind
def bb.sub{m}(i:bb p b)(E:dv aP p=h dd)(I:dv aP b.l=h m)(K:ep dd=f)(u:e8 aP=f):
  bb dd {b with l:=m,own:=oF b m}/\eW b {b with l:=m,own:=oF b m}:=by
 obtain⟨B,t⟩:=l5 E;obtain⟨d1,d2⟩:=l5 I;have y:∀L∈m,L∈b.l:=D1 I;refine⟨⟨i.mem,by grind,?_,?_,?_,?_⟩,⟨a,λ_ _ _ D=>D,λ_ _ _=>rfl,i.mem,?_⟩⟩
 .intro w x L aE d;have k:w<c aP:=M;obtain⟨R,A,N⟩:=t w _ (bI k);obtain⟨O,q,v⟩:=d2 w _ (bI k);rw[aE]at A;cases A;simp only at d;rw[d]at q;cases q;exact er.plain (p:=p) (b:=b) (az:={b with l:=m,own:=oF b m}) rfl rfl (vL K x (b9 aE)) (i.box _ x L N v)
 .intro w C L s d o j g r;simp only at d o;have k:w<c aP:=M;have F:C<c aP:=M;obtain⟨O,q,v⟩:=d2 w _ (bI k);obtain⟨Q,z,J⟩:=d2 C _ (bI F);rw[d]at q;cases q;rw[o]at z;cases z;have:=i.a3 _ _ L s v J j g r;exact KE u w C aP[w] (bI k) M
 .intro L d j g;exact i.lt _ (y L d) j g
 .rintro j (g|⟨⟨L,d,g⟩,e⟩)
  .exact⟨(i.own j g).1,λL d=>(i.own j g).2 L (y L d)⟩
  exact⟨i.lt L d j g,e⟩
 rintro j ((g|⟨⟨L,d,g⟩,_⟩)|⟨L,d,g⟩)
 .grind
 .grind
 grind
def eW.cO{aM}{s b3}{j}(v:bb p b)(k:bb aM s)(g:dc dd {b with l:=j,own:=oF b j} aM s)(t:b3.a=s.a)(o:b3.u=s.u)(w:b3.own=b.own)(r:∀L∈b3.l,L∈s.l∨(L∈b.l/\∀a∈L.al,∀i∈j,a∉i.al)):eW s b3:=by
 refine⟨t,λa m q e=>by grind,λa _ m=>by rw[o],λa m q e=>by rw[o]at e;exact k.mem a m q e,?_⟩;rintro a (d|⟨L,x,d⟩)
 .left;rw[g.own];exact .inl M
 rcases r L x with e|⟨e,u⟩
 .grind
 left;rw[g.own];exact .inr ⟨⟨L,e,d⟩,u a d⟩
def AR{v:aj P}{j:aK}{i}{x}{bs}{V}(I:j.kind≠.early)(q:aD[e]?=h t)(M:aU t (yielded aD x.tmps)=f)(T:bb p b)(aF:∀y,(ac x.eval t).run P y=.ok (.enter V B.toArray) y)(O:∀y,(ac x.eval t).events P y #[]=#[])(ae:bk v V cR dd res aM)(av:b5 p b B (gq aP cR))(aN:g6 (c aP) cR=f)(w:dv aP p=h dd)(K:ep dd=f)(Z:∀d,ep (aM d)=f)(U:e8 aP=f)(aq:∀d,c aP<=c (aM d))(E:∀d u az,bx (c_ aP (aM d) p) az u (e9 (aP++gK (c p) (c (aM d)-c aP)) (res d))->bb (c_ aP (aM d) p) az->dc p b (c_ aP (aM d) p) az->cb v bq (G (j.M (x.put t.dst u) (.inRegion aD bs::i)) ah) az):
  cb v bq (G (j.M x (.inRegion aD (e::bs)::i)) ah) b:=by
 obtain⟨_,aA⟩:=ae;refine .next a λk ak=>?_;have C:=v.bN ak;have o:=T.rely C;obtain⟨D,Q⟩:=vU (kL:=k.l) w o.len;obtain⟨z,an⟩:=o.sub w Q K U;have au:=av.mono C.aV.ext T.len;have N:=(au.sub (b:=k) w Q aN).mono (p:=dd) (b:={k with l:=D}) (ao:=dd) (az:={k with l:=D,own:=oF k D}) ⟨λ_ _ _ E=>E,λaG Y L aE F=>⟨Y,L,aE,F,.refl _ _⟩⟩ z.len;refine⟨_,k,_,tH q M I (aF k.a),?_,.aU an (aA _ B N z bq _ λd ar u aw J m g r=>?_)⟩
 .refine⟨⟨p,p,o,o,.refl _ _⟩,dt.seen ?_⟩;rw[O];exact .nil
 refine uG (ah:=ah) (s:=j.M x (.inRegion aD (e::bs)::i)) g J λax R=>?_;have X:=g.rely R;have W:=r.trans R.aV;obtain⟨S,ab,aa,ai,H,ad,ag,aB⟩:=frame o w Q U (Z d) X W (aq d) (m.mono R.aV.ext g.len);refine .aU (eW.cO o X W ab ad ag aB) ?_;have A:=qs (j:=j) (x:=x) (i:=i) aD e bs u;rw[q]at A;simp[n4]at A;rw[A];exact E d u S aa ai (C.aV.trans H)
def Gi{j:aj P}{k:aK}{i}{d}{bs}{aM}{o}{res}(F:k.kind≠.early)(m:aD[e]?=h t)(C:aU t (yielded aD d.tmps)=f)(E:bb p b)(u:∀g,(ac d.eval t).run P g=.ok (.enter o B.toArray) g)(s:∀g,(ac d.eval t).events P g #[]=#[])(A:Y j o cR dd res aM)(r:b5 p b B (gq aP cR))(x:g6 (c aP) cR=f)(y:dv aP p=h dd)(D:ep dd=f)(v:ep aM=f)(I:e8 aP=f)(z:c aP<=c aM)(w:∀q a,bx (c_ aP aM p) a q (e9 (aP++gK (c p) (c aM-c aP)) res)->bb (c_ aP aM p) a->dc p b (c_ aP aM p) a->cb j bq (G (k.M (d.put t.dst q) (.inRegion aD bs::i)) ah) a):
  cb j bq (G (k.M d (.inRegion aD (e::bs)::i)) ah) b:=
 AR F m C E u s A.tocD r x y D (λ_=>v) I (λ_=>z) (λ_=>w)
theorem mO(b:t.op=.call {callee:=.value cP,args:=ag,argTypes:=dp}){d}{fn}(j:P.funcs[d]?=h fn)(p:(fn.name== "runtime.NumGoroutine")=l)(o:fn.body.isNone=l){a:Act}{ah}(k:a.eval cP=.func (.func d) #[] ah.toArray)(e):
  (ac a.eval t).run P e=.ok (.enter d (ag.toList.map a.eval++ah).toArray) e/\(ac a.eval t).events P e #[]=#[]:=by
 have m:(ag.map a.eval++ah.toArray)=(ag.toList.map a.eval++ah).toArray:=M;have i:fn.name≠ "runtime.NumGoroutine":=M;have g:fn.body≠n:=M;constructor
 .simp[ac,b,resolve,k,Deferred.ofValue,invoke,callFunc,j,i,g,m]
 simp[ac,b,resolve,k,Deferred.ofValue,invoke,callFunc,j,i,g]
def e'.eV{x:aj P}{aN:bH->m an->Prop}(L:∀p i k,bY D p i F k->aU t (yielded all.toArray k.tmps)=f)(u:t.op=.call {callee:=.value cP,args:=ag,argTypes:=dp}){Z:a3}(w:gO (bF F cP)=h (Z,cap))(b:m Nat)(ae:bk x Z cR dd res aM)(aJ:∀i B,b5 p i B (ag.toList.map (bF F)++e2 cap)->b5 p i B (gq b cR))(ao:g6 (c b) cR=f)(aq:dv b p=h dd)(au:ep dd=f)(O:∀d,ep (aM d)=f)(S:e8 b=f)(G:∀d,c b<=c (aM d))(C)(ar:t.dst=C)(aA:∀v,C=h v->v<D)(aI:∀d,e' x D all bs aN (fT C (e9 (b++gK (c p) (c (aM d)-c b)) (res d)) F) (c_ b (aM d) p)):e' x D all (t::bs) aN F p:=by
 subst ar;intro i k o g aB U A ax idx q a J;cases idx with
 |nil=>exact a.elim
 |cons aR idx=>
 obtain⟨K,a⟩:=a;have ah:=eL o cP;unfold gO at w;split at w
 case h_2=>cases w
 case h_1 u6 uS he=>
  cases w;rw[he]at ah;have ab:=b7 ah;generalize Y:k.eval cP=aG at ab;cases ab with
  |fn aF e R s aE E aH I aO V=>
   have z:=jA R;subst z;have aK:b5 p i e (e2 cap):=qi (λd aD Q=>⟨E d,I d M,V d aD Q⟩) s;have aP:b5 p i (ag.toList.map k.eval++e) (gq b cR):=by exact aJ _ _ ((m6 (eL o) ag.toList).append aK)
   obtain⟨fn,ai,ad,aa⟩:=ae.1;refine AR q K (L _ _ _ o) g (λX=>(mO u ai ad aa Y X).1) (λX=>(mO u ai ad aa Y X).2) ae aP ao aq au O S G λd aS W T r j=>?_;refine aI d W _ ?_ r aB U A ax idx q a λH ak aw y aL az av N=>J H ak aw y aL az av (j.trans N);cases aQ:t.dst with
   |none=>exact o.mono j g.len
   |some v=>exact(o.mono j g.len).put (aA v aQ) T
def e'.gT{d:aj P}{aN:bH->m an->Prop}(A:∀p k i,bY D p k F i->aU t (yielded all.toArray i.tmps)=f)(g:t.op=.call {callee:=.value cP,args:=ag,argTypes:=dp}){j}(z:gO (bF F cP)=h (j,cap))(aP)(w:bk d j cR dd res aM)(E:k7 (ag.toList.map (bF F)++e2 cap)=gq aP cR)(r:g6 (c aP) cR=f)(s:dv aP p=h dd)(x:ep dd=f)(q:∀a,ep (aM a)=f)(e:e8 aP=f)(u:∀a,c aP<=c (aM a))(b)(y:t.dst=b)(C:∀o,b=h o->o<D)(v:∀a,e' d D all bs aN (fT b (e9 (aP++gK (c p) (c (aM a)-c aP)) (res a)) F) (c_ aP (aM a) p)):e' d D all (t::bs) aN F p:=
 e'.eV A g z aP w (λk B I=>by grind[uR]) r s x q e u b y C v
theorem e'.call{b:aj P}{aN:bH->m an->Prop}(z:∀p B g,bY D p B F g->aU t (yielded all.toArray g.tmps)=f)(e:t.op=.call {callee:=.value cP,args:=ag,argTypes:=dp}){i}(y:gO (bF F cP)=h (i,cap))(aP){aM}{res}(u:Y b i cR dd res aM)(k:k7 (ag.toList.map (bF F)++e2 cap)=gq aP cR)(q:g6 (c aP) cR=f)(r:dv aP p=h dd)(v:ep dd=f)(o:ep aM=f)(d:e8 aP=f)(s:c aP<=c aM)(a)(x:t.dst=a)(A:∀j,a=h j->j<D)(w:e' b D all bs aN (fT a (e9 (aP++gK (c p) (c aM-c aP)) res) F) (c_ aP aM p)):e' b D all (t::bs) aN F p:=
 e'.gT z e y aP u.tocD k q r v (λ_=>o) d (λ_=>s) a x A (λ_=>w)
def nW.range(all):nW all (aC all.toArray.size) all:=by
 have key:∀a k,(∀w t,a[w]?=h t->all[k+w]?=h t)->nW all (List.range' k (c a)) a:=by
  intro a;induction a with
  |nil=>intro k _;trivial
  |cons t a' x=>
   exact Qa
 grind[List.range_eq_range']
theorem b0.region{r:aj P}{aN}{id}(z:e' r D aD.toList aD.toList (λF p=>aN .normal F p) F p):b0 r D (.region id aD l) aN F p:=by intro C t y d u A j s m k;refine .ctl d a (λ_=>y_) λw b=>?_;have:=z w t (y.rely b d) (d.rely b) u A j s (aC aD.size) m (by simpa using nW.range aD.toList) λe g o i B v x q=>k .normal e g o i B v x (b.aV.trans q);omega
def e'.nil{P:aI}{d:aj P}{D}{all}{aN:bH->m an->Prop}{F}{p}(q:aN F p):e' d D all [] aN F p:=by
 intro v e o b s u i r idx _ g j;cases idx with
 |cons t idx=>exact g.elim
 |nil=>exact .ctl b rfl (λ_=>vV) λk a=>j F p k e q (o.rely a b) (b.rely a) a.aV
def e'.mono{q:aj P}{aN r:bH->m an->Prop}(z:e' q D all bs aN F p)(y:∀F p,aN F p->r F p):e' q D all bs r F p:=
 λb t x j u A e s idx i k g=>z b t x j u A e s idx i k λa ao az d B v w o=>g a ao az d (y _ _ B) v w o
def e'.le{P:aI}{j:aj P}{D}{all bs}{aN:bH->m an->Prop}{F dE}{p}(s:e' j D all bs aN dE p)(i:iA F dE):e' j D all bs aN F p:=
 λu o r e q t a k idx d g b=>s u o (r.le i) e q t a k idx d g b
def h2:Nat->m z->bH
 |_,[]=>[]
 |a,b::d=>(a,b)::h2 (a+1) d
def yz:∀d(a b:Nat),look (h2 a d) b=if a<=b then(d[b-a]?).getD .any else .any
 |[],a,b=>by simp[h2,look]
 |g::e,a,b=>by
  simp only[h2,look];by_cases i:a=b
  .grind [Nat.beq_refl]
  have:af a b=l:=ub;rw[this];simp[cond,yz e (a+1) b];grind
theorem b5.get{p}{b}:∀{B:m Z}{a:m z},b5 p b B a->c B=c a/\∀(w:Nat),bx p b ((B[w]?).getD K) ((a[w]?).getD .any)
 |[],[],_=>⟨rfl,λw=>by simp[bx]⟩
 |[],_::_,d=>d.elim
 |_::_,[],d=>d.elim
 |j::B,i::a,d=>by
  obtain⟨e,g⟩:=b5.get d.2;refine⟨by grind,λw=>?_⟩;cases w with
  |zero=>simpa using d.1
  |succ w=>grind
def oH(a:bH):m ResultVar->Option (m z)
 |[]=>h []
 |.tmp e::d=>match oH a d with
  |some b=>h (look a e::b)
  |none=>n
 |.cell _ _::_=>n
def qV:m z->Option (m E1)
 |[]=>h []
 |.n d::b=>match qV b with
  |some a=>h (d::a)
  |none=>n
 |_::_=>n
def pq:m z->Option z
 |[d]=>h d
 |a=>match qV a with
  |some b=>h (.Q b)
  |none=>n
def ib(d:Act):ResultVar->Sem Z
 |ResultVar.tmp b=>pure (d.tmps.getD b K)
 |ResultVar.cell a b=>do loadVar b (<-asAddr (d.tmps.getD a K))
def LH(P){D}{p}{b}{F}{g}(o:bY D p b F g):∀{e:m ResultVar}{a:m z},oH F e=h a ->
  ∃B,(∀j,(e.mapM (ib g)).run P j=Result.ok B j)/\b5 p b B a/\dB P (e.mapM (ib g))
 |[],a,d=>by cases d;exact⟨[],by simp,v,by rw[List.mapM_nil];exact .pure⟩
 |.tmp i::q,a,d=>by
  simp[oH]at d;cases k:oH F q with
  |none=>grind
  |some w=>
   simp[k]at d;subst d;obtain⟨B,s,t,u⟩:=LH P o k;refine⟨g.tmps.getD i K::B,?_,⟨o.aH i,t⟩,?_⟩
   .intro j;simp[o6,cH,ib,d8,c1,s]
   rw[o6];exact .bind .pure λ_=>.bind u λ_=>.pure
 |.cell r i::q,a,d=>by simp[oH]at d
def MU{p}{b}:∀{B:m Z}{e:m z}{a:m E1},qV e=h a->b5 p b B e->eS p b B a
 |[],[],a,d,_=>by cases d;trivial
 |[],_::_,_,_,d=>d.elim
 |_::_,[],_,_,d=>d.elim
 |o::B,.n q::j,a,d,i=>by
  simp[qV]at d;cases g:qV j with
  |none=>grind
  |some k=>simp[g]at d;subst d;exact⟨i.1,MU g i.2⟩
 |_::_,.Q _::_,a,d,_=>by simp[qV]at d
 |_::_,.any::_,a,d,_=>by simp[qV]at d
def JY{bg}{i}(d:pq bg=h i)(e:b5 p b B bg):bx p b (if d:c B=1 then B[0]else .tuple B.toArray) i:=by
 unfold pq at d;split at d
 .rename_i C;cases d
  match B,e with
  |[q],e=>simpa using e.1
 rename_i o;cases g:qV bg with
 |none=>grind
 |some k=>
  simp[g]at d;subst d;have m:c B≠1:=by
   intro j;rw[(b5.get e).1]at j
   match bg,j with
   |[r],_=>grind
  rw[dif_neg m];exact⟨B,a,MU g e⟩
def oV(P:aI)(fn:Func)(o:bH)(q:z):Prop:=∀{p:Nat}{j:m an}{d:a5}{i:Act},bY p j d o i->∃k,bx j d k q/\∀g,(∀a b e,d.u a b=h e->g.cell? ⟨a,b,n⟩=h e)->(results fn i.tmps).run P g=.ok k g/\∀r∈(results fn i.tmps).events P g #[],∃a b e,r=⟨.cell ⟨a,b,n⟩,l,l⟩/\d.u a b=h e
def LQ{a}(m:bY D p b F a){fn}{bg}{g}(q:oH F fn.results.toList=h bg)(j:pq bg=h g):
  ∃i,(∀d,(results fn a.tmps).run P d=.ok i d)/\bx p b i g/\dB P (results fn a.tmps):=by
 obtain⟨B,s,k,o⟩:=LH P m q;refine⟨_,λd=>?_,JY j k,?_⟩
 .have e:(fn.results.mapM (ib a)).run P d=Result.ok B.toArray d:=Q9;unfold results;rw[cH];refine(eK (λr=>Result.andThen r _) (Eq.trans ?_ e)).trans ?_
  .congr 2
  simp
 unfold results;have e:dB P (fn.results.mapM (ib a)):=by rw[w7];exact .map o
 exact .bind e λ_=>.pure
theorem oV.of{fn}{bg}{e}(m:oH F fn.results.toList=h bg)(d:pq bg=h e):oV P fn F e:=by intro p q t r k;obtain⟨o,a,b,j⟩:=LQ (P:=P) k m d;exact⟨o,b,λg _=>⟨a g,λs i=>by rw[j g #[]]at i;grind⟩⟩
section
def bb.ec(a:bb p b):bb (p.map λ_=>.x) b:=by
 refine⟨a.mem,by simp[a.len],λg i L aE e=>?_,a.a3,a.lt,a.own⟩;simp only[m']at aE;cases d:p[g]? with
 |none=>grind
 |some j=>rw[d]at aE;cases aE;trivial
structure p1(nB:m Nat)(b az:a5):Prop where
 l:az.l=b.l
 u:az.u=b.u
 own:az.own=b.own
 size:b.a.heap.size<=az.a.heap.size
 a6:∀j,(b.own j∨∃(d:Nat) (L:Loc),b.l[d]?=h L/\d∉nB/\j∈L.al)->az.a.heap[j]?=b.a.heap[j]?
 mem:∀j t aa,b.u j t=h aa->az.a.cell? ⟨j,t,n⟩=h aa
 os:az.a.os=b.a.os
 tape:az.a.tape=b.a.tape
 output:az.a.output=b.a.output
def cU.j_(a:cU b az)(nB):p1 nB b az:=
 ⟨a.l,a.u,a.own,a.size,λi e=>a.a6 i (e.imp id λ⟨j,L,d,_,g⟩=>⟨L,b9 d,g⟩),a.mem,a.os,a.tape,a.output⟩
theorem p1.Y{nB}{o b3}(a:p1 [d] b o)(e:p1 nB o b3):p1 (d::nB) b b3:=by refine⟨e.l.trans a.l,e.u.trans a.u,e.own.trans a.own,fG a.size e.size,λg k=>?_,λg r s p=>e.mem g r s (by rw[a.u];exact p),e.os.trans a.os,e.tape.trans a.tape,e.output.trans a.output⟩;rw[e.a6 g,a.a6 g (k.imp id λ⟨m,L,i,j,q⟩=>⟨m,L,i,λt=>j M,q⟩)];rw[a.own,a.l];grind
def ab1{d}{b}(e:d.heap[b]?=h (.deferred (h []))):
  (Instr.takeDeferred b).run P d=.ok [] {d with heap:=d.heap.setIfInBounds b (.deferred n)}/\(Instr.takeDeferred b).events P d #[]=#[⟨.obj b,l,l⟩,⟨.obj b,f,l⟩]:=by
 have g:(getObj b).run P d=.ok (.deferred (h [])) d:=by simp[getObj,Sem.run,e]
 have i:(setObj b (.deferred n)).run P d=.ok () {d with heap:=d.heap.setIfInBounds b (.deferred n)}:=by simp[setObj,Sem.run,e]
 have k:∀a,(getObj b).events P d a=a.push ⟨.obj b,l,l⟩:=λa=>by simp only[getObj,Sem.events,Sem.runT,e];rfl
 have j:∀a,(setObj b (.deferred n)).events P d a=a.push ⟨.obj b,f,l⟩:=λa=>by simp[setObj,Sem.events,Sem.runT,e];rfl
 constructor
 .simp[Instr.takeDeferred,g,i]
 simp[Instr.takeDeferred,g,k,j]
variable {r:aj P}{eP:Bool}
def acf{a}{b}{bg}{d}(g:a.mode=.returning)(e:a.defers={target:=.collected b,args:=#[]}::bg)(j:d.heap[b]?=h (.deferred (h []))):
  aq P eP (G a ah) d=.go (G {a with defers:=bg} ah) {d with heap:=d.heap.setIfInBounds b (.deferred n)} (seen P a.fn #[⟨.obj b,l,l⟩,⟨.obj b,f,l⟩]):=by obtain⟨k,i⟩:=ab1 (P:=P) j;simp[G,aq,unwind,g,e,k,i,GStep.after]
def ri(d:a5):m Deferred->m Nat->Prop
 |[],[]=>True
 |i::e,g::a=>(∃b:Nat,d.l[g]?=h ⟨.int .i64 b,[b]⟩/\d.a.heap[b]?=h (.deferred (h []))/\(∀j,d.u b j=n)/\i={target:=.collected b,args:=#[]})/\g∉a/\ri d e a
 |_,_=>False
def i1.gE{p}{b}(g:bb p b):∀{a:m Deferred}{d:m Nat},i1 p b a d->ri b a d
 |[],[],_=>trivial
 |[],_::_,i=>i.elim
 |_::_,[],i=>i.elim
 |x::a,w::d,⟨⟨k,L,i,e,v,t⟩,u,o⟩=>by obtain⟨j,k1,q,r⟩:=g.box w _ L k e;subst k1;simp at v;have s:j=i:=y;subst s;exact⟨⟨j,e,q,r,t⟩,u,i1.gE g o⟩
def ri.mono{b az}{j}(i:p1 [j] b az):∀{d:m Deferred}{a:m Nat},j∉a->ri b d a->ri az d a
 |[],[],_,_=>trivial
 |[],_::_,_,e=>e.elim
 |_::_,[],_,e=>e.elim
 |t::d,s::a,o,⟨⟨e,g,k,u,q⟩,r,p⟩=>by simp[fo,not_or]at o;refine⟨⟨e,by rw[i.l];exact g,by rw[i.a6 e (.inr ⟨s,_,g,by grind,by simp⟩)];exact k,λv=>by rw[i.u];grind,q⟩,r,ri.mono i o.2 p⟩
def AS:∀p(g:aK)(t:a5)j,bb j t->(∀C∈j,C=.x)->g.mode=.returning->ri t g.defers p ->
  (∀s,p1 p t s->cb r bq (G {g with defers:=[]} ah) s)->cb r bq (G g ah) t
 |[],g,t,j,J,W,Q,x,U=>by
  have A:g.defers=[]:=by
   cases A:g.defers with
   |nil=>rfl
   |cons an D=>rw[A]at x;exact x.elim
  have:=U t ((cU.refl J).j_ _);have aq:{g with defers:=[]}=g:=by cases g;simp_all
  grind
 |V::p,g,t,j,J,W,Q,x,U=>by
  cases A:g.defers with
  |nil=>rw[A]at x;exact x.elim
  |cons an D=>
   rw[A]at x;obtain⟨⟨m,K,H,aN,ai⟩,aj,ak⟩:=x;subst ai;refine .next a λk z=>?_;have i:=r.bN z;have v:=J.rely i;have N:k.l[V]?=h ⟨.int .i64 m,[m]⟩:=by rw[i.l];exact K
   have O:k.a.heap[m]?=h (.deferred (h [])):=by rw[i.a6 m (.inr ⟨_,b9 K,by simp⟩)];exact H
   have ao:∀q,k.u m q=n:=λq=>by rw[i.u];grind
   let d:a5:={k with a:={k.a with heap:=k.a.heap.setIfInBounds m (.deferred n)}}
   have F:∀b,b≠m->d.a.heap[b]?=k.a.heap[b]?:=λb e=>by grind
   have aa:∀b q B,k.u b q=h B->d.a.cell? ⟨b,q,n⟩=h B:=by intro b q B R;have ab:b≠m:=M;rw[<-v.mem b q B R];simp[aL];grind
   have ad:bb j d:=by
    refine⟨aa,v.len,λw C L aE o=>?_,v.a3,λL o b e=>?_,λb e=>⟨?_,(v.own b e).2⟩⟩
    .rw[W C (b9 aE)];trivial
    .have:=v.lt L o b e;grind
    have:=(v.own b e).1;grind
   have ae:∃L∈k.l,m∈L.al:=⟨_,b9 N,by simp⟩
   have Y:cN j k j d:=by refine⟨by grind,λb _ e=>F b ?_,λ_ _ _ S=>S,λ_ _ _ _=>rfl,λL o b e=>.inr ⟨L,o,e⟩,λ_ C L S ag=>⟨C,L,S,ag,.refl _ _⟩,rfl,rfl,rfl,rfl⟩;grind
   have I:p1 [V] t d:=by
    refine⟨i.l,i.u,i.own,fG i.size M,λb e=>?_,λb q B R=>aa b q B (by rw[i.u];exact R),i.os,i.tape,i.output⟩;have ab:b≠m:=by
     rintro rfl;rcases e with e|⟨w,u,Z,X,y⟩
     .exact(J.own b e).2 _ (b9 K) E
     exact X (by simp;exact J.a3 w V u _ Z K b y E)
    rw[F b ab];exact i.a6 b (e.imp id λ⟨w,u,Z,_,y⟩=>⟨u,b9 Z,y⟩)
   refine⟨_,d,_,acf Q A O,⟨⟨j,j,v,ad,Y⟩,dt.seen (.fj ?_ ?_)⟩,?_⟩
   .exact⟨a,.inr ae⟩
   .exact⟨a,.inr ae⟩
   refine AS p {g with defers:=D} d j ad W Q (ak.mono I aj) λs T=>?_;exact U s (I.Y T)
end
def bt(e:Nat)(b d:Nat->m N):Prop:=∀a,a<e->b a=d a
def eZ.cA{i}{dI:Nat->m N}(d:eZ bB i k T B)(g:bt k T dI):eZ bB i k dI B:=
 ⟨d.len,λb a=>by rw[<-g b a];exact d.bG b a,λb a o j e=>d.rd b a o j (by rw[g b a];exact e)⟩
def C8:N->N->Option (m Prop)
 |.int k e,.int b a=>match tc k b with|true=>h [e=a]|false=>n
 |.bool s,.bool i=>h [s=i]
 |.V t,.V o=>h [t=o]
 |.S r k e j,.S g b a d=>match af k b with
  |true=>match r,g with
   |false,f=>n
   |_,_=>h [e=a,bt e j d]
  |false=>match r,g with
   |true,_=>h [e=0,a=0]
   |_,_=>n
 |.val p,.val q=>h [p=q]
 |p,q=>h [p=q]
def J6{o X}(a:C8 o X=h ab)(g:U ab)(e:Rd bB aa o):Rd bB aa X:=by
 unfold C8 at a;split at a
 .rename_i i k j d;cases b:tc i j<;>simp[b]at a
  subst a;cases C2 b;cases(show k=d from g);exact e
 .cases a;rename_i m p;cases(show m=p from g);exact e
 .cases a;rename_i m p;cases(show m=p from g);exact e
 .rename_i q i k T r j d dI;cases b:af i j with
  |true=>
   simp[b]at a;have u:=di b;subst u;cases q<;>cases r<;>simp at a
   all_goals (subst a;obtain⟨rfl,t⟩:=(show k=d/\bt k T dI from g);first|exact e.cA t|exact e.eg.cA t)
  |false=>
   simp[b]at a;cases q<;>simp at a
   subst a;obtain⟨rfl,rfl⟩:=(show k=0/\d=0 from g)
   obtain⟨v,s,B,rfl,_,_,w,_⟩:=e.b1;grind[Rd.dH]
 .cases a;rename_i o X;cases(show o=X from g);exact e
 cases a;cases g;exact e
def vm:O->O->Option (m Prop)
 |.c s,.c t=>C8 s t
 |.r _ k j d,.c (.S l e i b)=>match af k e with|true=>h [j=i,bt j d b]|false=>n
 |.r g k j d,.r a e i b=>match af g a with
  |true=>match af k e with|true=>h [j=i,bt j d b]|false=>n
  |false=>n
 |.ptr g q,.ptr a o=>match af g a with|true=>(match af q o with|true=>h []|false=>n)|false=>n
 |.aR g,.aR a=>match af g a with|true=>h []|false=>n
 |.R g r,.R a p=>match af g a with|true=>h [r=p]|false=>n
 |_,.any=>h []
 |_,_=>n
def J4{o X}(e:vm o X=h ab)(s:U ab)(q:cx p b aa o):cx p b aa X:=by
 unfold vm at e;split at e
 .exact J6 e s q
 .rename_i i k T g m dI;cases a:af i g<;>simp[a]at e
  subst e;have v:=di a;subst v;obtain⟨rfl,t⟩:=(show k=m/\bt k T dI from s)
  exact q.1.cA t
 .rename_i d i k T j g m dI;cases r:af d j<;>simp[r]at e
  cases a:af i g<;>simp[a]at e
  subst e;have v:=di a;have u:=di r;subst v u;obtain⟨rfl,t⟩:=(show k=m/\bt k T dI from s)
  exact⟨q.1.cA t,q.2.1,q.2.2⟩
 .grind [Nat.eq_of_beq_eq_true]
 .grind [Nat.eq_of_beq_eq_true]
 .rename_i d w j bi;cases r:af d j<;>simp[r]at e
  have u:=di r;subst u;subst e;cases(show w=bi from s);exact q
 .exact cx.cell q
 grind
def gB:m Prop->m Prop->m Prop
 |[],a=>a
 |b::d,a=>b::gB d a
@[simp] theorem U.Y{a b}:U (gB a b)↔U a/\U b:=by
 induction a with
 |nil=>simp[gB]
 |cons g e d=>simp[gB,U.cons,d,and_assoc]
def qF:m O->m O->Option (m Prop)
 |[],[]=>h []
 |d::a,e::b=>match vm d e with
  |some g=>match qF a b with
   |some i=>h (gB g i)
   |none=>n
  |none=>n
 |_,_=>n
def C9{p}{b}:∀{B:m Z}{e g:m O}{d:m Prop},qF e g=h d->U d->bN p b B e->bN p b B g
 |[],[],[],_,_,_,_=>trivial
 |_::_,[],_,_,_,_,a=>a.elim
 |[],_::_,_,_,_,_,a=>a.elim
 |[],[],_::_,_,a,_,_=>by simp[qF]at a
 |_::_,_::_,[],_,a,_,_=>by simp[qF]at a
 |w::B,s::i,t::j,d,a,k,r=>by
  simp[qF]at a;cases o:vm s t with
  |none=>grind
  |some u=>
   cases q:qF i j with
   |none=>grind
   |some v=>
    simp[o,q]at a;subst a;rw[U.Y]at k;exact⟨J4 o k.1 r.1,C9 q k.2 r.2⟩
def vn:E1->E1->Option (m Prop)
 |.aq d,.aq e=>vm d e
 |.agg a,.agg b=>qF a b
 |_,_=>n
def J7{o X}(a:vn o X=h ab)(d:U ab)(e:et p b aa o):et p b aa X:=by
 cases o<;>cases X<;>simp[vn,reduceCtorEq]at a
 .exact J4 a d e
 obtain⟨B,g,i⟩:=e;exact⟨B,g,C9 a d i⟩
def rO:m E1->m E1->Option (m Prop)
 |[],[]=>h []
 |d::a,e::b=>match vn d e with
  |some g=>match rO a b with
   |some i=>h (gB g i)
   |none=>n
  |none=>n
 |_,_=>n
def J8{p}{b}:∀{B:m Z}{e g:m E1}{d:m Prop},rO e g=h d->U d->eS p b B e->eS p b B g
 |[],[],[],_,_,_,_=>trivial
 |_::_,[],_,_,_,_,a=>a.elim
 |[],_::_,_,_,_,_,a=>a.elim
 |[],[],_::_,_,a,_,_=>by simp[rO]at a
 |_::_,_::_,[],_,a,_,_=>by simp[rO]at a
 |w::B,s::i,t::j,d,a,k,r=>by
  simp[rO]at a;cases o:vn s t with
  |none=>grind
  |some u=>
   cases q:rO i j with
   |none=>grind
   |some v=>
    simp[o,q]at a;subst a;rw[U.Y]at k;exact⟨J7 o k.1 r.1,J8 q k.2 r.2⟩
def km:z->z->Option (m Prop)
 |.n d,.n e=>vn d e
 |.Q a,.Q b=>rO a b
 |_,.any=>h []
 |_,_=>n
theorem pr{o X}(a:km o X=h ab)(d:U ab)(e:bx p b aa o):bx p b aa X:=by
 cases o<;>cases X<;>simp[km,reduceCtorEq]at a
 .exact J7 a d e
 .trivial
 .obtain⟨B,j,s⟩:=e;exact⟨B,j,J8 a d s⟩
 .trivial
 trivial
def iS(a:bH):bH->Option (m Prop)
 |[]=>h []
 |(d,b)::i=>match km (look a d) b with
  |some e=>match iS a i with
   |some g=>h (gB e g)
   |none=>n
  |none=>n
def eD{F}:∀{b:bH}{a:m Prop},iS F b=h a->U a->iA F b
 |[],_,_,_=>λ_ _ _ _ _=>trivial
 |(i,p)::r,a,d,e=>by
  simp[iS]at d;cases q:km (look F i) p with
  |none=>grind
  |some v=>
   cases g:iS F r with
   |none=>grind
   |some w=>
    simp[q,g]at d;subst d;rw[U.Y]at e;intro k s t j o;simp[look];cases u:af i j with
    |true=>
     grind[Nat.eq_of_beq_eq_true,pr]
    |false=>exact eD g e.2 k s t j o
def l4(a:m an):Bool:=match ep a with|true=>jQ a|false=>l
def Lc(a:l4 p=f):ep p=f/\jQ p=f:=by unfold l4 at a;grind
def i1.e6{p}{b}:∀{e:m Deferred}{d:m Nat},i1 p b e d->∀g∈d,p[g]?=h .bn
 |[],[],_,g,a=>by grind
 |[],_::_,j,_,_=>j.elim
 |_::_,[],j,_,_=>j.elim
 |q::e,o::d,⟨⟨i,_⟩,_,k⟩,g,a=>by
  rcases fo.1 a with rfl|a
  .exact i
  exact i1.e6 k g a
def bW(fn:Func)(q:Nat)(b:z)(d:m an):fs:=λo p i=>
 (o=.ret∨o=.normal)/\∃a e k g,oH p fn.results.toList=h e/\pq e=h k/\km k (e9 a b)=h g/\U g/\hM (c a) b=f /\
  dv a i=h d/\l4 d=f/\e8 a=f/\(∀j,j<q->a[j]?=h j)
def k2(P:aI)(fn:Func)(p:Nat)(b:z)(d:m an):fs:=λk o g=>
 (k=.ret∨k=.normal)/\∃a j e,oV P fn o j/\km j (e9 a b)=h e/\U e/\hM (c a) b=f /\
  dv a g=h d/\l4 d=f/\e8 a=f/\(∀i,i<p->a[i]?=h i)
def bW.toF{fn}{g}{res}{i}{aM}(p:bW fn g res ao i F aM):k2 P fn g res ao i F aM:=by obtain⟨j,d,o,m,e,a,b,k⟩:=p;exact⟨j,d,m,e,oV.of a b,k⟩
def bk.gv{ab:aj P}{S}{fn}{args}{r:ι->m an}(pm:P.funcs[S]?=h fn)(bh:(fn.name== "runtime.NumGoroutine")=l)(cT:fn.body=h s)(aM:args.length<=fn.ntmps)(U:∀b a_,bY fn.ntmps p b (h2 0 args) a_->bb p b->∀j bc t (I:ak->a5->Prop),j.kind≠.early->j.roundOf=n ->
  (∀ai C k az J,(∃z,k2 P fn (c p) (res z) (r z) ai C k)->bY fn.ntmps k az C J->bb k az->dc p b k az->kI ab I j bc t ai J az)->cb ab I (G (j.M a_ (.code s::bc)) t) b):bk ab S args p res r:=by
 refine⟨⟨fn,pm,bh,by grind⟩,λb B aO aI I t aF=>?_⟩;obtain⟨aL,aH⟩:=b5.get aO;let j:aK:={fn:=S,tmps:=#[],todo:=[],defers:=[],mode:=.run,kind:=.normal,roundOf:=n}
 have bt:Frame.enter P S B.toArray .normal=j.M {tmps:=B.toArray++Array.replicate (fn.ntmps-B.toArray.size) K,defers:=[]} [.code s]:=Nx;rw[bt];refine U b {tmps:=B.toArray++Array.replicate (fn.ntmps-B.toArray.size) K,defers:=[]} ⟨by grind,⟨[],v⟩,λq=>?_⟩ aI j [] t I (by simp[j]) rfl ?_
 .rw[yz];simp[gZ,dH,sy];have:=aH q;rcases dY q (c B) with ba|a'
  .exact N'
  rw[wV y];trivial
 rintro ai C k a0 Q ⟨Z,ae,aR,bu,bs,av,aw,ax,aA,aa,bl,aB,bo⟩ au Y a1;obtain⟨a,bm⟩:=Lc bl;have fin:∀g d,cU a0 d->g.fn=S->g.tmps=Q.tmps->g.defers=Q.defers->g.mode=.returning->g.kind=.normal->cb ab I (G g t) d:=by
  intro g d e ah ao aq R ar;have T:=au.rely e Y;have D:=Y.rely e;have u:=a1.trans e.aV;obtain⟨a2,aX,a8⟩:=av T;obtain⟨x,ad⟩:=vU (kL:=d.l) aa D.len;have aZ:=(pr aw ax aX).sub aa ad aA;obtain⟨bn,ag⟩:=l5 aa;obtain⟨d1,d2⟩:=l5 ad;have N:∀L∈x,L∈d.l:=D1 ad;have O:bb (r Z) {d with l:=x}:=by obtain⟨F,_⟩:=D.sub aa ad a aB;refine⟨F.mem,F.len,λz X L aE i=>?_,F.a3,F.lt,λj cT=>⟨(D.own j cT).1,λL i=>(D.own j cT).2 L (N L i)⟩⟩;exact er.plain (p:=r Z) (b:={d with l:=x,own:=oF d x}) (az:={d with l:=x}) rfl rfl (vL a X (b9 aE)) (F.box z X L aE i)
  have aN:dc p b (r Z) {d with l:=x}:=by refine⟨u.size,u.a6,u.mem,u.bE,λL i j cT=>u.bT _ (N L i) j cT,λbd X L aE i=>?_,u.os,u.tape,u.output,u.own⟩;have aL:bd<c p:=(cO.1 aE).1;obtain⟨bg,bj,bp,bq,br⟩:=u.box bd X L aE i;grind
  obtain⟨aS,a7⟩:=T.defers;refine AS aS g d _ D.ec E R (by rw[aq];exact a7.gE D) λH o=>?_;have aU:cU {d with l:=x} {H with l:=x}:=by refine⟨rfl,o.u,o.own,o.size,λj cT=>o.a6 j (cT.imp id ?_),o.mem,o.os,o.tape,o.output⟩;rintro⟨L,i,cT⟩;obtain⟨z,aJ,rfl⟩:=hG i;have a6:z<c aR:=M;obtain⟨bx,a9,a4⟩:=d2 z _ (bI a6);obtain⟨bw,a3,W⟩:=ag z _ (bI a6);rw[bI aJ]at a9;cases a9;refine⟨_,_,a4,λaG=>?_,cT⟩;rw[a7.e6 _ aG]at W;cases W;exact vw bm _ (b9 a3) rfl
  have aD:eW H {H with l:=x}:=⟨rfl,λ_ _ _ U=>U,λ_ _ _=>rfl,λj w a2 aP=>o.mem j w a2 (by rw[<-o.u];exact aP),λj cT=>cT.imp id λ⟨L,i,cT⟩=>⟨L,by rw[o.l];grind,cT⟩⟩
  refine .aU aD (aF Z _ a2 _ ⟨ah,R,rfl,ar,fn,by grind,λV aQ=>?_⟩ (aZ.mono aU.aV.ext O.len) (O.rely aU) (aN.trans aU.aV));show(results fn g.tmps).run P V=_/\∀ai∈(results fn g.tmps).events P V #[],_;rw[ao];have bf:∀j w A,d.u j w=h A->V.cell? ⟨j,w,n⟩=h A:=λj w A U=>aQ j w A (by show H.u j w=h A;rw[o.u];exact U);refine⟨(a8 V bf).1,λai ae=>?_⟩;obtain⟨j,w,A,aV,aW⟩:=(a8 V bf).2 ai ae;exact⟨j,w,A,aV,by show H.u j w=h A;rw[o.u];exact aW⟩
 rcases ae with rfl|rfl
 .intro pre;exact .ctl Y rfl (λ_=>D5 rfl) λd e=>fin _ d e rfl rfl (h1 _) rfl rfl
 exact .ctl Y rfl (λ_=>D3 rfl) λd e=>fin _ d e rfl rfl (h1 _) rfl rfl
def bk.hJ{w:aj P}{t}{fn}{args}{k:ι->m an}(F:P.funcs[t]?=h fn)(D:(fn.name== "runtime.NumGoroutine")=l)(A:fn.body=h s)(C:args.length<=fn.ntmps)(E:∀j q,bY fn.ntmps p j (h2 0 args) q->bb p j->∀i v g (o:ak->a5->Prop),i.kind≠.early->i.roundOf=n ->
  (∀r d a b e,(∃u,bW fn (c p) (res u) (k u) r d a)->bY fn.ntmps a b d e->bb a b->dc p j a b->kI w o i v g r e b)->cb w o (G (i.M q (.code s::v)) g) j):bk w t args p res k:=
 bk.gv F D A C λj q t B i v g o x y z=>E j q t B i v g o x y λr d a b e ⟨u,I⟩=>z r d a b e ⟨u,I.toF⟩
def bk.hf{r:aj P}{b}{fn}{args}{ao:ι->m an}(A:P.funcs[b]?=h fn)(w:(fn.name== "runtime.NumGoroutine")=l)(e:fn.body=h s)(u:args.length<=fn.ntmps)(x:b0 r fn.ntmps s (λv k a=>∃j,k2 P fn p.length (res j) (ao j) v k a) (h2 0 args) p):bk r b args p res ao:=
 bk.gv A w e u λB q b g t z d o i _ y=>x B q b g t z d o i y
def bk.intro{k:aj P}{d}{fn}{args}{a:ι->m an}(B:P.funcs[d]?=h fn)(x:(fn.name== "runtime.NumGoroutine")=l)(g:fn.body=h s)(u:args.length<=fn.ntmps)(y:b0 k fn.ntmps s (λv o b=>∃w,bW fn p.length (res w) (a w) v o b) (h2 0 args) p):bk k d args p res a:=
 bk.hJ B x g u λC r d i t A e q j _ z=>y C r d i t A e q j z
def Y.intro{P}{b:aj P}{d}{fn}{s}{args}{p ao}{res}(i:P.funcs[d]?=h fn)(g:(fn.name== "runtime.NumGoroutine")=l)(a:fn.body=h s)(e:args.length<=fn.ntmps)(j:b0 b fn.ntmps s (bW fn p.length res ao) (h2 0 args) p):Y b d args p res ao:=
 (bk.intro i g a e (b0.mono j λ_ _ _ k=>⟨(),k⟩)).toY
inductive ij where
 |code (s:Code)
 |blk (id:Nat)
 |ae (all bs:List ap)
def g{P}(j:aj P)(i:Nat)(a:fs):m ij->fs
 |[],o,b,d=>a o b d
 |.code r::e,.normal,b,d=>b0 j i r (g j i a e) b d
 |.code _::e,o,b,d=>g j i a e o b d
 |.blk id::e,.exit k,b,d=>if k=id then g j i a e .normal b d else g j i a e (.exit k) b d
 |.blk _::e,o,b,d=>g j i a e o b d
 |.ae q p::e,.normal,b,d=>e' j i q p (g j i a e .normal) b d
 |.ae _ _::e,o,b,d=>g j i a e o b d
section
variable {r:aj P}{be:fs}{ar:m ij}
def g.aW(a:g r D be [.code s] .normal F p):b0 r D s be F p:=a
theorem g.skip(a:g r D be ar .normal F p):g r D be (.code .skip::ar) .normal F p:=b0.skip a
theorem g.seq{o X}(e:g r D be (.code o::.code X::ar) .normal F p):g r D be (.code (.seq o X)::ar) .normal F p:=by refine b0.seq (b0.mono e ?_);intro d a b i;cases d<;>exact i
theorem g.block{id}{s}(e:g r D be (.code s::.blk id::ar) .normal F p):g r D be (.code (.block id s)::ar) .normal F p:=by refine b0.block (b0.mono e ?_);intro d a b i;cases d<;>exact i
theorem g.iv{id}(a:g r D be ar .normal F p):g r D be (.blk id::ar) .normal F p:=a
theorem g.region{id}{aD}(a:g r D be (.ae aD.toList aD.toList::ar) .normal F p):g r D be (.code (.region id aD l)::ar) .normal F p:=b0.region a
theorem g.hL(a:g r D be ar .normal F p):g r D be (.ae all []::ar) .normal F p:=e'.nil a
def g.dK:∀{ar:m ij},be .ret F p->g r D be ar .ret F p
 |[],a=>a
 |.code _::ar,a=>g.dK (ar:=ar) a
 |.blk _::ar,a=>g.dK (ar:=ar) a
 |.ae _ _::ar,a=>g.dK (ar:=ar) a
def g.ret(a:be .ret F p):g r D be (.code .ret::ar) .normal F p:=b0.ret (g.dK a)
def iO(id:Nat):m ij->Option (m ij)
 |[]=>n
 |.blk b::a=>match af id b with|true=>h a|false=>iO id a
 |_::a=>iO id a
def g.toExit{id}:∀{ar e:m ij},iO id ar=h e->g r D be e .normal F p->g r D be ar (.exit id) F p
 |[],_,a,_=>by cases a
 |.blk j::ar,e,a,d=>by
  simp[iO]at a;cases b:af id j with
  |true=>
   simp[b]at a;subst a;have i:=di b;simp[g,i,dH];exact d
  |false=>
   simp[b]at a;have k:id≠j:=λi=>by grind[Nat.beq_refl]
   simp[g,k,dh];exact g.toExit a d
 |.code _::ar,e,a,d=>g.toExit (ar:=ar) a d
 |.ae _ _::ar,e,a,d=>g.toExit (ar:=ar) a d
theorem g.exit{id}{b}(a:iO id ar=h b)(d:g r D be b .normal F p):g r D be (.code (.exit id)::ar) .normal F p:=b0.exit (g.toExit a d)
theorem g.cond{s}{o X}{j}{q}(b:s=.tmp q)(a:look F q=ax (.bool j))(e:j=f->g r D be (.code o::ar) .normal F p)(d:j=l->g r D be (.code X::ar) .normal F p):g r D be (.code (.cond s o X)::ar) .normal F p:=b0.cond b a e d
def g.loop{bq:Type}{s}(k:bq->Prop)(a:bq->bH)(b:bq->m an)(q:bq->Nat)(o)(w:k o)(u:iA F (a o))(t:b o=p)(round:∀o,k o->g r D (λj d e=>match j with
   |.normal=>∃i,k i/\q i<q o/\iA d (a i)/\e=b i
   |j=>g r D be ar j d e) [.code s] .normal (a o) (b o)):g r D be (.code (.loop s)::ar) .normal F p:=by refine b0.loop k a b q o w u t λi v=>b0.mono (round i v) ?_;intro j d e x;cases j<;>exact x
end
def eV{a d:Type}:m a->(m a->Option d)->Option d
 |[],b=>b []
 |i::g,b=>eV g λe=>b (i::e)
theorem hu{b:Type}(d)(a:m α->Option b):eV d a=a d:=by
 induction d generalizing a with
 |nil=>rfl
 |cons i g e=>simp[eV,e]
def yo(d:bH)(a:m ap)(g:Nat):Option (Option Bool):=
 match c7 g a with
 |some b=>match b.dst with
  |some e=>match look d e with
   |.n (.aq (.c (.bool f)))=>h (h f)
   |.n (.aq (.c (.bool l)))=>h (h l)
   |.Q []=>h n
   |_=>n
  |none=>n
 |none=>n
def yp{e}(u:yo F all w=h e){x}(g:bY D p b F x):yielded all.toArray x.tmps w=e:=by
 unfold yo at u;rw[lh]at u;unfold yielded;cases a:all[w]? with
 |none=>grind
 |some d=>
  simp[a]at u;simp[j7,a,n4];cases k:d.dst with
  |none=>grind
  |some I=>
   simp[k]at u;simp[n4];have s:=g.aH I;have key:∀aa,x.tmps.getD I K=aa->aa≠K->x.tmps[I]?=h aa:=by intro aa ai q;simp[hp]at ai;grind
   split at u
   .exact OH
   .exact OH
   .rename_i C;cases u;rw[C]at s;obtain⟨B,o,m⟩:=s;have i:B=[]:=by cases B with
     |nil=>rfl
     |cons _ _=>exact m.elim
    subst i;simp[hp]at o;grind
   grind
def yM(p:m (Nat×bv))(e:bH)(d:m an)(I:ap):Option (z×m an×m Prop):=
 match I.op with
 |.move o|.assign o=>h (bF e o,d,[])
 |.pick v u y=>match bF e v with
  |.n (.aq (.c (.bool f)))=>h (bF e u,d,[])
  |.n (.aq (.c (.bool l)))=>h (bF e y,d,[])
  |_=>n
 |.binOp r _ o E _=>match bF e o,bF e E with
  |.n (.aq (.c u)),.n (.aq (.c y))=>match xh r u y with
   |some (v,x)=>h (ax v,d,x)
   |none=>n
  |_,_=>n
 |.unOp r _ o=>match bF e o with
  |.n (.aq (.c u))=>match zt r u with
   |some v=>h (ax v,d,[])
   |none=>n
  |_=>n
 |.extract o C=>match bF e o with
  |.Q D=>match c7 C D with
   |some q=>h (.n q,d,[])
   |none=>n
  |_=>n
 |.alloc s=>match bZ p s with
  |some j=>eV (d++[.cells s (j.zero.map O.c)]) λg=>h (aG (c d) 0,g,[])
  |none=>n
 |.box s o=>match mo (bF e o)with
  |some a=>eV (d++[.cells s a]) λg=>h (aG (c d) 0,g,[])
  |none=>n
 |.load i o=>match bZ p i with
  |some j=>match bF e o with
   |.n (.aq (.ptr k b))=>match c7 k d with
    |some (.cells _ a)=>match hc j (fR b a)with
     |some q=>h (.n q,d,[])
     |none=>n
    |_=>n
   |.n (.aq (.c (.O a)))=>match hc j (a.map O.c)with
    |some q=>h (.n q,d,[])
    |none=>n
   |_=>n
  |none=>n
 |.store i o E=>match bZ p i with
  |some j=>match bF e o with
   |.n (.aq (.ptr k b))=>match c7 k d with
    |some (.cells s a)=>match mo (bF e E)with
     |some new=>match af (c new) j.size with
      |true=>match iU b new a with
       |some w=>eV (c_.cn k (.cells s w) d) λg=>h (.any,g,[])
       |none=>n
      |false=>n
     |none=>n
    |_=>n
   |_=>n
  |none=>n
 |.fieldAddr i o B=>match lf p i B with
  |some (t,_)=>match bF e o with
   |.n (.aq (.ptr k b))=>h (aG k (b+t),d,[])
   |.n (.aq (.c (.O a)))=>h (ax (.O (fR t a)),d,[])
   |_=>n
  |none=>n
 |.field i o B=>match lf p i B with
  |some (t,C)=>match bF e o with
   |.n (.agg a)=>match hc C (fR t a)with
    |some q=>h (.n q,d,[])
    |none=>n
   |_=>n
  |none=>n
 |.nilCheck o=>match bF e o with
  |.n (.aq (.ptr k b))=>h (aG k b,d,[])
  |.n (.aq (.c (.O a)))=>h (ax (.O a),d,[])
  |_=>n
 |.build i parts=>match xl p (bF e) i parts.toList with
  |some a=>h (.n (.agg a),d,[])
  |none=>n
 |.buildSlice i F parts=>match rP p (bF e) i F parts.toList with
  |some (t,A)=>h (ax (.S f t F λj=>A.getD j []),d,[])
  |none=>n
 |_=>n
theorem Du{ad}(aR:bn P ad){o}(a:yM ad F p t=h (o,ao,cf))(m:U cf):a0 P t (bF F) p o ao:=by
 unfold yM at a;split at a
 .grind [a0.move]
 .grind [a0.assign]
 .rename_i s r j b;split at a
  .rename_i k;cases a;exact a0.pick b k
  .rename_i k;cases a;exact a0.pick b k
  grind
 .grind [a0.binOp]
 .grind [a0.unOp]
 .grind [a0.extract,ej]
 .grind [hu,a0.alloc]
 .grind [hu,a0.box]
 .rename_i q X b;split at a
  .grind [a0.ho,ej,a0.hp]
  grind
 .rename_i q X v b;split at a
  .rename_i e bp;split at a
   .rename_i d off g;split at a
    .grind [hu,mP,a0.store,ej,Nat.eq_of_beq_eq_true]
    grind
   grind
  grind
 .rename_i q X u b;split at a
  .rename_i i w C;split at a
   .rename_i d off g;cases a;exact a0.g7 aR b g C
   .grind [a0.g8]
   grind
  grind
 .grind [a0.field]
 .grind [a0.hB,a0.hD]
 .grind [a0.build]
 .grind [a0.buildSlice]
 grind
def fd(a:Nat):Option Nat->Bool
 |some b=>ay (b+1) a
 |none=>f
def la{b}(e:fd D b=f):∀a,b=h a->a<D:=by intro a d;subst d;exact fc e
theorem iY(b:t.guard=n){a:Act}:aU t (yielded all.toArray a.tmps)=f:=by simp[aU,b]
section
variable {ad:m (Nat×bv)}
def kG(a:aB->z):Option aB->Option (Option Int)
 |none=>h n
 |some d=>match a d with
  |.n (.aq (.c (.int _ b)))=>h (h b)
  |_=>n
def kb{a:aB->Z}(m:∀d,bx p b (a d) (η d)){o}{j}(e:kG η o=h j):(o.map a=n/\j=n)∨∃i g,o.map a=h (.int i g)/\j=h g:=by
 cases o with
 |none=>cases e;grind
 |some d=>
  right;simp[kG]at e;split at e
  .rename_i i g k;cases e;have:=m d;rw[k]at this;have:=b7 this;generalize q:a d=r at this;cases this;grind
  grind
def bT(a:Nat):Option Int->Nat
 |none=>a
 |some b=>b.toNat
def jf(d:Nat):Option Int->Option Int->m Prop
 |none,n=>[]
 |some b,n=>[0<=b,b<=d]
 |none,h a=>[0<=a,a<=d]
 |some b,h a=>[0<=b,b<=a,a<=d]
def vR{kl}{cap}(u:k<=cap){eY bp}{d a}(p:(eY=n/\d=n)∨∃m i,eY=h (.int m i)/\d=h i)(q:(bp=n/\a=n)∨∃m i,bp=h (.int m i)/\a=h i)(b:U (jf k d a))(e):(aX kl k cap eY bp n).run P e=.ok (bT 0 d,bT k a,cap) e/\bT 0 d<=bT k a/\bT k a<=k:=by
 rcases p with⟨rfl,rfl⟩|⟨o,d,rfl,rfl⟩<;>rcases q with⟨rfl,rfl⟩|⟨s,a,rfl,rfl⟩
 .exact⟨by simp[aX,bT],by simp[bT],by simp[bT]⟩
 .obtain⟨g,j⟩:0<=a/\a<=(k:Int):=b;refine⟨?_,by simp[bT],by simp[bT];omega⟩;simp[aX,bT,run_sliceBound (P:=P) e s a cap _ g y]
 .obtain⟨g,j⟩:0<=d/\d<=(k:Int):=b;refine⟨?_,by simp[bT];omega,by simp[bT]⟩;simp[aX,bT,run_sliceBound (P:=P) e o d k _ g j]
 obtain⟨g,j,t⟩:0<=d/\d<=a/\a<=(k:Int):=b;have r:=rk y;refine⟨?_,by simp[bT];omega,by simp[bT];omega⟩;simp[aX,bT,run_sliceBound (P:=P) e s a cap _ y y,run_sliceBound (P:=P) e o d a.toNat _ g y]
def lc(g)(i)(e)(a:Nat)(code)(b:0<=e)(d:e<=(a:Int))(T):(Instr.sliceBound (.int i e) a code).events P g T=T:=by simp[Instr.sliceBound,asIntOf,b,d]
def u3{kl}{cap}{eY bp}{d a}(x:k<=cap)(r:(eY=n/\d=n)∨∃m i,eY=h (.int m i)/\d=h i)(t:(bp=n/\a=n)∨∃m i,bp=h (.int m i)/\a=h i)(e:U (jf k d a))(b)(T):(aX kl k cap eY bp n).events P b T=T:=by
 have v:∀kl (p:Option Z) (q:Nat) b T,p=n->(aX kl k cap n n n).events P b T=T:=λkl p q b T _=>by simp[aX]
 rcases r with⟨rfl,rfl⟩|⟨o,d,rfl,rfl⟩<;>rcases t with⟨rfl,rfl⟩|⟨j,a,rfl,rfl⟩
 .simp[aX]
 .obtain⟨g,s⟩:0<=a/\a<=(k:Int):=e;simp[aX,lc (P:=P) b j a cap _ g y]
 .obtain⟨g,s⟩:0<=d/\d<=(k:Int):=e;simp[aX,lc (P:=P) b o d k _ g s]
 obtain⟨g,s,w⟩:0<=d/\d<=a/\a<=(k:Int):=e;have u:=rk y;simp[aX,run_sliceBound (P:=P) b j a cap _ y y,lc (P:=P) b j a cap _ y y,lc (P:=P) b o d a.toNat _ g y]
def mr(a:m UInt8):Option Int->Option Int->m UInt8
 |none,n=>a
 |some d,n=>a.drop d.toNat
 |none,h b=>a.take b.toNat
 |some d,h b=>(a.take b.toNat).drop d.toNat
theorem a0.jX(aR:bn P ad){eY bp}(A:t.op=.slice q o eY bp n){e}(F:bZ ad q=h e)(J:e.desc=.string){b}{d m}(K:η o=ax (.V b))(r:kG η eY=h d)(C:kG η bp=h m)(E:U (jf (c b) d m)):a0 P t η p (ax (.V (mr b d m))) p:=by
 refine .aZ λj v D i=>?_;have g:=i o;rw[K]at g;replace g:=b7 g;generalize w:v o=N at g;cases g with
 |@V a _ B O=>
 have z:a.size=c b:=by rw[<-B];exact m9.symm
 obtain⟨u,x,y⟩:=vR (P:=P) (kl:=l) (k:=a.size) (cap:=a.size) (bC _) (kb i r) (kb i C) M j.a;have s:=(aR q e F).run_underlying (Q:=j.a);rw[J]at s;have I:=u3 (P:=P) (kl:=l) (k:=a.size) (cap:=a.size) (bC _) (kb i r) (kb i C) M j.a;refine⟨.string (a.extract (bT 0 d) (bT a.size m)),?_,Rd.V ?_ ?_,by simp[ac,A,w,Instr.sliceAt,s,Instr.slice,I]⟩
 .simp[ac,A,w,Instr.sliceAt,s,Instr.slice,u]
 .rw[Lib.extract_data,B,z];rw[z]at x y;cases d<;>cases m<;>simp only[mr,bT]at x y⊢
  .simp
  .simp
  .grind [List.take_of_length_le]
  rw[List.drop_take]
 cases d<;>cases m<;>simp[mr,su,List.length_take]<;>omega
def fx(d:Nat)(a:Nat->m N):Nat->m N:=λb=>a (d+b)
def xL(eR:Bool):Option Int->Bool
 |none=>eR
 |some _=>l
theorem a0.jW(aR:bn P ad){eY a}(S:t.op=.slice q o eY a n){e a4}(ah:bZ ad q=h e)(ai:e.desc=.slice W)(aj:bZ ad W=h a4){eR}{d s}(Z:∀X Y,bx p X Y (η o)->Rd X.u Y (.S eR a4.size k T))(v:kG η eY=h d)(V:kG η a=h s)(x:U (jf k d s)):
  a0 P t η p (ax (.S (xL eR s) a4.size (bT k s-bT 0 d) (fx (bT 0 d) T))) p:=by
 refine .aZ λg ak ae b=>?_;have m:=Z g _ (b o);obtain⟨M,j,B,K,R,O,N,G,ag⟩:=m.b1;rw[K]at m;obtain⟨u,an,z⟩:=vR (P:=P) (kl:=f) R (kb b v) (kb b V) x g.a;have F:=(aR q e ah).run_underlying (Q:=g.a);rw[ai]at F;refine⟨.slice (if j=bT 0 d then M else M.map (·.add (bT 0 d*a4.size))) (bT k s-bT 0 d) (j-bT 0 d),?_,?_,by simp[ac,S,K,Instr.sliceAt,F,Instr.slice,u,u3 (P:=P) (kl:=f) R (kb b v) (kb b V) x g.a]⟩
 .simp[ac,S,K,Instr.sliceAt,F,Instr.slice,u,(aR W a4 aj).bb]
 cases m with
 |S aa D ab _ _ _ J I w A=>
  refine Rd.S aa (D+bT 0 d*a4.size) (λe C=>ab (bT 0 d+e) C) y y ?_ (λe a=>J _ y) (λao=>?_) (λe a C E r=>?_) (λe a C E r=>A _ y C E r)
  .intro i;cases s with
   |none=>simp[xL]at i;have:=N i;simp[bT];omega
   |some s=>cases i
  .rw[bm y,I y];simp[gN]
  have:=w (bT 0 d+e) y C E r;grind
def a0.iD(aR:bn P ad){j dst}(v:t.op=.convert j dst o){e cc}{i b}{w}(m:bZ ad j=h e)(x:bZ ad dst=h cc)(z:cc.desc=.int b)(A:η o=ax (.int i w))(d:a7 b w):
  a0 P t η p (ax (.int b w)) p:=by refine .aZ λg r y q=>?_;have a:=q o;rw[A]at a;replace a:=b7 a;generalize s:r o=B at a;cases a;have u:=(aR j e m).run_underlying (Q:=g.a);have k:=(aR dst cc x).run_underlying (Q:=g.a);rw[z]at k;exact⟨.int b w,by simp[ac,v,s,convert,u,k,Conv.intToInt,r' d],Rd.int d,by simp[ac,v,s,convert,u,k,Conv.intToInt]⟩
theorem a0.iE(aR:bn P ad){g dst}(u:t.op=.convert g dst o){e cc}{b}(j:bZ ad g=h e)(w:bZ ad dst=h cc)(x:cc.desc=.string)(y:η o=ax (.V b)):
  a0 P t η p (ax (.V b)) p:=by refine .aZ λd m v k=>?_;have a:=k o;rw[y]at a;have s:=b7 a;generalize q:m o=z at s;cases s;have r:=(aR g e j).run_underlying (Q:=d.a);have i:=(aR dst cc w).run_underlying (Q:=d.a);rw[x]at i;exact⟨_,by simp[ac,u,q,convert,r,i];rfl,by grind,by simp[ac,u,q,convert,r,i]⟩
def uO(a:Nat->m N):Nat->Nat->Option (m UInt8)
 |_,0=>h []
 |b,d+1=>match a b with
  |[.int .u8 g]=>match uO a (b+1) d with
   |some e=>h (UInt8.ofNat g.toNat::e)
   |none=>n
  |_=>n
def GI{bB}{t:Nat->m N}:∀{i e:Nat}{j:m UInt8}{B:m Z},uO t e i=h j->c B=i->(∀g,g<i->∀k,(t (e+g))[0]?=h k->∃p,B[g]?=h p/\Rd bB p k) ->
  ∃b:m Int,B=b.map (Value.int .u8)/\j=b.map (λo=>UInt8.ofNat o.toNat)
 |0,e,j,B,d,q,_=>by cases d;exact⟨[],by grind,a⟩
 |i+1,e,j,[],d,q,_=>by grind
 |i+1,e,j,p::B,d,q,r=>by
  simp[uO]at d;split at d
  .rename_i o C;split at d
   .rename_i D u;cases d;obtain⟨E,s,v⟩:=r 0 y (.int .u8 o) M
    simp at s;subst s;cases v;obtain⟨b,z,x⟩:=GI (B:=B) u M (λg w k A=>by
     have:=r (g+1) y k M
     simpa using this)
    exact⟨o::b,by grind,by grind⟩
   grind
  grind
def LP{P}(e){g:Z->ByteArray->Sem (ForInStep ByteArray)}(i:∀d b,g (.int .u8 d) b=pure (.yield (b.push (UInt8.ofNat d.toNat)))):∀(a:m Int)b,
  (forIn (m:=Sem) (a.map (Value.int .u8)) b g).run P e=.ok ⟨b.data++(a.map λd=>UInt8.ofNat d.toNat).toArray⟩ e
 |[],b=>by simp
 |d::a,b=>by simp only[mi,List.forIn_cons,i,cH,d8,c1];rw[LP e i a];congr 2;apply Array.ext';simp[ByteArray.push]
end
def aV(q:aj P)(w:Nat)(a:m ap)(t:ap)(v:bH)(j:m an)(x:z)(e:m an):Prop:=
  ∀i k,bY w j i v k->bb j i->∀(o:aK) s g (p:ak->a5->Prop) r b,o.kind≠.early->a.toArray[r]?=h t ->
    (∀u d,bx e d u x->bb e d->dc j i e d->cb q p (G (o.M (k.put t.dst u) (.inRegion a.toArray b::s)) g) d)->cb q p (G (o.M k (.inRegion a.toArray (r::b)::s)) g) i
section
variable {r:aj P}{dE:bH}{o:z}
theorem aV.a1(N:∀p C e,bY D p C F e->aU t (yielded all.toArray e.tmps)=f)(J:a0 P t (bF F) p o ao):aV r D all t F p o ao:=by
  intro C e y j R T I Q S x u w i;refine rq u w (N _ _ _ y) λq k=>?_;have m:=j.rely k;obtain⟨O,b,g,d,s,A,M⟩:=J q e.eval m (eL (y.rely k j));have z:=k.aV.trans (A.too1 m);have B:kz q b ((ac e.eval t).events P q.a #[]):=⟨⟨p,ao,m,s,A⟩,M⟩;cases O with
  |value E=>exact⟨_,b,E,g,.inl rfl,B,i E b d s z⟩
  |skip=>simp[Ai]at d;subst d;exact⟨_,b,K,g,.inr ⟨a,a⟩,B,i K b v s z⟩
  |_=>exact d.elim
def aV.hM(o:∀p k d,bY D p k F d->aU t (yielded all.toArray d.tmps)=l):aV r D all t F p (.Q []) p:=by intro k d s b x z m w y i u g e;exact .ctl b a (λ_=>acb g (o _ _ _ s)) λq j=>e K q ⟨[],a,v⟩ (b.rely j) j.aV
def e'.dg{aN:bH->m an->Prop}(N:aV r D all t F p o ao)(K:∀s,t.dst=h s->s<D)(Q:e' r D all bs aN (fT t.dst o F) ao):e' r D all (t::bs) aN F p:=by
  intro S E v b C j e B idx g a x;cases idx with
  |nil=>exact a.elim
  |cons O idx=>
  refine N S E v b C j e B O idx g a.1 λT z y i d=>Q z _ ?_ i C j e B idx g a.2 λI q A u R J w k=>x I q A u R J w (d.trans k);cases M:t.dst with
  |none=>exact v.mono d b.len
  |some s=>exact(v.mono d b.len).put (K s M) y
end
abbrev bL:=m z->m an->Option (z×m an×m Prop)
def ti:m (Nat×bL)->Nat->Option bL
  |[],_=>n
  | (d,b)::e,a=>cond (af d a) (h b) (ti e a)
def bM(g:aj P)(i:a3)(j:bL):Prop:=∀args e b d a,j args e=h (b,d,a)->U a->Y g i args e b d
def a8(e:aj P)(a:m (Nat×bL)):Prop:=∀b d,ti a b=h d->bM e b d
def a8.nil{a:aj P}:a8 a []:=λ_ _ b=>by cases b
def a8.cons{b:aj P}{d}{C}{CT}(k:bM b d C)(j:a8 b CT):a8 b ((d,C)::CT):=by
  intro g i a;simp[ti]at a;cases e:af d g with
  |true=>grind[Nat.eq_of_beq_eq_true]
  |false=>rw[e]at a;exact j g i a
def n6:O->m Nat->m Nat
  |.ptr b _,a=>cond (ed b a) a (a++[b])
  |.r b _ _ _,a=>cond (ed b a) a (a++[b])
  |.aR b,a=>cond (ed b a) a (a++[b])
  |.R b _,a=>cond (ed b a) a (a++[b])
  |_,a=>a
def GG:m O->m Nat->m Nat
  |[],a=>a
  |b::d,a=>GG d (n6 b a)
def qf:z->m Nat->m Nat
  |.n (.aq d),a=>n6 d a
  |.n (.agg b),a=>GG b a
  |_,a=>a
def GF:m z->m Nat->m Nat
  |[],a=>a
  |b::d,a=>GF d (qf b a)
def tb(b:Nat):m Nat->Nat->Option Nat
  |[],_=>n
  |d::e,a=>match af d b with|true=>h a|false=>tb b e (a+1)
def JS{d}:∀{b:m Nat} {e g:Nat},tb d b e=h g->e<=g/\b[g-e]?=h d
  |[],_,_,a=>by cases a
  |j::p,e,g,a=>by
    simp[tb]at a;cases i:af j d with
    |true=>simp_all
    |false=>
      rw[i]at a;obtain⟨k,o⟩:=JS a;grind
def tS(a:m Nat):O->Option O
  |.ptr d e=>match tb d a 0 with|some b=>h (.ptr b e)|none=>n
  |.aR d=>match tb d a 0 with|some b=>h (.aR b)|none=>n
  |.R d g=>match tb d a 0 with|some b=>h (.R b g)|none=>n
  |.r _ _ _ _=>n
  |.c i=>h (.c i)
  |.any=>h .any
def zu(a:m Nat):m O->Option (m O)
  |[]=>h []
  |b::g=>match tS a b with
    |some d=>match zu a g with
      |some e=>h (d::e)
      |none=>n
    |none=>n
def ED(a:m Nat):z->Option z
  |.n (.aq e)=>match tS a e with|some b=>h (.n (.aq b))|none=>n
  |.n (.agg d)=>match zu a d with|some b=>h (.n (.agg b))|none=>n
  |.Q _=>n
  |.any=>h .any
def tT(a:m Nat):m z->Option (m z)
  |[]=>h []
  |b::g=>match ED a b with
    |some d=>match tT a g with
      |some e=>h (d::e)
      |none=>n
    |none=>n
def M0{b j}(a:tS aP b=h j):kr aP j=b/\lY (c aP) j=f:=by
  cases b with
  |ptr d m=>
    simp[tS]at a;split at a
    · rename_i e bp
      cases a;exact Fl
    grind
  |aR d=>
    simp[tS]at a;split at a
    · rename_i e bp
      cases a;exact Fl
    grind
  |R d o=>
    simp[tS]at a;split at a
    · rename_i e bp
      cases a;exact Fl
    grind
  |r d i k g=>cases a
  |c p=>cases a;exact cQ
  |any=>cases a;exact cQ
def M3{aP}:∀{d b:m O},zu aP d=h b->qP aP b=d/\lj (c aP) b=f
  |[],b,a=>by cases a;exact cQ
  |d::q,b,a=>by
    simp[zu]at a;split at a
    · rename_i r o
      split at a
      · rename_i p e
        cases a;obtain⟨j,g⟩:=M0 o;obtain⟨k,i⟩:=M3 e;exact⟨by simp[qP,j,k],by simp[lj,g,i]⟩
      grind
    grind
def aeq{b j}(a:ED aP b=h j):e9 aP j=b/\hM (c aP) j=f:=by
  unfold ED at a;split at a
  · rename_i b
    split at a
    · rename_i k e;cases a;obtain⟨d,i⟩:=M0 e;exact⟨by simp[e9,pA,d],by exact cQ⟩
    grind
  · rename_i g
    split at a
    · rename_i k e;cases a;obtain⟨d,i⟩:=M3 e;exact⟨by simp[e9,pA,d],by exact cQ⟩
    grind
  · cases a
  · cases a;exact cQ
def M2{aP}:∀{d b:m z},tT aP d=h b->gq aP b=d/\g6 (c aP) b=f
  |[],b,a=>by cases a;exact cQ
  |d::q,b,a=>by
    simp[tT]at a;split at a
    · rename_i r o
      split at a
      · rename_i p e
        cases a;obtain⟨j,g⟩:=aeq o;obtain⟨k,i⟩:=M2 e;exact⟨by simp[gq,j,k],by simp[g6,g,i]⟩
      grind
    grind
def Bz(k:m (Nat×bL))(r:bH)(o:m an)(p:aB)(q:m aB):Option (z×m an×m Prop):=
  match gO (bF r p)with
  |none=>n
  |some (s,g)=>match ti k s with
    |none=>n
    |some t=>
      let args:=k7 (q.map (bF r)++e2 g);let a:=GF args []
      match tT a args with
      |none=>n
      |some d=>match dv a o with
        |none=>n
        |some e=>match t d e with
          |none=>n
          |some (j,b,i)=>match ep e,ep b,e8 a,ay (c a) (c b) with
            |true,f,f,f=>h (e9 (a++gK (c o) (c b-c a)) j,c_ a b o,i)
            |_,_,_,_=>n
theorem aV.gU{J:aj P}{CT}(q:a8 J CT)(H:∀p g b,bY D p g F b->aU t (yielded all.toArray b.tmps)=f)(e:t.op=.call {callee:=.value cP,args:=ag,argTypes:=dp}){j}(i:gO (bF F cP)=h (j,cap)){C}(aw:ti CT j=h C){aM}{res}(N:tT aP (k7 (ag.toList.map (bF F)++e2 cap))=h cR)(X:dv aP p=h dd)(aq:C cR dd=h (res,aM,cf))(Z:ep dd=f)(av:ep aM=f)(y:e8 aP=f)(Y:c aP<=c aM)(ao:U cf):aV J D all t F p (e9 (aP++gK (c p) (c aM-c aP)) res) (c_ aP aM p):=by
  obtain⟨ak,W⟩:=M2 N;intro g b A u az ai ab ax aA E s v r;have S:=q j C aw _ _ _ _ _ aq ao;have T:=eL A cP;unfold gO at i;split at i
  case h_2=>cases i
  case h_1 u6 uS he=>
    cases i;rw[he]at T;have Q:=b7 T;generalize G:b.eval cP=ae at Q;cases Q with
    |fn m a x d ad k ah o ar B=>
      have O:m=[]:=jA x;subst O;have an:b5 p g a (e2 cap):=qi (λz aa w=>⟨k z,o z M,B z aa w⟩) d;have au:b5 p g (ag.toList.map b.eval++a) (gq aP cR):=by rw[ak];exact uR ((m6 (eL A) ag.toList).append an)
      obtain⟨fn,V,R,K⟩:=S.1;exact Gi s v (H _ _ _ A) u (λI=>(mO e V R K G I).1) (λI=>(mO e V R K G I).2) S au W X Z av y Y r
theorem aV.call{b:aj P}{CT}(g:a8 b CT){o}(r:∀p k d,bY D p k F d->aU t (yielded all.toArray d.tmps)=f)(j:t.op=.call {callee:=.value cP,args:=ag,argTypes:=dp})(a:Bz CT F p cP ag.toList=h (o,ao,cf))(m:U cf):aV b D all t F p o ao:=by
  unfold Bz at a;split at a
  · cases a
  rename_i s e i;split at a
  · cases a
  rename_i u q;simp only at a;split at a
  · cases a
  grind[aV.gU,Nat.le_of_ble_eq_true]
def LG{g}(e:hM 0 g=f):e9 [] g=g:=by
  have k:∀{a:O},lY 0 a=f->kr [] a=a:=by intro a d;cases a<;>simp[lY]at d<;>first|rfl|simp_all
  have q:∀{b:m O},lj 0 b=f->qP [] b=b:=by
    intro b;induction b with
    |nil=>exact cQ
    |cons a r i=>
      intro e;simp[lj]at e;cases d:lY 0 a with
      |false=>grind
      |true=>simp[d]at e;simp[qP,k d,i e]
  have j:∀{a:E1},pp 0 a=f->pA [] a=a:=by
    intro a d;cases a with
    |aq a=>simp[pA,k d]
    |agg p=>simp[pA,q d]
  have o:∀{b:m E1},ou 0 b=f->tA [] b=b:=by
    intro b;induction b with
    |nil=>exact cQ
    |cons a r i=>
      intro e;simp[ou]at e;cases d:pp 0 a with
      |false=>grind
      |true=>simp[d]at e;simp[tA,j d,i e]
  cases g with
  |n t=>simp[e9,j e]
  |Q s=>simp[e9,o e]
  |any=>rfl
def BA(g:m (Nat×bL))(k:bH)(i:aB)(j:m aB):Option (z×m Prop):=
  match gO (bF k i)with
  |none=>n
  |some (o,d)=>match ti g o with
    |none=>n
    |some p=>match tT [] (k7 (j.map (bF k)++e2 d))with
      |none=>n
      |some a=>match p a []with
        |some (b,[],e)=>match hM 0 b with
          |true=>h (b,e)
          |false=>n
        |_=>n
theorem aV.iA{P:aI}{q:aj P}{D}{all}{F}{p}{t}{CT}(i:a8 q CT){cP}{ag}{dp}{o}{cf}(y:∀p z r,bY D p z F r->aU t (yielded all.toArray r.tmps)=f)(k:t.op=.call {callee:=.value cP,args:=ag,argTypes:=dp})(b:AM.BA CT F cP ag.toList=h (o,cf))(v:U cf):aV q D all t F p o p:=by
  unfold AM.BA at b;split at b
  · cases b
  rename_i A s j;split at b
  · cases b
  rename_i B w;split at b
  · cases b
  rename_i g e;split at b
  case h_2=>cases b
  rename_i u m d;split at b
  case h_2=>cases b
  rename_i x;cases b;have:=aV.gU (p:=p) i y k j w e a d a a a (bC _) v;simpa[gK,LG x,c_]using this
structure ma(D:Nat)(p:m an)(b:a5)(FX:Nat->z)(x:Act):Prop where
 size:x.tmps.size=D
 defers:∃nB,i1 p b x.defers nB
 aH:∀q,bx p b (x.tmps.getD q K) (FX q)
def ma.fi{e:Nat->z}{g}(d:ma D p b e g)(j:∀a p b i,bx p b i (e a)->bx p b i (look F a)):bY D p b F g:=
 ⟨d.size,d.defers,λa=>j a _ _ _ (d.aH a)⟩
def eN(a:Edge):Bool:=Region.binds .any a
structure re{P:aI}(r:aj P)(D:Nat)(aD:Array ap)(F:bH)(bq:Nat->m an)(o:Nat->z)(R:Nat->bH)(qw s:Nat->Bool)(A:Nat->Nat->Prop)(idx:Nat->Option Nat)(dE:bH):Prop where
 ki:P.follows Departure.mixedOrders=f
 cO:∀e t,aD[e]?=h t->∀ai∈t.after,eN ai=f->ai.on<e
 e4:∀e t I,aD[e]?=h t->t.dst=h I->idx I=h e/\I<D
 dP:∀I e,idx I=h e->∃t,aD[e]?=h t/\t.dst=h I
 aZ:∀e,s e=l->bq (e+1)=bq e
 aq:∀e t,aD[e]?=h t->qw e=l->aV r D aD.toList t (R e) (bq e) (o e) (bq (e+1))
 all:∀e t,aD[e]?=h t->qw e=f->s e=l/\∀i,aV r D aD.toList t (R e) (bq i) (o e) (bq i)
 fv:∀L:Nat->Prop,(∀e t,aD[e]?=h t->L e->∀ai∈t.after,eN ai=f->L ai.on)->∀e w,A e w->(L e->L w)/\∃t,aD[e]?=h t/\((∀ai∈t.after,eN ai=f->L ai.on)->L w)
 comp:∀e ae,e<aD.size->ae<aD.size->s ae=f->e≠ae->qw e=l->(ae<e/\A e ae)∨(e<ae/\A ae e)
 e2:∀e t,aD[e]?=h t->∀q p b aa,bx p b aa (match idx q with|some w=>(if ∃ai∈t.after,eN ai=f/\ai.on=w then o w else if ∃vy,aD[w]?=h vy/\∃ai∈vy.after,eN ai=f/\ai.on=e then look F q else .any)|none=>look F q)->bx p b aa (look (R e) q)
 fin:∀q p b aa,bx p b aa (match idx q with|some w=>o w|none=>look F q)->bx p b aa (look dE q)
open Classical in
noncomputable def gx(b:bH)(e:Nat->z)(idx:Nat->Option Nat)(L:Array Bool)(a:Nat):z:=
 match idx a with
 |some d=>if L.getD d l=f then e d else look b a
 |none=>look b a
theorem ps:e∈aS .any aD L↔∃i,aD[e]?=h i/\L.getD e f=l/\∀a∈i.after,eN a=f->L.getD a.on l=f:=by
 unfold aS;simp[kD,sx,cE,j8];constructor
 .rintro⟨b,C,j⟩;rw[iD b]at j;simp only[lF,iq,Array.all_eq_true',jB,j8]at j;refine⟨aD[e],iD b,C,λa d g=>?_⟩;rcases j a d with m|m
  .unfold eN at g;grind
  grind
 rintro⟨i,b,C,j⟩;have k:e<aD.size:=(jb.1 b).1;refine⟨k,C,?_⟩;rw[b];simp only[lF,iq,Array.all_eq_true',jB,j8];intro a d;cases g:Region.binds .any a with
 |false=>grind
 |true=>exact .inr (j a d g)
section
variable {r:aj P}{dE:bH}{bq:Nat->m an}{o:Nat->z}{R:Nat->bH}{qw s:Nat->Bool}{A:Nat->Nat->Prop}{idx:Nat->Option Nat}
def re.chain(k:re r D aD F bq o R qw s A idx dE){e}:∀{i:Nat},e<=i->(∀b,e<=b->b<i->s b=l)->bq i=bq e
 |0,g,_=>by grind
 |i+1,g,j=>by
  rcases dY i e with a|a
  .grind
  rw[k.aZ i (j i a y),k.chain (i:=i) a (λb d m=>j b d y)]
def re.last(k:re r D aD F bq o R qw s A idx dE)(E:∀t,t<aD.size->L.getD t l=f){i}{e}{p}(m:i<=aD.size)(K:∀j,j<aD.size->s j=f->(L.getD j l=f↔j<i))(q:ma D (bq i) b (gx F o idx L) p)(a:bb (bq i) b)(g:dc (bq 0) e (bq i) b):
  bY D (bq aD.size) b dE p/\bb (bq aD.size) b/\dc (bq 0) e (bq aD.size) b:=by
 have x:bq aD.size=bq i:=k.chain m (λI y z=>by grind);rw[<-x]at q a g;refine⟨q.fi λv w b C u=>k.fin v w b C ?_,a,g⟩;unfold gx at u;cases d:idx v with
 |none=>grind
 |some J=>
  simp only[d]at u⊢;obtain⟨M,B,_⟩:=k.dP _ _ d;grind
theorem mz(a:e<L.size):(L.setIfInBounds e f).getD w l=f↔w=e∨L.getD w l=f:=Fy
theorem xK:∀{d:m Bool}{e:Nat},d[e]?=h l->c ((d.set e f).filter (λa=>!a))+1=c (d.filter (λa=>!a))
 |[],_,b=>by grind
 |a::g,0,b=>by grind
 |a::g,e+1,b=>by simp at b;have:=xK (d:=g) b;cases a<;>simp[List.set_cons_succ]<;>omega
theorem Db(q)(L):Region.linearise.go .any aD 0 q L []=[]:=by simp[Region.linearise.go]
theorem vq(k q)(L):Region.linearise.go .any aD (k+1) q L []=match(aS .any aD L)[q % c (aS .any aD L)]? with
  |some a=>a::Region.linearise.go .any aD k (q / c (aS .any aD L)) (L.setIfInBounds a f) []
  |none=>[]:=by
 simp only[Region.linearise.go]
 change (match(aS .any aD L)[q % c (aS .any aD L)]? with
   |some a=>Region.linearise.go .any aD k (q / c (aS .any aD L)) (L.setIfInBounds a f) [a]
   |none=>[].reverse)=_
 grind[linearise_go_acc]
def re.eQ(u:re r D aD F bq o R qw s A idx dE){ab:ak->a5->Prop}{t:aK}{z}(I:t.kind≠.early){cF}(aL:∀b d,bY D (bq aD.size) b dE d->bb (bq aD.size) b->dc (bq 0) cF (bq aD.size) b->cb r ab (G (t.M d z) ah) b):
  ∀K L,L.size=aD.size->c (L.toList.filter (λt=>!t))<=K ->
   (∀e B,aD[e]?=h B->L.getD e l=f->∀p∈B.after,eN p=f->L.getD p.on l=f) ->
   ∀k b d,k<=aD.size->(∀g,g<aD.size->s g=f->(L.getD g l=f↔g<k))->ma D (bq k) b (gx F o idx L) d->bb (bq k) b->dc (bq 0) cF (bq k) b ->
   ∀m,cb r ab (G (t.M d (.inRegion aD (Region.linearise.go .any aD K m L [])::z)) ah) b:=by
 have fin:∀b d,bY D (bq aD.size) b dE d->bb (bq aD.size) b->dc (bq 0) cF (bq aD.size) b->cb r ab (G (t.M d (.inRegion aD []::z)) ah) b:=
  λb d jy ja wR=>.ctl ja a (λ_=>vV) λaW aG=>aL aW d (jy.rely aG ja) (ja.rely aG) (wR.trans aG.aV)
 intro K;induction K with
 |zero=>
  intro L aT aO J k b d bU CS oq bP b8;have O:∀e,e<aD.size->L.getD e l=f:=by
   intro e v;have av:L[e]'y∈L.toList:=E;cases I:L[e]'y with
   |true=>simp[hp,iD (by omega:e<L.size),I]
   |false=>
    have:L[e]'y∈L.toList.filter (λt=>!t):=kD.2 ⟨av,by grind⟩;grind
  intro m;rw[Db];exact N3
 |succ K aU=>
  intro L aT aO J k b d bU CS oq bP b8;intro m;rw[vq];cases a':(aS .any aD L)[m % c (aS .any aD L)]? with
  |none=>
   have aR:aS .any aD L=[]:=by
    cases aR:aS .any aD L with
    |nil=>rfl
    |cons bd ba=>
     grind[Nat.mod_lt]
   have O:∀e,e<aD.size->L.getD e l=f:=by
    intro e;induction e using Nat.strongRecOn with
    |_ e a7=>
     intro v;cases I:L.getD e l with
     |true=>rfl
     |false=>
      have av:e∈aS .any aD L:=ps.2 ⟨aD[e],iD v,by
       grind,λp X ae=>by
       have:=u.cO e _ (iD v) p X ae
       grind⟩
      grind
   exact N3
  |some e=>
   have v:=b9 a';obtain⟨B,w,a4,aP⟩:=ps.1 v;have aF:e<aD.size:=(jb.1 w).1;have H:¬L.getD e l=f:=M;have T:=u.fv (λV=>L.getD V l=f) J;have aB:∀j,A j e->¬L.getD j l=f:=λj an aJ=>H ((T j e an).1 aJ);have a6:∀j,A e j->L.getD j l=f:=λj an=>by grind
   have N:(L.setIfInBounds e f).size=aD.size:=M;have a8:c ((L.setIfInBounds e f).toList.filter (λt=>!t))<=K:=by have i:L.toList[e]?=h l:=Q0;grind[xK]
   have a_:∀V aA,aD[V]?=h aA->(L.setIfInBounds e f).getD V l=f->∀p∈aA.after,eN p=f->(L.setIfInBounds e f).getD p.on l=f:=wD
   have aj:bY D (bq k) b (R e) d:=oq.fi λm a9 b Z Y=>u.e2 e B w m a9 b Z (by
    unfold gx at Y;cases bc:idx m with
    |none=>grind
    |some V=>
     simp only[bc]at Y⊢;split
     .grind
     .split
      .grind
      .trivial)
   have aN:∀C q Z,dc (bq k) b C q->bx C q Z (o e)->ma D C q (gx F o idx (L.setIfInBounds e f)) (d.put B.dst Z):=by
    intro C q Z W Y;cases aM:B.dst with
    |none=>
     refine⟨oq.size,oq.defers.imp λ_ i=>i.mono W.ext,λm=>?_⟩;have Q:=(oq.aH m).mono W.ext bP.len;simp only[Act.put];unfold gx at Q⊢;cases bc:idx m with
     |none=>grind
     |some V=>
      exact Ox
    |some aI=>
     obtain⟨ar,a3⟩:=u.e4 e B aI w aM;refine⟨by simp[Act.put,oq.size],oq.defers.imp λ_ i=>i.mono W.ext,λm=>?_⟩;simp only[Act.put];by_cases p:aI=m
     .subst p;have ax:aI<d.tmps.size:=by rw[oq.size];omega
      simp only[hp,uB ax,iq];unfold gx;simp only[ar];rw[br ((mz y).2 (.inl a))];exact Y
     have Q:=(oq.aH m).mono W.ext bP.len;simp only[hp]at Q⊢;rw[sG p];unfold gx at Q⊢;cases bc:idx m with
     |none=>grind
     |some V=>
      exact Ox
   have aX:∀x,x<=aD.size->aV r D aD.toList B (R e) (bq k) (o e) (bq x)->(∀g,g<aD.size->s g=f->((L.setIfInBounds e f).getD g l=f↔g<x)) ->
     cb r ab (G (t.M d (.inRegion aD (e::Region.linearise.go .any aD K (m / c (aS .any aD L)) (L.setIfInBounds e f) [])::z)) ah) b:=by intro x au aw U;have:=aw b d aj bP t z ah ab e (Region.linearise.go .any aD K (m / c (aS .any aD L)) (L.setIfInBounds e f) []) I M;simp only[w6]at this;exact this λZ q Y aq W=>aU _ N a8 a_ x q _ au U (aN _ _ _ W Y) aq (b8.trans W) _
   have same:s e=l->∀g,g<aD.size->s g=f->((L.setIfInBounds e f).getD g l=f↔g<k):=wD;cases az:qw e with
   |true=>
    obtain⟨aQ,S⟩:=u.all e B w az;exact aX k bU (S k) (same aQ)
   |false=>
    have aE:=u.aq e B w az;have a1:bq e=bq k:=by
     rcases Nat.le_total k e with aH|aH
     .refine u.chain aH λj i ad=>?_;cases X:s j with
      |false=>rfl
      |true=>
       exfalso;rcases u.comp e j aF y X y az with⟨_,aa⟩|⟨aa,_⟩
       .grind
       omega
     refine(u.chain aH λj i ad=>?_).symm;cases X:s j with
     |false=>rfl
     |true=>
      exfalso;have a2:=(CS j y X).2 ad;by_cases ao:j=e
      .grind
      rcases u.comp e j aF y X (λp=>ao p.symm) az with⟨aa,_⟩|⟨_,aa⟩
      .omega
      grind
    rw[a1]at aE;cases aZ:s e with
    |false=>
     rw[u.aZ e aZ,a1]at aE;exact aX k bU aE (same aZ)
    |true=>
     refine aX (e+1) y aE λg ag ai=>?_;rw[mz y];by_cases a0:g=e
     .grind
     simp only[a0,false_or];rcases u.comp e g aF ag ai (λp=>a0 p.symm) az with⟨i,aa⟩|⟨i,aa⟩
     .grind
     grind
end
def Aa(P:aI):m TypeDesc->m Field->Nat->Prop
 |[],[],_=>True
 |e::a,b::d,g=>b.name≠ "_"/\b.offset=g/\P.underlying b.type=h e/\(match e with|.int _|.string|.bool=>True|_=>False)/\Aa P a d (g+1)
 |_,_,_=>False
def u1(g:Nat)(b d:Array Z)(a:Field)(_:Option Bool×Unit):Sem (ForInStep (Option Bool×Unit)):=
 if a.name= "_" then pure (ForInStep.yield (n,()))
 else do
  let e<-part a.type b a.offset;let j<-part a.type d a.offset;let i<-aQ g a.type e j
  if i=l then pure (ForInStep.done (h l,()))else pure (ForInStep.yield (n,()))
def LO{P}(o)(v)(ag e):∀{i:m TypeDesc}{j:m Field}{g:Nat}{B x:m Z}{p:Bool},Aa P i j g->oe i B x=h p->(∀r d,B[r]?=h d->ag[g+r]?=h d)->(∀r d,x[r]?=h d->e[g+r]?=h d) ->
  (Op.eqFields (v+1) ag e j).run P o=.ok p o/\∀b,(forIn j (n,()) (u1 (v+1) ag e)).events P o b=b
 |[],[],g,[],[],p,_,k,_,_=>by cases k;simp[Op.eqFields]
 |[],[],g,_::_,_,p,_,k,_,_=>by cases k
 |[],[],g,[],_::_,p,_,k,_,_=>by cases k
 |[],_::_,g,_,_,p,I,_,_,_=>I.elim
 |_::_,[],g,_,_,p,I,_,_,_=>I.elim
 |A::i,q::j,g,[],_,p,_,k,_,_=>by cases k
 |A::i,q::j,g,_::_,[],p,_,k,_,_=>by cases k
 |A::i,q::j,g,d::B,s::K,p,⟨O,T,J,V,W⟩,k,N,Q=>by
  simp[oe]at k;cases w:rE A d s with
  |none=>grind
  |some C=>
   cases U:oe i B K with
   |none=>grind
   |some X=>
    simp[w,U]at k;subst k;obtain⟨H,aa⟩:=LO o v ag e W U (λr d G=>by have:=N (r+1) d M;grind) (λr d G=>by have:=Q (r+1) d M;grind);have E:ag[g]?=h d:=by simpa using N 0 d a
    have D:e[g]?=h s:=by simpa using Q 0 s a
    have R:(isAgg q.type).run P o=.ok l o:=by unfold isAgg underlying;cases A<;>simp at V<;>simp[J]
    have y:∀t u,t[g]?=h u->(part q.type t q.offset).run P o=.ok u o:=by intro t u F;unfold part;simp[R,T,F]
    have S:∀t u,t[g]?=h u->∀b,(part q.type t q.offset).events P o b=b:=by intro t u F b;unfold part;simp[R,T,F]
    have Y:∀b,(aQ (v+1) q.type d s).events P o b=b:=by
     intro b;unfold rE at w;split at w<;>first
      |(cases w;done)
      |(unfold aQ;simp[underlying,J];done)
      |(unfold aQ;simp[underlying,J];split<;>rfl)
    have z:(aQ (v+1) q.type d s).run P o=.ok C o:=by unfold rE at w;grind[run_equalIn_int,run_equalIn_string,run_equalIn_bool]
    refine⟨?_,λb=>?_⟩
    .rw[Op.eqFields.eq_2,br O];simp[cH,y ag d E,y e s D,z,c1];cases C
     .simp
     grind
    rw[List.forIn_cons];simp[u1,O,dh,aH,cH,y ag d E,y e s D,z,c1,aJ,S ag d E,S e s D,Y];cases C
    .simp
    simpa using aa b
def oi{h7}{bg}(i:P.underlying q=h (.struct h7.toArray))(k:P.stoodInHeld q=l)(t:P.eqGuardType P.depth q=l)(m:Aa P bg h7 0):
  P.eqGuardType P.depth q=l/\∀d B b e,oe bg B b=h e->(Op.equal q (.agg B.toArray) (.agg b.toArray)).run P d=.ok e d/\∀a,(Op.equal q (.agg B.toArray) (.agg b.toArray)).events P d a=a:=by
 refine⟨t,λd B b e r=>?_⟩;have w:P.fieldsOf q=h7.toArray:=by unfold Program.fieldsOf;rw[i]
 have key:=LO d 9998 B.toArray b.toArray m r (λs v o=>by grind) (λs v o=>by grind);refine⟨?_,λa=>?_⟩
 rotate_left
 .show (aQ (9999+1) q _ _).events P d a=a;have p:=key.2 a;unfold aQ;simp[underlying,i,k];show Result.evThen ((forIn h7 (n,()) (u1 9999 B.toArray b.toArray)).run P d) ((forIn h7 (n,()) (u1 (9998+1) B.toArray b.toArray)).events P d a) _=a;rw[p];cases(forIn h7 (n,()) (u1 9999 B.toArray b.toArray)).run P d with
  |ok j g=>obtain⟨u,_⟩:=j;cases u<;>rfl
  |halt x g=>rfl
 show(aQ (9999+1) q _ _).run P d=_;grind[run_equalIn_agg]
def qm:m TypeDesc->m O->m O->Option Bool
 |[],[],[]=>h f
 |.int _::b,.c (.int k e)::a,.c (.int j g)::d=>match tc k j with
  |true=>match qm b a d with
   |some i=>h ((e==g)&&i)
   |none=>n
  |false=>n
 |.string::b,.c (.V e)::a,.c (.V g)::d=>match qm b a d with
  |some i=>h ((e==g)&&i)
  |none=>n
 |.bool::b,.c (.bool e)::a,.c (.bool g)::d=>match qm b a d with
  |some i=>h ((e==g)&&i)
  |none=>n
 |_,_,_=>n
def B7:∀{j:m TypeDesc}{g k:m O}{z:Bool}{B a:m Z},qm j g k=h z->bN p b B g->bN p b a k->oe j B a=h z:=by
 intro j;induction j with
 |nil=>
  intro g k z B a o s r;cases g<;>cases k<;>simp only[qm,reduceCtorEq]at o
  cases B<;>cases a<;>first|exact s.elim|exact r.elim|exact cQ
 |cons J j t=>
  intro g k z B a o s r;unfold qm at o;split at o
  .grind
  .rename_i d w i u A I e dI heq;cases heq;split at o
   .rename_i bU;cases C2 bU;split at o
    .rename_i D C;cases o;cases B with
     |nil=>exact s.elim
     |cons x B=>cases a with
      |nil=>exact r.elim
      |cons y a=>
       obtain⟨q,v⟩:=s;obtain⟨w1,w2⟩:=r;cases(show Rd b.u x (.int i u)from q);cases(show Rd b.u y (.int i e)from w1);simp[oe,rE,t C v w2]
    grind
   grind
  .rename_i w u A e dI heq;cases heq;split at o
   .rename_i D C;cases o;cases B with
    |nil=>exact s.elim
    |cons x B=>cases a with
     |nil=>exact r.elim
     |cons y a=>
      obtain⟨q,v⟩:=s;obtain⟨w1,w2⟩:=r;cases(show Rd b.u x (.V u)from q)with
      |V E _=>
      cases(show Rd b.u y (.V e)from w1)with
      |V F _=>
      simp[oe,rE,t C v w2];grind[ByteArray.toList_eq]
   grind
  .rename_i w u A e dI heq;cases heq;split at o
   .rename_i D C;cases o;cases B with
    |nil=>exact s.elim
    |cons x B=>cases a with
     |nil=>exact r.elim
     |cons y a=>
      obtain⟨q,v⟩:=s;obtain⟨w1,w2⟩:=r;cases(show Rd b.u x (.bool u)from q);cases(show Rd b.u y (.bool e)from w1);simp[oe,rE,t C v w2]
   grind
  grind
section
variable {ad:m (Nat×bv)}
def h9:BinOp->Bool->Option Bool
 |.eql,a=>h a
 |.neq,a=>h (!a)
 |_,_=>n
def Gr{o X}{Q}{j s}(I:match o,X with|.agg _,.agg _=>True|.bool _,.bool _=>True|_,_=>False)(x:(Op.equal q o X).run P Q=.ok j Q)(u:h9 op j=h s):
  (binOp op q o X).run P Q=.ok (.bool s) Q:=by
 cases op<;>simp[h9,reduceCtorEq,eU]at u
 .exact P_
 exact P_
def Il{o X}{Q}{j s}(b:match o,X with|.agg _,.agg _=>True|.bool _,.bool _=>True|_,_=>False)(e:(Op.equal q o X).run P Q=.ok j Q)(a:∀T,(Op.equal q o X).events P Q T=T)(d:h9 op j=h s)(T):
  (binOp op q o X).events P Q T=T:=by cases op<;>simp[h9,reduceCtorEq,eU]at d<;>(cases o<;>cases X<;>simp only at b<;>simp[binOp,a])
def Un(op)(q)(o X)(ag a)(d)(b:P.eqGuardType P.depth q=l)(T):(eqGuard op q o X (.agg ag) (.agg a)).events P d T=T:=by cases op<;>simp[eqGuard,b]
theorem a0.j6(aR:bn P ad)(y:t.op=.binOp op q o X ty){e}(r:bZ ad q=h e)(F:e.eq≠[]){ah T}{j s}(J:η o=.n (.agg ah))(I:η X=.n (.agg T))(u:qm e.eq ah T=h j)(C:h9 op j=h s):a0 P t η p (ax (.bool s)) p:=by refine .aZ λa K E g=>?_;have b:=g o;have d:=g X;rw[J]at b;rw[I]at d;obtain⟨B,A,m⟩:=b;obtain⟨i,z,k⟩:=d;obtain⟨w,heq⟩:=(aR q e r).iK F;have x:=Gr (o:=.agg B.toArray) (X:=.agg i.toArray) v (heq a.a B i j (B7 u m k)).1 C;have D:=Il (o:=.agg B.toArray) (X:=.agg i.toArray) v (heq a.a B i j (B7 u m k)).1 (heq a.a B i j (B7 u m k)).2 C;refine⟨.bool s,?_,Rd.bool,by simp[ac,y,A,z,aH,run_eqGuard_agg a.a op q o X _ _ w,Un op q o X _ _ a.a w,aJ,cH,c1,x,D,Sem.events_pure]⟩;simp[ac,y,A,z,cH,run_eqGuard_agg a.a op q o X _ _ w,c1,x,d8]
theorem a0.iw(aR:bn P ad)(y:t.op=.binOp op q o X ty){e}(r:bZ ad q=h e)(E:e.desc=.bool){g j s}(I:η o=ax (.bool g))(F:η X=ax (.bool j))(A:h9 op (g==j)=h s):a0 P t η p (ax (.bool s)) p:=by
 refine .aZ λi m C k=>?_;have b:=k o;have d:=k X;rw[I]at b;rw[F]at d;replace b:=b7 b;replace d:=b7 d;generalize x:m o=J at b;generalize z:m X=K at d;cases b;cases d;have u:P.underlying q=h .bool:=by rw[(aR q e r).eO,E]
 have w:=Gr (P:=P) (Q:=i.a) (o:=.bool g) (X:=.bool j) v (run_equal_bool i.a q g j u) A;have D:∀a,(Op.equal q (.bool g) (.bool j)).events P i.a a=a:=λa=>by show(aQ (9999+1) q _ _).events P i.a a=a;unfold aQ;simp[underlying,u]
 have B:=Il (P:=P) (Q:=i.a) (o:=.bool g) (X:=.bool j) v (run_equal_bool i.a q g j u) D A;refine⟨.bool s,?_,Rd.bool,by simp[ac,y,x,z,aH,eqGuard_at_bool,Sem.events_pure,d8,aJ,cH,c1,w,B]⟩;simp[ac,y,x,z,cH,eqGuard_at_bool,d8,c1,w]
def a0.kh(s:t.op=.binOp .xor q o X ty){a j}(B:η o=ax (.int .i64 a))(A:η X=ax (.int .i64 j))(I:0<=a)(w:0<=j):
  a0 P t η p (ax (.int .i64 ((a.toNat ^^^ j.toNat:Nat):Int))) p:=by
 refine .aZ λu k x i=>?_;have b:=i o;have d:=i X;rw[B]at b;rw[A]at d;replace b:=b7 b;replace d:=b7 d;generalize m:k o=C at b;generalize r:k X=D at d;cases b with|int e=>
 cases d with|int g=>
 have F:a.toNat ^^^ j.toNat<2 ^ 63:=by apply Nat.xor_lt_two_pow<;>simp[a7]at e g<;>omega
 have y:a7 .i64 ((a.toNat ^^^ j.toNat:Nat):Int):=cQ;refine⟨.int .i64 ((a.toNat ^^^ j.toNat:Nat):Int),?_,.int y,?_⟩
 rotate_left
 .simp only[ac,s,m,r,aH,qn,x2,aJ,Go.binOp,dZ,hr,dh,Op.intBits,cH,c1,d8,Sem.events_pure]
 have v:((BitVec.ofInt 64 a) ^^^ (BitVec.ofInt 64 j)).toNat=a.toNat ^^^ j.toNat:=by rw[BitVec.toNat_xor,BitVec.toNat_ofInt,BitVec.toNat_ofInt];simp[a7]at e g;congr 1<;>omega
 have E:(BitVec.ofInt IntKind.i64.bits a ^^^ BitVec.ofInt IntKind.i64.bits j).toNat=a.toNat ^^^ j.toNat:=v;have z:(Go.binOp .xor q (.int .i64 a) (.int .i64 j)).run P u.a=.ok (.int .i64 ((a.toNat ^^^ j.toNat:Nat):Int)) u.a:=by simp only[Go.binOp,dZ,hr,dh,Op.intBits,d8];grind[r']
 simp only[ac,s,m,r,cH,qn,c1,z,d8]
def a0.iC(aR:bn P ad){d dst}(S:t.op=.convert d dst o){e cc a4}(F:bZ ad d=h e)(O:bZ ad dst=h cc)(Y:e.desc=.slice W)(ai:cc.desc=.string)(L:bZ ad W=h a4)(ak:a4.desc=.int .u8){eR}{u}(Z:∀g R,bx p g R (η o)->Rd g.u R (.S eR 1 k T))(E:uO T 0 k=h u):a0 P t η p (ax (.V u)) p:=by
 refine .du λg an r J=>?_;have i:=Z g _ (J o);obtain⟨B,H,j⟩:=oI (P:=P) r i;obtain⟨x,m,au,s,ao,ar,_⟩:=i.b1;have G:k<=9223372036854775807:=y;have aj:c B=k:=by rw[H.len];omega
 obtain⟨v,C,ab⟩:=GI (bB:=g.u) (B:=B) E aj (λag I aa av=>by
  obtain⟨R,aN,ah⟩:=H.rd ag I 0 aa M
  grind)
 have z:=(aR d e F).run_underlying (Q:=g.a);have D:=(aR dst cc O).run_underlying (Q:=g.a);have K:=(aR W a4 L).run_underlying (Q:=g.a);rw[Y]at z;rw[ai]at D;rw[ak]at K;have X:c u<=9223372036854775807:=M;have ae:∃w:ByteArray,(Conv.bytesToString (.slice x k m)).run P g.a=.ok (.string w) g.a/\w.data.toList=u:=by
  cases x with
  |none=>
   have aq:u=[]:=by
    have:B=[]:=by rw[s]at j;have b:=j.1;simp[Builtin.firstCells]at b;grind
    grind
   exact⟨ByteArray.empty,by simp[Conv.bytesToString],by exact bw⟩
  |some A=>
   rw[s]at j;have b:=j.1;simp[Builtin.firstCells,Nat.mul_one]at b;refine⟨⟨#[]++(v.map λo=>UInt8.ofNat o.toNat).toArray⟩,?_,by grind⟩;simp only[Conv.bytesToString,cH,b,c1,C];rw[List.forIn_toArray,LP (P:=P) g.a (λ_ _=>rfl) v ByteArray.empty];rfl
 obtain⟨w,V,N⟩:=ae;refine⟨.string w,?_,Rd.V N X,?_⟩
 rotate_left
 .intro aw q;simp only[ac,S,s,aH,convert,z,D,aJ,c1,K,V,cH,events_underlying,Sem.events_pure]at q;cases x with
  |none=>simp[Conv.bytesToString]at q
  |some A=>
   have U:=sZ (P:=P) r (i.cA (λ_ _=>rfl)) (Q:=g.a) a;rw[s]at j U;have b:=j.1;simp only[Builtin.firstCells,Nat.mul_one]at b U;unfold Conv.bytesToString at q;simp only at q;rw[aH,b,aJ,dB.bind (P:=P) ?_ λ_=>.pure]at q
   .grind [tz]
   rw[List.forIn_toArray];refine dB.hc (λo g=>?_) _ _;split
   .exact .pure
   exact .bind .stuck λ_=>.pure
 simp only[ac,S,s,cH,convert,z,D,c1,K,V,d8]
end
def rB(a:aB->z):m aB->Option (m N)
 |[]=>h []
 |g::e=>match a g with
  |.n (.aq (.c b))=>match rB a e with
   |some d=>h (b::d)
   |none=>n
  |_=>n
def BI{p}{b}{e:aB->Z}{j:aB->z}(q:∀t,bx p b (e t) (j t)):∀{d:m aB}{a:m N},rB j d=h a->c d=c a/\∀(i:Nat)k,a[i]?=h k->∃r,(d.map e)[i]?=h r/\Rd b.u r k
 |[],a,g=>by cases g;grind
 |s::B,a,g=>by
  simp[rB]at g;split at g
  .rename_i k v;split at g
   .rename_i A u;cases g;obtain⟨x,w⟩:=BI q u;refine⟨by grind,λi y o=>?_⟩;cases i with
    |zero=>
     simp at o;subst o;have:=q s;rw[v]at this;exact⟨e s,by simp,b7 this⟩
    |succ i=>grind
   grind
  grind
section
variable {ad:m (Nat×bv)}
theorem a0.makeFunc{fn}{b j}(m:t.op=.makeFunc fn b j){k i}(r:rB η b.toList=h k)(e:rB η j.toList=h i):a0 P t η p (ax (.fn fn k i)) p:=by
 refine .aZ λy a s d=>?_;obtain⟨o,q⟩:=BI d r;obtain⟨w,x⟩:=BI d e;have u:b.map a=(b.toList.map a).toArray:=M;have v:j.map a=(j.toList.map a).toArray:=M;refine⟨.func fn (b.toList.map a).toArray (j.toList.map a).toArray,?_,?_,by simp only[ac,m,Instr.makeFunc];rfl⟩
 .simp only[ac,m,Instr.makeFunc,u,v];rfl
 refine Rd.fn _ _ M M (λg=>((b.toList.map a)[g]?).getD K) (λg=>((j.toList.map a)[g]?).getD K) M M M ?_;grind
def vk:TypeDesc->Bool
 |.interface _=>f
 |_=>l
def yF(b:av):z->Option N
 |.n (.aq (.c d))=>h (.cd b d)
 |.n (.agg a)=>match h3 a with
  |some e=>h (.cD b e)
  |none=>n
 |_=>n
def aaC{g}{s}(a:yF q g=h s)(d:bx p b aa g):Rd b.u (.iface q aa) s:=by
 unfold yF at a;split at a
 .cases a;exact Rd.cd (b7 d) (b7 d).cell
 .split at a
  .rename_i r i;cases a;obtain⟨B,rfl,k⟩:=d;have e:=rC i k;refine Rd.cD (by have:=e.cM;grind) (λw=>(B[w]?).getD K) (λw j=>by grind) λw s j=>?_;obtain⟨aa,o,m⟩:=e.get (w:=w) (x:=.c s) M;rw[o];exact m
  grind
 grind
theorem a0.makeInterface(aR:bn P ad){q}{o}(k:t.op=.makeInterface q o){e}(d:bZ ad q=h e)(a:vk e.desc=l){s}(m:yF q (η o)=h s):a0 P t η p (ax s) p:=by
 refine .aZ λu i r g=>?_;have j:=(aR q e d).run_underlying (Q:=u.a);refine⟨.iface q (i o),?_,aaC m (g o),?_⟩
 rotate_left
 .simp only[ac,k,Instr.makeInterface,aH,cH,j,aJ,c1,events_underlying];cases b:e.desc<;>rw[b]at a<;>first|(cases a;done)|simp
 simp[ac,k,Instr.makeInterface,cH,j,c1];cases b:e.desc<;>rw[b]at a<;>first|(cases a;done)|simp
def tW(a:bv):Option E1:=match a.agg with
 |true=>h (.agg (a.zero.map O.c))
 |false=>n
def aeZ{e}(o:dP P q e){k}(g:tW e=h k):∃a,(zeroValue q).run P b.a=.ok a b.a/\et p b a k:=by
 obtain⟨a,v,j⟩:=o.hU p b;refine⟨a,v,?_⟩;obtain⟨w,m,u,x,A,t,y,⟨i,d⟩,z⟩:=o.c';have r:m=a:=by
  have:(zeroValue q).run P b.a=.ok m b.a:=by simp[zeroValue,typeInfo,u,t]
  grind
 subst r;unfold tW at g;cases s:e.agg with
 |true=>
  rw[s]at g d;simp[dH]at d;cases g;rw[d]at j⊢;exact⟨i.toList,by simp,by simpa[Value.cells]using j⟩
 |false=>grind
def sI(g:av)(e:bv):N->Option (E1×Bool)
 |.cd a i=>match af a g with
  |true=>h (.aq (.c i),f)
  |false=>match tW e with
   |some b=>h (b,l)
   |none=>n
 |.cD a d=>match af a g with
  |true=>h (.agg (d.map O.c),f)
  |false=>match tW e with
   |some b=>h (b,l)
   |none=>n
 |.bo=>match tW e with
  |some b=>h (b,l)
  |none=>n
 |_=>n
theorem a0.typeAssert(aR:bn P ad){o}{S q}(aa:t.op=.typeAssert o S q f){e}(N:bZ ad q=h e)(z:vk e.desc=l){s}(H:η o=ax s){y}{j}(i:sI q e s=h (y,j)):
  a0 P t η p (.Q [y,.aq (.c (.bool j))]) p:=by
 refine .aZ λb x ah V=>?_;have k:=V o;rw[H]at k;replace k:=b7 k;generalize ae:x o=A at k;have F:=(aR q e N).run_underlying (Q:=b.a);have key:∀r j,(Instr.typeAssert A S q f).run P b.a=.ok (.tuple #[r,.bool j]) b.a->et p b r y->(Instr.typeAssert A S q f).events P b.a #[]=#[]->∃r,(ac x t).run P b.a=.ok (.value r) b.a/\bx p b r (.Q [y,.aq (.c (.bool j))])/\(ac x t).events P b.a #[]=#[]:=by intro r j k C m;refine⟨.tuple #[r,.bool j],?_,⟨[r,.bool j],a,C,Rd.bool,v⟩,by simp[ac,aa,ae,aH,k,m,aJ,Sem.events_pure]⟩;simp[ac,aa,ae,cH,k,c1,d8]
 have fail:∀I,tW e=h I->(∀J,(zeroValue q).run P b.a=.ok J b.a->(Instr.typeAssert A S q f).run P b.a=.ok (.tuple #[J,.bool l]) b.a/\(Instr.typeAssert A S q f).events P b.a #[]=#[])->y=I->j=l->∃r,(ac x t).run P b.a=.ok (.value r) b.a/\bx p b r (.Q [y,.aq (.c (.bool j))])/\(ac x t).events P b.a #[]=#[]:=by intro I D ak aj g;subst aj g;obtain⟨J,m,ao⟩:=aeZ (p:=p) (aR q e N) (b:=b) D;grind
 have E:∀ab,e.desc≠.interface ab:=by intro ab y;rw[y]at z;cases z
 cases k with
 |@cd w r s C ag=>
  simp[sI]at i;cases g:af w q with
  |true=>
   rw[g]at i;cases i;have U:=di g;subst U;refine key r f ?_ C ?_<;>
   .unfold Instr.typeAssert;simp only[cH,F,c1,aH,aJ,events_underlying];cases u:e.desc<;>first|(exact absurd u (E _))|simp
  |false=>
   rw[g]at i;have X:w≠q:=λy=>by grind[Nat.beq_refl]
   simp only at i;split at i
   .rename_i I D;cases i;refine fail _ D (λJ m=>⟨?_,?_⟩) a a<;>
    .unfold Instr.typeAssert;simp only[cH,F,c1,aH,aJ,events_underlying];cases u:e.desc<;>first|(exact absurd u (E _))|simp[X,m]
   grind
 |@cD w B d R aq an G=>
  simp only[sI]at i;cases g:af w q with
  |true=>
   rw[g]at i;cases i;have U:=di g;subst U;refine key (.agg B.toArray) f ?_ ⟨B,a,?_⟩ ?_
   rotate_left 2
   .unfold Instr.typeAssert;simp only[F,aH,aJ,events_underlying];cases u:e.desc<;>first|(exact absurd u (E _))|simp
   .unfold Instr.typeAssert;simp only[cH,F,c1];cases u:e.desc<;>first|(exact absurd u (E _))|simp
   have go:∀B d,c B=c d->(∀(T:Nat) s,d[T]?=h s->∃r,B[T]?=h r/\Rd b.u r s)->bN p b B (d.map O.c):=by
    intro B;induction B with
    |nil=>intro d R _;cases d with|nil=>trivial|cons _ _=>grind
    |cons r B W=>
     intro d R K;cases d with
     |nil=>grind
     |cons s d=>
      obtain⟨ar,Z,Y⟩:=K 0 s rfl;simp at Z;subst Z;exact⟨Y,W d M (λT s ai=>by simpa using K (T+1) s M)⟩
   grind
  |false=>
   rw[g]at i;have X:w≠q:=λy=>by grind[Nat.beq_refl]
   simp only at i;split at i
   .rename_i I D;cases i;refine fail _ D (λJ m=>⟨?_,?_⟩) a a<;>
    .unfold Instr.typeAssert;simp only[cH,F,c1,aH,aJ,events_underlying];cases u:e.desc<;>first|(exact absurd u (E _))|simp[X,m]
   grind
 |bo=>
  simp only[sI]at i;split at i
  .rename_i I D;cases i;refine fail _ D (λJ m=>⟨?_,?_⟩) a a<;>
   .unfold Instr.typeAssert;simp only[cH,F,c1,aH,aJ,events_underlying];cases u:e.desc<;>first|(exact absurd u (E _))|simp[m]
  grind
 |_=>simp[sI]at i
end
def uJ(e:BinOp)(g:IntKind)(d:Int)(b:IntKind)(a:Int):Option (Int×m Prop):=
 match g with
 |.u64=>match e with
  |.shl=>h (((d.toNat*2 ^ a.toNat % 18446744073709551616:Nat):Int),[0<=a,a<=64])
  |.shr=>h (((d.toNat / 2 ^ a.toNat:Nat):Int),[0<=a,a<=64])
  |.and=>match b with|.u64=>h (((d.toNat &&& a.toNat:Nat):Int),[])|_=>n
  |.xor=>match b with|.u64=>h (((d.toNat ^^^ a.toNat:Nat):Int),[])|_=>n
  |_=>n
 |_=>n
section
variable {ad:m (Nat×bv)}
theorem Gu{a}(b:a7 .u64 a):(BitVec.ofInt IntKind.u64.bits a).toNat=a.toNat:=by rw[BitVec.toNat_ofInt];simp[a7]at b;simp[IntKind.bits];omega
def abV{i d}{a j s}(q)(b:uJ op i a d j=h (s,cf))(e:U cf)(g:a7 i a)(r:a7 d j)(k):
  a7 i s/\(Go.binOp op q (.int i a) (.int d j)).run P k=.ok (.int i s) k/\(Go.binOp op q (.int i a) (.int d j)).events P k #[]=#[]:=by
 unfold uJ at b;split at b
 .split at b
  .cases b;obtain⟨p,o⟩:0<=j/\j<=64:=e;have w:a.toNat*2 ^ j.toNat % 18446744073709551616<18446744073709551616:=p6 _ ca;simp[a7]at g;refine⟨by simp[a7];omega,?_⟩;have u:IntKind.wrap .u64 (a*2 ^ (min j.toNat IntKind.u64.bits))=((a.toNat*2 ^ j.toNat % 18446744073709551616:Nat):Int):=by have m:min j.toNat IntKind.u64.bits=j.toNat:=Rl;have t:a=(a.toNat:Int):=y;rw[m,t];simp only[IntKind.wrap,IntKind.bits,IntKind.signed,c5];grind
   exact Pd
  .cases b;obtain⟨p,o⟩:0<=j/\j<=64:=e;simp[a7]at g;have v:a.toNat / 2 ^ j.toNat<=a.toNat:=Nat.div_le_self _ _;refine⟨by simp[a7];grind,?_⟩;have u:a.fdiv (2 ^ (min j.toNat IntKind.u64.bits))=((a.toNat / 2 ^ j.toNat:Nat):Int):=by have m:min j.toNat IntKind.u64.bits=j.toNat:=Rl;grind
   exact Pd
  .split at b
   .cases b;have o:a.toNat &&& j.toNat<=a.toNat:=Nat.and_le_left;have I:a7 .u64 ((a.toNat &&& j.toNat:Nat):Int):=by simp[a7]at g⊢;omega
    refine⟨I,?_⟩;have ai:(BitVec.ofInt IntKind.u64.bits a &&& BitVec.ofInt IntKind.u64.bits j).toNat=a.toNat &&& j.toNat:=by grind[Gu]
    exact Qs
   grind
  .split at b
   .cases b;have I:a7 .u64 ((a.toNat ^^^ j.toNat:Nat):Int):=by simp[a7]at g r⊢;have:a.toNat ^^^ j.toNat<2 ^ 64:=Nat.xor_lt_two_pow y y;omega
    refine⟨I,?_⟩;have ai:(BitVec.ofInt IntKind.u64.bits a ^^^ BitVec.ofInt IntKind.u64.bits j).toNat=a.toNat ^^^ j.toNat:=by grind[Gu]
    exact Qs
   grind
  grind
 grind
theorem a0.bits{i e}{u j s}(y:t.op=.binOp op q o X ty)(E:η o=ax (.int i u))(C:η X=ax (.int e j))(B:uJ op i u e j=h (s,cf))(r:U cf):
  a0 P t η p (ax (.int i s)) p:=by
 refine .aZ λF g z d=>?_;have a:=d o;have b:=d X;rw[E]at a;rw[C]at b;replace a:=b7 a;replace b:=b7 b;generalize v:g o=I at a;generalize w:g X=J at b;cases a with|int k=>
 cases b with|int m=>
 obtain⟨D,x,A⟩:=abV (P:=P) q B r k m F.a;exact⟨.int i s,by simp[ac,y,cH,v,w,qn,c1,x,d8],.int D,by simp[ac,y,v,w,qn,x2,x,A]⟩
end
def lp(e:Nat)(a:m N)(b:Nat->m N):Nat->m N:=λd=>if d=e then a else b d
def nK(e b:Nat)(g:m N)(a:Nat->m N):Nat->m N:=λd=>if e<=d/\d<b then g else a d
section
variable {ad:m (Nat×bv)}{C:Nat}{i:Nat}
def GD(z:bb p b)(r:p[d]?=h (.h W i k T)){m s}(x:cx p b aa (.R d (.bu C m e s)))(E:C=k):
  ∃g j B a,b.l[d]?=h ⟨.slice (h ⟨g,0,n⟩) 0 j,[g]⟩/\aa=.pointer (h ⟨g,e*m+s,n⟩)/\b.a.heap[g]?=h (.cells (B++a).toArray W (0,0))/\c (B++a)=j*i/\k<=j/\j<=9223372036854775807/\eZ b.u i k T B/\∀v,b.u g v=n:=by
 obtain⟨I,⟨g,j,u,y⟩,_,O⟩:=x;obtain⟨L,t,o⟩:=(O _ _ _ _ r).2 E;rw[u]at o;rcases z.box d _ L r t with⟨_,rfl⟩|⟨N,g1,B,a,rfl,X,q,F,w,D,A⟩
 .cases o
 cases o;exact⟨g,j,B,a,t,y,X,q,F,w,D,A⟩
def DP{C:Nat->Z}:∀{bg:m N}{A:Nat},(∀d e,bg[d]?=h e->Rd b.u (C (A+d)) e)->bN p b ((aC (c bg)).map λd=>C (A+d)) (bg.map O.c)
 |[],A,_=>trivial
 |i::bg,A,g=>by rw[fl,wU];refine⟨g 0 i a,?_⟩;have:=DP (bg:=bg) (A:=A+1) (λd e j=>by have:=g (d+1) e M;rwa [show A+1+d=A+(d+1) by omega]);grind[Function.comp_def]
theorem a0.jc(aR:bn P ad)(K:t.op=.indexAddr q o X){e a4}(j:bZ ad q=h e)(N:e.desc=.slice W)(z:bZ ad W=h a4){r}{w}{k}(H:η o=cz d (.S C a4.size r A))(E:η X=ax (.int k w))(ab:0<=w)(M:w<A):a0 P t η p (cz d (.bu C a4.size (r+w.toNat) 0)) p:=by
 refine .aZ λD g R b=>?_;have B:=b o;rw[H]at B;have a:=b X;rw[E]at a;replace a:=b7 a;generalize O:g X=Y at a;cases a;have x:=B;change cx p D (g o) (.R d _)at x;obtain⟨m,⟨ae,J,v,I,F,L,G,aa,Z,U⟩,T,S⟩:=x;obtain⟨u,rfl,rfl⟩:=U y;have s:=(aR q e j).run_underlying (Q:=D.a);rw[N]at s;obtain⟨i,rfl⟩:∃i:Nat,w=i:=⟨w.toNat,by omega⟩
 have V:i<A:=y;refine⟨.pointer (h ⟨u,(r+i)*a4.size,n⟩),?_,⟨m,⟨u,I,Z,by simp⟩,T,S⟩,?_⟩<;>
 simp[ac,K,F,O,Instr.indexAt,asIntOf,s,(aR W a4 z).bb,gN,V,jD]
def a0.iP(aR:bn P ad){r}(s:t.op=.fieldAddr q o r){A i}{w}(F:η o=cz d (.bu C A e i))(u:lf ad q r=h (off,w)):a0 P t η p (cz d (.bu C A e (i+off))) p:=by refine .aZ λD j z b=>?_;have a:=b o;rw[F]at a;have k:=a;change cx p D (j o) (.R d _)at k;obtain⟨g,⟨m,E,B,v⟩,y,x⟩:=k;exact⟨.pointer (h ⟨m,e*A+i+off,n⟩),by simp[ac,s,v,y3 aR u],⟨g,⟨m,E,B,by grind⟩,y,x⟩,by simp[ac,s,v,x3 aR u]⟩
theorem a0.jz(m:t.op=.nilCheck o){k q}(v:η o=cz d (.bu C k e q)):a0 P t η p (cz d (.bu C k e q)) p:=by refine .aZ λw b s g=>?_;have a:=g o;rw[v]at a;have r:=a;have i:=a;change cx p w (b o) (.R d _)at i;obtain⟨u,⟨x,B,A,j⟩,z,y⟩:=i;exact⟨b o,by simp[ac,m,j],r,by simp[ac,m,j]⟩
theorem a0.ji(aR:bn P ad)(v:t.op=.call {callee:=.builtin .len,args:=#[o],argTypes:=dp})(O:dp[0]?=h q){e}(b:bZ ad q=h e)(u:e.desc=.slice W){D y}(N:η o=cz d (.S C D y A)):a0 P t η p (ax (.int .i64 A)) p:=by
 refine .aZ λr i w g=>?_;have a:=g o;rw[N]at a;have j:=a;change cx p r (i o) (.R d _)at j;obtain⟨x,⟨F,s,k,z,B,S,M,E,R,K⟩,J,I⟩:=j;have m:=(aR q e b).run_underlying (Q:=r.a);rw[u]at m;refine⟨.int .i64 A,?_,Rd.int cQ,?_⟩<;>
 simp[ac,v,resolve,invoke,builtin,Builtin.len_,B,m,goInt,O]
theorem a0.sliceB(aR:bn P ad){eY bp}(J:t.op=.slice q o eY bp n){e a4}(X:bZ ad q=h e)(N:e.desc=.slice W)(z:bZ ad W=h a4){M}{k v}(H:η o=cz d (.S C a4.size M A))(s:kG η eY=h k)(O:kG η bp=h v)(u:U (jf A k v)):a0 P t η p (cz d (.S C a4.size (M+bT 0 k) (bT A v-bT 0 k))) p:=by
 refine .aZ λg D S b=>?_;have m:=b o;rw[H]at m;have I:=m;change cx p g (D o) (.R d _)at I;obtain⟨B,⟨F,w,i,R,E,K,ab,aa,Z,Y⟩,V,T⟩:=I;obtain⟨r,ae,G⟩:=vR (P:=P) (kl:=f) K (kb b s) (kb b O) u g.a;have x:=(aR q e X).run_underlying (Q:=g.a);rw[N]at x;refine⟨.slice (if i=bT 0 k then F else F.map (·.add (bT 0 k*a4.size))) (bT A v-bT 0 k) (i-bT 0 k),?_,⟨B,⟨_,w,_,R,a,by omega,by omega,aa,Z,λag=>?_⟩,V,T⟩,by simp[ac,J,E,Instr.sliceAt,x,Instr.slice,r,u3 (P:=P) (kl:=f) K (kb b s) (kb b O) u g.a]⟩
 .simp[ac,J,E,Instr.sliceAt,x,Instr.slice,r,(aR W a4 z).bb]
 obtain⟨j,rfl,rfl⟩:=Y y;exact QV
def a0.e8(aR:bn P ad)(u:t.op=.load q o){m}{F}{ai}(ae:η o=cz d (.bu C i e m))(D:C=k)(J:p[d]?=h (.h W i k T))(y:bZ ad q=h F)(S:hc F ((fR m (T e)).map O.c)=h ai)(Y:e<k):a0 P t η p (.n ai) p:=by
 refine .du λb R I Q=>?_;have x:=Q o;rw[ae]at x;obtain⟨j,au,B,aq,ab,G,ag,H,an,L,z,ao⟩:=GD I J x D;have aN:=z.bG e Y;let C:Nat->Z:=λa=>B.getD (e*i+a) K;have D:∀a s,(fR m (T e))[a]?=h s->B[e*i+(m+a)]?=h (C (m+a))/\Rd b.u (C (m+a)) s:=by intro a s g;rw[rD,p5]at g;obtain⟨v,ak,ar⟩:=z.rd e Y (m+a) s g;grind
 have N:=DP (p:=p) (b:=b) (C:=C) (bg:=fR m (T e)) (A:=m) (λa s g=>(D a s g).2);have U:∀a v,((aC (c (fR m (T e)))).map λa=>C (m+a))[a]?=h v->b.a.cell? ⟨j,e*i+m+a,n⟩=h v:=by
  intro a v g;simp[m']at g;by_cases V:a<c (fR m (T e))
  .simp[V]at g;subst g;have ah:=(D a _ (bI V)).1;simp[aL,ag];grind
  grind
 obtain⟨v,X,aa⟩:=tD (b:=b) (p:=p) (P:=P) (aR q F y) (j:=j) (off:=e*i+m) (ai:=ai) U N S;refine⟨v,by simp[ac,u,G,Instr.loadAt,Instr.sureAddr,X],aa,λw r=>?_⟩;have aj:w∈(loadVar q ⟨j,e*i+m,n⟩).events P b.a #[]:=by have ai:ac R t=(do pure (.value (<-loadVar q ⟨j,e*i+m,n⟩))):=Rc;rw[ai]at r;simpa[X]using r
 obtain⟨a,g,rfl⟩:=pd (aR q F y) (k:=c (fR m (T e))) (λa g=>⟨_,U a (C (m+a)) M⟩) (by have:=r_ S;grind) w aj;exact qp (b9 ab) E
def eZ.put{jv}{b}{gC ci}(p:eZ bB i k T B)(r:e<k)(J:iU b gC (T e)=h ci)(A:c jv=c gC)(E:∀(g:Nat)m,gC[g]?=h m->∃aa,jv[g]?=h aa/\Rd bB aa m):
  e*i+b+c jv<=c B/\eZ bB i k (lp e ci T) (B.take (e*i+b)++jv++B.drop (e*i+b+c jv)):=by
 obtain⟨x,u⟩:=Eb J;have Q:=p.bG e r;have z:e*i+i<=k*i:=by have:=gX i (show e+1<=k by omega);grind
 have N:=p.len;have D:e*i+b+c jv<=c B:=y;have I:∀j,(B.take (e*i+b)++jv++B.drop (e*i+b+c jv))[j]?=if j<e*i+b then B[j]? else if j<e*i+b+c jv then jv[j-(e*i+b)]? else B[j]?:=by
  intro j;have o:c (B.take (e*i+b))=e*i+b:=M;by_cases q:j<e*i+b
  .grind
  rw[bm q];by_cases t:j<e*i+b+c jv
  .grind
  rw[bm t,hq M,p5];grind
 refine⟨D,⟨by grind,λd s=>?_,λd s g m a=>?_⟩⟩
 .simp only[lp];split
  .grind
  exact p.bG d s
 simp[lp]at a;rw[I];split at a
 .rename_i w;subst w;rw[u]at a;by_cases q:g<b
  .rw[mj,kA M,io,br q]at a;rw[br y];exact p.rd d r g m a
  by_cases t:g<b+c gC
  .rw[mj,hq M,kA M]at a;obtain⟨aa,v,F⟩:=E _ m a;refine⟨aa,?_,F⟩;rw[bm y,br y,<-v];congr 1;grind
  rw[hq M,p5]at a;rw[bm y,bm y];refine p.rd d r g m ?_;grind
 rename_i w;have O:g<i:=by have:=(cO.1 a).1;have:=p.bG d s;omega
 rcases dY d e with C|K
 .have:(d+1)*i<=e*i:=gX i C;rw[jD,Nat.one_mul]at this;rw[br y];exact p.rd d s g m a
 have:(e+1)*i<=d*i:=gX i y;rw[jD,Nat.one_mul]at this;rw[bm y,bm y];exact p.rd d s g m a
def bb.gz(s:bb p b)(u:p[d]?=h (.h W i k T)){r q}{e}(Q:b.l[d]?=h ⟨.slice (h ⟨j,0,n⟩) 0 e,[j]⟩)(X:c (B++r)=e*i)(F:k<=e)(I:e<=9223372036854775807){g:Nat->m N}(w:b.a.heap[j]?=h (.cells (B++r).toArray W (0,0)))(O:eZ b.u i k g q)(V:c q=c B)(J:∀D,b.u j D=n):
  bb (p.set d (.h W i k g)) {b with a:=b.a.setRow j (q++r).toArray}/\cN p b (p.set d (.h W i k g)) {b with a:=b.a.setRow j (q++r).toArray}:=by
 have C:(b.a.setRow j (q++r).toArray).heap[j]?=h (.cells (q++r).toArray W (0,0)):=setRow_heap b.a j _ _ W _ w;have A:∀o,o≠j->(b.a.setRow j (q++r).toArray).heap[o]?=b.a.heap[o]?:=λo t=>setRow_other b.a j o _ t;have S:b.l.set d ⟨.slice (h ⟨j,0,n⟩) 0 e,[j]⟩=b.l:=mY;obtain⟨G,R⟩:=s.b7 (cd:=b.u) (bi:=b.a.setRow j (q++r).toArray) (d':=.h W i k g) (cn:=⟨.slice (h ⟨j,0,n⟩) 0 e,[j]⟩) u Q ⟨λ_=>rfl,bC _⟩ E
  (λo t y=>A o M) (λ_ _ _ _=>rfl) (λ_ _ _ x=>x) (λo v K z=>by
   have U:o≠j:=M;have:=s.mem o v K z;rw[<-this];simp[aL]
   grind) (λo t=>⟨.inl t,by grind⟩) a a a
  (.inr ⟨j,e,q,r,rfl,C,by grind,F,I,O,J⟩)
 grind
def Md{e:Type}:∀{new d:m e},c new=c d->iU 0 new d=h new
 |[],[],_=>rfl
 |[],_::_,g=>by grind
 |_::_,[],g=>by grind
 |j::b,i::a,g=>by simp[iU,Md (new:=b) (d:=a) M]
def a0.h1(aR:bn P ad)(U:t.op=.store q o X){j}{z}{new}{gC ci}(ak:η o=cz d (.bu C i e j))(ah:C=k)(w:p[d]?=h (.h W i k T))(v:bZ ad q=h z)(aj:mo (η X)=h new)(J:c new=z.size)(G:h3 new=h gC)(F:c (T e)=i->iU j gC (T e)=h ci)(Z:e<k):
  a0 P t η p .any (p.set d (.h W i k (lp e ci T))):=by
 intro D b u x;have s:=x o;rw[ak]at s;obtain⟨y,an,B,m,R,aN,I,H,ab,ae,S,Q⟩:=GD u w s ah;have A:=uT aj (x X);have O:=rC G A;have L:=bN.eX O;have ar:(b X).cells.toList.length=c gC:=by have:=O.cM;grind
 replace F:=F (S.bG e Z);obtain⟨aw,K⟩:=S.put Z F ar L;have Y:(b X).cells.size=z.size:=by rw[<-J,<-A.cM,m9]
 obtain⟨ai,ag⟩:=u.gz w R H ab ae I K M Q;have V:=run_storeCells_at P y (e*i+j) W (b X).cells.toList 0 (B++m).toArray D.a I M A.cell;have aa:((B++m).toArray.toList.take (e*i+j+0)++(b X).cells.toList++(B++m).toArray.toList.drop (e*i+j+0+(b X).cells.toList.length))=B.take (e*i+j)++(b X).cells.toList++B.drop (e*i+j+(b X).cells.toList.length)++m:=M;rw[aa]at V;refine⟨.skip,_,?_,a,ai,ag,?_⟩
 .simp[ac,U,aN,Instr.storeAt,Instr.sureAddr,storeVar,(aR q z v).bb,Y,V]
 intro r g;have ao:ac b t=(do storeVar q ⟨y,e*i+j,n⟩ (b X);pure .skip):=by simp[ac,U,aN,Instr.storeAt,Instr.sureAddr]
 rw[ao]at g;have aq:r∈(storeCells ⟨y,e*i+j,n⟩ (b X).cells.toList).events P D.a #[]:=by
  simp[storeVar,aH,(aR q z v).bb,Y,aJ,events_sizeOf,dZ,hr,dh,cH,c1,Sem.events_pure]at g;generalize(storeCells ⟨y,e*i+j,n⟩ (b X).cells.toList).run P D.a=au at g;cases au with
  |ok az N=>simpa using g
  |halt o N=>simpa using g
 rcases nh (b X).cells.toList 0 (B++m).toArray D.a #[] I M A.cell r aq with av|⟨ax,_,_,rfl⟩
 .grind
 exact og (b9 R) E (Q _)
end
section
def bb.fw(k:bb p b)(r:∀a,b.u j a=n)(s:∀a e,B[a]?=h e->b.a.cell? ⟨j,a,n⟩=h e):
  bb (p.map λ_=>.x) {b with u:=λd a=>if d=j then B[a]? else b.u d a}/\∀d a e,b.u d a=h e->(if d=j then B[a]? else b.u d a)=h e:=by
 have g:=k.ec;refine⟨⟨λd a e i=>?_,g.len,λt q L aE o=>?_,g.a3,g.lt,g.own⟩,λd a e i=>?_⟩
 .by_cases m:d=j
  .grind
  simp[m,dh]at i;exact g.mem d a e i
 .have:=b9 aE;simp at this;rw[<-this.2];trivial
 grind
def dt.gG{e}{T}(s:dt {b with u:=e} T){L}(x:L∈b.l)(t:j∈L.al)(w:∀i m g,b.u i m=h g->e i m=h g)(v:∀i m g,e i m=h g->i=j∨b.u i m=h g):dt b T:=by
 intro p r;have d:=s p r;unfold h4 at d⊢;split at d
 .obtain⟨jy,ja,a⟩:=d;refine⟨jy,ja,?_⟩;rcases a with a|⟨a,k⟩|⟨a,g,k⟩
  .grind
  .refine .inr (.inl ⟨a,λq=>?_⟩);have:=k q;rename_i o _;cases u:b.u o.block o.off with
   |none=>rfl
   |some g=>grind
  grind
 all_goals exact d
end
def ni(e:Nat)(a:Nat->Nat->Z):Nat->m N:=λb=>(aC e).map λd=>.val (a b d)
theorem s3{i}{a:Nat->Nat->Z}{s}(b:(ni i a e)[w]?=h s):w<i/\s=.val (a e w):=by
 have d:w<i:=by have:=(cO.1 b).1;simpa[ni]using this
 simp[ni,d]at b;grind
def Ct{i}{a:Nat->Nat->Z}(b:w<i):(ni i a e)[w]?=h (.val (a e w)):=by simp[ni,b]
def Rd.exact{bB}{aa}{q}{i k}{d:Nat->m N}(C:Rd bB aa (.S q i k d)):
  ∃o:Nat->Nat->Z,Rd bB aa (.S q i k (ni i o))/\(∀a,a<k->c (d a)=i)/\∀a,a<k->∀b j,(d a)[b]?=h j->Rd bB (o a b) j:=by
 cases C with
 |S z r o y v x w u D p=>
  have A:∀a,a<k->∀b,b<i->∃j,(d a)[b]?=h j:=λa e b g=>⟨_,bI M⟩
  refine⟨o,.S z r o y v x (λa _=>by simp[ni]) u (λa e b j g=>?_) (λa e b j g=>?_),w,p⟩
  .grind [s3]
  obtain⟨s,rfl⟩:=s3 g;obtain⟨B,t⟩:=A a e b s;exact .val (p a e b B t).cell
def DO{i}{L}{e s}{cap}(aE:p[d]?=h (.h W i k T))(q:b.l[d]?=h L)(m:L.v=.slice s 0 cap)(r:k<=cap)(o:cap<=9223372036854775807)(x:0<cap->∃g,s=h ⟨g,0,n⟩/\e=h ⟨g,0,n⟩):cx p b (.slice e k cap) (.R d (.S k i 0 k)):=
 ⟨L.v,⟨e,s,cap,cap,rfl,r,by omega,o,m,λv=>by grind⟩,(cO.1 aE).1,λw t u j a=>by rw[aE]at a;cases a;exact⟨bC _,λ_=>⟨L,q,rfl⟩⟩⟩
def Gh{a4}(u:j4 P t o X W a4){A}{bz}{q:Nat->m N}{ai:aB->Z}(v:bb p b)(bq:cx p b (ai o) (.R d (.S k a4.size 0 k)))(Q:p[d]?=h (.h W a4.size k T))(au:Rd b.u (ai X) (.S bz a4.size A q))(H:(k+A)*a4.bytes<=140737488355328):
  ∃a8 ah,(ac ai t).run P b.a=.ok a8 ah.a/\Ai (p.set d (.h W a4.size (k+A) (ce k T q))) ah a8 (cz d (.S (k+A) a4.size 0 (k+A)))/\bb (p.set d (.h W a4.size (k+A) (ce k T q))) ah/\cN p b (p.set d (.h W a4.size (k+A) (ce k T q))) ah/\dt b ((ac ai t).events P b.a #[]):=by
 obtain⟨bQ,t2,g,cc,a3,e,J,aD,aE⟩:=u.op;have bX:=(cO.1 Q).1;obtain⟨bP,⟨x,bm,aG,C,a5,bc,bE,ba,a1,bF⟩,_,a7⟩:=bq;obtain⟨L,I,an⟩:=(a7 _ _ _ _ Q).2 rfl;rw[a1]at an;have aW:C=aG:=y;subst aW;have bA:0<C->∃j,bm=h ⟨j,0,n⟩/\x=h ⟨j,0,n⟩:=λu=>by grind
 have aN:=(cO.1 I).1;have bg:=b9 I;have bD:=v.box d _ L Q I;rw[ld a3,a5];have row:0<C->∃j B r,x=h ⟨j,0,n⟩/\L=⟨.slice (h ⟨j,0,n⟩) 0 C,[j]⟩/\b.a.heap[j]?=h (.cells (B++r).toArray W (0,0))/\c (B++r)=C*a4.size/\eZ b.u a4.size k T B/\∀t,b.u j t=n:=by
  intro z;obtain⟨j,U,aa⟩:=bA z;rcases bD with⟨_,rfl⟩|⟨i,w,B,r,rfl,ab,aK,aM,aO,aP,aQ⟩
  .grind
  grind
 by_cases bp:A=0
 .subst bp;have av:=y2 (P:=P) (ty:=t.type) e J aD aE u.elem v (x:=x) bc au;simp only[j'];have br:bt k T (ce k T q):=λg e=>by simp[ce,e]
  have aT:er (p.set d (.h W a4.size k (ce k T q))) ⟨b.l.set d L,b.u,b.a,b.own⟩ (.h W a4.size k (ce k T q)) L:=by
   rcases bD with ab|⟨i,w,B,r,au,ab,aK,aM,aO,aP,aQ⟩
   .exact .inl ab
   exact .inr ⟨i,w,B,r,au,ab,aK,aM,aO,aP.cA br,aQ⟩
  have ar:=v.b7 (cd:=b.u) (bi:=b.a) (d':=.h W a4.size k (ce k T q)) (cn:=L) Q I ⟨λ_=>rfl,bC _⟩ (bC _) (λ_ _ _=>rfl) (λ_ _ _ _=>rfl) (λ_ _ _ u=>u) v.mem
   (λj H=>⟨.inl H,v.lt L bg j H⟩) a a a aT
  refine⟨.value (.slice x k C),_,?_,?_,ar.1,ar.2,jj (x0 e J aD aE u.elem v bc au)⟩
  .simp[av]
  exact DO (W:=W) EV M an bc ba bA
 .by_cases aI:k+A<=C
  .obtain⟨j,B,r,rfl,rfl,hw,G,F,ad⟩:=row y;obtain⟨R,ak,av⟩:=DV (P:=P) (ty:=t.type) e J aD aE u.elem v hw G au aI;have a6:=F.len;have bJ:=ak.len;have bG:k*a4.size+A*a4.size<=C*a4.size:=by rw[<-jD];exact gX _ aI
   have ag:((B++r).take (k*a4.size)++R++(B++r).drop (k*a4.size+c R))=(B++R)++r.drop (c R):=by rw[<-a6];simp
   rw[ag]at av;have ax:=setRow_heap b.a j _ ((B++R)++r.drop (c R)).toArray W _ hw;have az:∀i,i≠j->(b.a.setRow j ((B++R)++r.drop (c R)).toArray).heap[i]?=b.a.heap[i]?:=λi a'=>setRow_other b.a j i _ a';obtain⟨aA,bf⟩:=v.b7 (cd:=b.u) (bi:=b.a.setRow j ((B++R)++r.drop (c R)).toArray) (d':=.h W a4.size (k+A) (ce k T q)) (cn:=⟨.slice (h ⟨j,0,n⟩) 0 C,[j]⟩) Q I ⟨λ_=>rfl,by omega⟩ E
    (λi a' bO=>az i M) (λ_ _ _ _=>rfl) (λ_ _ _ u=>u) (λi bx S a2=>by
     have bH:i≠j:=M;have:=v.mem i bx S a2;rw[<-this];simp[aL]
     grind) (λi a'=>⟨.inl a',by grind⟩) a a a
    (.inr ⟨j,C,B++R,r.drop (c R),rfl,ax,by grind,aI,ba,F.append ak,ad⟩)
   refine⟨.value (.slice (h ⟨j,0,n⟩) (k+A) C),_,?_,?_,aA,bf,jj (B_ e J aD aE u.elem v hw G au aI bg E (λt _=>ad t))⟩
   .simp[av]
   exact DO (W:=W) EV (by simp only;rw[im aN]) a aI ba λ_=>⟨j,a,a⟩
  .have aZ:C<k+A:=y;obtain⟨bo,aJ,bN,bL⟩:=au.exact;have aH:∃(cd:Mem) (b4:Nat->Nat->Z),bb (p.map λ_=>.x) {b with u:=cd}/\(∀i t S,b.u i t=h S->cd i t=h S)/\Rd cd (.slice x k C) (.S l a4.size k (ni a4.size b4))/\(∀{T},dt {b with u:=cd} T->dt b T) /\
     (∀g,g<k->c (T g)=a4.size)/\∀g,g<k->∀s D,(T g)[s]?=h D->Rd b.u (b4 g s) D:=by
    by_cases z:0<C
    .obtain⟨j,B,r,rfl,rfl,hw,G,F,ad⟩:=row z;obtain⟨w,V⟩:=v.fw (j:=j) (B:=B) ad (λt S a3=>by
      simp only[aL,hw]
      grind)
     have bB:∀g,g<k->∀s D,(T g)[s]?=h D->B[g*a4.size+s]?=h (B.getD (g*a4.size+s) K)/\Rd b.u (B.getD (g*a4.size+s) K) D:=by intro g e s D O;obtain⟨S,a9,a_⟩:=F.rd g e s D O;grind
     have aV:∀g,g<k->∀s,s<a4.size->∃D,(T g)[s]?=h D:=λg e s O=>⟨_,bI (by rw[F.bG g e];exact O)⟩
     refine⟨_,λg s=>B.getD (g*a4.size+s) K,w,V,.S j 0 (λg s=>B.getD (g*a4.size+s) K) bc ba E (λg _=>by simp[ni]) bl (λg e s D O=>?_) (λg e s D O=>?_),λbs=>?_,F.bG,λg e s D O=>(bB g e s D O).2⟩
     .obtain⟨U,_⟩:=s3 O;grind
     .obtain⟨U,rfl⟩:=s3 O;obtain⟨bn,aa⟩:=aV g e s U;exact .val (bB g e s bn aa).2.cell
     exact bs.gG (j:=j) bg E V λi t S a5=>by grind
    have U:C=0:=y;have aa:k=0:=y;subst U aa;have aF:=v.ec;exact⟨b.u,λ_ _=>K,⟨aF.mem,aF.len,aF.box,aF.a3,aF.lt,aF.own⟩,λ_ _ _ u=>u,Rd.dH,λu=>u,λg e=>by omega,λg e=>by omega⟩
   obtain⟨cd,b4,w,V,aU,aR,bM,bK⟩:=aH;have aj:=aJ.mono V;obtain⟨bh,r,bd,bj,ao,aq,aw,av⟩:=vQ (P:=P) (b:={b with u:=cd}) (ty:=t.type) e J aD aE u.elem w aU aj aZ H u.bytes;have aX:=u2 (P:=P) (b:={b with u:=cd}) (ty:=t.type) e J aD aE u.elem w aU aj aZ H u.bytes;have aS:eZ b.u a4.size (k+A) (ce k T q) bh:=by
    refine⟨bj.len,λg e=>?_,λg e s D O=>?_⟩
    .by_cases Y:g<k
     .simp only[ce,Y,dH];grind
     simp only[ce,Y,dh];grind
    by_cases Y:g<k
    .simp only[ce,Y,dH]at O;have bk:s<a4.size:=M;obtain⟨S,a9,a_⟩:=bj.rd g e s (.val (b4 g s)) (by simp only[ce,Y,dH];exact Ct bk);grind[Rd.bd]
    simp only[ce,Y,dh]at O;have bk:s<a4.size:=M;obtain⟨S,a9,a_⟩:=bj.rd g e s (.val (bo (g-k) s)) (by simp only[ce,Y,dh];exact Ct bk);grind[Rd.bd]
   have bu:∀t,b.u b.a.heap.size t=n:=λt=>by
    cases ae:b.u b.a.heap.size t with
    |none=>rfl
    |some S=>have:=v.block ae;omega
   obtain⟨aA,bf⟩:=v.b7 (cd:=b.u) (bi:=b.a.drew.alloc (.cells (bh++r).toArray W)) (d':=.h W a4.size (k+A) (ce k T q)) (cn:=⟨.slice (h ⟨b.a.heap.size,0,n⟩) 0 bd,[b.a.heap.size]⟩) Q I
    ⟨λY=>absurd Y y,by omega⟩ E (λj H _=>iQ b.a.drew _ H) (λ_ _ _ _=>rfl) (λ_ _ _ u=>u) (λj t S ae=>by have a0:=v.block ae;rw[<-v.mem j t S ae];simp only[aL];rw[iQ b.a.drew _ a0];rfl) (λj H=>by simp at H;exact bw) a a a (.inr ⟨b.a.heap.size,bd,bh,r,rfl,lV b.a.drew _,aw,ao,aq,aS,bu⟩)
   refine⟨.value (.slice (h ⟨b.a.heap.size,0,n⟩) (k+A) bd),_,?_,?_,aA,bf,jj (aR aX)⟩
   .simp only at av;simp[av]
   exact DO (W:=W) EV (by simp only;rw[im aN]) a ao aq λ_=>⟨_,a,a⟩
def a0.h_{a4}(w:j4 P t o X W a4){b}{r}{a:Nat->m N}(v:η o=cz d (.S k a4.size 0 k))(q:p[d]?=h (.h W a4.size k T))(u:∀g s,bx p g s (η X)->Rd g.u s (.S r a4.size b a))(i:(k+b)*a4.bytes<=140737488355328):
  a0 P t η p (cz d (.S (k+b) a4.size 0 (k+b))) (p.set d (.h W a4.size (k+b) (ce k T a))):=
 λg x j e=>Gh w j (by have:=e o;rw[v]at this;exact this) q (u g _ (e X)) i
section
variable {ad:m (Nat×bv)}
def a0.jq(aR:bn P ad)(s:t.op=.call {callee:=.builtin .len,args:=#[o],argTypes:=dp})(r:dp[0]?=h q){e}(b:bZ ad q=h e)(j:e.desc=.slice W){i}{cap}(w:η o=ax (.val (.slice i k cap)))(v:k<=9223372036854775807):a0 P t η p (ax (.int .i64 k)) p:=by
 refine .aZ λx y u d=>?_;have a:=d o;rw[w]at a;have m:=Rd.bd (b7 a);have g:=(aR q e b).run_underlying (Q:=x.a);rw[j]at g;refine⟨.int .i64 k,?_,Rd.int cQ,?_⟩<;>
 simp[ac,s,resolve,invoke,builtin,Builtin.len_,m,g,goInt,r]
theorem a0.jd(aR:bn P ad)(z:t.op=.indexAddr q o X){e a4}(i:bZ ad q=h e)(C:e.desc=.slice W)(D:bZ ad W=h a4){cap}{w}{m}(I:η o=ax (.val (.slice (h ⟨j,off,n⟩) k cap)))(F:η X=ax (.int m w))(M:0<=w)(A:w<k):a0 P t η p (ax (.val (.pointer (h ⟨j,off+w.toNat*a4.size,n⟩)))) p:=by
 refine .aZ λJ r B d=>?_;have s:=d o;rw[I]at s;have E:=Rd.bd (b7 s);have b:=d X;rw[F]at b;replace b:=b7 b;generalize x:r X=K at b;cases b;have u:=(aR q e i).run_underlying (Q:=J.a);rw[C]at u;obtain⟨g,rfl⟩:∃g:Nat,w=g:=⟨w.toNat,by omega⟩
 have v:g<k:=y;refine⟨.pointer (h ⟨j,off+g*a4.size,n⟩),?_,Rd.val a,?_⟩<;>
 simp[ac,z,E,x,Instr.indexAt,asIntOf,u,(aR W a4 D).bb,gN,v]
def a0.iR(aR:bn P ad){k}(m:t.op=.fieldAddr q o k){i}{w}(r:η o=ax (.val (.pointer (h ⟨j,off,n⟩))))(g:lf ad q k=h (i,w)):a0 P t η p (ax (.val (.pointer (h ⟨j,off+i,n⟩)))) p:=by refine .aZ λv u s d=>?_;have b:=d o;rw[r]at b;have e:=Rd.bd (b7 b);exact⟨.pointer (h ⟨j,off+i,n⟩),by simp[ac,m,e,y3 aR g],Rd.val a,by simp[ac,m,e,x3 aR g]⟩
def a0.jT(aR:bn P ad){I}(Z:t.op=.slice q o n (h X) (h I)){e a4}(N:bZ ad q=h e)(H:e.desc=.slice W)(ah:bZ ad W=h a4){eR}{i}{m r}{w A}(ai:∀aa ae,bx p aa ae (η o)->Rd aa.u ae (.S eR i k T))(L:η X=ax (.int m w))(ag:η I=ax (.int r A))(J:0<=w)(an:w<=A)(ao:A<=k):a0 P t η p (ax (.S l i w.toNat T)) p:=by
 refine .aZ λa F aq j=>?_;have U:=ai a _ (j o);have s:=j X;rw[L]at s;replace s:=b7 s;generalize O:F X=au at s;cases s;have D:=j I;rw[ag]at D;replace D:=b7 D;generalize ab:F I=av at D;cases D;obtain⟨V,b,B,z,G,az,aN,aA,ar⟩:=U.b1;rw[z]at U;have M:=(aR q e N).run_underlying (Q:=a.a);rw[H]at M;have em:=rk y;have u:(aX f k b n (h (.int m w)) (h (.int r A))).run P a.a=.ok (0,w.toNat,A.toNat) a.a:=by simp[aX,run_sliceBound (P:=P) a.a r A b _ y y,run_sliceBound (P:=P) a.a m w A.toNat _ J y]
 have aj:(aX f k b n (h (.int m w)) (h (.int r A))).events P a.a #[]=#[]:=by simp[aX,run_sliceBound (P:=P) a.a r A b _ y y,run_sliceBound (P:=P) a.a m w A.toNat _ J y,lc (P:=P) a.a r A b _ y y,lc (P:=P) a.a m w A.toNat _ J y]
 refine⟨.slice V w.toNat A.toNat,?_,?_,by simp[ac,Z,z,O,ab,Instr.sliceAt,M,Instr.slice,u,aj]⟩
 .simp[ac,Z,z,O,ab,Instr.sliceAt,M,Instr.slice,u,(aR W a4 ah).bb];intro _;rcases V with _|⟨Y,d,sp⟩<;>simp[Addr.add]
 cases U with
 |S Y d ak _ _ _ S R x C=>
  exact Rd.S Y d ak y y E (λe v=>S e y) (λaw=>R y) (λe v w K g=>x e y w K g) (λe v w K g=>C e y w K g)
end
def eZ.hO{i a}{kJ:Nat->m N}{jv}(q:eZ bB i k T B)(r:eZ bB i A kJ jv)(v:a+A<=k):
  eZ bB i k (λb=>if a<=b/\b<a+A then kJ (b-a)else T b) (B.take (a*i)++jv++B.drop (a*i+c jv)):=by
 have D:=q.len;have F:=r.len;have C:a*i+A*i<=k*i:=by rw[<-jD];exact gX i v
 have I:c (B.take (a*i))=a*i:=M;have t:∀j,(B.take (a*i)++jv++B.drop (a*i+c jv))[j]?=if j<a*i then B[j]? else if j<a*i+A*i then jv[j-a*i]? else B[j]?:=by
  intro j;by_cases e:j<a*i
  .grind
  rw[bm e];by_cases s:j<a*i+A*i
  .grind
  rw[bm s,hq M,p5];grind
 refine⟨by grind,λb g=>?_,λb g p u d=>?_⟩
 .by_cases o:a<=b/\b<a+A
  .rw[br o];exact r.bG _ y
  rw[bm o];exact q.bG b g
 rw[t];by_cases o:a<=b/\b<a+A
 .rw[br o]at d;have z:p<i:=by have:=(cO.1 d).1;rw[r.bG _ y]at this;omega
  have w:=gX i o.1;have x:b*i+i<=a*i+A*i:=by rw[<-jD,<-o4];exact gX i o.2
  rw[bm y,br y];obtain⟨K,E,J⟩:=r.rd (b-a) y p u d;grind[Nat.sub_mul]
 rw[bm o]at d;have z:p<i:=by have:=(cO.1 d).1;rw[q.bG b g]at this;omega
 have:b*i+p<a*i∨a*i+A*i<=b*i+p:=by
  by_cases e:b<a
  .left;have:b*i+i<=a*i:=by rw[<-o4];exact gX i e
   omega
  right;have:(a+A)*i<=b*i:=gX i y;grind
 rcases this with e|e
 .rw[br e];exact q.rd b g p _ d
 rw[bm y,bm y];exact q.rd b g p _ d
def Dm{W i j}{s:Nat->m N}{e}(v:Rd b.u aa (.S f j 0 s))(o:ao[d]?=h (.h W i 0 T))(t:e[d]?=h ⟨.slice n 0 0,[]⟩):cx ao {b with l:=e} aa (.R d (.S 0 i 0 0)):=by obtain⟨q,k,B,u,_,_,r,_,_⟩:=v.b1;have:=r a;subst this;refine⟨.slice n 0 0,⟨q,n,0,0,u,by omega,a,by omega,a,λg=>absurd g y⟩,(cO.1 o).1,λp w x kJ g=>?_⟩;rw[o]at g;cases g;exact⟨bC _,λ_=>⟨_,t,a⟩⟩
def dt.jj{a}{T}(j:dt {b with l:=a++[⟨aa,[]⟩]} T)(m:b.l=a):dt b T:=by
 intro i g;have e:=j i g;have key:∀d,(∃L∈a++[(⟨aa,[]⟩:Loc)],d∈L.al)->∃L∈b.l,d∈L.al:=λd ⟨L,o,k⟩=>by grind
 unfold h4 at e⊢;grind
def a0.ia{a4}(C:j4 P t o X W a4){i}{s}{e:Nat->m N}(O:η o=ax (.S f i 0 T))(I:∀b y,bx p b y (η X)->Rd b.u y (.S s a4.size A e))(q:(0+A)*a4.bytes<=140737488355328):
  a0 P t η p (cz (c p) (.S (0+A) a4.size 0 (0+A))) (p++[.h W a4.size (0+A) (ce 0 T e)]):=by intro b u bP j;have g:=j o;rw[O]at g;have k:=I b _ (j X);obtain⟨F,D⟩:=bP.b0 (bX:=.h W a4.size 0 T) (L:=⟨.slice n 0 0,[]⟩) (.refl _ _) rfl bP (.inl ⟨rfl,rfl⟩) E;have B:cx (p++[.h W a4.size 0 T]) {b with l:=b.l++[⟨.slice n 0 0,[]⟩]} (u o) (.R (c p) (.S 0 a4.size 0 0)):=Dm (W:=W) (T:=T) (b7 g) E t';obtain⟨K,r,J,v,x,w,M⟩:=Gh (P:=P) (p:=p++[.h W a4.size 0 T]) (b:={b with l:=b.l++[⟨.slice n 0 0,[]⟩]}) (d:=c p) (T:=T) C F B E k q;have z:(p++[an.h W a4.size 0 T]).set (c p) (.h W a4.size (0+A) (ce 0 T e))=p++[.h W a4.size (0+A) (ce 0 T e)]:=E;rw[z]at v x w;exact⟨K,r,J,v,x,D.trans w,M.jj a⟩
def qK(d e g:Nat)(a:Nat->m N):Nat->m N:=λb=>if d<=b/\b<d+g then a (e+(b-d))else a b
def a0.h'{a4}(aD:j4 P t o X W a4)(bu:η o=cz d (.S k a4.size 0 e))(bw:η X=cz d (.S k a4.size w A))(u:p[d]?=h (.h W a4.size k T))(ab:e+A<=k)(aP:w+A<=k):
  a0 P t η p (cz d (.S k a4.size 0 (e+A))) (p.set d (.h W a4.size k (qK e w A T))):=by
 intro b a8 r aU;obtain⟨b1,t2,b2,bQ,bt,s,au,bb,aN⟩:=aD.op;have aq:=aU o;rw[bu]at aq;change cx p b (a8 o) (.R d _)at aq;have ar:=aU X;rw[bw]at ar;change cx p b (a8 X) (.R d _)at ar;obtain⟨bz,⟨x,bg,i,z,aV,bf,aK,Y,ad,Z⟩,_,bE⟩:=aq;obtain⟨L,D,bd⟩:=(bE _ _ _ _ u).2 rfl;rw[ad]at bd;obtain⟨bO,⟨q,bG,aB,bH,aW,bX,bn,bo,av,bp⟩,_,aA⟩:=ar;obtain⟨bT,V,H⟩:=(aA _ _ _ _ u).2 rfl;rw[D]at V;cases V;rw[av,bd]at H;cases H;have aF:=b9 D;have az:=s.run_underlying (Q:=b.a);have a':=bb.run_underlying (Q:=b.a);rw[au]at az;rw[aN]at a';rw[ld bt,aV,aW];by_cases aQ:k=0
 .have ao:e=0:=y;have bk:A=0:=y;subst aQ ao bk;have ax:p.set d (.h W a4.size 0 (qK 0 w 0 T))=p:=by
   have:qK 0 w 0 T=T:=by funext bc;exact cQ
   rw[this];exact mY
  have aX:Rd b.u (.slice q 0 aB) (.S l a4.size 0 λ_=>[]):=.S 0 0 (λ_ _=>K) y y E (λe s=>by omega) (λaD=>by omega) (λe s=>by omega) (λe s=>by omega);have bD:=y2 (P:=P) (ty:=t.type) s au bb aN aD.elem r (x:=x) bf aX;rw[ax];refine⟨.value (.slice x 0 i),b,?_,?_,r,.refl _ _,jj (x0 s au bb aN aD.elem r bf aX)⟩
  .simp[bD]
  exact⟨bz,⟨x,bg,i,z,a,bf,aK,Y,ad,Z⟩,(cO.1 u).1,bE⟩
 rcases r.box d _ L u D with⟨an,_⟩|⟨j,ak,B,ai,rfl,C,aZ,a1,a2,ah,aG⟩
 .grind
 cases bd;have bV:0<i:=y;obtain⟨bY,ao,rfl⟩:=Z bV;cases ao;have aM:z=i:=y;subst aM;rw[show j=j from a];have bN:=ah.len;have bx:e+A<=z:=y;have bJ:e*a4.size+A*a4.size<=k*a4.size:=by rw[<-jD];exact gX _ ab
 have bK:w*a4.size+A*a4.size<=k*a4.size:=by rw[<-jD];exact gX _ aP
 obtain⟨ak,bj⟩:=r.fw (j:=j) (B:=B) aG (λbc aE G=>by
  simp[aL,C]
  grind)
 let m:=(B.drop (w*a4.size)).take (A*a4.size);have aS:c m=A*a4.size:=M;have aR:∀g,g<A*a4.size->m[g]?=B[w*a4.size+g]?:=λg I=>by grind
 have S:eZ b.u a4.size A (λbc=>T (w+bc)) m:=by
  refine⟨aS,λbc G=>ah.bG _ y,λbc G g bh I=>?_⟩;have bM:g<a4.size:=by have:=(cO.1 I).1;rw[ah.bG _ y]at this;omega
  obtain⟨aE,R,F⟩:=ah.rd (w+bc) y g bh I;refine⟨aE,?_,F⟩;exact P2
 have bP:=S.cell;have ag:Rd (λv bc=>if v=j then B[bc]? else b.u v bc) (.slice q A aB) (.S l a4.size A (ni a4.size λbc g=>B.getD ((w+bc)*a4.size+g) K)):=by
  refine .S j (w*a4.size) (λbc g=>B.getD ((w+bc)*a4.size+g) K) bX y E (λbc _=>by simp[ni]) (λI=>M) (λbc G g bh I=>?_) (λbc G g bh I=>?_)
  .obtain⟨a3,_⟩:=s3 I;exact P2
  obtain⟨a3,rfl⟩:=s3 I;obtain⟨aj,aI⟩:∃aj,(T (w+bc))[g]?=h aj:=⟨_,bI (by rw[ah.bG _ y];exact a3)⟩
  obtain⟨aE,R,F⟩:=ah.rd (w+bc) y g aj aI;have an:B.getD ((w+bc)*a4.size+g) K=aE:=M;rw[an];exact .val F.cell
 obtain⟨O,bF,J,bs⟩:=oI (P:=P) (b:={b with u:=λv bc=>if v=j then B[bc]? else b.u v bc}) ak ag;have aT:O=m:=by
  apply p';intro g;have bL:=bF.len;by_cases I:g<A*a4.size
  .have bU:0<a4.size:=M;have G:g / a4.size<A:=sr M;have ae:=ux g a4.size;obtain⟨aE,R,F⟩:=bF.rd _ G (g % a4.size) _ (Ct (p6 _ bU));rw[ae]at R;rw[R,aR g I,Rd.bd F];rw[jD,Nat.add_assoc,ae,al,bI y];rfl
  grind
 subst aT;have aO:=sZ (P:=P) (b:={b with u:=λv bc=>if v=j then B[bc]? else b.u v bc}) ak ag (Q:=b.a) rfl;replace J:(Builtin.firstCells a4.size A (.slice q A aB)).run P b.a=.ok m.toArray b.a:=J;have br:e*a4.size+c m<=c (B++ai):=M;have N:=run_storeCells_at P j (e*a4.size) W m 0 (B++ai).toArray b.a C M bP;simp only[j']at N;have aw:((B++ai).toArray.toList.take (e*a4.size)++m++(B++ai).toArray.toList.drop (e*a4.size+c m))=B.take (e*a4.size)++m++B.drop (e*a4.size+c m)++ai:=M;rw[aw]at N;have a5:=ah.hO S ab;have bq:(λbc=>if e<=bc/\bc<e+A then(λbc=>T (w+bc)) (bc-e)else T bc)=qK e w A T:=rfl;rw[bq]at a5;obtain⟨bB,a6⟩:=r.gz u D aZ a1 a2 C a5 M aG;have bR:(Builtin.lenOf (.slice q A aB)).run P b.a=.ok A b.a:=cQ;have bW:(Builtin.lenOf (.slice q A aB)).events P b.a #[]=#[]:=cQ;refine⟨.value (.slice (h ⟨j,0*a4.size,n⟩) (e+A) z),_,?_,?_,bB,a6,jj ?_⟩
 .have bD:(Builtin.append_ #[b1,t2] t.type #[.slice (h ⟨j,0*a4.size,n⟩) e z,.slice q A aB]).run P b.a=.ok (.slice (h ⟨j,0*a4.size,n⟩) (e+A) z) (b.a.setRow j (B.take (e*a4.size)++m++B.drop (e*a4.size+c m)++ai).toArray):=by unfold Builtin.append_;simp[j7,m8,n2,cH,az,a',c1,aD.elem.bb,d8,j9,dh,bR,bx,dH,ip,J,gN,Nat.zero_mul,cV,N]
  grind[Go.Sem.run_bind,Go.Result.andThen_ok,Go.Sem.run_pure]
 .exact⟨.slice (h ⟨j,0,n⟩) 0 z,⟨_,_,z,z,a,bx,by omega,Y,a,λ_=>⟨j,a,a⟩⟩,by grind,λbS bZ b0 kJ aa=>by rw[im (cO.1 u).1]at aa;cases aa;exact⟨bC _,λ_=>⟨_,D,a⟩⟩⟩
 .intro an a_;unfold Builtin.append_ at a_;simp[j7,m8,n2,aH,cH,az,a',aJ,aD.elem.bb,d8,j9,dh,bR,bW,bx,dH,ip,J,gN,Nat.zero_mul,cV,N,
   sE,Sem.events_ite,events_underlying,events_sizeOf,Sem.events_pure]at a_
  rcases nh m 0 (B++ai).toArray b.a _ C M bP an a_ with bl|⟨g,_,_,rfl⟩
  .have bm:dt {b with u:=λv bc=>if v=j then B[bc]? else b.u v bc} #[an]:=dt.aq (tz (aO an bl));exact bm.gG (j:=j) aF E bj (λv bc aE aV=>by grind) an E
  grind[og]
section
variable {ad:m (Nat×bv)}
theorem a0.slice3B(aR:bn P ad){Q D}(M:t.op=.slice q o (h Q) (h X) (h D)){E a4}(z:bZ ad q=h E)(H:E.desc=.slice W)(S:bZ ad W=h a4){C i ah}{aa b s}{e w A}(V:η o=cz d (.S C i ah k))(T:η Q=ax (.int aa e))(U:η X=ax (.int b w))(R:η D=ax (.int s A))(au:0<=e)(Z:e<=w)(ab:w<=A)(av:A<=k):a0 P t η p (.n (.aq .any)) p:=by
 refine .aZ λg r ae m=>?_;have I:=m o;rw[V]at I;change cx p g (r o) (.R d _)at I;obtain⟨ag,⟨K,Y,j,aw,G,ar,an,aq,ao,L⟩,_,_⟩:=I;have B:=m Q;rw[T]at B;replace B:=b7 B;generalize O:r Q=ai at B;cases B;have u:=m X;rw[U]at u;replace u:=b7 u;generalize N:r X=aj at u;cases u;have v:=m D;rw[R]at v;replace v:=b7 v;generalize J:r D=ak at v;cases v;have F:=(aR q E z).run_underlying (Q:=g.a);rw[H]at F;have x:(aX f k j (h (.int aa e)) (h (.int b w)) (h (.int s A))).run P g.a=.ok (e.toNat,w.toNat,A.toNat) g.a:=by simp[aX,run_sliceBound (P:=P) g.a s A j _ y y,run_sliceBound (P:=P) g.a b w A.toNat _ y y,run_sliceBound (P:=P) g.a aa e w.toNat _ y y]
 have aN:(aX f k j (h (.int aa e)) (h (.int b w)) (h (.int s A))).events P g.a #[]=#[]:=by
  simp[aX,run_sliceBound (P:=P) g.a s A j _ y y,run_sliceBound (P:=P) g.a b w A.toNat _ y y,run_sliceBound (P:=P) g.a aa e w.toNat _ y y,
   lc (P:=P) g.a s A j _ y y,lc (P:=P) g.a b w A.toNat _ y y,lc (P:=P) g.a aa e w.toNat _ y y]
 refine⟨.slice (if A.toNat=e.toNat then K else K.map (·.add (e.toNat*a4.size))) (w.toNat-e.toNat) (A.toNat-e.toNat),?_,a,by simp[ac,M,G,O,N,J,Instr.sliceAt,F,Instr.slice,x,aN]⟩;simp[ac,M,G,O,N,J,Instr.sliceAt,F,Instr.slice,x,(aR W a4 S).bb]
end
section drop
variable {aM bs:m an}
def a5.cut(a:a5)(b:Nat):a5:={a with l:=a.l.take b}
def cx.drop{g}(e:cx (aM++bs) b aa g)(i:lY (c aM) g=f):cx aM (b.cut (c aM)) aa g:=by
 have lt:∀{d:Nat},ay (d+1) (c aM)=f->d<c aM:=λr=>fc r;cases g with
 |c w=>exact e
 |any=>exact e
 |ptr d u=>
  have gE:=lt i;obtain⟨a,L,p,k,ae⟩:=e;refine⟨λj m=>a j M,L,p,?_,ae⟩;simp[a5.cut,io,gE,dH];exact k
 |aR d=>
  have gE:=lt i;obtain⟨a,L,k,ae⟩:=e;refine⟨λj m=>a j M,L,?_,ae⟩;simp[a5.cut,io,gE,dH];exact k
 |R d v=>
  have gE:=lt i;obtain⟨o,a,_,ae⟩:=e;refine⟨o,a,gE,λW gb Dl dI m=>?_⟩;exact Pp
 |r d s t q=>
  have gE:=lt i;obtain⟨a,_,ae⟩:=e;refine⟨a,gE,λW gb Dl dI m=>?_⟩;exact Pp
def bN.cH:∀{B:m Z}{a:m O},bN (aM++bs) b B a->lj (c aM) a=f->bN aM (b.cut (c aM)) B a
 |[],[],_,_=>trivial
 |[],_::_,d,_=>d.elim
 |_::_,[],d,_=>d.elim
 |j::B,i::a,d,e=>by
  simp[lj]at e;cases g:lY (c aM) i with
  |false=>grind
  |true=>simp[g]at e;exact⟨d.1.drop g,bN.cH d.2 e⟩
def et.cH{aa}{a}(i:et (aM++bs) b aa a)(g:pp (c aM) a=f):et aM (b.cut (c aM)) aa a:=by
 cases a with
 |aq k=>exact cx.drop i g
 |agg j=>obtain⟨B,d,e⟩:=i;exact⟨B,d,bN.cH e g⟩
def eS.cH:∀{B:m Z}{a:m E1},eS (aM++bs) b B a->ou (c aM) a=f->eS aM (b.cut (c aM)) B a
 |[],[],_,_=>trivial
 |[],_::_,d,_=>d.elim
 |_::_,[],d,_=>d.elim
 |j::B,i::a,d,e=>by
  simp[ou]at e;cases g:pp (c aM) i with
  |false=>grind
  |true=>simp[g]at e;exact⟨et.cH d.1 g,eS.cH d.2 e⟩
def bx.drop{a}(i:bx (aM++bs) b aa a)(g:hM (c aM) a=f):bx aM (b.cut (c aM)) aa a:=by
 cases a with
 |n k=>exact et.cH i g
 |Q j=>obtain⟨B,d,e⟩:=i;exact⟨B,d,eS.cH e g⟩
 |any=>trivial
def dc.drop{d}{i}(a:dc d i (aM++bs) b)(t:d.length<=c aM):dc d i aM (b.cut (c aM)):=by refine⟨a.size,a.a6,a.mem,a.bE,λL m s p=>a.bT L (hf m) s p,?_,a.os,a.tape,a.output,a.own⟩;intro q r L aE m;obtain⟨j,k,e,o,u⟩:=a.box q r L aE m;have g:q<c aM:=eA (cO.1 aE).1 t;rw[kA g]at e;exact⟨j,k,e,by simp[a5.cut,io,g,dH];exact o,u⟩
def cx.cE{g}(k:c b.l=c p)(e:cx p b aa g):lY (c p) g=f:=by
 have ok:∀{a:Nat},a<c p->ay (a+1) (c p)=f:=λd=>Aq d;have lt:∀{a:Nat} {L:Loc},b.l[a]?=h L->a<c p:=λd=>by grind
 cases g with
 |c u=>rfl
 |any=>rfl
 |ptr a s=>obtain⟨_,L,o,i,_⟩:=e;exact ok (lt i)
 |aR a=>obtain⟨_,L,i,_⟩:=e;exact ok (lt i)
 |R a t=>obtain⟨m,_,d,_⟩:=e;exact ok d
 |r a q r j=>exact ok e.2.1
def bN.cE{p}(e:c b.l=c p):∀{B:m Z}{a:m O},bN p b B a->lj (c p) a=f
 |[],[],_=>rfl
 |[],_::_,d=>d.elim
 |_::_,[],d=>d.elim
 |i::B,g::a,d=>by simp[lj,d.1.cE e];exact bN.cE e d.2
def et.cE{p}(a:c b.l=c p){aa}{d}(e:et p b aa d):pp (c p) d=f:=by
 cases d with
 |aq j=>exact cx.cE a e
 |agg g=>obtain⟨B,_,i⟩:=e;exact bN.cE a i
def eS.cE{p}(e:c b.l=c p):∀{B:m Z}{a:m E1},eS p b B a->ou (c p) a=f
 |[],[],_=>rfl
 |[],_::_,d=>d.elim
 |_::_,[],d=>d.elim
 |i::B,g::a,d=>by simp[ou,et.cE e d.1];exact eS.cE e d.2
def bx.cE{p}(a:c b.l=c p){aa}{d}(e:bx p b aa d):hM (c p) d=f:=by
 cases d with
 |n j=>exact et.cE a e
 |Q i=>obtain⟨B,_,g⟩:=e;exact eS.cE a g
 |any=>rfl
def z_(p:Nat)(d:m an)(o:Nat)(b:an):Prop:=(∃i a,b=.cells i a/\lj p a=f)∨d[o]?=h b∨(∃g e j k,b=.loop g e j/\d[o]?=h (.loop g e k))∨((∀i a,b≠.cells i a)/\∀g e j,b≠.loop g e j)
def bb.gX{w}{g}(r:bb g w)(x:g.length=c aM)(O:∀d(s:an),aM[d]?=h s->z_ (c aM) g d s)(u:bb (aM++bs) b):bb aM (b.cut (c aM)):=by
 have E:c aM<=c b.l:=ES;refine⟨u.mem,by simp[a5.cut,E],?_,?_,?_,λi a=>⟨(u.own i a).1,λL e=>(u.own i a).2 L (hf e)⟩⟩
 .intro d s L aE e;have K:d<c aM:=(cO.1 aE).1;simp[a5.cut,io,K,dH]at e;have q:=u.box d s L M e;have y:∃z,w.l[d]?=h z:=⟨_,bI (by rw[r.len,x];exact K)⟩
  obtain⟨z,y⟩:=y;have aa:=r.len.trans x;cases s with
  |cells J S=>
   obtain⟨i,B,k,m,I,F⟩:=q;refine⟨i,B,k,m,bN.cH I ?_,F⟩;rcases O d _ aE with⟨_,_,t,j⟩|j|⟨_,_,_,_,t,_⟩|j
   .grind
   .obtain⟨_,_,_,_,Y,_⟩:=r.box d _ z j y;exact x▸Y.cE r.len
   .cases t
   grind
  |r J T U D=>exact q
  |J H=>exact q
  |x=>trivial
  |loop R Q Z=>
   obtain⟨o,tmps,fn,W,k,m,I,F,X⟩:=q;have key:∃p,g[d]?=h (.loop R Q p):=by
    rcases O d _ aE with⟨_,_,t,_⟩|j|⟨_,_,_,p,t,j⟩|j
    .cases t
    .grind
    .grind
    grind
   obtain⟨p,j⟩:=key;obtain⟨_,_,_,_,_,_,_,V,_⟩:=r.box d _ z j y;exact⟨o,tmps,fn,W,k,m,I,λN=>(F N).drop (x▸(V N).cE r.len),X⟩
  |bn=>exact q
  |h J T U D=>exact q
 .intro d o L A e C i a v;simp only[a5.cut,io]at e C;split at e<;>split at C<;>first|exact u.a3 d o L A e C i a v|grind|grind
 intro L e i a;exact u.lt L (hf e) i a
def bb.iJ{e}(g:bb aM e)(d:bb (aM++bs) b):bb aM (b.cut (c aM)):=g.gX a (λ_ _ d=>.inr (.inl d)) d
def aV.e0{v:aj P}{i}(m:aV v D all t F p (.n (.aq (.r (c p) i k T))) (p++[.r W i k T])):aV v D all t F p (ax (.S l i k T)) p:=by
 intro E y A g w s j x C d a q o;refine m E y A g w s j x C d a q λI e r b u=>?_;have B:eW e (e.cut (c p)):=⟨rfl,λ_ _ _ m=>m,λ_ _ _=>rfl,b.mem,λw a=>a.imp id λ⟨L,z,a⟩=>⟨L,hf z,a⟩⟩
 exact .aU B (o I (e.cut (c p)) r.1 (g.iJ b) (u.drop (bC _)))
end drop
end Go.AM
