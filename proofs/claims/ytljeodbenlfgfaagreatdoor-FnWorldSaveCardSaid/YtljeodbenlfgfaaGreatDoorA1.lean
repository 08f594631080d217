/- Part 1. No condition. -/
import Derived.KernelRfl
import Derived.Tactics2
import Derived.LaidSub
import Derived.LaidLaws
import Derived.LaidHandle
import Derived.Conc.Own
import Derived.Conc.Events
import Derived.Conc.Listed
import Derived.Laws.CopyRow
import Derived.Laws.AppendOwn
import Derived.Laws.Rows
import Derived.Laws.Strings
import Derived.Laws.Cells
import Derived.Lib.Strings
import Derived.Laws.Slices
import Derived.Orders
import Derived.Laws.StructEq
set_option linter.all false
set_option maxHeartbeats 8000000
open Go.Conc (G)
open List renaming length → c, range → aA, replicate → aX, getD_eq_getElem?_getD → ak
open Go renaming Value → Y, TypeId → ao, Event → aR, undef → I, World → au, Frame → aJ, FuncId → a2, execOp → ab, Operand → ae, Program → aE, Goroutine → ai, stepG → ar, Oper → ap
open Option renaming some → f, none → n
open Bool renaming true → l, false → u
open Nat renaming beq → ad, ble → ay
open Go.Region renaming wanted → aS, ready → aQ
open Go.World renaming cell? → aL
open Go.Op renaming bytesLess → aU, equalIn → aO
open Go.Sem renaming events_bind → aD
open Go.Result renaming evThen_ok → aG
open Go.Instr renaming sliceBounds → aW
set_option linter.defProp false
set_option linter.deprecated false
namespace Go
def v:=@_root_.trivial
def bw:=@_root_.decide_eq_true_eq
def bF:=@_root_.List.getElem?_eq_getElem
def a_:=@_root_.and_true
def a':=@_root_.true_and
def b':=@_root_.List.mem_of_getElem?
def dp:=@_root_.decide_eq_false_iff_not
def cO:=@_root_.List.getElem?_eq_some_iff
def dn:=@_root_.Nat.eq_of_beq_eq_true
def c5:=@_root_.Int.toNat_natCast
def bB:=@_root_.Nat.le_refl
def cl:=@_root_.Bool.and_eq_true
def dk:=@_root_.List.length_append
def c8:=@_root_.Go.Result.andThen_ok
def cW:=@_root_.Nat.zero_add
def c9:=@_root_.List.take_length
def bl:=@_root_.if_neg
def bo:=@_root_.if_pos
def cJ:=@_root_.Go.Sem.run_bind
def hu:=@_root_.Array.getD_eq_getD_getElem?
def eY:=@_root_.beq_eq_false_iff_ne
def gJ:=@_root_.List.length_singleton
def eH:=@_root_.Nat.lt_of_lt_of_le
def fl:=@_root_.Nat.le_of_ble_eq_true
def g6:=@_root_.List.getElem_of_mem
def e4:=@_root_.Option.some.injEq
def hn:=@_root_.List.getElem?_append_right
def fw:=@_root_.List.length_cons
def fm:=@_root_.Bool.not_true
def f':=@_root_.beq_self_eq_true
def g7:=@_root_.Nat.mul_le_mul_right
def jD:=@_root_.List.eq_nil_of_length_eq_zero
def dZ:=@_root_.Go.Sem.run_pure
def dW:=@_root_.Nat.lt_or_ge
def iE:=@_root_.Array.getElem?_eq_getElem
def g0:=@_root_.List.mem_of_mem_take
def fo:=@_root_.decide_eq_true
def ip:=@_root_.List.getElem?_set_self
def gK:=@_root_.List.mem_singleton
def fC:=@_root_.List.mem_append
def jb:=@_root_.Array.getElem?_eq_some_iff
def hv:=@_root_.not_true_eq_false
def fa:=@_root_.List.mem_cons
def dm:=@_root_.if_false
def m7:=@_root_.List.pairwise_iff_getElem
def gL:=@_root_.List.length_nil
def fx:=@_root_.Bool.true_and
def iF:=@_root_.List.pairwise_cons
def h4:=@_root_.bne_self_eq_false
def j5:=@_root_.List.getElem?_append_left
def iq:=@_root_.List.getElem?_take
def hK:=@_root_.Bool.not_false
def ir:=@_root_.List.mem_cons_self
def fR:=@_root_.Nat.le_trans
def jc:=@_root_.Bool.not_eq_true'
def h5:=@_root_.Option.getD_some
def dH:=@_root_.if_true
def hL:=@_root_.List.append_nil
def uA:=@_root_.List.take_append_drop
def j6:=@_root_.List.getElem?_toArray
def p':=@_root_.List.ext_getElem?
def kA:=@_root_.List.length_filter_le
def gM:=@_root_.beq_iff_eq
def eC:=@_root_.congrArg
def kB:=@_root_.List.getElem?_set_ne
def uB:=@_root_.List.findIdx?_eq_some_iff_getElem
def j7:=@_root_.Bool.false_eq_true
def iG:=@_root_.Nat.not_lt_zero
def iH:=@_root_.List.foldl_cons
def mf:=@_root_.List.getElem?_cons_zero
def ho:=@_root_.List.mem_map
def g1:=@_root_.Nat.zero_le
def jd:=@_root_.List.mem_filter
def jE:=@_root_.Bool.or_eq_true
def kC:=@_root_.List.length_map
def m8:=@_root_.Array.length_toList
def mg:=@_root_.List.mem_cons_of_mem
def w_:=@_root_.Array.getElem?_replicate
def w':=@_root_.List.take_add_one
def n3:=@_root_.List.getElem?_cons_succ
def je:=@_root_.bne_iff_ne
def k2:=@_root_.decide_eq_false
def m9:=@_root_.List.pairwise_append
def AX:=@_root_.List.mem_iff_getElem
def mh:=@_root_.List.append_assoc
def sz:=@_root_.Nat.beq_refl
def d6:=@_root_.ne_eq
def lB:=@_root_.decide_true
def lC:=@_root_.Option.map_some
def jF:=@_root_.Nat.add_mul
def qa:=@_root_.List.map_congr_left
def qb:=@_root_.not_false_eq_true
def j8:=@_root_.Nat.add_zero
def m_:=@_root_.List.getElem?_map
def uC:=@_root_.Array.getElem?_setIfInBounds_self_of_lt
def sA:=@_root_.Array.getElem?_setIfInBounds_ne
def n4:=@_root_.Nat.eq_zero_or_pos
def xa:=@_root_.Array.toArray_toList
def xb:=@_root_.Array.mapM_eq_mapM_toList
def lD:=@_root_.Prod.mk.injEq
def n0:=@_root_.Option.bind_some
def p4:=@_root_.List.mem_of_mem_drop
def me:=@_root_.List.map_cons
def n1:=@_root_.decide_false
def rg:=@_root_.Option.map_eq_some_iff
def o2:=@_root_.List.getElem?_set
def p5:=@_root_.Nat.add_sub_cancel
def p6:=@_root_.List.getElem?_drop
def AG:=@_root_.Option.isSome_iff_exists
def o3:=@_root_.Nat.succ_mul
def p7:=@_root_.Nat.mod_lt
def o4:=@_root_.Bool.eq_iff_iff
def sj:=@_root_.List.filter_eq_self
def rh:=@_root_.Int.toNat_of_nonneg
def p8:=@_root_.Bool.not_eq_true
def o5:=@_root_.List.mapM_cons
def AH:=@_root_.Bool.and_eq_false_iff
def R8:=@_root_.List.drop_eq_getElem_cons
def p9:=@_root_.List.nil_append
def sk:=@_root_.List.length_set
def sl:=@_root_.Nat.div_lt_of_lt_mul
def ri:=@_root_.List.pairwise_map
def us:=@_root_.Nat.le_mul_of_pos_right
def rj:=@_root_.List.mem_range
def rk:=@_root_.List.mem_flatMap
def sm:=@_root_.List.length_drop
def rl:=@_root_.List.ext_getElem
def lA:=@_root_.true_or
def sn:=@_root_.Int.emod_lt_of_pos
def AI:=@_root_.Bool.not_eq_false'
def ut:=@_root_.UInt8.toNat_inj
def AJ:=@_root_.Nat.ble_eq_true_of_le
def wV:=@_root_.List.getElem?_concat_length
def so:=@_root_.List.flatMap_cons
def n2:=@_root_.Nat.not_lt
def sq:=@_root_.Nat.sub_zero
def uu:=@_root_.Nat.div_add_mod'
def sr:=@_root_.List.not_mem_nil
def ss:=@_root_.List.filter_cons
def su:=@_root_.List.drop_length
def wW:=@_root_.List.mem_of_find?_eq_some
def Gq:=@_root_.bne_eq_false_iff_eq
def wX:=@_root_.Nat.lt_succ_iff_lt_or_eq
def sv:=@_root_.Int.emod_nonneg
def uv:=@_root_.List.find?_eq_none
def uw:=@_root_.of_decide_eq_true
def Gr:=@_root_.List.take_of_length_le
def wY:=@_root_.List.range_succ_eq_map
def ux:=@_root_.List.foldl_append
def sw:=@_root_.Bool.false_and
def wZ:=@_root_.List.getElem?_eq_none
def w0:=@_root_.Array.mem_of_getElem?
def R9:=@_root_.List.find?_eq_some_iff_getElem
def uy:=@_root_.List.cons_append
def w5:=@_root_.Bool.or_eq_false_iff
def w6:=@_root_.Nat.mul_le_mul_left
def sx:=@_root_.Nat.sub_self
def Gs:=@_root_.List.length_eraseIdx_of_lt
def AK:=@_root_.List.mem_or_eq_of_mem_set
def AL:=@_root_.List.findIdx?_eq_none_iff
def Gt:=@_root_.List.set_eq_of_length_le
def sy:=@_root_.Go.Sem.run_ite
def AN:=@_root_.Nat.add_sub_cancel_left
def w7:=@_root_.List.getElem_mem
def uz:=@_root_.List.map_map
def Gu:=@_root_.List.drop_eq_nil_of_le
def AO:=@_root_.Array.getElem?_eq_none
def w8:=@_root_.Option.some.inj
def AP:=@_root_.List.contains_iff_mem
def Gv:=@_root_.Array.getElem?_toList
def AQ:=@_root_.Array.getElem?_modify
def AR:=@_root_.Nat.pow_le_pow_right
def AS:=@_root_.List.mem_append_left
def AT:=@_root_.List.getElem?_of_mem
def p_:=@_root_.Ne.symm
def AU:=@_root_.Nat.add_sub_cancel'
def AV:=@_root_.List.length_pos_iff
def w9:=@_root_.Nat.lt_irrefl
def AW:=@_root_.List.take_set
def bn{α:Sort _}{β:α→Sort _}{al:(C:α)→β C}:∀C,al C=al C:=λ_=>rfl
def a{α:Sort _}{w:α}:w=w:=rfl
section
variable{S:Prop}
abbrev m.{bz}(α:Type bz):=List α
def x(s:S:=by omega):=s
def N(s:S:=by grind):=s
def E(s:S:=by simp):=s
def bT(s:S:=by simp;omega):=s
def bU(s:S:=by kernel_rfl):=s
def ca(s:S:=by decide):=s
def du(s:S:=by simp_all):=s
def ii(s:S:=by grind[ih]):=s
def h2(s:S:=by rw[bO.len];grind):=s
def sd(s:S:=by simp only[T,a8,bw,a',a_];and_intros<;>omega):=s
def lv(s:S:=by simp[a8]):=s
def qX(s:S:=by simp[G,ar,stepG.exec,Frame.N]):=s
def l6(s:S:=by simp only[phi];omega):=s
def tT(s:S:=by simp only[T,a8,a',a_];omega):=s
def N_(s:S:=by have h:C.data.toList.length=C.size:=m8;have t:bI.data.toList.length=bI.size:=m8;have aj:IntKind.i64.max=9223372036854775807:=rfl;have B:C.data.toList.length+bI.data.toList.length<=9223372036854775807:=cz;grind):=s
def mW(s:S:=by simp only[a8];omega):=s
def gY(s:S:=by simp[s]):=s
def q2(s:S:=by simp only[T,a_];omega):=s
def mX(s:S:=by apply p';grind):=s
def Fl(s:S:=by show(aO (9999+1) o _ _).run P b.a=_;unfold aO;simp[underlying,B]):=s
def Fx(s:S:=by simp[bW,B,j,h,d,al,a3.T,bh.T,a1.T,aC.T,z];omega):=s
def wF(s:S:=by simp only[bV,c5];omega):=s
def aez(s:S:=by rw[w];simp only[jq,AH,dp];omega):=s
def kT(s:S:=by simp[bW]):=s
def tX(s:S:=by rw[<-aV];decide +kernel):=s
def pR(s:S:=by grind[pI]):=s
def wG(s:S:=by grind[List.getElem_of_mem]):=s
def q3(s:S:=by cases he):=s
def q4(s:S:=by rw[cW];rfl):=s
def z9(s:S:=by grind[Mh]):=s
def tY(s:S:=by simp only[T,a8];omega):=s
def z_(s:S:=by simp[a3.l,bh.l,a1.l,aC.l]):=s
def FU(s:S:=by rw[<-touchAt_old (u:=bz) (eH bp s.bI)];exact j):=s
def FV(s:S:=by rw[<-touchAt_old (u:=bz) (eH bp s.bI)];exact h):=s
def FW(s:S:=by grind[Ek]):=s
def Ql(s:S:=by simp[-aY,-List.all_eq_false,bW,i,q,w,a3.T,bh.T,a1.T,al,aj,B]):=s
def z'(s:S:=by intro y aV aeB;grind[wi,nJ]):=s
def QG(s:S:=by show(aO (9999+1) o _ _).run P b.a=_;unfold aO;simp[underlying,j]):=s
def nO(s:S:=by simp;rfl):=s
def Q1(s:S:=by rw[Gv,iE (by omega:e<L.size)];simpa[hu,iE (by omega:e<L.size)]using H):=s
def tZ(s:S:=by grind[ka]):=s
def Rl(s:S:=by refine X.I Tryz.func316 rfl λw=>?_;exact cy rfl (by simp[a8]) (g.aw rfl)):=s
def Ro(s:S:=by simp only[ab,s];exact dC.bind dC.buildSlice (λ_=>dC.pure) _ _):=s
def FX(s:S:=by simp[G,ar,stepG.exec,Frame.N,s]):=s
def Rp(s:S:=by intro hT aj q;match hT,q with|0,_=>exact .inr (by simp[deafBehind])|hT+1,q=>grind):=s
def oS(s:S:=by rfl):=s
def t0(s:S:=by simp[<-bO.len]):=s
def Rq(s:S:=by unfold hi;rw[mh];congr 1;rw[ih (by grind) (0,0)];grind):=s
def oT(s:S:=by simp[w]):=s
def FY(s:S:=by simp only[hu];grind):=s
def Rr(s:S:=by show -9223372036854775808<=_/\_<=9223372036854775807;unfold lq;omega):=s
def Rs(s:S:=by simp[ab,cz,resolve,invoke,builtin,Builtin.len_,al,z,goInt,B]):=s
def Aa(s:S:=by simp only[ds,sz]):=s
def Rt(s:S:=by unfold gh;rw[<-qQ (d9 C.2)];exact H' _):=s
def FZ(s:S:=by grind[List.drop_eq_getElem_cons]):=s
def Ru(s:S:=by grind[Array.mapM_eq_mapM_toList,Sem.run_map,Go.Result.andThen_ok]):=s
def Rv(s:S:=by rw[show((b.2.1.length:Int)-1).toNat=b.2.1.length-1 by omega];rfl):=s
def F0(s:S:=by simp only[T,a8,a_];omega):=s
def F1(s:S:=by rw[<-o3];exact g7 _ bp):=s
def sb(s:S:=by grind[nF]):=s
def wH(s:S:=by grind[mx]):=s
def Ab(s:S:=by simp[World.freeze,al]):=s
def F2(s:S:=by simp[bW,a1.l,a1.T]):=s
def t1(s:S:=by simp[bs,aj]):=s
def t_(s:S:=by grind[Nat.eq_of_beq_eq_true]):=s
def F3(s:S:=by grind[List.take_append_drop]):=s
def Ac(s:S:=by show _*24<=_;omega):=s
def wI(s:S:=by simpa using s):=s
def Ad(s:S:=by unfold mH;grind):=s
def F4(s:S:=by simp[hH,i4,ny,jx]):=s
def F5(s:S:=by unfold jo;split<;>omega):=s
def Rw(s:S:=by simp[bW,bI,aa,eK,a3.T,bh.T,a1.T,ba]):=s
def Rx(s:S:=by simp only[T,a8,a',a_];and_intros<;>omega):=s
def F6(s:S:=by simp[bs]):=s
def Ry(s:S:=by intro aj q;simp at q;subst q;exact bk_cell _ _ rfl):=s
def Ae(s:S:=by simp[aj]):=s
def sc(s:S:=by simp[K]):=s
def F7(s:S:=by rw[Op.bytesLess.eq_def]):=s
def Rz(s:S:=by simp[n7,e,bx.l,bx.T,r5,aa]):=s
def RA(s:S:=by rw[<-h.bz i (λL W eK=>q ⟨L,W,eK⟩)];exact bd):=s
def Af(s:S:=by simpa using iJ):=s
def t'(s:S:=by simp[jJ]):=s
def RB(s:S:=by simp only[T,a8,fm,a',a_];omega):=s
def Ag(s:S:=by cases op<;>rfl):=s
def RC(s:S:=by simp[ab,cz,resolve,invoke,builtin]):=s
def wJ(s:S:=by simp[bV]):=s
def RD(s:S:=by simp only[T,a8,dp,a',a_];omega):=s
def RE(s:S:=by simp only[T,a8,bw,a',a_];omega):=s
def RF(s:S:=by rw[show IntKind.u64.bits=64 from rfl];omega):=s
def F8(s:S:=by rw[q];simp):=s
def RG(s:S:=by unfold cv;grind[List.take_append_drop]):=s
def RH(s:S:=by simp[ab,s,resolve,invoke,builtin]):=s
def RI(s:S:=by unfold dF;grind[List.take_append_drop]):=s
def F9(s:S:=by unfold fe;grind):=s
def Ah(s:S:=by simp[fq]):=s
def RJ(s:S:=by simp only[look];cases ad bz o<;>rfl):=s
def RK(s:S:=by simp only[T.X,T,j,t,f',a']):=s
def F_(s:S:=by rw[cH.aj.size];omega):=s
def Ai(s:S:=by cases t<;>rfl):=s
def F'(s:S:=by simp only[c_,i]):=s
def NN(s:S:=by simp only[T.X,T,aj,a',a_]):=s
def NO(s:S:=by show(b.a.drew.heap.push _).size=_;simp):=s
def NP(s:S:=by rw[Gs (by simp;omega)];simp;omega):=s
def NQ(s:S:=by have:=Le eb;simp only[a8];omega):=s
def E9(s:S:=by unfold dq;omega):=s
def E_(s:S:=by simp[Act.eval,stA]):=s
def E'(s:S:=by simp only[ds,dr]):=s
def Fa(s:S:=by simp only[ds,cQ]):=s
def NR(s:S:=by have:=Vc_upd y (⟨1,0,1⟩:WD) hc;grind):=s
def wu(s:S:=by simp[mk]):=s
def NS(s:S:=by simp only[fz,jE,bw];grind):=s
def wv(s:S:=by rw[upd_same];simp):=s
def NT(s:S:=by simp[World.shape?,ba.heap _ _ ba.cQ]):=s
def NU(s:S:=by simp[Frame.enter,Frame.N,rG,cU,i]):=s
def NV(s:S:=by simp only[T];exact aC.T _):=s
def NW(s:S:=by grind[run_store,setCell_eq_setRow]):=s
def aev(s:S:=by simp[deafBehind]):=s
def Fb(s:S:=by simp[bV];omega):=s
def NX(s:S:=by simp only[T,a',a_];omega):=s
def NY(s:S:=by unfold g4;rw[bl];grind):=s
def NZ(s:S:=by unfold eS Region.binds;grind):=s
def N1(s:S:=by simp[bW,F,a1.l,a1.T]):=s
def N2(s:S:=by simp[fD]):=s
def Fc(s:S:=by simp only[gp,nu,bl s];rfl):=s
def N3(s:S:=by have:=eC List.length bq;grind):=s
def zS(s:S:=by simp[al]):=s
def N4(s:S:=by grind[Y7]):=s
def Fe(s:S:=by grind[Option.isSome_iff_exists]):=s
def aew(s:S:=by rw[<-o3];exact g7 _ G):=s
def N5(s:S:=by simpa using List.find?_some i):=s
def N6(s:S:=by simp[zeroValue,typeInfo,NJ,a]):=s
def Ff(s:S:=by rw[s.len];simp):=s
def Fg(s:S:=by grind[Nk]):=s
def Fh(s:S:=by decide +kernel):=s
def N7(s:S:=by simp only[gp,nu,dH,e]):=s
def aex(s:S:=by rw[JH B z aa];grind):=s
def aey(s:S:=by simpa using aj):=s
def Fi(s:S:=by simpa using q):=s
def N8(s:S:=by simp[aL,B,bp]):=s
def N9(s:S:=by simp only[ab,cz,t]):=s
def N'(s:S:=by simp only[T,dp];omega):=s
def Oa(s:S:=by simp only[T,bw];omega):=s
def Ob(s:S:=by rw[<-d];simp only[KK];omega):=s
def Oc(s:S:=by unfold fe at w⊢;grind):=s
def Od(s:S:=by simp[deafBehind,semEvents]):=s
def Fj(s:S:=by simp[cv]):=s
def Oe(s:S:=by simp[mo,List.drop_take]):=s
def Fk(s:S:=by rw[ip bS]):=s
def fA(s:S:=by and_intros<;>omega):=s
def iz(s:S:=by exact .aN (a0.eQ (d:=0) bb rfl rfl rfl rfl rfl) rfl):=s
def jZ(s:S:=by rw[kD s N];simp):=s
def kw(s:S:=by exact dx _ _ rfl E):=s
def nN(s:S:=by refine g.cr () [0,1,2] ?_ pd;simp):=s
def oQ(s:S:=by simp[a8];omega):=s
def oR(s:S:=by refine g.cr () [0,1] ?_ yi;simp):=s
def pQ(s:S:=by simp only[T];grind):=s
def qY(s:S:=by exact .aN (a0.fG rfl rfl Tryz.underlying22 rfl ca) rfl):=s
def qZ(s:S:=by and_intros<;>first|rfl|omega):=s
def q0(s:S:=by show e+1<=_;omega):=s
def q1(s:S:=by simp only[T,cW,c5,al,a8,bw,a',a_];and_intros<;>omega):=s
def r_(s:S:=by refine g.freeze 4 1 rfl rfl rfl ?_;exact g.b9 bb [] rfl E rfl rfl rfl fy):=s
def r'(s:S:=by exact bX.dk [0] rfl v rfl rfl rfl ha):=s
def sa(s:S:=by simp only[T,a8];and_intros<;>omega):=s
def tU(s:S:=by exact g.aQ [0] rfl E sW):=s
def tV(s:S:=by simp only[T.X,T,a',a_];and_intros<;>first|exact bs.same|exact t.2|rfl):=s
def tW(s:S:=by rw[xa]at this;exact this):=s
def ww(s:S:=by simp only[T,w,a8,bw,a',a_];and_intros<;>omega):=s
def wx(s:S:=by refine g.bu 6 rfl rfl rfl E E ?_;refine g.bu 7 rfl rfl rfl E E ?_;refine cM w rfl v ?_;refine g.cr () [0,1,2] ?_ pd;simp[hD,B]):=s
def wy(s:S:=by exactλt=>⟨.x,.x,.x,.eval (bg:=[]) bb w (cj:=[a8 .i64 _]) rfl lv,.eval (bg:=[]) bb w (cj:=[_,_]) rfl lv,.x,.x,v,.x,v⟩):=s
def wz(s:S:=by exact⟨.x,.x,.x,.eval (bg:=[]) bb w (cj:=[a8 .i64 _]) rfl lv,.eval (bg:=[]) bb w (cj:=[_,_]) rfl lv,.x,.x,v,v,v⟩):=s
def wA(s:S:=by exact dA.cK (λ_ _ _ _=>i5 rfl) rfl rfl bz rfl E):=s
def wB(s:S:=by exact cM w rfl v (g.aw rfl)):=s
def wC(s:S:=by simp[hu,w_];split<;>simp):=s
def wD(s:S:=by exact aZ rfl v (g.aw rfl)):=s
def wE(s:S:=by refine g.eM 3 ?_;refine g.cM 9 rfl (λ_=>rfl) ?_;refine g.ret ?_;exact⟨⟨_,bs.same⟩,.inl rfl,rfl,rfl,_,_,_,rfl,rfl,rfl,rfl⟩):=s
def zT(s:S:=by simp only[T,al,a8,show ee.bytes=8 from rfl,bw,dp,gM,eY,je,Gq,d6];and_intros<;>first|rfl|omega|(simp[g9,iJ];done)):=s
def zU(s:S:=by rw[ofEvent_loc_mark bd]at q;cases q):=s
def zV(s:S:=by rw[i];simp only[al];simp;exact K):=s
def zW(s:S:=by refine g.bh () [] ?_ (λt i=>absurd i E);simp):=s
def zX(s:S:=by and_intros<;>first|exact j|omega):=s
def zY(s:S:=by grind [Sz,aK.aZ,a0.bits]):=s
def zZ(s:S:=by refine g.freeze 8 1 rfl rfl rfl ?_;exact g.b9 bb [] rfl E rfl rfl rfl fy):=s
def z0(s:S:=by rw[q];simp only[T.X,T,K,dk,gJ,a',a_];and_intros<;>first|exact bs.same|exact al bI|rfl|omega):=s
def z1(s:S:=by simp only[T,a8,dp,a',a_];and_intros<;>omega):=s
def z2(s:S:=by simp only[T,cW,c5,bz,bd,a8,bw,a',a_];and_intros<;>omega):=s
def z3(s:S:=by exact a6 [-16] rfl bD (g.aA (e+1) rfl E E N x)):=s
def z4(s:S:=by simp only[T,a3.l,a3.T,bh.l,bh.T,a1.l,a1.T,aC.l,aC.T,bx.l,bx.T,w,q,r5,K,i,fm,hK,a',a_];simp):=s
def z5(s:S:=by refine g.aC (qo b w.aM w.bl w.a0 w.bn w.aI) [] rfl ?_;refine cM q rfl v ?_;refine g.freeze 8 1 rfl rfl rfl ?_;refine g.b9 bb [] rfl ?_ rfl rfl rfl fy;simp):=s
def z6(s:S:=by rw[T,ZC s aez]):=s
def z7(s:S:=by simp only[T,cW,c5,B,a8,bw,a',a_];and_intros<;>omega):=s
def z8(s:S:=by simp only[T.X,T,a',a_];omega):=s
def Fm(s:S:=by exact⟨by omega,by omega,by grind[Mg]⟩):=s
def Fo(s:S:=by exact aK.eval (bg:=[]) bb a9.nil rfl cz):=s
def Fp(s:S:=by obtain rfl:=jD (w rfl);refine aZ rfl v ?_;refine g.aw rfl ?_;simp):=s
def Fq(s:S:=by refine g.aw rfl ?_;simp[bs,cg]):=s
def Fs(s:S:=by simp only[T,al,a8,show pm.bytes=16 from rfl,bw,dp,jc,AI,gM,eY,je,d6,aj,heq,hv,qb,f',fm,h4,lB,n1,a',a_];and_intros<;>omega):=s
def Ft(s:S:=by have:(w==i)=u:=eY.2 N;simp[this]):=s
def Fu(s:S:=by simp only[T,w,a8,show rI.bytes=32 from rfl,a',a_];and_intros<;>omega):=s
def Fv(s:S:=by exact⟨bS,ct,by grind,lO,.refl _ _⟩):=s
def Fw(s:S:=by refine g.eM 2 ?_;refine g.cM 9 rfl (λ_=>rfl) ?_;refine g.cM 10 rfl (λ_=>rfl) ?_;refine g.ret ?_;exact⟨⟨_,bs.same⟩,.inl rfl,rfl,rfl,_,_,_,rfl,rfl,rfl,rfl⟩):=s
def Fy(s:S:=by grind [Go.Conc.mem_ofEvents]):=s
def Fz(s:S:=by obtain⟨_,K⟩:=Kh bp;simp only[sq]at K;have aj:e<aT.length:=(cO.1 K).1;exact⟨by simp[kq,lg,K],AJ aj⟩):=s
def FA(s:S:=by refine bf e [917] rfl v ?_;exact dx _ _ rfl E):=s
def FB(s:S:=by refine bP [-14] rfl bT (g.aB ?_);exact cy rfl v (g.aw rfl)):=s
def FC(s:S:=by simp only[T,a3.l,a3.T,bh.l,bh.T,a1.l,a1.T,aC.l,aC.T,bx.l,bx.T,w,al,B,r,aa,lB,and_self,fm,hK,a',a_]):=s
def FD(s:S:=by exact⟨λ_ _ _ _ he=>q3,λ_=>⟨λ_ _ _ _ he=>q3,.inl rfl⟩⟩):=s
def FE(s:S:=by refine g.aQ [0] rfl ?_ (λt w=>absurd w E);simp):=s
def FF(s:S:=by simp only[T,w,a8,show nt.bytes=32 from rfl,show mz.bytes=24 from rfl,bw,lA,a',a_];and_intros<;>omega):=s
def FG(s:S:=by refine cM w rfl v ?_;refine g.cr () [0,1] ?_ yi;simp):=s
def FH(s:S:=by simp only[T,w,dp];and_intros<;>omega):=s
def FI(s:S:=by grind[List.pairwise_iff_getElem]):=s
def FJ(s:S:=by rintro -;refine aZ rfl v ?_;rw[<-d,show(k1:Int)+1=((bd.k1:Nat):Int) by omega];refine g.bh bd [0,5,6,7] ?_ YB;simp):=s
def FK(s:S:=by exact⟨s.a.mono x,bW.1,bW.2⟩):=s
def FL(s:S:=by have aj:=bh.cV b.2.1 s (0,[]);simp only[T.X,T,i,cu.l,a_,a'];exact⟨⟨bs.same,bs.same,bs.same⟩,⟨bs.same,bs.same,bs.same⟩,⟨rfl,bs.same⟩,bs.same,aj⟩):=s
def FM(s:S:=by refine g.aQ [0] rfl ?_ (λt w=>absurd w E);simp;rfl):=s
def FN(s:S:=by intro e r cz bp;simp[hu,w_]at bp;split at bp<;>simp at bp):=s
def FO(s:S:=by simp only[T.X,T,a_,a'];and_intros<;>first|exactλ_ _=>rfl|exact aj|rfl):=s
def FP(s:S:=by refine cM e rfl v (g.aW (bX.mk [0] rfl v rfl rfl rfl ha))):=s
def FQ(s:S:=by simp[-ak,K];omega):=s
def FR(s:S:=by simp only[T,dk,a8,bw,dp,a',a_];and_intros<;>omega):=s
def FS(s:S:=by and_intros<;>first|omega|rfl):=s
def FT(s:S:=by refine g.bK 6 73 2 rfl rfl (g.bf [m' []] rfl E (g.aQ [0] rfl E ?_));grind):=s
def Of(s:S:=by simp only[T.X,T,w,o7,cW,a_,a'];and_intros<;>first|exactλ_ _=>rfl|exact aj|rfl):=s
def Og(s:S:=by simp only[Go.binOp,d6,hv,dm,Op.intBits,aj,r8 K];exact⟨rfl,rfl⟩):=s
def Oh(s:S:=by refine a6 [16] rfl E (g.aW (bX.mk [0] rfl ?_ rfl rfl rfl h9));simp[s5 s B w]):=s
def Oi(s:S:=by exact .eval (bg:=[]) bb a9.nil (cj:=[a8 .i64 (((0:Nat):Int)-((0:Nat):Int))]) rfl lv):=s
def Oj(s:S:=by simp only[T,cW,q,aj,w,B,i,a8,bw,dp,a',a_];and_intros<;>omega):=s
def Ol(s:S:=by have bd:=K _ al;simp only[T,i,cu.l,a8];exact⟨by omega,v,v,show(e+1)*32<=_ by omega,cu.T _,bd.1,bd.2,by omega,by omega,fo x⟩):=s
def Om(s:S:=by refine aZ rfl v ?_;exact⟨t,bX.dk [0] rfl v rfl rfl rfl h9⟩):=s
def On(s:S:=by simp only[T,T.X,i,K,q,pL,x4,a_];grind):=s
def Oo(s:S:=by have aj:=dn cU;subst aj;exact DI (W:=W) (U:=dJ) (b8 B) E t0):=s
def Oq(s:S:=by obtain⟨kz,j4,Gp⟩:=s.last Q bW Db om bO b_;grind):=s
def Ot(s:S:=by refine g.ret ?_;exact⟨(),.inl rfl,rfl,rfl,_,_,_,rfl,rfl,rfl,v⟩):=s
def Ou(s:S:=by exact a6 [-16] rfl bD (g.b3 (e+1) rfl E rfl v N x)):=s
def Ov(s:S:=by simp only[T,xv,bw,dp,w];omega):=s
def Ow(s:S:=by refine aZ rfl v (g.aQ [0,1] rfl E sX (q:=bD))):=s
def Ox(s:S:=by rw[Deaf_other o x _ g_of_ofEvents];exact s.above e bp):=s
def Oy(s:S:=by simp only[T,a8,dp,eY,d6];and_intros<;>omega):=s
def Oz(s:S:=by refine bP [-52,55] rfl Ae (g.aQ [0] rfl ?_ ha);exact bD):=s
def OA(s:S:=by simp[-ak,j,a8,cu.l,cu.T,a3.l,a3.T,z,B.1];and_intros<;>first|omega|grind):=s
def OB(s:S:=by simp only[iZ,cl]at this;grind[pc]):=s
def OC(s:S:=by intro _;refine aZ rfl v (g.aQ [0] rfl ?_ h9);simp):=s
def OD(s:S:=by rw[q];simp only[T.X,T,al,a',a_];and_intros<;>first|exact t|exact h|simp|rfl|omega):=s
def OE(s:S:=by rintro -;refine cM q rfl v ?_;refine g.cr () [] ?_ fy;simp):=s
def OF(s:S:=by simp[-ak,B,a8,r,c1.R];omega):=s
def OG(s:S:=by refine g.cX 4 0 2 3 (lt:=_) (cx:=.ak al d t q) rfl rfl (λ_=>rfl) (λ_=>rfl) (λ_ _=>by decide) ?_;exact g.aQ [0] rfl E sW):=s
def OH(s:S:=by simp only[oA,w,hh,aj];grind[Nat.eq_of_beq_eq_true]):=s
def OI(s:S:=by exact⟨b_ bI,B,λs1 cQ=>⟨bI,M,Q.rely cQ B,B.rely cQ,K.trans cQ.aH,aj⟩⟩):=s
def OJ(s:S:=by simp[ab,cz,resolve,B,Deferred.ofValue,invoke,callFunc,K,q,i]):=s
def OK(s:S:=by simp only[T,Cm,bQ.l,w,bQ.T];simp[s,k9,w,i,-List.length_flatten]):=s
def OL(s:S:=by have Q:0+((((d.take t).filter λC=>!bd C).length:Nat):Int).toNat=((d.take t).filter λC=>!bd C).length:=x;simp only[T.X,T,Q,a_,a'];exact aj):=s
def OM(s:S:=by have:=K.ba _ (mw (show b.2.1.length-1<b.2.1.length by omega) (0,[]));omega):=s
def ON(s:S:=by refine a6 [16] rfl E (g.bP (bX.zero rfl ?_));simp[s5 s z w]):=s
def OO(s:S:=by refine a6 [-7] rfl bT (g.bs rfl rfl ?_);refine aZ rfl v (g.aw rfl ?_);rw[T,ZF (λt K=>q t x)]):=s
def OP(s:S:=by simp only[T.X,T,cW,c5,bz,a_,a'];exact k' S x x (λ_ _=>rfl)):=s
def OQ(s:S:=by refine g.bu 1 rfl rfl rfl E E ?_;exact g.aw rfl (by simp[w,hD])):=s
def OR(s:S:=by simp only[bd]at M⊢;obtain⟨vE,aeH,aeF⟩:=s.dQ _ _ bd;grind[mx]):=s
def OS(s:S:=by simp only;rw[h,dk,show ∀w,[w].length=1 fromλ_=>rfl,w',AW,Gt N,S,ip x];rfl):=s
def OT(s:S:=by rw[q];simp only[T.X,T,al,a',a_];and_intros<;>first|exact t|simp|simp|simp|rfl|omega|simp):=s
def OU(s:S:=by simp only[T.X,T,cW,c5,t,e,s,xorNext_toNat,a_,a'];exact k' d x x (λ_ _=>rfl)):=s
def OV(s:S:=by rw[q];simp only[T.X,T,al,a',a_];and_intros<;>first|exact t|exact h|exactλ_ _=>rfl|rfl|omega):=s
def OW(s:S:=by show f (E1.ar (Q.c (nu b.1 e (.slice (f ⟨i,0,n⟩) ag.length cap) (0+(e:Int).toNat))))=_;rw[j,nu,bo rfl]):=s
def OX(s:S:=by exact⟨(),.inr rfl,rfl,rfl,_,_,_,rfl,rfl,rfl,v⟩):=s
def OY(s:S:=by rw[eK];simp only[T.X,T,c5,z,Q,dk,gJ,a',a_];and_intros<;>first|exact bs.same|exact H|rfl|omega):=s
def OZ(s:S:=by refine g.cr () [] ?_ fy;simp):=s
def O0(s:S:=by rename_i B;cases s;rw[B]at q;have i:=b8 q;generalize aj:w.tmps.getD K I=aa at i;cases i;rw[key _ aj (by simp[I])]):=s
def O1(s:S:=by simp only[T,K,a8,show ee.bytes=8 from rfl];exact bu):=s
def O2(s:S:=by refine g.ret ?_;exact⟨⟨_,bs.same⟩,.inl rfl,rfl,rfl,_,_,_,rfl,rfl,rfl,v⟩):=s
def O3(s:S:=by exact bX.dk [0,1] rfl v bD rfl rfl sX):=s
def O4(s:S:=by exact bP [14,-25] rfl lF (g.aA (e+1) rfl E E N x)):=s
def O5(s:S:=by simp[w]at s;subst s;obtain⟨i,K⟩:=Ey w;grind):=s
def O6(s:S:=by exact .aN (a0.g3 rfl rfl Tryz.underlying22 rfl ca) rfl):=s
def O7(s:S:=by simp only[T,kp,tN,c5,d,r,K,al,bw,i];grind):=s
def O8(s:S:=by refine cM B rfl v (g.aQ [0] rfl ?_ ha);simp):=s
def O9(s:S:=by simp only[T,bW,a1.l,a1.T,fm,bw,a',a_];omega):=s
def O_(s:S:=by simp only[T,show vk.bytes=16 from rfl,a',a_];grind):=s
def O'(s:S:=by simp only[h]at j⊢;obtain⟨vE,bz,Gn⟩:=s.dQ _ _ h;grind[mx]):=s
def Pa(s:S:=by simp[G,ar,stepG.exec,Frame.N,B,K,al,GStep.after,doReturn,bW]):=s
def Pb(s:S:=by rename_i bS;cases s;exact aK.aZ ba (a0.pick bd bS)):=s
def Pc(s:S:=by exact .ctl al rfl (λ_=>Ml) λb5 dr=>lP .normal dG aq b5 fQ bd (B.rely dr al) (al.rely dr) (K.trans dr.aH)):=s
def Pd(s:S:=by refine bP [52] rfl zS (g.aQ [0] rfl ?_ ha);exact bD):=s
def Pe(s:S:=by simp only[T,cW,q,aj,w,i,a8,bw,dp,a',a_];and_intros<;>omega):=s
def Pf(s:S:=by rw[q];simp only[T.X,T,K,dk,fw,gL,a',a_];and_intros<;>first|exact bs.same|exact r j bI|rfl|omega):=s
def Pg(s:S:=by rw[d];simp[-ak];exact bx.aX _ al):=s
def Ph(s:S:=by refine cM i rfl tT ?_;exact⟨⟨_,by rw[cW];exact eT⟩,.inr rfl,rfl,rfl,_,_,_,rfl,rfl,rfl,v⟩):=s
def Pj(s:S:=by rw[w];simp only[T.X,T,i,a',a_];and_intros<;>first|exact bs.same|exact aj|rfl|omega):=s
def Pk(s:S:=by simp only[T,a8,i,w,f',bw,dp,a',a_];and_intros<;>omega):=s
def Pl(s:S:=by exact⟨by simp[aN,MemAct.low],λi q=>by simp[aN,MemAct.touch?]at q,λi q=>by simp[aN,MemAct.touch?]at q,⟨by simp,by simp⟩,by simp⟩):=s
def Pm(s:S:=by simp only[T.X,T,cW,q,aj,w,a_,a'];exact k' t x x (λ_ _=>rfl)):=s
def Pn(s:S:=by simp[-ak,ka,al,K,a8];omega):=s
def Po(s:S:=by simp only[T,a8,show yy.bytes=40 from rfl,a',a_];and_intros<;>omega):=s
def Pp(s:S:=by simp only[T.X,T,a',a_];and_intros<;>first|exact bs.same|rfl|omega|exact d|exact r|exact d.symm|exact r.symm):=s
def Pq(s:S:=by refine jm ?_;change dw b (Sem.events P (asInt (.int .i64 0) >>= _) _ _);simp[asInt,asIntOf,IntKind.max];exact .nil):=s
def Pr(s:S:=by exact .dg (.aN (a0.g3 rfl rfl Tryz.underlying22 rfl ca) rfl)):=s
def Ps(s:S:=by exact a6 [8] rfl (fo (Kf s)) (g.aw rfl)):=s
def Pt(s:S:=by simp only[T,cW,c5,bS,bd,a8,bw,a',a_];and_intros<;>omega):=s
def Pu(s:S:=by refine aZ rfl v (g.ret (.freeze 8 4 rfl rfl rfl (.freeze 9 5 rfl rfl rfl (.of ⟨(),k0.cells bb [0,1] rfl ?_ rfl rfl rfl qr⟩))));simp):=s
def Pv(s:S:=by simp only[T.X,T,a_,a',sk];exact⟨bs.same,bs.same,bs.same⟩):=s
def Pw(s:S:=by simp only[T,a3.l,bh.l,a1.l,bx.l,e,r5,j];and_intros<;>first|rfl|exact True.intro|exact a3.T _|exact bh.T _|exact a1.T _|exact bx.T _|exact ba):=s
def Px(s:S:=by have aeJ:bd*a4.size+a4.size<=z*a4.size:=aew;grind):=s
def Py(s:S:=by rw[h.bz i (eH cU s.size) (dx i cU jn),s.bz i cU jn]):=s
def Pz(s:S:=by rw[K];simp[-ak,sS];exact bQ.aX _ _):=s
def PA(s:S:=by have bd:=B _ al;simp only[T,i,bG.l,a8];exact⟨by omega,v,v,show(e+1)*32<=_ by omega,bG.T _,bd,by omega,by omega,fo x⟩):=s
def PC(s:S:=by obtain⟨rfl,rfl⟩:=s;obtain⟨i,w⟩:=cz;replace w:0<bI:=w;simp only[binOp,d6,hv,dm,Op.intDiv,show bI≠0 by omega];rfl):=s
def PD(s:S:=by rw[q];simp only[T.X,T,c5,K,dk,gJ,a',a_];and_intros<;>first|exact bs.same|exact B|rfl|omega):=s
def PE(s:S:=by exact .aN (a0.fG rfl rfl Tryz.underlying22 rfl w) rfl):=s
def PF(s:S:=by simp[-ak,-List.contains_eq_mem,K,s,al,aC.l,aC.T,a8,show mz.bytes=24 from rfl];omega):=s
def PG(s:S:=by obtain rfl:e=S.2.length:=x;rw[c9];refine a7 i [-15] rfl E (g.aB ?_);refine b9 i rfl v ?_;refine g.bh () [] ?_ (λt h=>absurd h E);simp[hF]):=s
def PH(s:S:=by simp only[T.X,T,cW,a',a_];and_intros<;>first|exact bs.same|exact dM|rfl):=s
def PI(s:S:=by simp only[Go.binOp,Op.shift,bl (show¬i<0 by omega),s];exact⟨rfl,rfl⟩):=s
def PJ(s:S:=by rw[i];simp only[T.X,T,c5,K,dk,gJ,a',a_];and_intros<;>first|exact bs.same|exact d|rfl|omega):=s
def PK(s:S:=by rw[q];simp only[T.X,T,al,a',a_];and_intros<;>first|exact t|simp|simp|grind|rfl|omega|simp):=s
def PL(s:S:=by refine g.cr () [0,1,2] ?_ pd;simp[hD]):=s
def PM(s:S:=by have aj:scanDown (λC=>!ltInt C d0[w]!) d0 (e) (i-1)=h:=z9;exact dx () v rfl bu rfl E):=s
def PN(s:S:=by simp[-ak,r,bd,s,a8];omega):=s
def PO(s:S:=by have aj:K[e]?=(d.filter λC=>!bd C)[e]?:=N;refine(NL wF).trans ?_;simp only[c1.fn,gG,ak,aj]):=s
def PP(s:S:=by simp only[T,show nt.bytes=32 from rfl,a',a_];grind):=s
def PQ(s:S:=by have:=s e (rj.2 bp);simp only[ig,cl]at this;grind):=s
def PR(s:S:=by simp only[T,q,i,bw,lA,a',a_];and_intros<;>omega):=s
def PS(s:S:=by have aj:scanDown (λC=>!ltInt C d2[w]!) d2 (d) (s)=h:=z9;exact dx () v rfl bu rfl E):=s
def PT(s:S:=by simp only[T.X,T,i,a',a_];and_intros<;>first|exactλ_ _=>rfl|exact q|rfl|omega):=s
def PU(s:S:=by refine g.bh () [0,1] ?_ yi;simp):=s
def PV(s:S:=by refine g.eM 2 ?_;refine g.cM 9 rfl (λ_=>rfl) ?_;refine g.ret ?_;exact⟨⟨_,bs.same⟩,.inl rfl,rfl,rfl,_,_,_,rfl,rfl,rfl,rfl⟩):=s
def PW(s:S:=by refine aZ rfl v (g.aQ [0] rfl ?_ h9);simp):=s
def PX(s:S:=by simp only[dH]at K;subst K;exact cy rfl v (g.aw rfl)):=s
def PY(s:S:=by simp only[T,al,a8,show pm.bytes=16 from rfl,bw,dp,jc,AI,gM,eY,je,d6,heq,hv,qb,f',fm,h4,lB,n1,a',a_];and_intros<;>omega):=s
def PZ(s:S:=by exact dA.b6 C.tocH [4,5] rfl rfl rfl rfl E rfl rfl rfl (λ_=>rfl) rfl (λ_=>rfl)):=s
def P0(s:S:=by refine a6 [-8] rfl E (g.aB ?_);exact aZ rfl v (g.aw rfl)):=s
def P1(s:S:=by rw[i];simp only[T.X,T,c5,K,q,bG.l,aC.l,dk,gJ,a',a_];and_intros<;>first|exact bs.same|exact d|rfl|omega):=s
def P2(s:S:=by have aj:((d.take (i0+1)).filter λC=>!bd C).length=i0:=aex;simp[aj]):=s
def P3(s:S:=by simp only[hi,List.take_zero,hL,o,T.X,T,a',a_];and_intros<;>first|simp|rfl|omega):=s
def P4(s:S:=by refine cy rfl v (g.aQ [0] rfl ?_ h9);simp;rfl):=s
def P5(s:S:=by simp[-ak,-List.contains_eq_mem,K,s,al,aC.l,aC.T,a8];omega):=s
def P6(s:S:=by simp only[T,B,q,i,bx.l,bx.T,lB,and_self,f',a',a_]):=s
def P7(s:S:=by refine a6 [-9] rfl bT (g.bs rfl rfl ?_);refine aZ rfl v (g.aw rfl ?_);simp[s6 (λt r=>w t x)]):=s
def P8(s:S:=by rw[i];simp[-ak];exact bx.aX _ (cr o e,lr o e)):=s
def P9(s:S:=by simp only[T.X,T,bs.same,a',a_];rfl):=s
def P_(s:S:=by rw[q];simp only[T.X,T,dk,gJ,a',a_];and_intros<;>first|exact bs.same|exact al j|rfl|omega):=s
def P'(s:S:=by simp[-ak,s,kp,tN,i,K,B,q,z];omega):=s
def Qa(s:S:=by refine⟨rfl,λe bp=>?_⟩;rcases e with _|_|_|_|_|_|_|_|e<;>first|rfl|omega):=s
def Qb(s:S:=by simp only[T,bW,a1.l,a1.T,fm,bw,dp,a',a_];omega):=s
def Qc(s:S:=by and_intros<;>first|exact bQ.T _|rfl|omega):=s
def Qd(s:S:=by simp only[T,a8,show ee.bytes=8 from rfl,bw,dp,gM,eY,d6];and_intros<;>first|rfl|omega|(simp[g9];done)):=s
def Qe(s:S:=by refine g.cX 4 0 2 9 (lt:=.ak K e h B) (cx:=.nil) rfl rfl (λ_=>rfl) (λs=>absurd rfl s) (λ_ s=>absurd rfl s) ?_;exact g.aQ [0] rfl E sW):=s
def Qf(s:S:=by have aj:=a3.cV b.1 s (0,[]);simp only[T.X,T,i,bG.l,a_,a'];exact⟨⟨bs.same,bs.same,bs.same⟩,⟨bs.same,bs.same,bs.same⟩,⟨rfl,bs.same⟩,aj,bs.same⟩):=s
def Qg(s:S:=by exact .aN (Km 0 rfl rfl rfl lv (λM=>rfl) (λM=>rfl)) rfl):=s
def Qh(s:S:=by simp[-ak,z,o,bG.l,bG.T,s]):=s
def Qi(s:S:=by refine⟨by grind[nF],by grind,?_⟩;rw[<-q,uN,al,show w+L / 4*2-1+(3-(h+1))+1=w+L / 4*2-1+(3-h) by omega]):=s
def Qj(s:S:=by subst d;exact⟨.bool l,by simp[ab,s,i,K,w,binOp,h],Rd.bool,by simp[ab,s,i,K,w,al,binOp,h,B]⟩):=s
def Qk(s:S:=by simp only[aL];grind[setRow_other]):=s
def Qm(s:S:=by simp only[T.X,T,w,i,o7,cW,a_,a'];and_intros<;>first|exactλ_ _=>rfl|exact z|rfl):=s
def Qn(s:S:=by rw[h];simp only[dk,gJ,T.X,T,w,a',a_];and_intros<;>first|exact z|simp|rfl|omega):=s
def Qo(s:S:=by refine⟨i,rfl,?_⟩;rw[bl x];simp[g2,jF]):=s
def Qp(s:S:=by simp[-ak,bz,o,bW,i,r,bG.l,bG.T,a8];omega):=s
def Qq(s:S:=by refine⟨by grind,ba,by grind,λe bp=>bz e N⟩):=s
def Qr(s:S:=by refine b9 i rfl bD (g.aA (e+1) rfl E ?_ s x);simp):=s
def Qs(s:S:=by simp only[T,a8,aj,q,z,bw,eq_self,a',a_];omega):=s
def Qt(s:S:=by and_intros<;>first|exact bs.same|exact mb|rfl):=s
def Qu(s:S:=by refine a6 [-9] rfl bT (g.aB ?_);refine aZ rfl v (g.aQ [0] rfl ?_ h9);simp[s6 (λt j=>w t x)]):=s
def Qv(s:S:=by exact a6 [-8] rfl (k2 N4) (g.aw rfl)):=s
def Qw(s:S:=by have aj:scanUp (λC=>ltInt C d0[w]!) d0 (i-1) (w+1)=h:=FW;exact dx () v rfl bu rfl E):=s
def Qx(s:S:=by have aj:scanUp (λC=>!ltInt d2[w]! C) d2 (q) (ee)=h:=FW;exact dx () v rfl bu rfl E):=s
def Qy(s:S:=by have aj:(A.toArray++Array.replicate (fn.ntmps-A.toArray.size) I).getD o I=(A[o]?).getD I:=FY;grind):=s
def Qz(s:S:=by simp only[T,a8,aj,q,e,bw,dp,a',a_];omega):=s
def QA(s:S:=by simp only[T,bw,a',a_];and_intros<;>omega):=s
def QB(s:S:=by simp only[T,xv,bw,dp,w,a8];omega):=s
def QC(s:S:=by subst s;cases C<;>cases bI<;>simp only at K<;>simp[binOp,w]):=s
def QD(s:S:=by intro j s;rw[fw,List.range'_succ];refine⟨by simpa using s 0 r rfl,w (j+1) λt i J'=>?_⟩;have:=s (t+1) i N;grind):=s
def QE(s:S:=by refine b9 w rfl bD ?_;refine g.aN (yK ((min (al+8) o.length:Nat):Int) rfl rfl rfl x d) rfl rfl ?_;refine b9 w rfl v (g.aw rfl ?_);simp[aj]):=s
def QF(s:S:=by have aj:scanDown (λC=>ltInt d2[w]! C) d2 (al) (q)=h:=z9;exact dx () v rfl bu rfl E):=s
def QH(s:S:=by simp only[T,a8,bw,a',a_];and_intros<;>first|rfl|omega):=s
def QI(s:S:=by refine g.b9 bb [] rfl ?_ rfl rfl rfl fy;simp):=s
def QJ(s:S:=by simp[-ak];exact bx.aX _ al):=s
def QK(s:S:=by simp only[T,cW,q,aj,w,h,B,i,a8,bw,dp,a',a_];and_intros<;>omega):=s
def QL(s:S:=by exact aK.eval (bg:=[]) bb a9.nil rfl (ns b d j i s)):=s
def QM(s:S:=by rw[w];simp only[T.X,T,dk,fw,gL,a',a_];and_intros<;>first|exactλ_ _=>rfl|exact ba|rfl|omega):=s
def QN(s:S:=by and_intros<;>first|exact bs.same|rfl|omega|exact q|exact K|exact q.symm|exact K.symm|(intro e bp;match e,bp with|0,_=>rfl)|(simp only[sk];omega)):=s
def QO(s:S:=by simp[-ak,z,j,o,bG.l,bG.T,s,a8];omega):=s
def QP(s:S:=by simp only[T,a8,bw,dp,a',a_];and_intros<;>omega):=s
def QQ(s:S:=by subst d;exact⟨.bool u,by simp[ab,s,i,K,w,binOp,h],Rd.bool,by simp[ab,s,i,K,w,al,binOp,h,B]⟩):=s
def QR(s:S:=by refine a6 [-9] rfl bu (g.aB ?_);exact aZ rfl v (g.aw rfl)):=s
def QS(s:S:=by and_intros<;>first|exact bQ.T _|exact fb.T _|omega):=s
def QT(s:S:=by rw[d];simp only[T.X,T,i,q,z,a3.l,dk,gJ,a',a_];and_intros<;>first|exact bs.same|exact r|rfl|omega):=s
def QU(s:S:=by rw[al];simp only[T.X,T,i,bQ.l,j,h5,dk,gJ,a',a_];and_intros<;>first|exact bs.same|exact Q|rfl|omega):=s
def QV(s:S:=by simp only[T,a3.l,bh.l,a1.l,bx.l,e,r5,r];and_intros<;>first|rfl|exact True.intro|exact a3.T _|exact bh.T _|exact a1.T _|exact bx.T _|exact ba):=s
def QW(s:S:=by rw[q];simp only[T.X,T,c5,t,dk,gJ,a',a_];and_intros<;>first|exact bs.same|exact d|rfl|omega):=s
def QX(s:S:=by have aj:scanUp (λC=>ltInt C d2[w]!) d2 (s) (ee)=h:=FW;exact dx () v rfl bu rfl E):=s
def QY(s:S:=by and_intros<;>first|exactλ_ _=>rfl|exact aj|rfl|omega):=s
def QZ(s:S:=by simp[-ak,j,r,a8,cu.l,cu.T,a3.l,a3.T,z,B.1];and_intros<;>first|omega|grind):=s
def Q0(s:S:=by obtain⟨cQ,dr⟩:=al W gl DH dJ N;refine⟨cQ,λaj=>?_⟩;obtain⟨L,S,z⟩:=dr aj;refine⟨L,?_,z⟩;simp only[a5.cut,iq,gR,dH];exact S):=s
def Q2(s:S:=by simp only[T.X,T,dk,gJ,a',a_];and_intros<;>first|exact bs.same|exact q|rfl|omega):=s
def Q3(s:S:=by rw[<-gR,dM]at f1;simp only[h_,e4]at f1;grind):=s
def Q4(s:S:=by exact⟨by exact cT,λi h=>by exact cT,⟨by simp,by simp⟩,by simp⟩):=s
def Q5(s:S:=by rename_i aj;subst aj;intro pre vj;refine .ctl al rfl (λ_=>Mk (gl:=h) (by rw[vj];simp[exitTo])) λb5 dr=>?_;exact lP .normal dG aq b5 fQ bd (B.rely dr al) (al.rely dr) (K.trans dr.aH)):=s
def Q6(s:S:=by rw[hz]at s;cases s;exact fi.dg (d_ aV aj i cz) al h):=s
def Q7(s:S:=by simp[-ak,-List.length_take,K,ka,i,B,q,a8];omega):=s
def Q8(s:S:=by refine bP [-52,-55] rfl bu (g.aQ [0] rfl ?_ ha);simp[al,aj,qx,Da]):=s
def Q9(s:S:=by have i:=(aV o e bp).run_underlying (M:=b.a);rw[al]at i;simp[ab,s,w,K,Instr.index,asIntOf,i,J',B]):=s
def Q_(s:S:=by obtain⟨S,L1,cQ,dr,ba⟩:=s.box d bS L aI w;obtain⟨o,t,k1,al,B⟩:=h.box d S L1 cQ dr;exact⟨o,t,k1,al,ba.trans B⟩):=s
def Q'(s:S:=by have:=K.aM _ (mw (show b.1.length-1<b.1.length by omega) (0,[]));omega):=s
def Ra(s:S:=by simp only[T,bG.l,w,bW];and_intros<;>first|exact bG.T _|rfl|exact True.intro|grind):=s
def Rb(s:S:=by have aj:=JH B z aa;refine⟨by omega,rfl,?_,λ_ _=>rfl⟩;grind):=s
def Rc(s:S:=by obtain⟨e,r,i,w⟩:=C' s;exact⟨e+1,r,by grind,w⟩):=s
def Re(s:S:=by refine aZ rfl v ?_;exact⟨(),.inr rfl,rfl,rfl,_,_,_,rfl,rfl,rfl,v⟩):=s
def Rf(s:S:=by simp only[T,w,i,a8,show yy.bytes=40 from rfl,show ee.bytes=8 from rfl,bw,lA,a',a_];and_intros<;>omega):=s
def Rg(s:S:=by simp[-ak,K,q];omega):=s
def Rh(s:S:=by simp[-ak,z,j,s,g9,a8,cu.l,cu.T,a3.l,a3.T,bh.T,a1.T,r,bd.1];and_intros<;>first|omega|grind):=s
def Ri(s:S:=by simp only[T.X,T,cW,c5,a_,a'];exact k' bz x x (λ_ _=>rfl)):=s
def Rj(s:S:=by simp only[h_,e4]at dM;rw[<-dM,f2,s.db]at eT;omega):=s
def Rk(s:S:=by simp at K;subst K;exact⟨_,rfl,.inr ⟨rfl,rfl⟩⟩):=s
def Rm(s:S:=by simp[ab,cz,resolve,q,Deferred.ofValue,invoke,K]):=s
def Rn(s:S:=by refine g.cX 4 0 9 2 (lt:=.nil) (cx:=.ak al d t q) rfl rfl (λs=>absurd rfl s) (λ_=>rfl) (λs=>absurd rfl s) ?_;exact g.aQ [0] rfl E sW):=s
end
end Go
namespace Go.AM
instance{j:Nat}:OfNat (Nat×Bool) j:=⟨(j,true)⟩
instance:Neg (Nat×Bool):=⟨λC=>(C.1,false)⟩
inductive O where
  |int (h:IntKind) (j:Int)
  |bool (i:Bool)
  |V (b:List UInt8)
  |R (tight:Bool) (h j:Nat) (U:Nat->List O)
  |M (ah:List O)
  |bo
  |b_ (o:ao) (q:O)
  |cF (o:ao) (ah:List O)
  |bC
  |fn (al:Fn) (first cap:List O)
  |ds
  |val (C:Y)
inductive pS where
  |R (B h r j:Nat)
  |bp (B h e al:Nat)
def pS.g:pS->Nat
  |.R B _ _ _=>B
  |.bp B _ _ _=>B
def pS.fW:pS->Y->Y->Prop
  |.R _ h m k,d,i=>∃j e a b,i=.slice j k a/\k<=a/\m+a=b/\b<=9223372036854775807/\d=.slice e 0 b/\(0<a->∃g,e=f ⟨g,0,n⟩/\j=f ⟨g,m*h,n⟩)
  |.bp _ h p o,d,i=>∃g b,d=.slice (f ⟨g,0,n⟩) 0 b/\i=.pointer (f ⟨g,p*h+o,n⟩)
inductive Q where
  |c (C:O)
  |ptr (d off:Nat)
  |w (d h j:Nat) (U:Nat->List O)
  |aK (d:Nat)
  |K (d:Nat) (M:pS)
  |any
abbrev Q.v(a:Y):Q:=.c (.val a)
inductive E1 where
  |ar (w:Q)
  |agg (ah:List Q)
inductive y where
  |n (C:E1)
  |Q (ag:List E1)
  |any
abbrev bH:=m (Nat×y)
def look:bH->Nat->y
  |[],_=>.any
  | (d,b)::e,a=>cond (ad d a) b (look e a)
inductive an where
  |cells (W:ao) (ah:List Q)
  |w (W:ao) (h j:Nat) (U:Nat->List O)
  |E (H:Y->(Nat->Option Obj)->Prop)
  |J
  |loop (D:Nat) (F:bH) (ba:Loop)
  |bd
  |p (W:ao) (h j:Nat) (U:Nat->List O)
@[simp] def an.dO:an->Bool
  |.w _ _ _ _=>l
  |.p _ _ _ _=>l
  |_=>u
structure Loc where
  v:Y
  ab:m Nat
abbrev Mem:=Nat->Nat->Option Y
structure a5 where
  s:m Loc
  u:Mem
  a:au
  own:Nat->Prop
def a8:IntKind->Int->Prop
  |.i8,a=>-128<=a/\a<=127
  |.i16,a=>-32768<=a/\a<=32767
  |.i32,a=>-2147483648<=a/\a<=2147483647
  |.i64,a=>-9223372036854775808<=a/\a<=9223372036854775807
  |.u8,a=>0<=a/\a<=255
  |.u16,a=>0<=a/\a<=65535
  |.u32,a=>0<=a/\a<=4294967295
  |.u64,a=>0<=a/\a<=18446744073709551615
def dU:Y->Bool
  |.agg _|.tuple _=>u
  |_=>l
def pS.fW.cell{b:pS}{ZK aa}(a:b.fW ZK aa):dU aa=l:=by
  cases b with
  |R=>obtain⟨_,_,_,_,rfl,_⟩:=a;rfl
  |bp=>obtain⟨_,_,_,rfl⟩:=a;rfl
inductive Rd (bA:Mem):Y->O->Prop
  |int {h:IntKind} {j:Int} (s:a8 h j):Rd bA (.int h j) (.int h j)
  |bool {i:Bool}:Rd bA (.bool i) (.bool i)
  |V {b:ByteArray} {d:List UInt8} (s:b.data.toList=d) (gR:c d<=9223372036854775807):Rd bA (.string b) (.V d)
  |R {w:Option Addr} {j cap:Nat} {tight:Bool} {h:Nat} {U:Nat->List O} (i off:Nat) (al:Nat->Nat->Y)
      (aeE:j<=cap) (cU:cap<=9223372036854775807) (aeK:tight=l->cap=j) (bW:∀e,e<j->c (U e)=h)
      (aeC:0<j->w=f ⟨i,off,n⟩)
      (pk:∀e,e<j->∀t q,(U e)[t]?=f q->bA i (off+e*h+t)=f (al e t))
      (Ka:∀e,e<j->∀t q,(U e)[t]?=f q->Rd bA (al e t) q):Rd bA (.slice w j cap) (.R tight h j U)
  |M {ah:List O} (i off:Nat) (al:Nat->Y)
      (pk:∀t q,ah[t]?=f q->bA i (off+t)=f (al t))
      (Ka:∀t q,ah[t]?=f q->Rd bA (al t) q):Rd bA (.pointer (f ⟨i,off,n⟩)) (.M ah)
  |bo:Rd bA (.pointer n) .bo
  |b_ {o:ao} {aa:Y} {q:O} (s:Rd bA aa q) (aeD:dU aa=l):Rd bA (.iface o aa) (.b_ o q)
  |cF {o:ao} {A:List Y} {ah:List O} (gR:c A=c ah)
      (al:Nat->Y) (rG:∀t,t<c A->A[t]?=f (al t)) (Ka:∀t q,ah[t]?=f q->Rd bA (al t) q):Rd bA (.iface o (.agg A.toArray)) (.cF o ah)
  |bC:Rd bA .nilIface .bC
  |fn {B:Fn} {first cap:List O} (ys ah:List Y) (gR:c ys=c first) (aeG:c ah=c cap) (f1 f2:Nat->Y)
      (cQ:∀t,t<c ys->ys[t]?=f (f1 t)) (dr:∀t,t<c ah->ah[t]?=f (f2 t))
      (aeP:∀t q,first[t]?=f q->Rd bA (f1 t) q) (aeQ:∀t q,cap[t]?=f q->Rd bA (f2 t) q):Rd bA (.func B ys.toArray ah.toArray) (.fn B first cap)
  |ds:Rd bA .nilFunc .ds
  |val {C:Y} (s:dU C=l):Rd bA C (.val C)
theorem Rd.a'{bA}{aa a}(b:Rd bA aa (.val a)):aa=a:=by cases b;rfl
def Rd.cell{bA}{aa}{q}(a:Rd bA aa q):dU aa=l:=by cases a<;>first|rfl|assumption
def Rd.mono{bA m}(I:∀k J aa,bA k J=f aa->m k J=f aa){aa}{q}(h:Rd bA aa q):Rd m aa q:=by
  induction h with
  |int h=>exact .int h
  |bool=>exact .bool
  |V h e=>exact .V h e
  |R k g o K C E D B j r b=>
    exact .R k g o K C E D B (λF i d q a=>I _ _ _ (j F i d q a)) (λF i d q a=>b F i d q a)
  |M k g o j r b=>exact .M k g o (λd q a=>I _ _ _ (j d q a)) (λd q a=>b d q a)
  |bo=>exact .bo
  |b_ h N b=>exact .b_ b N
  |cF e o O r b=>exact .cF e o O (λd q a=>b d q a)
  |bC=>exact .bC
  |fn y v e p w x z A Q S s t=>exact .fn y v e p w x z A (λd q a=>s d q a) (λd q a=>t d q a)
  |ds=>exact .ds
  |val h=>exact .val h
def cB(h:m an)(i:a5)(b:Y):Q->Prop
  |.c w=>Rd i.u b w
  |.ptr a o=>(∀j,h[a]?=f j->j.dO=u)/\∃L v,i.s[a]?=f L/\L.v=.pointer (f ⟨v,0,n⟩)/\b=.pointer (f ⟨v,o,n⟩)
  |.w a q e d=>Rd i.u b (.R u q e d)/\a<c h/\∀p r g k,h[a]?=f (an.w p r g k)->e<=g/\(g=e->∃L,i.s[a]?=f L/\b=L.v)
  |.aK a=>(∀j,h[a]?=f j->j.dO=u)/\∃L,i.s[a]?=f L/\b=L.v/\dU b=l
  |.K a s=>∃t,s.fW t b/\a<c h/\∀p q e d,h[a]?=f (an.p p q e d)->s.g<=e/\(s.g=e->∃L,i.s[a]?=f L/\L.v=t)
  |.any=>dU b=l
def bM(b:m an)(d:a5):m Y->m Q->Prop
  |[],[]=>True
  |g::A,e::a=>cB b d g e/\bM b d A a
  |_,_=>False
def eA(b:m an)(d:a5)(e:Y):E1->Prop
  |.ar g=>cB b d e g
  |.agg a=>∃A:m Y,e=.agg A.toArray/\bM b d A a
def eX(b:m an)(d:a5):m Y->m E1->Prop
  |[],[]=>True
  |g::A,e::a=>eA b d g e/\eX b d A a
  |_,_=>False
def bv(b:m an)(d:a5)(e:Y):y->Prop
  |.n g=>eA b d e g
  |.Q a=>∃A:m Y,e=.tuple A.toArray/\eX b d A a
  |.any=>True
def b4(b:m an)(d:a5):m Y->m y->Prop
  |[],[]=>True
  |g::A,e::a=>bv b d g e/\b4 b d A a
  |_,_=>False
structure e9(bA:Mem)(h j:Nat)(U:Nat->m O)(A:m Y):Prop where
  len:c A=j*h
  bD:∀e,e<j->c (U e)=h
  rd:∀e,e<j->∀(t:Nat) (q:O),(U e)[t]?=f q->∃aa,A[e*h+t]?=f aa/\Rd bA aa q
def e9.mono{bA a}(o:∀i k aa,bA i k=f aa->a i k=f aa){h j}{b:Nat->m O}{A}(d:e9 bA h j b A):e9 a h j b A:=
  ⟨d.len,d.bD,λq e r p g=>let ⟨aa,cQ,dr⟩:=d.rd q e r p g;⟨aa,cQ,dr.mono o⟩⟩
def ez(v:m an)(b:a5):an->Loc->Prop
  |.cells o s,L=>∃a A,L=⟨.pointer (f ⟨a,0,n⟩),[a]⟩/\b.a.heap[a]?=f (.cells (List.toArray A) o (0,0))/\bM v b A s/\∀d,b.u a d=n
  |.w o j g e,L=>Rd b.u L.v (.R u j g e) /\
      (((L.ab=[]/\g=0)/\Rd b.u L.v (.R l j g e)) ∨
       ∃a h A,L=⟨.slice (f ⟨a,0,n⟩) g h,[a]⟩/\b.a.heap[a]?=f (.cells (List.toArray A) o (0,0))/\c A=h*j/\∀d,g*j<=d->b.u a d=n)
  |.E H,L=>∃i,H L.v i/\(∀a d,i a=f d->b.a.heap[a]?=f d)/\(∀a,a∈L.ab↔(i a).isSome=l)/\∀a∈L.ab,∀d,b.u a d=n
  |.J,_=>True
  |.loop y x k,L=>∃r tmps fn t,L=⟨.func (.yield r) #[] #[],[r]⟩/\b.a.heap[r]?=f (.loop {k with tmps:=tmps,fn:=fn,defers:=t})/\tmps.size=y/\(∀w,bv v b (tmps.getD w I) (look x w))/\∀d,b.u r d=n
  |.bd,L=>∃k:Nat,L=⟨.int .i64 k,[k]⟩/\b.a.heap[k]?=f (.deferred (f []))/\∀d,b.u k d=n
  |.p o j g e,L=>(g=0/\L=⟨.slice n 0 0,[]⟩)∨∃a q A p,L=⟨.slice (f ⟨a,0,n⟩) 0 q,[a]⟩/\b.a.heap[a]?=f (.cells (List.toArray (A++p)) o (0,0))/\c (A++p)=q*j/\g<=q/\q<=9223372036854775807/\e9 b.u j g e A/\∀d,b.u a d=n
structure bc(k:m an)(b:a5):Prop where
  mem:∀i r aa,b.u i r=f aa->b.a.cell? ⟨i,r,n⟩=f aa
  len:c b.s=c k
  box:∀(d:Nat) (bS:an) (L:Loc),k[d]?=f bS->b.s[d]?=f L->ez k b bS L
  a1:∀(d kJ:Nat) (L ct:Loc),b.s[d]?=f L->b.s[kJ]?=f ct->∀i∈L.ab,i∈ct.ab->d=kJ
  lt:∀L∈b.s,∀i∈L.ab,i<b.a.heap.size
  own:∀i,b.own i->i<b.a.heap.size/\∀L∈b.s,i∉L.ab
def fP:an->Loc->an->Loc->Prop
  |.w _ _ d _,L,.w _ _ b _,a=>(b=d->a.v=L.v)/\d<=b
  |.w _ _ _ _,_,.J,_=>True
  |.w _ _ _ _,_,_,_=>False
  |.p _ _ d _,L,.p _ _ b _,a=>(b=d->a.v=L.v)/\d<=b
  |.p _ _ _ _,_,.J,_=>True
  |.p _ _ _ _,_,_,_=>False
  |_,_,.w _ _ _ _,_=>False
  |_,_,.p _ _ _ _,_=>False
  |.J,L,.J,a=>a.v=L.v
  |.J,_,_,_=>False
  |.bd,L,.bd,a=>a.v=L.v
  |.bd,_,_,_=>False
  |_,_,.bd,_=>False
  |_,L,_,a=>a.v=L.v
structure fv(k:m an)(b:a5)(aq:m an)(az:a5):Prop where
  mem:∀i r aa,b.u i r=f aa->az.u i r=f aa
  box:∀(d:Nat) (bS:an) (L:Loc),k[d]?=f bS->b.s[d]?=f L->∃ea ct,aq[d]?=f ea/\az.s[d]?=f ct/\fP bS L ea ct
structure cN(k:m an)(b:a5)(aq:m an)(az:a5):Prop where
  size:b.a.heap.size<=az.a.heap.size
  aV:∀i,i<b.a.heap.size->(∀L∈b.s,i∉L.ab)->az.a.heap[i]?=b.a.heap[i]?
  mem:∀i r aa,b.u i r=f aa->az.u i r=f aa
  bz:∀i,i<b.a.heap.size->(∀L∈b.s,i∉L.ab)->∀r,az.u i r=b.u i r
  bN:∀ct∈az.s,∀i∈ct.ab,b.a.heap.size<=i∨∃L∈b.s,i∈L.ab
  box:∀(d:Nat) (bS:an) (L:Loc),k[d]?=f bS->b.s[d]?=f L->∃ea ct,aq[d]?=f ea/\az.s[d]?=f ct/\fP bS L ea ct
  os:az.a.os=b.a.os
  tape:az.a.tape=b.a.tape
  output:az.a.output=b.a.output
  own:az.own=b.own
structure de(k:m an)(b:a5)(aq:m an)(az:a5):Prop where
  size:b.a.heap.size<=az.a.heap.size
  aV:∀i,b.own i->az.a.heap[i]?=b.a.heap[i]?
  mem:∀i r aa,b.u i r=f aa->az.u i r=f aa
  bz:∀i,i<b.a.heap.size->(∀L∈b.s,i∉L.ab)->∀r,az.u i r=b.u i r
  bN:∀ct∈az.s,∀i∈ct.ab,b.a.heap.size<=i∨∃L∈b.s,i∈L.ab
  box:∀(d:Nat) (bS:an) (L:Loc),k[d]?=f bS->b.s[d]?=f L->∃ea ct,aq[d]?=f ea/\az.s[d]?=f ct/\fP bS L ea ct
  os:az.a.os=b.a.os
  tape:az.a.tape=b.a.tape
  output:az.a.output=b.a.output
  own:az.own=b.own
structure cV(b az:a5):Prop where
  s:az.s=b.s
  u:az.u=b.u
  own:az.own=b.own
  size:b.a.heap.size<=az.a.heap.size
  aV:∀i,(b.own i∨∃L∈b.s,i∈L.ab)->az.a.heap[i]?=b.a.heap[i]?
  mem:∀i r aa,b.u i r=f aa->az.a.cell? ⟨i,r,n⟩=f aa
  os:az.a.os=b.a.os
  tape:az.a.tape=b.a.tape
  output:az.a.output=b.a.output
def h8(d:a5)(b:aR):Prop:=
  match b.loc with
  |.cell a=>b.sync=u/\a.spot=n/\(False∨((∃L∈d.s,a.block∈L.ab)/\(b.write=l->d.u a.block a.off=n))∨(b.write=u/\∃i,d.u a.block a.off=f i))
  |.obj h=>b.sync=u/\(False∨∃L∈d.s,h∈L.ab)
  |.mark e=>e=.noRoom∨∃g,e=.extern g
  |_=>False
def dw(d:a5)(a:Array aR):Prop:=∀b∈a,h8 d b
def dw.nil{b}:dw b #[]:=by intro a d;grind
def fP.refl(a)(L):fP a L a L:=by cases a<;>simp[fP]
def fP.trans{g d a}{L e b}(i:fP g L d e)(h:fP d e a b):fP g L a b:=by
  cases g<;>cases d<;>cases a<;>simp_all[fP]
  all_goals
    grind
def cN.refl(k)(b):cN k b k b:=
  ⟨bB _,λ_ _ _=>rfl,λ_ _ _ a=>a,λ_ _ _ _=>rfl,λL a h d=>.inr ⟨L,a,d⟩,λ_ e L a g=>⟨e,L,a,g,.refl _ _⟩,rfl,rfl,rfl,rfl⟩
def cN.trans{k aP a}{b e b5}(s:cN k b aP e)(h:cN aP e a b5):cN k b a b5:=by
  have dx:∀i,i<b.a.heap.size->(∀L∈b.s,i∉L.ab)->∀L∈e.s,i∉L.ab:=by
    intro i cU jn L w g;rcases s.bN L w i g with cQ|⟨x,v,p⟩
    · omega
    grind
  refine⟨fR s.size h.size,?_,λi m y j=>h.mem _ _ _ (s.mem _ _ _ j),?_,?_,?_,h.os.trans s.os,h.tape.trans s.tape,h.output.trans s.output,h.own.trans s.own⟩
  · intro i cU jn
    rw[h.aV i (eH cU s.size) (dx i cU jn),s.aV i cU jn]
  · intro i cU jn m
    exact Py
  · intro L w i cU
    rcases h.bN L w i cU with cQ|⟨L1,r,q⟩
    · exact .inl (fR s.size cQ)
    grind
  · intro d bS L aI w
    exact Q_
def de.refl(k)(b):de k b k b:=
  ⟨bB _,λ_ _=>rfl,λ_ _ _ a=>a,λ_ _ _ _=>rfl,λL a h d=>.inr ⟨L,a,d⟩,λ_ e L a g=>⟨e,L,a,g,.refl _ _⟩,rfl,rfl,rfl,rfl⟩
def de.trans{k aP a}{b e b5}(s:de k b aP e)(h:de aP e a b5):de k b a b5:=by
  have dx:∀i,i<b.a.heap.size->(∀L∈b.s,i∉L.ab)->∀L∈e.s,i∉L.ab:=by
    intro i cU jn L w g;rcases s.bN L w i g with cQ|⟨x,v,p⟩
    · omega
    grind
  refine⟨fR s.size h.size,?_,λi m y j=>h.mem _ _ _ (s.mem _ _ _ j),?_,?_,?_,h.os.trans s.os,h.tape.trans s.tape,h.output.trans s.output,h.own.trans s.own⟩
  · intro i cU
    rw[h.aV i (by rw[s.own];exact cU),s.aV i cU]
  · intro i cU jn m
    exact Py
  · intro L w i cU
    rcases h.bN L w i cU with cQ|⟨L1,r,q⟩
    · exact .inl (fR s.size cQ)
    grind
  · intro d bS L aI w
    exact Q_
def cN.too1{k aq}{b az}(e:bc k b)(a:cN k b aq az):de k b aq az:=
  ⟨a.size,λg d=>a.aV g (e.own g d).1 (e.own g d).2,a.mem,a.bz,a.bN,a.box,a.os,a.tape,a.output,a.own⟩
def de.ext{k aq}{b az}(a:de k b aq az):fv k b aq az:=⟨a.mem,a.box⟩
def cV.refl{k}{b}(a:bc k b):cV b b:=⟨rfl,rfl,rfl,bB _,λ_ _=>rfl,a.mem,rfl,rfl,rfl⟩
def cV.aH{k}{b az}(a:cV b az):de k b k az:=
  ⟨a.size,λg d=>a.aV g (.inl d),λg m o i=>by rw[a.u];exact i,λ_ _ _ _=>by rw[a.u],λL e g d=>.inr ⟨L,by rw[<-a.s];exact e,d⟩,
    λj h L aI e=>⟨h,L,aI,by rw[a.s];exact e,.refl _ _⟩,a.os,a.tape,a.output,a.own⟩
def cN.ext{k aq}{b az}(a:cN k b aq az):fv k b aq az:=⟨a.mem,a.box⟩
section mono
variable {k aq:m an}{b az:a5}
def fv.hK(m:fv k b aq az){a:Nat}{L}(j:b.s[a]?=f L)(o:c b.s=c k)(h:∀d,k[a]?=f d->d.dO=u):
    (∀d,aq[a]?=f d->d.dO=u)/\∃e,az.s[a]?=f e/\e.v=L.v:=by have i:a<c k:=N;obtain⟨g,e,k1,q,r⟩:=m.box a (k[a]) L (bF i) j;have p:=h _ (bF i);generalize k[a]=d at *;rw[k1];cases d<;>cases g<;>simp_all[fP,an.dO]
def cB.mono(i:fv k b aq az)(s:c b.s=c k){aa}{w}(j:cB k b aa w):cB aq az aa w:=by
  cases w with
  |c V=>exact Rd.mono i.mem j
  |any=>exact j
  |ptr a K=>
    obtain⟨h,L,N,e,z,F⟩:=j;obtain⟨q,d,k1,A⟩:=i.hK e s h;exact⟨q,d,N,k1,by grind,F⟩
  |w a S T O=>
    obtain⟨B,m,Q⟩:=j;obtain⟨v,d,k1,A,r⟩:=i.box a (k[a]) (b.s[a]'x) (bF m) (bF x);have y:a<c aq:=(cO.1 k1).1;refine⟨Rd.mono i.mem B,y,λM C q o g=>?_⟩;rw[g]at k1;cases k1;have aI:=bF m;generalize k[a]=t at *;cases t with
    |w eP D I p=>
      obtain⟨R,J⟩:=r;grind
    |_=>simp[fP]at r
  |aK a=>
    obtain⟨h,L,e,z,F⟩:=j;obtain⟨q,d,k1,A⟩:=i.hK e s h;exact⟨q,d,k1,by grind,F⟩
  |K a U=>
    obtain⟨E,B,m,Q⟩:=j;obtain⟨v,d,k1,A,r⟩:=i.box a (k[a]) (b.s[a]'x) (bF m) (bF x);have y:a<c aq:=(cO.1 k1).1;refine⟨E,B,y,λM C q o g=>?_⟩;rw[g]at k1;cases k1;have aI:=bF m;generalize k[a]=t at *;cases t with
    |p eP D I p=>
      obtain⟨R,J⟩:=r;grind
    |_=>simp[fP]at r
def bM.mono(g:fv k b aq az)(a:c b.s=c k){A}{ah}(e:bM k b A ah):bM aq az A ah:=by
  induction A generalizing ah with
  |nil=>cases ah<;>simp_all[bM]
  |cons i A d=>
    cases ah with
    |nil=>simp[bM]at e
    |cons h ah=>exact⟨e.1.mono g a,d e.2⟩
def eA.mono(h:fv k b aq az)(a:c b.s=c k){aa}{g}(i:eA k b aa g):eA aq az aa g:=by
  cases g with
  |ar m=>exact cB.mono h a i
  |agg j=>obtain⟨A,d,e⟩:=i;exact⟨A,d,e.mono h a⟩
def eX.mono(h:fv k b aq az)(a:c b.s=c k){A}{ag}(e:eX k b A ag):eX aq az A ag:=by
  induction A generalizing ag with
  |nil=>cases ag<;>simp_all[eX]
  |cons j A d=>
    cases ag with
    |nil=>simp[eX]at e
    |cons i g=>exact⟨e.1.mono h a,d e.2⟩
def bv.mono(h:fv k b aq az)(a:c b.s=c k){aa}{d}(i:bv k b aa d):bv aq az aa d:=by
  cases d with
  |n m=>exact eA.mono h a i
  |Q j=>obtain⟨A,e,g⟩:=i;exact⟨A,e,g.mono h a⟩
  |any=>trivial
def b4.mono(h:fv k b aq az)(a:c b.s=c k){A}{ag}(e:b4 k b A ag):b4 aq az A ag:=by
  induction A generalizing ag with
  |nil=>cases ag<;>simp_all[b4]
  |cons j A d=>
    cases ag with
    |nil=>simp[b4]at e
    |cons i g=>exact⟨e.1.mono h a,d e.2⟩
end mono
def i7(e:m an)(h:a5):m Deferred->m Nat->Prop
  |[],[]=>True
  |i::b,d::a=>(e[d]?=f .bd/\∃(L:Loc) (g:Nat),h.s[d]?=f L/\L.v=.int .i64 g/\i={target:=.collected g,args:=#[]})/\d∉a/\i7 e h b a
  |_,_=>False
def i7.mono{k aq}{b az}(o:fv k b aq az):∀{a:m Deferred} {d:m Nat},i7 k b a d->i7 aq az a d
  |[],[],_=>trivial
  |[],_::_,e=>e.elim
  |_::_,[],e=>e.elim
  |w::a,v::d,⟨⟨i,L,e,j,x,s⟩,t,p⟩=>by
    obtain⟨g,h,k1,q,r⟩:=o.box v _ L i j;cases g<;>simp[fP]at r
    exact⟨⟨k1,h,e,q,by grind,s⟩,t,i7.mono o p⟩
def jQ:m an->Bool
  |[]=>l
  |.bd::_=>u
  |_::a=>jQ a
def vC:∀{e:m an},jQ e=l->∀a∈e,a≠.bd
  |[],_,a,aI=>by grind
  |d::g,h,a,aI=>by
    have b:d≠.bd/\jQ g=l:=by cases d<;>simp_all[jQ]
    rcases fa.1 aI with rfl|aI
    · exact b.1
    · exact vC b.2 a aI
theorem mu{b}{a}{wr}{L}(d:L∈b.s)(e:a∈L.ab):h8 b ⟨.obj a,wr,u⟩:=⟨rfl,.inr ⟨L,d,e⟩⟩
def dw.ar{b}{a}(e:h8 b a):dw b #[a]:=by intro C d;grind
def dw.fi{b}{d a}(h:h8 b d)(g:h8 b a):dw b #[d,a]:=by intro i e;grind
def bu{S:Prop}(s:S:=by simp<;>omega):S:=s
def cT{S:Prop}(s:S:=by((try simp only[T,T.X,a8,bw,dp,c5,cW,dk,gJ,fw,gL,kC,List.length_take,d6,eY,gM,je,dm,dH,f',h4,fm,hK,hv,qb,cl,jE,jc,lB,n1,lA,a_,a']);and_intros<;>first|rfl|omega|trivial|assumption)):S:=s
def hy{S:Prop}(s:S:=by((try simp only[*,T,T.X,a8,bw,dp,c5,cW,dk,gJ,fw,gL,kC,List.length_take,d6,eY,gM,je,dm,dH,f',h4,fm,hK,hv,qb,cl,jE,jc,lB,n1,lA,a_,a']);and_intros<;>first|rfl|omega|trivial|assumption)):S:=s
def lF{S:Prop}(s:S:=by(simp_all[T,T.X,a8,bw,dp,c5,cW,dk,gJ,fw,gL,kC,List.length_take,d6,eY,gM,je,dm,dH,f',h4,fm,hK,hv,qb,cl,jE,jc,lB,n1,lA,a_,a']<;>omega)):S:=s
def bD{S:Prop}(s:S:=by((try simp only[*,T,T.X,a8,bw,dp,c5,cW,dk,gJ,fw,gL,kC,List.length_take,d6,eY,gM,je,dm,dH,f',h4,fm,hK,hv,qb,cl,jE,jc,lB,n1,lA,a_,a',a3.l,a1.l,bh.l,bG.l,aC.l,bx.l,bQ.l,cu.l,fb.l,a3.T,a1.T,bh.T,bG.T,aC.T,bx.T,bQ.T,cu.T,fb.T]);and_intros<;>first|rfl|omega|trivial|assumption)):S:=s
abbrev ax(a:O):y:=.n (.ar (.c a))
abbrev aH(a b:Nat):y:=.n (.ar (.ptr a b))
abbrev cD(a:Nat)(b:pS):y:=.n (.ar (.K a b))
abbrev cL(a:Value):y:=.n (.ar (.c (.val a)))
variable {j z:Nat}{h:Int}{d i e t:Nat}{W:ao}{H:Y->(Nat->Option Obj)->Prop}{L:Array Bool}{bA:Mem}{D:Nat}{P:aE}{bq:ai->a5->Prop}{q:Code}{B:ai}{r:ap}{b:a5}{o:ao}{aa:Y}{α:Type}{η:ae->y}{ι:Type}{k:m an}{F:bH}{all:m ap}{dt:Array ao}{cap:m O}{cR:m y}{k7:Nat->Option Obj}{ah:m aJ}{bg:m (Nat×Bool)}{U:Nat->m O}{cP:ae}{gs:Array ai}{aT:m Nat}{cj:m Prop}{off:Nat}{op:BinOp}{aF:Array ap}{Z:m Prop}{br:m ap}{az:a5}{ty:ao}{val:Nat->Nat->Y}{A:m Y}{bj:au}{ag:Array ae}{aq dh:m an}{res:ι->y}{aP:ι->m an}
def Kq{P}{k}:∀{p:m (String×DataW Unit)}{d:m MemPlace},DataW.LaidVars P k p d->∀{e:String}{h:DataW Unit},(e,h)∈p ->
  ∃i j b a q,P.globalNamed e=f i/\(P.globals[i]?).map (·.type)=f j/\k.var? P e=f b/\DataW.trod (λ_=>()) P k 0 (λ_=>l) u a j b.toList=f (h,q)
 |[],_,_,_,_,g=>by cases g
 |(z,s)::B,d,t,e,h,g=>by
  obtain⟨i,j,b,a,q,A,x,v,y,w,r,_⟩:=t;rcases fa.1 g with o|o
  .grind
  exact Kq r o
theorem Ms{P}{a:au}(b:a.ShapedOpen P){B}{zero}{o}(d:B<P.globals.size)(h:(((begin P (λ_ _=>0) default).world.heap[B]?).bind Obj.row?)=f (zero,o)){j}(k:P.globalNamed j=f B){ah}(e:a.var? P j=f ah):
  a.heap[B]?=f (.cells ah o (0,0)):=by obtain⟨g,i,_⟩:=b.1 B zero o d h;unfold World.var? at e;grind
def Kr{P}{b}{g:m (String×DataW Unit)}(p:laidMetH P g b)(h:b.ShapedOpen P){j e}{k}(F:(j,.iface e k)∈g.filter λE=>E.2.handleName?.isNone){B o q}{cw}{zero}(d:P.globalNamed j=f B)(y:(P.globals[B]?).map (·.type)=f o)(x:P.underlying o=f (.interface cw))(D:B<P.globals.size)(I:(((begin P (λ_ _=>0) default).world.heap[B]?).bind Obj.row?)=f (zero,q)):∃a:ao×Y,b.heap[B]?=f (.cells #[.iface a.1 a.2] q (0,0)):=by obtain⟨w,r,_⟩:=(laidMetH_iff.1 p).1;obtain⟨Q,t2,i,J,K,v,s,z,t⟩:=Kq r F;cases d.symm.trans v;cases y.symm.trans s;obtain⟨_,A,C,a,_⟩:=iface_of_trod x t;have:=Ms h D I d z;rw[Array.eq_one_of_toList a]at this;exact⟨(A,C),this⟩
def Zu{P}{a}{d}(p:laidMetH P d a)(y:a.ShapedOpen P){j}{e}{b}(w:(j,e)∈d.filter λx=>x.2.handleName?.isSome)(m:e.funcsIn?=n)(t:e.handleName?=f b){B i h ty}{zero}(F:P.globalNamed j=f B)(s:(P.cutTypes.find? (·.1== "internal/reflectlite.rtype")).map (·.2)=f h)(D:((aA P.types.size).filter λg=>P.rowNamed g b)=[ty])(E:B<P.globals.size)(Q:(((begin P (λ_ _=>0) default).world.heap[B]?).bind Obj.row?)=f (zero,i)):a.heap[B]?=f (.cells #[.iface h (.agg #[typeHandle P ty])] i (0,0)):=by have:=(laidMetH_iff.1 p).2 _ w;rw[m]at this;obtain⟨name,C,k,o,v,q,r,A⟩:=this;cases t.symm.trans o;cases s.symm.trans v;have z:k∈(aA P.types.size).filter λg=>P.rowNamed g b:=jd.2 ⟨rj.2 q,r⟩;grind[Ms]
section
open Go.Conc (G listed)
def ky(e b:a5)(d:Array aR):Prop:=(∃g a,bc g e/\bc a b/\cN g e a b)/\dw e d
structure af(P:aE) where
 b4:Bool
 rely:a5->a5->Prop
 dj:ai->a5->(ai->a5->Prop)->Prop
 bM:∀{b az},rely b az->cV b az
 dR:Prop
class af.b2 {P:aE} (p:af P):Prop where
 ok:p.dR
structure e3(b az:a5):Prop where
 a:az.a=b.a
 mem:∀i r aa,b.u i r=f aa->az.u i r=f aa
 bz:∀i,(∀L∈b.s,i∉L.ab)->∀r,az.u i r=b.u i r
 cell:∀i r aa,az.u i r=f aa->b.a.cell? ⟨i,r,n⟩=f aa
 blk:∀i,(az.own i∨∃L∈az.s,i∈L.ab)->b.own i∨∃L∈b.s,i∈L.ab
structure nT(b az:a5):Prop where
 a:az.a=b.a
 s:az.s=b.s
 own:az.own=b.own
 e7:∀i r aa,az.u i r=f aa->b.u i r=f aa
 mem:∀i r aa,b.u i r=f aa->az.u i r=f aa∨b.own i
inductive cd {P:aE} (p:af P) (bq:ai->a5->Prop):ai->a5->Prop
 |stop {B:ai} {b:a5}:bq B b->cd p bq B b
 |step {B:ai} {b:a5} (KZ:a5->ai) (bt:a5->a5) (KV:a5->Array aR):B.status=.running ->
   (∀s1,p.rely b s1->ar P p.b4 B s1.a=.go (KZ s1) (bt s1).a (KV s1))->(∀s1,p.rely b s1->ky s1 (bt s1) (KV s1))->(∀s1,p.rely b s1->cd p bq (KZ s1) (bt s1))->cd p bq B b
 |aS {B:ai} {b az:a5}:e3 b az->cd p bq B az->cd p bq B b
 |bZ {B:ai} {b az:a5}:p.dR->nT b az->cd p bq B az->cd p bq B b
 |dj {B:ai} {b:a5} {ac:ai->a5->Prop}:p.dj B b ac->(∀hr az,ac hr az->cd p bq hr az)->cd p bq B b
section
variable {p:af P}
def cd.next(h:B.status=.running)(i:∀q,p.rely b q->∃a az U,ar P p.b4 B q.a=.go a az.a U/\ky q az U/\cd p bq a az):cd p bq B b:=by
 classical
 have d:∀q,∃ba:ai×a5×Array aR,p.rely b q->ar P p.b4 B q.a=.go ba.1 ba.2.1.a ba.2.2/\ky q ba.2.1 ba.2.2/\cd p bq ba.1 ba.2.1:=by
  intro q;by_cases e:p.rely b q
  .obtain⟨a,az,U,cQ⟩:=i q e;exact⟨(a,az,U),λ_=>cQ⟩
  exact⟨(B,q,#[]),λg=>absurd g e⟩
 refine .step (λq=>(Classical.choose (d q)).1) (λq=>(Classical.choose (d q)).2.1) (λq=>(Classical.choose (d q)).2.2) h N N ?_;grind
theorem e3.of(m:bc k b)(o:bc aq az)(p:az.a=b.a)(h:de k b aq az):e3 b az:=by
 have v:∀a g i,az.u a g=f i->b.a.cell? ⟨a,g,n⟩=f i:=λa g i j=>by rw[<-p];exact o.mem a g i j
 have r:∀a g i,b.a.cell? ⟨a,g,n⟩=f i->a<b.a.heap.size:=by
  intro a g i j;rcases dW a b.a.heap.size with d|d
  .exact d
  simp[aL,AO d]at j
 refine⟨p,h.mem,λa e g=>?_,v,λa e=>?_⟩
 .rcases dW a b.a.heap.size with d|d
  .exact h.bz a d e g
  cases t:az.u a g with
  |some i=>grind
  |none=>cases s:b.u a g with
   |none=>rfl
   |some i=>have:=r _ _ _ (m.mem _ _ _ s);omega
 rcases e with e|⟨L,q,e⟩
 .exact .inl (by rw[<-h.own];exact e)
 rcases h.bN L q a e with d|d
 .have:=o.lt L q a e;grind
 grind
def bc.rely(m:bc k b)(h:cV b az):bc k az:=by
 have s:fv k b k az:=h.aH.ext;have X:∀v x,cB k b v x->cB k az v x:=λv x w=>w.mono s m.len;refine⟨λj r v B=>h.mem j r v (by rw[<-h.u];exact B),by rw[h.s];exact m.len,?_,by rw[h.s];exact m.a1,?_,?_⟩
 .intro d D L aI o;rw[h.s]at o;have e:=m.box d D L aI o;have K:∀j∈L.ab,az.a.heap[j]?=b.a.heap[j]?:=λj e=>h.aV j (.inr ⟨L,b' o,e⟩);cases D with
  |cells E F=>
   obtain⟨j,A,g,i,p,q⟩:=e;subst g;exact⟨j,A,a,by grind,p.mono s m.len,λr=>by rw[h.u,q]⟩
  |w E O R z=>
   obtain⟨g,i⟩:=e;refine⟨by rw[h.u];exact g,?_⟩;rcases i with⟨i,p⟩|⟨j,cap,A,i,p,q,t⟩
   .exact .inl ⟨i,by rw[h.u];exact p⟩
   subst i;exact .inr ⟨j,cap,A,a,by grind,q,λr C=>by rw[h.u,t r C]⟩
  |E H=>
   obtain⟨y,g,i,p,q⟩:=e;refine⟨y,g,λj r W=>?_,p,λj I r=>by rw[h.u,q j I]⟩;grind
  |J=>trivial
  |loop V U w=>
   obtain⟨d,tmps,fn,J,g,i,p,q,t⟩:=e;subst g;exact⟨d,tmps,fn,J,a,by grind,p,λT=>(q T).mono s m.len,λr=>by rw[h.u,t]⟩
  |bd=>
   obtain⟨w,g,i,p⟩:=e;subst g;exact⟨w,a,by grind,λr=>by rw[h.u,p]⟩
  |p E O R z=>
   rcases e with e|⟨j,S,A,Q,g,i,p,q,t,M,N⟩
   .exact .inl e
   subst g;exact .inr ⟨j,S,A,Q,a,by grind,p,q,t,by rw[h.u];exact M,λr=>by rw[h.u,N]⟩
 .intro L o j e;rw[h.s]at o;exact eH (m.lt L o j e) h.size
 intro j e;rw[h.own]at e;rw[h.s];exact⟨eH (m.own j e).1 h.size,(m.own j e).2⟩
def ky.aY(a:bc k b):ky b b #[]:=⟨⟨k,k,a,a,.refl _ _⟩,.nil⟩
def _root_.Go.Frame.N(b:aJ)(a:Act)(todo:m Item):aJ:={b with tmps:=a.tmps,todo:=todo,defers:=a.defers++b.defers,mode:=.run}
variable {i:aJ}{w:Act}{h:m Item}{M:au}{eV:Bool}
def JA(a:aJ)(w)(q):(a.N w q).eval=w.eval:=by funext b;cases b<;>rfl
def Mp:ar P eV (G (i.N w (.code .skip::h)) ah) M=.go (G (i.N w h) ah) M:=qX
def Ml{id}:ar P eV (G (i.N w (.inBlock id::h)) ah) M=.go (G (i.N w h) ah) M:=qX
theorem pD{a b}:ar P eV (G (i.N w (.code (.seq a b)::h)) ah) M=.go (G (i.N w (.code a::.code b::h)) ah) M:=qX
def zj{q}{a b}{o}(e:w.eval q=.bool o):
  ar P eV (G (i.N w (.code (.cond q a b)::h)) ah) M=.go (G (i.N w (.code (if o then a else b)::h)) ah) M:=by
 have d:(i.N w (.code (.cond q a b)::h)).eval q=.bool o:=by rw[JA];exact e
 simp[Frame.N]at d;simp[G,ar,stepG.exec,Frame.N,d]
def zi{id}:ar P eV (G (i.N w (.code (.block id q)::h)) ah) M=.go (G (i.N w (.code q::.inBlock id::h)) ah) M:=qX
def Mn:ar P eV (G (i.N w (.code (.loop q)::h)) ah) M=.go (G (i.N w (.code q::.inLoop q::h)) ah) M:=qX
def Mm:ar P eV (G (i.N w (.inLoop q::h)) ah) M=.go (G (i.N w (.code q::.inLoop q::h)) ah) M:=qX
def Mk{id}{gl}(s:exitTo id h=f gl):ar P eV (G (i.N w (.code (.exit id)::h)) ah) M=.go (G (i.N w gl) ah) M:=FX
def zl{id}:ar P eV (G (i.N w (.code (.region id aF u)::h)) ah) M=.go (G (i.N w (.inRegion aF (aA aF.size)::h)) ah) M:=qX
def Eo{id}:ar P eV (G (i.N w (.code (.region id aF l)::h)) ah) M =
  .go (G (i.N w (.inRegion aF (Region.schedule (P.follows .mixedOrders) aF (M.tape M.drawn (.order i.fn id)))::h)) ah) {M with drawn:=M.drawn+1}:=by simp[G,ar,stepG.exec,Frame.N,choose,Sem.run,Question.forced,Question.cut]
def v3:ar P eV (G (i.N w (.inRegion aF []::h)) ah) M=.go (G (i.N w h) ah) M:=qX
def Ep(s:i.roundOf=n):ar P eV (G (i.N w (.code .ret::h)) ah) M=.go (G {i.N w (.code .ret::h)with mode:=.returning} ah) M:=FX
def En(s:i.roundOf=n):ar P eV (G (i.N w []) ah) M=.go (G {i.N w []with mode:=.returning} ah) M:=FX
def qq(aF)(e)(br)(aa):
  (i.N w (.inRegion aF (e::br)::h)).finish aa=i.N (w.put ((aF[e]?).bind (·.dst)) aa) (.inRegion aF br::h):=by cases a:(aF[e]?).bind (·.dst)<;>simp[Frame.finish,Frame.N,Act.put,a]
def abE{br}(a:aF[e]?=f r)(d:aS r (yielded aF w.tmps)=u):
  ar P eV (G (i.N w (.inRegion aF (e::br)::h)) ah) M=.go (G (i.N (w.put r.dst I) (.inRegion aF br::h)) ah) M:=by have b:=qq (i:=i) (w:=w) (h:=h) aF e br I;rw[a]at b;simp[n0]at b;rw[<-b];simp[G,ar,stepG.exec,Frame.N,a,d]
theorem x3{a:ae->Y}{q}(h:r.op=.defer q){e}(b:(ab a r).run P M=.ok e bj):∃d,e=.defer d:=by
 simp[ab,h,cJ]at b;cases g:(resolve a q r.type).run P M with
 |ok d w2=>rw[g]at b;simp at b;grind
 |halt i w2=>simp_all
def zk{a:m Nat}(b:aF[e]?=f r)(j:aS r (yielded aF w.tmps)=l)(k:∀g,r.op≠.defer g):
  ar P eV (G (i.N w (.inRegion aF (e::a)::h)) ah) M=stepG.apply P l (i.N w (.inRegion aF (e::a)::h)) ah n (ab w.eval r) M:=by have d:=JA i w (.inRegion aF (e::a)::h);simp[Frame.N]at d;simp[G,ar,stepG.exec,stepG.oper,Frame.oper?,Frame.N,b,j,d];grind
theorem abK{br}(a:aF[e]?=f r)(g:aS r (yielded aF w.tmps)=l)(k:i.kind≠.early)(j:(ab w.eval r).run P M=.ok (.value aa) bj):
  ar P eV (G (i.N w (.inRegion aF (e::br)::h)) ah) M=.go (G (i.N (w.put r.dst aa) (.inRegion aF br::h)) ah) bj (listed P i.fn w r M):=by have b:=qq (i:=i) (w:=w) (h:=h) aF e br aa;rw[a]at b;simp[n0]at b;have d:(i.kind==CallKind.early)=u:=N;rw[zk a g (λm o=>by grind[x3]),<-b];simp[stepG.apply,j,G,Frame.N,d,GStep.after,listed]
theorem Mo{br}(a:aF[e]?=f r)(g:aS r (yielded aF w.tmps)=l)(k:i.kind≠.early)(j:(ab w.eval r).run P M=.ok .skip bj):
  ar P eV (G (i.N w (.inRegion aF (e::br)::h)) ah) M=.go (G (i.N (w.put r.dst I) (.inRegion aF br::h)) ah) bj (listed P i.fn w r M):=by have b:=qq (i:=i) (w:=w) (h:=h) aF e br I;rw[a]at b;simp[n0]at b;have d:(i.kind==CallKind.early)=u:=N;rw[zk a g (λm o=>by grind[x3]),<-b];simp[stepG.apply,j,G,Frame.N,d,GStep.after,listed]
def tB{br}{b}{args}(a:aF[e]?=f r)(g:aS r (yielded aF w.tmps)=l)(k:i.kind≠.early)(j:(ab w.eval r).run P M=.ok (.enter b args) bj):
  ar P eV (G (i.N w (.inRegion aF (e::br)::h)) ah) M=.go (G (Frame.enter P b args .normal) (i.N w (.inRegion aF (e::br)::h)::ah)) bj (listed P i.fn w r M):=by have d:(i.kind==CallKind.early)=u:=N;rw[zk a g (λm o=>by grind[x3])];simp[stepG.apply,j,G,Frame.N,d,GStep.after,listed]
structure l_(P:aE)(al:a2)(hA:aJ)(aa:Y)(b:a5):Prop where
 jv:hA.fn=al
 mode:hA.mode=.returning
 defers:hA.defers=[]
 kind:hA.kind=.normal
 fn:∃fn,P.funcs[hA.fn]?=f fn/\∀M,(∀i r bz,b.u i r=f bz->M.cell? ⟨i,r,n⟩=f bz)->(results fn hA.tmps).run P M=.ok aa M/\∀aj∈(results fn hA.tmps).events P M #[],∃i r bz,aj=⟨.cell ⟨i,r,n⟩,u,u⟩/\b.u i r=f bz
def l_.mono{g}{hA}(o:l_ P g hA aa b)(r:∀e h i,b.u e h=f i->az.u e h=f i):l_ P g hA aa az:=by obtain⟨a,d,m,j,fn,k,q⟩:=o;refine⟨a,d,m,j,fn,k,λs p=>?_⟩;grind
def dw.seen{b}{U}{fn}(e:dw b U):dw b (seen P fn U):=λd a=>e d (Go.Conc.mem_seen a)
def abD{k}{B q}(g:l_ P k B aa b)(M)(m:∀a e h,b.u a e=f h->M.cell? ⟨a,e,n⟩=f h):∃d,ar P eV (G B (q::ah)) M=.go (G (q.finish aa) ah) M d/\∀i∈d,∃a e h,i=⟨.cell ⟨a,e,n⟩,u,u⟩/\b.u a e=f h:=by obtain⟨fn,o,j⟩:=g.fn;obtain⟨s,r⟩:=j M m;refine⟨seen P B.fn ((results fn B.tmps).events P M #[]),?_,λi p=>r i (Go.Conc.mem_seen p)⟩;simp[G,ar,unwind,doReturn,g.mode,g.defers,g.kind,o,s,GStep.after]
end
end
structure bZ(D:Nat)(k:m an)(b:a5)(F:bH)(w:Act):Prop where
 size:w.tmps.size=D
 defers:∃nz,i7 k b w.defers nz
 al:∀o,bv k b (w.tmps.getD o I) (look F o)
def bZ.mono{D}{k aq}{b az}{F}{w}(g:de k b aq az)(e:c b.s=c k)(a:bZ D k b F w):bZ D aq az F w:=
 ⟨a.size,a.defers.imp λ_ d=>d.mono g.ext,λh=>(a.al h).mono g.ext e⟩
def bZ.rely{w}(e:cV b az)(a:bc k b)(d:bZ D k b F w):bZ D k az F w:=d.mono e.aH a.len
def bZ.put{D}{k}{b}{F}{w}(a:bZ D k b F w){K}(e:K<D){aa}{C}(j:bv k b aa C):bZ D k b ((K,C)::F) (w.put (f K) aa):=by
 refine⟨by simp[Act.put,a.size],a.defers,λd=>?_⟩;simp[Act.put,look];by_cases g:K=d
 .subst g;rw[show ad K K=l from sz K];have h:K<w.tmps.size:=by rw[a.size];exact e
  simp[hu,uC h,h5,cond];exact j
 have:ad K d=u:=t_;rw[this];have i:=a.al d;simp[hu]at i⊢;grind
def iA(h a:bH):Prop:=∀b d g e,bv b d g (look h e)->bv b d g (look a e)
def bZ.le{dG}{w}(d:iA F dG)(a:bZ D k b F w):bZ D k b dG w:=
 ⟨a.size,a.defers,λe=>d _ _ _ _ (a.al e)⟩
abbrev fB:=Exit->bH->m an->Prop
def kG(h:af P)(g:ai->a5->Prop)(i:aJ)(k:m Item)(a:m aJ):Exit->Act->a5->Prop
 |.normal,b,d=>cd h g (G (i.N b k) a) d
 |.exit id,b,d=>∀pre,(∀e,exitTo id (pre++e)=exitTo id e)->cd h g (G (i.N b (.code (.exit id)::(pre++k))) a) d
 |.ret,b,d=>∀pre,cd h g (G (i.N b (.code .ret::pre)) a) d
 |.panic j,b,d=>∀o,cd h g (G {i.N b o with mode:=.panicking j} a) d
 |_,_,_=>False
section
variable {p:af P}{i:aJ}{h:m Item}{w:Act}
def kG.cons{g}(o:∀id a,exitTo id (g::a)=exitTo id a){e}(m:e≠.normal)(d:kG p bq i h ah e w b):kG p bq i (g::h) ah e w b:=by
 cases e with
 |normal=>grind
 |exit id=>
  intro pre k;have:=d (pre++[g]) (λa=>by grind);grind
 |ret=>exact d
 |panic j=>exact d
 |goto q=>exact d
 |outgrown=>exact d
def cd.ctl{a}(g:bc k b)(j:B.status=.running)(i:∀h,ar P p.b4 B h=.go a h #[])(m:∀d,cV b d->cd p bq a d):cd p bq B b:=
 .next j λd e=>⟨a,d,#[],i d.a,.aY (g.rely (p.bM e)),m d (p.bM e)⟩
def uH{j}{t q}(v:bc k b)(m:l_ P j t aa b)(o:∀d,cV b d->cd p bq (G (q.finish aa) ah) d):cd p bq (G t (q::ah)) b:=by refine .next a λd w=>?_;have e:=p.bM w;have h:=v.rely e;obtain⟨g,r,y⟩:=abD (eV:=p.b4) (q:=q) (ah:=ah) m d.a e.mem;refine⟨_,d,g,r,⟨⟨k,k,h,h,.refl _ _⟩,λi s=>?_⟩,o d e⟩;obtain⟨A,B,z,rfl,x⟩:=y i s;exact⟨a,a,.inr (.inr ⟨a,z,by rw[e.u];exact x⟩)⟩
def xj(k:Nat->Act->a5->Prop)(y:∀j w b,k j w b->∃o,bc o b/\∀g,cV b g->k j w g)(round:∀j w b,k j w b->(∀d e m,m<j->k m d e->cd p bq (G (i.N d (.inLoop q::h)) ah) e)->cd p bq (G (i.N w (.code q::.inLoop q::h)) ah) b)(B:k j w b):
  cd p bq (G (i.N w (.code (.loop q)::h)) ah) b:=by
 have key:∀j w b,k j w b->cd p bq (G (i.N w (.inLoop q::h)) ah) b:=by
  intro j;induction j using Nat.strongRecOn with
  |_ j A=>
   intro w b x;obtain⟨o,s,t⟩:=y j w b x;exact .ctl s a (λC=>Mm) λg v=>round j w g (t g v) λd e m z r=>A m z d e r
 obtain⟨o,s,t⟩:=y j w b B;exact .ctl s a (λC=>Mn) λg v=>round j w g (t g v) λd e m _ r=>key m d e r
end
def b2(p:af P)(k:Nat)(v:Code)(aM:fB)(t:bH)(i:m an):Prop:=
 ∀h q,bZ k i h t q->bc i h->∀j s g (o:ai->a5->Prop),j.kind≠.early ->
  (∀r d a b e,aM r d a->bZ k a b d e->bc a b->de i h a b->kG p o j s g r e b)->cd p o (G (j.N q (.code v::s)) g) h
def nV(a:m ap):m Nat->m ap->Prop
 |[],[]=>True
 |d::idx,e::b=>a.toArray[d]?=f e/\nV a idx b
 |_,_=>False
def fi(r:af P)(p:Nat)(d e:m ap)(aM:bH->m an->Prop)(v:bH)(k:m an):Prop:=
 ∀j s,bZ p k j v s->bc k j->∀(o:aJ) t i (q:ai->a5->Prop) idx,o.kind≠.early->nV d idx e ->
  (∀g a b h,aM g a->bZ p a b g h->bc a b->de k j a b->cd r q (G (o.N h t) i) b)->cd r q (G (o.N s (.inRegion d.toArray idx::t)) i) j
section rules
variable {p:af P}{aM:fB}
def b2.mono{o}(x:b2 p D q aM F k)(y:∀a F k,aM a F k->o a F k):b2 p D q o F k:=
 λb s v j t A g r i h=>x b s v j t A g r i λa d aq az e B z w m=>h a d aq az e (y _ _ _ B) z w m
def b2.le{q}{dG}(o:b2 p D q aM dG k)(g:iA F dG):b2 p D q aM F k:=
 λs i m e j r a h d b=>o s i (m.le g) e j r a h d b
theorem b2.skip(m:aM .normal F k):b2 p D .skip aM F k:=λs e i d q r h o _ g=>
 .ctl d a (λ_=>Mp) λj b=>g .normal F k j e m (i.rely b d) (d.rely b) b.aH
def b2.ret(h:aM .ret F k):b2 p D .ret aM F k:=λj b g a o i e m _ d=>d .ret F k j b h g a (.refl _ _) i
theorem b2.exit{id}(h:aM (.exit id) F k):b2 p D (.exit id) aM F k:=λi b g a m o e j _ d=>by have:=d (.exit id) F k i b h g a (.refl _ _) [] bn;grind
def wc(next:bH->m an->Prop)(aM:fB):fB
 |.normal,a,b=>next a b
 |d,a,b=>aM d a b
theorem b2.seq{M y}(S:b2 p D M (wc (b2 p D y aM) aM) F k):b2 p D (.seq M y) aM F k:=by
 intro V Q T d A J e z h g;refine .ctl d a (λ_=>pD) λU b=>?_;refine S U Q (T.rely b d) (d.rely b) A (.code y::J) e z h ?_;intro q N O v m K I C x;have B:=b.aH.trans x;cases q with
 |normal=>exact K v m I C A J e z h λq R j w o t r s i=>g q R j w o t r s (B.trans i)
 |_=>exact kG.cons (λ_ _=>rfl) E (g _ _ _ _ _ K I C B)
theorem b2.cond{q}{M N}{o}{v}(T:q=.tmp v)(B:look F v=ax (.bool o))(S:o=l->b2 p D M aM F k)(O:o=u->b2 p D N aM F k):b2 p D (.cond q M N) aM F k:=by
 intro V r y g x E j w m A;have t:=y.al v;rw[B]at t;have z:r.eval q=.bool o:=by subst T;generalize z:r.tmps.getD v I=W at t;simp[bv,eA,cB]at t;cases t;exact z
 refine .ctl g a (λ_=>zj z) λC e=>?_;have K:∀s h b d i,aM s h b->bZ D b d h i->bc b d->de k C b d->kG p w x E j s i d:=λs h b d i U R Q J=>A s h b d i U R Q (e.aH.trans J);cases o
 .exact O a C r (y.rely e g) (g.rely e) x E j w m K
 exact S a C r (y.rely e g) (g.rely e) x E j w m K
def uM(id:Nat)(aM:fB):fB
 |.exit a,b,d=>if a=id then aM .normal b d else aM (.exit a) b d
 |e,b,d=>aM e b d
theorem b2.block{id}(w:b2 p D q (uM id aM) F k):b2 p D (.block id q) aM F k:=by
 intro A r x e s h g o i lP;refine .ctl e a (λ_=>zi) λy d=>?_;refine w y r (x.rely d e) (e.rely d) s (.inBlock id::h) g o i ?_;intro aj dG aq j fQ bd B al m;have K:=d.aH.trans m;cases aj with
 |normal=>
  exact Pc
 |exit b=>
  simp[uM]at bd;split at bd
  .exact Q5
  .rename_i t
   intro pre vj;have:=lP (.exit b) dG aq j fQ bd B al K (pre++[.inBlock id]) (λgl=>by
    rw[mh,vj];have:(id==b)=u:=N
    simp[exitTo,this])
   grind
 |ret=>exact lP _ _ _ _ _ bd B al K
 |panic v=>exact lP _ _ _ _ _ bd B al K
 |goto z=>exact lP _ _ _ _ _ bd B al K
 |outgrown=>exact lP _ _ _ _ _ bd B al K
def b2.loop{bq:Type}(w:bq->Prop)(h:bq->bH)(b:bq->m an)(y:bq->Nat)(e)(ae:w e)(Y:iA F (h e))(V:b e=k)(round:∀e,w e->b2 p D q (wc (λz A=>∃d,w d/\y d<y e/\iA z (h d)/\A=b d) aM) (h e) (b e)):b2 p D (.loop q) aM F k:=by
 intro ab ag Z N T W I bq M K;subst V;refine xj (λj g az=>∃d,w d/\bZ D (b d) az (h d) g/\bc (b d) az/\de (b e) ab (b d) az/\y d=j) ?_ ?_ ⟨e,ae,Z.le Y,N,.refl _ _,a⟩
 .rintro j g az ⟨d,t,r,B,x,J⟩;exact⟨b d,B,λai o=>⟨d,t,r.rely o B,B.rely o,x.trans o.aH,J⟩⟩
 rintro j g az ⟨d,t,r,B,x,rfl⟩ aa;refine round d t az g r B T (.inLoop q::W) I bq M ?_;intro J ah S O C Q s v i;cases J with
 |normal=>
  obtain⟨R,af,X,U,rfl⟩:=Q;exact aa C O (y R) X ⟨R,af,s.le U,v,x.trans i,a⟩
 |_=>exact kG.cons (λ_ _=>rfl) E (K _ _ _ _ _ Q s v (x.trans i))
end rules
def bM.cL{ah}(d:bM k b A ah):c A=c ah:=by
 induction A generalizing ah with
 |nil=>cases ah<;>simp_all[bM]
 |cons g A a=>
  cases ah with
  |nil=>simp[bM]at d
  |cons e ah=>simp[a d.2]
def cB.cell{k}{b}{aa}{g}(a:cB k b aa g):dU aa=l:=by
 cases g with
 |c p=>exact Rd.cell a
 |ptr e h=>obtain⟨_,_,_,_,_,rfl⟩:=a;rfl
 |w e j m i=>exact Rd.cell a.1
 |aK e=>obtain⟨_,_,_,_,d⟩:=a;exact d
 |K e o=>obtain⟨_,d,_⟩:=a;exact d.cell
 |any=>exact a
theorem bM.get{ah}(h:bM k b A ah){w}(d:ah[t]?=f w):∃e,A[t]?=f e/\cB k b e w:=by
 induction A generalizing ah t with
 |nil=>cases ah<;>simp_all[bM]
 |cons e A g=>
  cases ah with
  |nil=>grind
  |cons i ah=>
   cases t with
   |zero=>simp at d;subst d;exact⟨e,a,h.1⟩
   |succ t=>simp at d;obtain⟨o,j,m⟩:=g h.2 d;grind
def bM.cell{k}{b}{A}{ah}(e:bM k b A ah):∀h∈A,h.oneCell'=l:=by
 induction A generalizing ah with
 |nil=>simp
 |cons h A d=>
  cases ah with
  |nil=>simp[bM]at e
  |cons i ah=>
   intro g a;rcases fa.1 a with rfl|a
   .have:=cB.cell e.1;cases g<;>simp_all[dU,Value.oneCell']
   exact d e.2 g a
def bM.append{i}{ah a}(e:bM k b A ah)(g:bM k b i a):bM k b (A++i) (ah++a):=by
 induction A generalizing ah with
 |nil=>cases ah<;>simp_all[bM]
 |cons j A d=>
  cases ah with
  |nil=>simp[bM]at e
  |cons h ah=>exact⟨e.1,d e.2⟩
def bM.take{k}{b}{A}{ah}(d:bM k b A ah)(h):bM k b (A.take h) (ah.take h):=by
 induction A generalizing ah h with
 |nil=>cases ah<;>simp_all[bM]
 |cons g A a=>
  cases ah with
  |nil=>simp[bM]at d
  |cons e ah=>cases h with
   |zero=>simp[bM]
   |succ h=>exact⟨d.1,a d.2 h⟩
def bM.drop{k}{b}{A}{ah}(d:bM k b A ah)(h):bM k b (A.drop h) (ah.drop h):=by
 induction A generalizing ah h with
 |nil=>cases ah<;>simp_all[bM]
 |cons g A a=>
  cases ah with
  |nil=>simp[bM]at d
  |cons e ah=>cases h with
   |zero=>exact d
   |succ h=>simpa using a d.2 h
theorem bc.block(a:bc k b){r}(d:b.u i r=f aa):i<b.a.heap.size:=by
 have:=a.mem i r aa d;rcases dW i b.a.heap.size with a|a
 .exact a
 simp[aL,AO a]at this
def bc.same(g:bc k b)(v:bj.heap=b.a.heap):bc k {b with a:=bj}:=by
 have M:∀j,bj.cell? j=b.a.cell? j:=λj=>by simp[aL,v]
 have S:∀p j,cB k b p j->cB k {b with a:=bj} p j:=λp j o=>by cases j<;>exact o
 have x:∀A d,bM k b A d->bM k {b with a:=bj} A d:=by
  intro A;induction A with
  |nil=>intro d o;cases d<;>simp_all[bM]
  |cons p A z=>intro d o;cases d with
   |nil=>simp[bM]at o
   |cons j d=>exact⟨S _ _ o.1,z _ o.2⟩
 refine⟨λe D p y=>by rw[M];exact g.mem e D p y,g.len,?_,g.a1,λL x e i=>by show e<bj.heap.size;rw[v];exact g.lt L x e i,λe i=>⟨by show e<bj.heap.size;rw[v];exact(g.own e i).1,(g.own e i).2⟩⟩;intro B s L aI r;have:=g.box B s L aI r;cases s with
 |cells C E=>
  obtain⟨e,A,a,h,m,q⟩:=this;exact⟨e,A,a,by grind,x _ _ m,q⟩
 |w C K N w=>
  obtain⟨a,h⟩:=this;refine⟨a,?_⟩;grind
 |E H=>
  obtain⟨t,a,h,m,q⟩:=this;exact⟨t,a,λe D i=>by grind,m,q⟩
 |J=>trivial
 |loop U T o=>
  obtain⟨B,tmps,fn,F,a,h,m,q,J⟩:=this;exact⟨B,tmps,fn,F,a,by grind,m,λR=>bv.mono (b:=b) (aq:=k) (az:={b with a:=bj}) ⟨λ_ _ _ g=>g,λ_ s L g I=>⟨s,L,g,I,.refl _ _⟩⟩ g.len (q R),J⟩
 |bd=>
  obtain⟨o,a,h,m⟩:=this;exact⟨o,a,by grind,m⟩
 |p C K N w=>
  rcases this with a|⟨e,Q,A,O,a,h,m⟩
  .exact .inl a
  exact .inr ⟨e,Q,A,O,a,by grind,m⟩
def cN.same(o:bj.heap=b.a.heap)(e:bj.os=b.a.os)(j:bj.tape=b.a.tape)(m:bj.output=b.a.output):cN k b k {b with a:=bj}:=
 ⟨by grind,λi _ _=>by grind,λ_ _ _ a=>a,λ_ _ _ _=>rfl,λL a i d=>.inr ⟨L,a,d⟩,λ_ g L a h=>⟨g,L,a,h,.refl _ _⟩,e,j,m,rfl⟩
def ez.cb{r}{L}(p:fv k b aq az)(q:c b.s=c k)(i:∀g∈L.ab,az.a.heap[g]?=b.a.heap[g]?/\∀j,az.u g j=b.u g j)(o:ez k b r L):ez aq az r L:=by
 cases r with
 |cells y B=>
  obtain⟨g,A,d,e,h,m⟩:=o;subst d;obtain⟨k1,t⟩:=i g E;exact⟨g,A,a,by grind,h.mono p q,λj=>by grind⟩
 |w y F I v=>
  obtain⟨d,e⟩:=o;refine⟨d.mono p.mem,?_⟩;rcases e with⟨e,h⟩|⟨g,cap,A,e,h,m,w⟩
  .exact .inl ⟨e,h.mono p.mem⟩
  grind
 |E H=>
  obtain⟨s,d,e,h,m⟩:=o;refine⟨s,d,λg j Q=>?_,h,λg R j=>by grind⟩;grind
 |J=>trivial
 |loop O N x=>
  obtain⟨z,tmps,fn,C,d,e,h,m,w⟩:=o;subst d;obtain⟨k1,t⟩:=i z E;exact⟨z,tmps,fn,C,a,by grind,h,λM=>(m M).mono p q,λj=>by grind⟩
 |bd=>
  obtain⟨x,d,e,h⟩:=o;subst d;obtain⟨k1,t⟩:=i x E;exact⟨x,a,by grind,λj=>by grind⟩
 |p y F I v=>
  rcases o with d|⟨g,K,A,J,d,e,h,m,w,D,S⟩
  .exact .inl d
  subst d;obtain⟨k1,t⟩:=i g E;exact .inr ⟨g,K,A,J,a,by grind,h,m,w,D.mono p.mem,λj=>by grind⟩
def a5.bV(a:a5)(b:ao)(A:m Y):a5:=
 {s:=a.s++[⟨.pointer (f ⟨a.a.heap.size,0,n⟩),[a.a.heap.size]⟩],u:=a.u,a:=a.a.alloc (.cells A.toArray b),own:=a.own}
theorem iU(a:au)(r)(b:i<a.heap.size):(a.alloc r).heap[i]?=a.heap[i]?:=by show(a.heap.push r)[i]?=a.heap[i]?;grind
theorem lR(a:au)(r):(a.alloc r).heap[a.heap.size]?=f r:=by show(a.heap.push r)[a.heap.size]?=f r;simp
def cN.bV{k}(b)(W)(A)(h):cN k b (k++[h]) (b.bV W A):=by
 refine⟨by simp[a5.bV],?_,λ_ _ _ m=>m,λ_ _ _ _=>rfl,?_,?_,a,a,a,a⟩
 .intro i cU _;exact iU _ _ cU
 .intro L e i cU;simp[a5.bV,fC,gK]at e;grind
 intro g d L j e;have o:g<c b.s:=(cO.1 e).1;have p:g<c k:=(cO.1 j).1;exact⟨d,L,by grind,by simp[a5.bV];grind,.refl _ _⟩
def bc.bV{k}{b}(h:bc k b){W}{A}{ah}(B:bM k b A ah):bc (k++[.cells W ah]) (b.bV W A):=by
 have v:=cN.bV (k:=k) b W A (.cells W ah);have z:(b.bV W A).a.heap.size=b.a.heap.size+1:=by simp[a5.bV]
 refine⟨?_,by simp[a5.bV,h.len],?_,?_,?_,?_⟩
 .intro i r aa j;have g:=h.block j;have:=h.mem i r aa j;rw[<-this];simp[aL,a5.bV];grind[iU]
 .intro d y L aI e;rcases Nat.lt_trichotomy d (c k) with x|rfl|C
  .rw[j5 x]at aI;simp[a5.bV]at e;rw[j5 (by rw[h.len];exact x)]at e;refine(h.box d y L aI e).cb v.ext h.len λi g=>⟨?_,λ_=>rfl⟩
   have:=h.lt L (b' e) i g;exact iU _ _ this
  .simp at aI;subst aI;simp[a5.bV]at e;rw[hn (by rw[h.len];grind)]at e;simp[h.len]at e;subst e;refine⟨b.a.heap.size,A,a,lR _ _,B.mono v.ext h.len,λr=>?_⟩;cases j:b.u b.a.heap.size r with
   |none=>exact j
   |some aa=>have:=h.block j;omega
  grind
 .intro d t L p e m i g o;simp[a5.bV]at e m;have w:∀d L,(b.s++[⟨.pointer (f ⟨b.a.heap.size,0,n⟩),[b.a.heap.size]⟩])[d]?=f L->(b.s[d]?=f L)∨(d=c b.s/\L.ab=[b.a.heap.size]):=N;rcases w d L e with q|⟨rfl,q⟩<;>rcases w t p m with s|⟨rfl,s⟩
  .exact h.a1 d t L p q s i g o
  .have:=h.lt L (b' q) i g;grind
  .have:=h.lt p (b' s) i o;grind
  rfl
 .intro L e i g;rw[z];simp[a5.bV,fC,gK]at e;rcases e with e|rfl
  .have:=h.lt L e i g;omega
  grind
 intro i g;obtain⟨E,D⟩:=h.own i g;refine⟨by grind,λL e=>?_⟩;simp[a5.bV,fC,gK]at e;grind
def bc.cY(d:bc k b){cf}(p:b.a.heap.size<=bj.heap.size)(h:∀i,i<b.a.heap.size->bj.heap[i]?=b.a.heap[i]?)(q:∀i,i<b.a.heap.size->∀r,cf i r=b.u i r)(y:∀i,b.a.heap.size<=i->∀r aa,cf i r=f aa->bj.cell? ⟨i,r,n⟩=f aa)(s:bj.os=b.a.os)(w:bj.tape=b.a.tape)(t:bj.output=b.a.output):bc k ⟨b.s,cf,bj,b.own⟩/\cN k b k ⟨b.s,cf,bj,b.own⟩:=by
 have m:cN k b k ⟨b.s,cf,bj,b.own⟩:=
  ⟨p,λi a _=>h i a,λi r aa e=>by rw[<-e];exact q i (d.block e) r,λi a _ r=>q i a r,λL d i a=>.inr ⟨L,d,a⟩,λ_ o L d v=>⟨o,L,d,v,.refl _ _⟩,s,w,t,rfl⟩
 refine⟨⟨?_,d.len,?_,d.a1,λL g i a=>eH (d.lt L g i a) p,λi a=>⟨eH (d.own i a).1 p,(d.own i a).2⟩⟩,m⟩
 .intro i r aa e;rcases dW i b.a.heap.size with a|a
  .have j:b.u i r=f aa:=N;rw[<-d.mem i r aa j];simp[aL];grind
  grind
 intro x o L aI g;exact(d.box x o L aI g).cb m.ext d.len λi a=>⟨h i (d.lt L (b' g) i a),λr=>q i (d.lt L (b' g) i a) r⟩
def bc.write(j:bc k b){L}{ah h}{q}(aI:k[d]?=f (.cells W ah))(p:b.s[d]?=f L)(x:L.ab=[i])(B:bM k b q h):bc (k.set d (.cells W h)) {b with a:=b.a.setRow i q.toArray}/\cN k b (k.set d (.cells W h)) {b with a:=b.a.setRow i q.toArray}:=by
 have w:d<c k:=(cO.1 aI).1;obtain⟨s,A,t,v,D,z⟩:=j.box d _ L aI p;subst t;simp at x;subst x;have o:cN k b (k.set d (.cells W h)) {b with a:=b.a.setRow s q.toArray}:=by
  refine⟨by simp,?_,λ_ _ _ j=>j,λ_ _ _ _=>rfl,λL j i g=>.inr ⟨L,j,g⟩,?_,a,a,a,a⟩
  .intro i g jn;exact setRow_other _ _ _ _ (λaj=>jn _ (b' p) Ae)
  intro m bS ct e lO;by_cases aj:d=m
  .subst aj;rw[aI]at e;cases e;exact⟨_,ct,by rw[ip w],lO,by simp[fP]⟩
  exact Fv
 refine⟨⟨?_,by simp[j.len],?_,j.a1,λL p i g=>by simpa using j.lt L p i g,λi g=>by simpa using j.own i g⟩,o⟩
 .intro i r aa pk;have C:i≠s:=λaj=>by grind
  rw[<-j.mem i r aa pk];exact Qk
 intro m bS ct e lO;by_cases aj:d=m
 .subst aj;rw[ip w]at e;cases e;rw[p]at lO;cases lO;exact⟨s,q,a,setRow_heap _ _ _ _ _ _ v,B.mono o.ext j.len,z⟩
 rw[kB aj]at e;refine(j.box m bS ct e lO).cb o.ext j.len λi g=>⟨setRow_other _ _ _ _ λy=>?_,λ_=>rfl⟩
 subst y;exact aj (j.a1 d m _ ct p lO i E g)
def AA(b:m an)(d:a5):Next->y->Prop
 |.value e,a=>bv b d e a
 |.skip,a=>a=.any
 |_,_=>False
def a0(P:aE)(j:ap)(h:ae->y)(g:m an)(o:y)(b:m an):Prop:=
 ∀e d,bc g e->(∀k,bv g e (d k) (h k))->∃i a,(ab d j).run P e.a=.ok i a.a/\AA b a i o/\bc b a/\cN g e b a/\dw e ((ab d j).events P e.a #[])
def a0.dx{g}(j:∀b a,bc k b->(∀h,bv k b (a h) (η h))->∃aa,(ab a r).run P b.a=.ok (.value aa) b.a/\bv k b aa g/\dw b ((ab a r).events P b.a #[])):a0 P r η k g k:=
 λb a d e=>let ⟨aa,cQ,dr,i⟩:=j b a d e;⟨.value aa,b,cQ,dr,d,.refl _ _,i⟩
def a0.aY{g}(j:∀b a,bc k b->(∀h,bv k b (a h) (η h))->∃aa,(ab a r).run P b.a=.ok (.value aa) b.a/\bv k b aa g/\(ab a r).events P b.a #[]=#[]):a0 P r η k g k:=
 λb a d e=>let ⟨aa,cQ,dr,i⟩:=j b a d e;⟨.value aa,b,cQ,dr,d,.refl _ _,by rw[i];exact .nil⟩
def vn:IntKind->Int->Bool
 |.i64,.ofNat a=>ay a 9223372036854775807
 |.i64,.negSucc a=>ay a 9223372036854775807
 |.u8,.ofNat a=>ay a 255
 |.i32,.ofNat a=>ay a 2147483647
 |.i32,.negSucc a=>ay a 2147483647
 |.u64,.ofNat a=>ay a 18446744073709551615
 |.u32,.ofNat a=>ay a 4294967295
 |_,_=>u
def Zl{h}{j}(a:vn h j=l):a8 h j:=by cases h<;>cases j<;>simp only[vn,a8]at a⊢<;>first|(cases a;done)|(have:=fl a;grind)
def k3:Y->Option O
 |.int a b=>cond (vn a b) (f (.int a b)) n
 |.bool e=>f (.bool e)
 |.string d=>cond (ay d.size 9223372036854775807) (f (.V d.data.toList)) n
 |.slice n 0 0=>f (.R l 0 0 (λ_=>[]))
 |.pointer n=>f .bo
 |.nilIface=>f .bC
 |.nilFunc=>f .ds
 |.map g=>f (.val (.map g))
 |_=>n
theorem Rd.dK{o}{h}{a}:Rd bA (.slice a 0 0) (.R o h 0 U):=
 Rd.R 0 0 (λ_ _=>I) (bB _) x bn x x x x
def Rd.fq{bA}{aa}{q}(a:k3 aa=f q):Rd bA aa q:=by
 unfold AM.k3 at a;split at a<;>first
  |(rename_i d e;cases b:vn d e<;>rw[b]at a<;>cases a;exact .int (Zl b))
  |(rename_i g;cases b:ay g.size 9223372036854775807<;>rw[b]at a<;>cases a;exact .V rfl (by rw[m8];exact fl b))
  |(cases a;done)
  |(cases a;exact .bool)
  |(cases a;exact Rd.dK)
  |(cases a;exact .bo)
  |(cases a;exact .bC)
  |(cases a;exact .ds)
  |(cases a;exact .val rfl)
def Th:Option O->y
 |some a=>ax a
 |none=>.any
def bE(a:bH):ae->y
 |.tmp d=>look a d
 |.const e=>Th (k3 e)
 |.func b=>ax (.fn (.func b) [] [])
 |.global _=>.any
theorem eQ{e}(g:bZ D k b F e)(d):bv k b (e.eval d) (bE F d):=by
 cases d with
 |tmp j=>exact g.al j
 |const m=>
  simp[bE,Act.eval];cases i:k3 m with
  |none=>trivial
  |some o=>exact Rd.fq i
 |func h=>
  exact Rd.fn [] [] a a (λ_=>I) (λ_=>I) E E E E
 |global h=>trivial
def gf:Option Nat->y->bH->bH
 |some b,d,a=>(b,d)::a
 |none,_,a=>a
def ro{o:af P}{j:aJ}{h}{i}{br}(z:j.kind≠.early)(t:aF[e]?=f r)(x:aS r (yielded aF i.tmps)=l)(s:∀g,cV b g->∃k d m,(ab i.eval r).run P g.a=.ok k d.a/\(k=.value m∨(k=.skip/\m=I))/\ky g d ((ab i.eval r).events P g.a #[])/\cd o bq (G (j.N (i.put r.dst m) (.inRegion aF br::h)) ah) d):
  cd o bq (G (j.N i (.inRegion aF (e::br)::h)) ah) b:=by refine .next a λg v=>?_;obtain⟨k,d,m,y,w,p,q⟩:=s g (o.bM v);refine⟨_,d,Go.Conc.listed P j.fn i r g.a,?_,⟨p.1,p.2.seen⟩,q⟩;grind[abK,Mo]
theorem a0.move{a:ae}(d:r.op=.move a):a0 P r η k (η a) k:=
 .aY λg b _ e=>⟨b a,by simp[ab,d,pure],e a,by simp[ab,d]⟩
theorem a0.assign{a:ae}(d:r.op=.assign a):a0 P r η k (η a) k:=
 .aY λg b _ e=>⟨b a,by simp[ab,d,pure],e a,by simp[ab,d]⟩
def b8{q}(a:bv k b aa (ax q)):Rd b.u aa q:=a
def a0.pick{q e i}(h:r.op=.pick q e i){o}(m:η q=ax (.bool o)):
  a0 P r η k (match o with|true=>η e|false=>η i) k:=by
 refine .aY λp a _ j=>?_;have b:=j q;rw[m]at b;have d:=b8 b;generalize g:a q=s at d;cases d;cases o
 .exact⟨a i,by simp[ab,h,g,asBool],j i,by simp[ab,h,g,asBool]⟩
 exact⟨a e,by simp[ab,h,g,asBool],j e,by simp[ab,h,g,asBool]⟩
def vo(e:BinOp)(d:IntKind)(a b:Int):Option (O×m Prop):=
 match e with
 |.add=>f (.int d (a+b),[a8 d (a+b)])
 |.sub=>f (.int d (a-b),[a8 d (a-b)])
 |.mul=>f (.int d (a*b),[a8 d (a*b)])
 |.quo=>f (.int d (a / b),[0<=a,0<b])
 |.rem=>f (.int d (a % b),[0<=a,0<b])
 |.eql=>f (.bool (a==b),[])
 |.neq=>f (.bool (a != b),[])
 |.lss=>f (.bool (decide (a<b)),[])
 |.leq=>f (.bool (decide (a<=b)),[])
 |.gtr=>f (.bool (decide (b<a)),[])
 |.geq=>f (.bool (decide (b<=a)),[])
 |_=>n
def v7(d:BinOp)(a b:m UInt8):Option (O×m Prop):=
 match d with
 |.add=>f (.V (a++b),[c a+c b<=9223372036854775807])
 |.eql=>f (.bool (a==b),[])
 |.neq=>f (.bool (!(a==b)),[])
 |.lss=>f (.bool (aU a b),[])
 |.leq=>f (.bool (aU a b||a==b),[])
 |.gtr=>f (.bool (!(aU a b||a==b)),[])
 |.geq=>f (.bool (!(aU a b)),[])
 |_=>n
@[simp] def T:m Prop->Prop
 |[]=>True
 |[a]=>a
 |a::b::d=>a/\T (b::d)
def T.cons{b:Prop}{a}:T (b::a)↔b/\T a:=by cases a<;>simp
theorem r8{h}{j}(a:a8 h j):h.wrap j=j:=by cases h<;>simp only[a8,IntKind.wrap,IntKind.bits,IntKind.signed]at a⊢<;>simp<;>(try split)<;>omega
def abq{M}{h}{d a}{q}(e:vo op h d a=f (q,cj))(b:T cj)(t:a8 h d)(r:a8 h a)(o)(bA):
  ∃m,(binOp op o (.int h d) (.int h a)).run P M=.ok m M/\Rd bA m q:=by
 cases op<;>simp[vo,e4,lD,reduceCtorEq]at e
 case add=>obtain⟨rfl,rfl⟩:=e;exact⟨_,by simp only[binOp,d6,hv,dm,Op.intArith,r8 b];rfl,.int b⟩
 case sub=>obtain⟨rfl,rfl⟩:=e;exact⟨_,by simp only[binOp,d6,hv,dm,Op.intArith,r8 b];rfl,.int b⟩
 case mul=>obtain⟨rfl,rfl⟩:=e;exact⟨_,by simp only[binOp,d6,hv,dm,Op.intArith,r8 b];rfl,.int b⟩
 case quo=>
  obtain⟨rfl,rfl⟩:=e;obtain⟨i,g⟩:=b;replace g:0<a:=g;have k:d.tdiv a=d / a:=Int.tdiv_eq_ediv_of_nonneg i;have j:a8 h (d / a):=by have p:0<=d / a:=Int.ediv_nonneg i x;have s:d / a<=d:=Int.ediv_le_self _ i;cases h<;>simp only[a8]at t⊢<;>omega
  exact⟨_,by simp only[binOp,d6,hv,dm,Op.intDiv,show a≠0 by omega,k,r8 j];rfl,.int j⟩
 case rem=>
  obtain⟨rfl,rfl⟩:=e;obtain⟨i,g⟩:=b;replace g:0<a:=g;have k:d.tmod a=d % a:=Int.tmod_eq_emod_of_nonneg i;have j:a8 h (d % a):=by have p:0<=d % a:=sv _ x;have s:d % a<a:=sn _ g;cases h<;>simp only[a8]at r⊢<;>omega
  exact⟨_,by simp only[binOp,d6,hv,dm,Op.intDiv,show a≠0 by omega,k];rfl,.int j⟩
 all_goals (obtain⟨rfl,rfl⟩:=e;exact⟨_,by simp only[binOp,d6,hv,dm,Op.intCmp,gt_iff_lt,ge_iff_le];rfl,.bool⟩)
def abr{M}{C bI}{b i}{q}(a:v7 op b i=f (q,cj))(cz:T cj)(j:C.data.toList=b)(g:bI.data.toList=i)(o)(bA):
  ∃d,(binOp op o (.string C) (.string bI)).run P M=.ok d M/\Rd bA d q:=by
 subst j g;cases op<;>simp only[v7,e4,lD,reduceCtorEq]at a
 case add=>
  obtain⟨rfl,rfl⟩:=a;have e:¬((C.size+bI.size:Nat):Int)>IntKind.i64.max:=N_;refine⟨_,by simp only[binOp,Op.stringOp,e,dm];rfl,.V E (by simpa using cz)⟩
 all_goals (obtain⟨rfl,rfl⟩:=a;exact⟨_,by simp only[binOp,Op.stringOp,ByteArray.toList_eq];rfl,.bool⟩)
def VB{b}{h}{a bI}{q}(s:vo op h a bI=f (q,cj))(cz:T cj)(o):
  (binOp op o (.int h a) (.int h bI)).events P b #[]=#[]:=by
 cases op<;>simp[vo,e4,lD,reduceCtorEq]at s
 case quo=>
  exact PC
 case rem=>
  exact PC
 all_goals (simp only[binOp,d6,hv,dm,Op.intCmp,Op.intArith];rfl)
def XQ{j}{C bI}{a i}{q}(b:v7 op a i=f (q,cj))(cz:T cj)(g:C.data.toList=a)(e:bI.data.toList=i)(o):
  (binOp op o (.string C) (.string bI)).events P j #[]=#[]:=by
 subst g e;cases op<;>simp[v7,e4,lD,reduceCtorEq]at b
 case add=>
  obtain⟨rfl,rfl⟩:=b;have d:¬((C.size+bI.size:Nat):Int)>IntKind.i64.max:=N_;simp only[binOp,Op.stringOp,d,dm];rfl
 all_goals (simp only[binOp,Op.stringOp];rfl)
def s8:IntKind->IntKind->Bool
 |.i8,.i8|.i16,.i16|.i32,.i32|.i64,.i64|.u8,.u8|.u16,.u16|.u32,.u32|.u64,.u64=>l
 |_,_=>u
def Di{h a}(b:s8 h a=l):h=a:=by cases h<;>cases a<;>first|rfl|(cases b;done)
def xo(a:BinOp):O->O->Option (O×m Prop)
 |.int d h,.int b i=>cond (s8 d b) (vo a d h i) n
 |.V e,.V g=>v7 a e g
 |_,_=>n
def qm(op)(o)(e g)(h a)(j d)(b):(eqGuard op o e g (.int h j) (.int a d)).run P b=.ok () b:=Ag
def IK(op)(o)(d e)(b i)(a):(eqGuard op o d e (.string b) (.string i)).run P a=.ok () a:=Ag
def x9(op)(o)(e g)(h a)(j b)(d)(U):(eqGuard op o e g (.int h j) (.int a b)).events P d U=U:=Ag
def UM(op)(o)(d e)(a i)(b)(U):(eqGuard op o d e (.string a) (.string i)).events P b U=U:=Ag
theorem a0.binOp{x y:ae}(v:r.op=.binOp op o x y ty){D i q}(N:η x=ax D)(z:η y=ax i)(e:xo op D i=f (q,cj))(d:T cj):a0 P r η k (ax q) k:=by
 refine .aY λw p _ F=>?_;have a:=F x;have b:=F y;rw[N]at a;rw[z]at b;replace a:=b8 a;replace b:=b8 b;generalize s:p x=O at a;generalize t:p y=Q at b;cases a<;>cases b<;>simp[xo,reduceCtorEq]at e
 case int.int h j jn gl DH Y1=>
  cases g:s8 h gl<;>simp[g,cond,reduceCtorEq]at e
  cases Di g;obtain⟨C,A,B⟩:=abq (P:=P) (M:=w.a) e d jn Y1 o w.u;exact⟨C,by simp[ab,v,cJ,s,t,qm,c8,A,dZ],B,by simp[ab,v,s,t,qm,x9,VB e d]⟩
 case V.V=>
  rename_i U S I J R K m E;obtain⟨C,A,B⟩:=abr (P:=P) (M:=w.a) e d I m o w.u;exact⟨C,by simp[ab,v,cJ,s,t,IK,c8,A,dZ],B,by simp[ab,v,s,t,IK,UM,XQ e d I m]⟩
def zK(a:UnOp):O->Option O
 |.bool b=>match a with|.not=>f (.bool (!b))|_=>n
 |_=>n
theorem a0.unOp{op}{b:ae}(i:r.op=.unOp op o b){g q}(j:η b=ax g)(d:zK op g=f q):a0 P r η k (ax q) k:=by
 refine .aY λs e _ m=>?_;have a:=m b;rw[j]at a;replace a:=b8 a;generalize h:e b=p at a;cases a<;>simp[zK,reduceCtorEq]at d
 cases op<;>simp[reduceCtorEq,e4]at d
 subst d;exact⟨_,by simp[ab,i,h,Op.unary,cJ,dZ,c8],Rd.bool,by simp[ab,i,h,Op.unary]⟩
theorem eX.get{ag}(h:eX k b A ag){i}(d:ag[t]?=f i):∃e,A[t]?=f e/\eA k b e i:=by
 induction A generalizing ag t with
 |nil=>cases ag<;>simp_all[eX]
 |cons e A g=>
  cases ag with
  |nil=>grind
  |cons m j=>
   cases t with
   |zero=>simp at d;subst d;exact⟨e,a,h.1⟩
   |succ t=>simp at d;obtain⟨p,w,o⟩:=g h.2 d;grind
theorem a0.extract{P}{r}{b:ae->y}{k}{d}{t}(p:r.op=.extract d t){ag}{e}(j:b d=.Q ag)(i:ag[t]?=f e):a0 P r b k (.n e) k:=by refine .aY λw v _ o=>?_;have a:=o d;rw[j]at a;obtain⟨A,m,q⟩:=a;obtain⟨s,g,h⟩:=q.get i;refine⟨s,?_,h,?_⟩<;>simp[ab,p,m,Instr.extract,g]
def px(a b:Nat):aR:=⟨.cell ⟨a,b,n⟩,u,u⟩
def tQ(a b:Nat):aR:=⟨.cell ⟨a,b,n⟩,l,u⟩
theorem g2(i r j):(⟨i,r,n⟩:Addr).add j=⟨i,r+j,n⟩:=by unfold Addr.add;split<;>simp_all
section
def Cy{a}{r}(b:a.cell? ⟨i,r,n⟩=f aa)(U):(load ⟨i,r,n⟩).events P a U=U.push (px i r):=by rw[events_load,b];rfl
def Jb{o}{i r}:∀h e a b,(∀d,d<h->∃m,o.cell? ⟨i,r+(e+d),n⟩=f m) ->
    ∀g∈(loadCellsFrom ⟨i,r,n⟩ e h a).events P o b,g∈b∨∃d,d<e+h/\g=px i (r+d)
  |0,e,a,b,_=>λg j=>.inl (by simpa[loadCellsFrom]using j)
  |h+1,e,a,b,p=>λg j=>by
    obtain⟨m,k⟩:=p 0 x;simp[j8]at k;simp[loadCellsFrom,aD,g2,run_load,k,aG,Cy k]at j;rcases Jb h (e+1) (a.push m) _ (λd q=>by grind) g j with s|⟨d,q,rfl⟩
    · grind
    grind
def Ja{d}{r}{U}(h:∀a,a<j->∃g,d.cell? ⟨i,r+a,n⟩=f g):∀b∈(loadCells ⟨i,r,n⟩ j).events P d U,b∈U∨∃a,a<j/\b=px i (r+a):=by intro b e;have:=Jb (P:=P) j 0 #[] U N b e;grind
def ng{i r}{o}:∀A a g d b,d.heap[i]?=f (.cells g o (0,0))->r+a+c A<=g.size->(∀e∈A,e.oneCell'=l) ->
    ∀j∈(storeCells ⟨i,r,n⟩ A a).events P d b,j∈b∨∃m,a<=m/\m<a+c A/\j=tQ i (r+m)
  |[],_,_,_,_,_,_,_=>λj k=>.inl (by simpa[storeCells]using k)
  |e::h,a,g,d,b,B,x,p=>λj k=>by
    have bp:r+a<g.size:=N;have q:d.cell? ⟨i,r+a,n⟩=f g[r+a]:=N8;have s:d.frozen? ⟨i,r+a,n⟩=u:=by simp[World.frozen?,B]
    have t:(store (⟨i,r+a,n⟩:Addr) e).run P d=.ok () (d.setRow i (g.setIfInBounds (r+a) e)):=NW;have v:(store (⟨i,r+a,n⟩:Addr) e).events P d b=b.push (tQ i (r+a)):=by rw[events_store P d b _ e _ (p e E),q];simp[s,j7,dm];rfl
    simp[storeCells,aD,g2,t,v,aG]at k;rcases ng h (a+1) (g.setIfInBounds (r+a) e) _ _ (setRow_heap _ _ _ _ _ _ B) N (λw C=>p w N) j k with y|⟨m,D,z,rfl⟩
    · grind
    grind
def dC(P:aE)(b:Sem α):Prop:=∀d a,b.events P d a=a
def dC.bind{e:Type}{z}{g:α->Sem e}(i:dC P z)(j:∀d,dC P (g d)):dC P (z >>= g):=by
  intro h a;rw[aD,i h a];cases z.run P h with
  |ok d b=>exact j d b a
  |halt k b=>rfl
def dC.pure{a:Type}{b}:dC P (Pure.pure b:Sem a):=λ_ _=>rfl
def dC.stuck{a:Type}{b}:dC P (Go.stuck b:Sem a):=λ_ _=>rfl
def dC.unsupported{a:Type}{b}:dC P (Go.unsupported b:Sem a):=λ_ _=>rfl
def dC.sizeOf{o}:dC P (sizeOf o):=λ_ _=>events_sizeOf ..
def dC.underlying{o}:dC P (underlying o):=λ_ _=>events_underlying ..
def dC.zeroValue{o}:dC P (zeroValue o):=λ_ _=>events_zeroValue ..
def dC.newObj{r}:dC P (newObj r):=λ_ _=>rfl
def dC.newRow{o}{q}:dC P (newRow o q):=.bind .newObj λ_=>.pure
def dC.hy{a e:Type}{g:a->Sem e}(h:∀b,dC P (g b)):∀d:m a,dC P (d.mapM g)
  |[]=>by rw[List.mapM_nil];exact .pure
  |b::d=>by rw[o5];exact .bind (h b) λ_=>.bind (dC.hy h d) λ_=>.pure
def dC.map{b d:Type}{e:b->d}{z}(g:dC P z):dC P (Functor.map e z):=λh a=>by rw[Sem.events_map];exact g h a
def dC.jG{a:Type}{b:α->Sem a}(e:∀d,dC P (b d))(g:Array α):dC P (g.mapM b):=by rw[xb];exact .map (.hy e _)
def dC.hh{b d:Type}{h:b->d->Sem (ForInStep d)}(i:∀e a,dC P (h e a)):∀(g:m b) a,dC P (forIn g a h)
  |[],a=>by rw[List.forIn_nil];exact .pure
  |e::g,a=>by
    rw[List.forIn_cons];refine .bind (i e a) λj=>?_;cases j with
    |done a=>exact .pure
    |yield a=>exact dC.hh i g a
theorem dC.build{o}{parts}:dC P (Instr.build o parts):=by
  unfold Instr.build;refine .bind .zeroValue λe=>.bind .underlying λa=>?_;cases a<;>first
    |exact .stuck
    | (refine .bind (.jG (λ_=>.bind .sizeOf λ_=>.pure) _) λb=>?_
       split
       · exact .pure
       · exact .stuck)
    | (refine .bind .sizeOf λd=>?_
       split
       · exact .pure
       · exact .stuck)
theorem dC.buildSlice{o}{j}{parts}:dC P (Instr.buildSlice o j parts):=by
  unfold Instr.buildSlice;refine .bind .underlying λh=>?_;cases h<;>first
    |exact .stuck
    | (refine .bind .sizeOf λd=>?_
       dsimp only
       have a:∀elem (zero:Array Y),dC P (match Instr.fill (λi=>f (i*d,d)) (Array.map (λk=>zero[k % zero.size]!) (Array.range (j*d))) parts.toList with
          |some cells=>do
            let g<-Go.newRow elem cells
            Pure.pure (Value.slice (f g) j j)
          |_=>Go.stuck "buildSlice: a part of the wrong size"):=by
         intro elem zero;split
         · exact .bind .newRow λ_=>.pure
         · exact .stuck
       by_cases e:j*d=0
       · simp only[e,dH]
         rw[e]at a;split
         · grind
         · exact .bind .pure λb=>a _ b
       · simp only[e,dm]
         split
         · exact .bind .unsupported λ_=>.bind .zeroValue λb=>.bind .pure λb=>a _ b
         · exact .bind .zeroValue λb=>.bind .pure λb=>a _ b)
def qn{r}{L}(a:L∈b.s)(d:i∈L.ab):h8 b (px i r):=⟨rfl,rfl,.inr (.inl ⟨⟨L,a,d⟩,λe=>by cases e⟩)⟩
def IM{r}(a:b.u i r=f aa):h8 b (px i r):=⟨rfl,rfl,.inr (.inr ⟨rfl,aa,a⟩)⟩
theorem og{r}{L}(d:L∈b.s)(e:i∈L.ab)(a:b.u i r=n):h8 b (tQ i r):=⟨rfl,rfl,.inr (.inl ⟨⟨L,d,e⟩,λ_=>a⟩)⟩
end
structure cq where
 size:Nat
 bytes:Nat
 agg:Bool
 desc:TypeDesc
 zero:m O
 eq:m TypeDesc:=[]
def rC:TypeDesc->Y->Y->Option Bool
 |.int _,.int e a,.int d b=>if e=d then f (a==b)else n
 |.string,.string a,.string b=>f (a.toList==b.toList)
 |.bool,.bool a,.bool b=>f (a==b)
 |_,_,_=>n
def nf:m TypeDesc->m Y->m Y->Option Bool
 |[],[],[]=>f l
 |g::a,h::A,i::b=>match rC g h i with
  |some d=>match nf a A b with
   |some e=>f (d&&e)
   |none=>n
  |none=>n
 |_,_,_=>n
def vp:TypeDesc->Bool
 |.struct _|.array _ _=>l
 |_=>u
structure eM(P:aE)(o:ao)(e:cq):Prop where
 eO:P.underlying o=f e.desc
 agg:vp e.desc=e.agg
 dc:∃inf eK,P.info? o=f inf/\inf.size=e.size/\inf.bytes=e.bytes/\inf.zero=f eK/\eK.cells.toList.map k3=e.zero.map f/\(∃ah,eK=if e.agg then .agg ah else eK)/\c e.zero=e.size
 iV:e.eq≠[]->P.eqGuardType P.depth o=u/\∀(M:au) (A ws:m Y) (i:Bool),nf e.eq A ws=f i->(Op.equal o (.agg A.toArray) (.agg ws.toArray)).run P M=.ok i M/\∀U,(Op.equal o (.agg A.toArray) (.agg ws.toArray)).events P M U=U
def b1:m (Nat×cq)->Nat->Option cq
 |[],_=>n
 |(d,b)::e,a=>cond (ad d a) (f b) (b1 e a)
def b0(P:aE)(d:m (Nat×cq)):Prop:=∀b a,b1 d b=f a->eM P b a
section
variable {M:au}{e:cq}
def eM.run_underlying(a:eM P o e):(underlying o).run P M=.ok e.desc M:=by simp[underlying,a.eO]
def eM.ey(a:eM P o e):(isAgg o).run P M=.ok e.agg M:=by have:=a.agg;unfold Go.isAgg;rw[cJ,a.run_underlying];cases b:e.desc<;>rw[b]at this<;>simp[vp]at this<;>simp[this]
def eM.a_(d:eM P o e):(sizeOf o).run P M=.ok e.size M:=by obtain⟨g,h,a,b,_⟩:=d.dc;simp[sizeOf,typeInfo,a,b]
def ul{k}{b}:∀{A:m Y}{a:m O},A.map k3=a.map f->bM k b A (a.map Q.c)
 |[],[],_=>trivial
 |[],_::_,d=>by grind
 |_::_,[],d=>by grind
 |g::A,e::a,d=>by simp[me,List.cons.injEq]at d;exact⟨Rd.fq d.1,ul d.2⟩
def eM.h2(i:eM P o e)(k)(b):∃a,(zeroValue o).run P M=.ok a M/\bM k b a.cells.toList (e.zero.map Q.c):=by obtain⟨m,a,d,j,p,h,g,_⟩:=i.dc;exact⟨a,by simp[zeroValue,typeInfo,d,h],ul g⟩
end
def mm:y->Option (m Q)
 |.n (.ar b)=>f [b]
 |.n (.agg a)=>f a
 |_=>n
theorem uV{d}{ah}(a:mm d=f ah)(e:bv k b aa d):bM k b aa.cells.toList ah:=by
 cases d with
 |n h=>
  cases h with
  |ar j=>
   cases a;have:=cB.cell e;cases aa<;>first|exact⟨e,v⟩|cases this
  |agg m=>
   cases a;obtain⟨A,rfl,g⟩:=e;simpa[Value.cells]using g
 |Q i=>cases a
 |any=>cases a
def a0.newVar{P}{r}{g:ae->y}{k}{W}{ah}(q:∀b d,bc k b->(∀o,bv k b (d o) (g o))->∃h:Y,(ab d r).run P b.a=((do pure (.value (.pointer (f (<-newVar W h))))):Sem Next).run P b.a/\bM k b h.cells.toList ah/\(ab d r).events P b.a #[]=#[]):
  a0 P r g k (aH (c k) 0) (k++[.cells W ah]):=by
 intro b d e m;obtain⟨h,i,j,p⟩:=q b d e m;refine⟨.value (.pointer (f ⟨b.a.heap.size,0,n⟩)),b.bV W h.cells.toList,?_,?_,e.bV j,.bV b W _ _,by rw[p];exact .nil⟩
 .rw[i];simp[Go.newVar,newRow,a5.bV]
 refine⟨by simp,⟨.pointer (f ⟨b.a.heap.size,0,n⟩),[b.a.heap.size]⟩,b.a.heap.size,?_,a,a⟩;simp[a5.bV,<-e.len]
theorem a0.alloc{P}{ac}(aV:b0 P ac){r}{b:ae->y}{k}{W}(g:r.op=.alloc W){e}(a:b1 ac W=f e):
  a0 P r b k (aH (c k) 0) (k++[.cells W (e.zero.map Q.c)]):=by refine .newVar λh m _ _=>?_;obtain⟨j,d,i⟩:=(aV W e a).h2 (M:=h.a) k h;exact⟨j,by simp[ab,g,Instr.alloc,d],i,by simp[ab,g,Instr.alloc,d,Go.newVar,newRow]⟩
theorem a0.box{P}{r}{a:ae->y}{k}{W}{b}(e:r.op=.box W b){ah}(g:mm (a b)=f ah):
  a0 P r a k (aH (c k) 0) (k++[.cells W ah]):=
 .newVar λi d _ h=>⟨d b,by simp[ab,e,Instr.box],uV g (h b),by simp[ab,e,Instr.box,Go.newVar,newRow]⟩
def mS{a:Type}:Nat->m a->Option (m a)
 |0,_=>f []
 |d+1,g::b=>match mS d b with|some e=>f (g::e)|none=>n
 |_+1,[]=>n
def tM{h:Type}:∀{b:Nat}{e d:m h},mS b e=f d->d=e.take b/\c d=b
 |0,e,d,a=>by cases a;simp
 |b+1,[],d,a=>by simp[mS]at a
 |b+1,p::g,d,a=>by
  simp[mS]at a;cases i:mS b g with
  |none=>grind
  |some o=>
   simp[i]at a;subst a;obtain⟨j,k⟩:=tM i;grind
def c'{a:Type}:Nat->m a->Option a
 |_,[]=>n
 |0,e::_=>f e
 |d+1,_::b=>c' d b
theorem er{b:Type}:∀{j:Nat}{d:m b}{e:b},c' j d=f e->d[j]?=f e
 |_,[],_,a=>by simp[c']at a
 |0,e::_,_,a=>by simpa[c']using a
 |j+1,_::g,_,a=>by simpa using er (j:=j) (d:=g) a
def ga{a:Type}:Nat->m a->m a
 |0,d=>d
 |_+1,[]=>[]
 |e+1,_::b=>ga e b
def rB{d:Type}:∀a(e:m d),ga a e=e.drop a
 |0,_=>by simp[ga]
 |_+1,[]=>by simp[ga]
 |a+1,_::b=>by simp[ga,rB a b]
def hk(b:cq)(a:m Q):Option E1:=
 match b.agg with
 |true=>match mS b.size a with|some e=>f (.agg e)|none=>n
 |false=>match c' 0 a with|some d=>f (.ar d)|none=>n
def tw{e}(r:eM P o e){ah}{aj}(D:∀m d,A[m]?=f d->b.a.cell? ⟨i,off+m,n⟩=f d)(q:bM k b A ah)(h:hk e ah=f aj):
  ∃d,(loadVar o ⟨i,off,n⟩).run P b.a=.ok d b.a/\eA k b d aj:=by
 simp[loadVar,cJ,r.ey,c8];cases t:e.agg<;>simp[hk,t]at h
 .cases g:c' 0 ah with
  |none=>grind
  |some y=>
   simp[g]at h;subst h;obtain⟨d,z,s⟩:=q.get (er g);refine⟨d,?_,s⟩;grind[run_load]
 cases g:mS e.size ah with
 |none=>grind
 |some B=>
  simp[g]at h;subst h;obtain⟨x,v⟩:=tM g;have j:=q.take e.size;rw[<-x]at j;have w:c (A.take e.size)=e.size:=by rw[j.cL,v]
  have p:=run_loadCells_list (P:=P) b.a ⟨i,off,n⟩ (A.take e.size) (λm d C=>by grind[g2]);rw[w]at p;refine⟨.agg (A.take e.size).toArray,?_,A.take e.size,a,j⟩;simp[r.a_,p]
def pa{M}{e}(r:eM P o e)(s:∀d,d<j->∃k,M.cell? ⟨i,off+d,n⟩=f k)(h:(if e.agg then e.size else 1)<=j):
  ∀g∈(loadVar o ⟨i,off,n⟩).events P M #[],∃d,d<j/\g=px i (off+d):=by
 intro g b;simp only[loadVar,aD,r.ey,aG,events_isAgg]at b;cases p:e.agg
 .rw[p]at h b;obtain⟨k,q⟩:=s 0 N;simp[j8]at q;simp only[j7,dm,Cy q]at b;rcases Array.mem_push.1 b with t|rfl
  .grind
  exact⟨0,by grind,a⟩
 rw[p]at h b;simp[dH]at h;simp[dH,aD,r.a_,aG,events_sizeOf]at b;have key:∀g∈(loadCells ⟨i,off,n⟩ e.size).events P M #[],∃d,d<j/\g=px i (off+d):=by
  intro g b;rcases Ja (P:=P) (λd v=>s d x) g b with t|⟨d,v,rfl⟩
  .grind
  grind
 apply key;generalize(loadCells ⟨i,off,n⟩ e.size).run P M=w at b;cases w with
 |ok k m=>simpa using b
 |halt y m=>simpa using b
theorem r7{e}{ah}{g}(a:hk e ah=f g):(if e.agg then e.size else 1)<=c ah:=by
 unfold hk at a;cases b:e.agg<;>rw[b]at a
 .cases ah with
  |nil=>simp[c']at a
  |cons h ah=>simp
 simp only at a;cases d:mS e.size ah with
 |none=>grind
 |some k=>
  obtain⟨i,j⟩:=tM d;grind
theorem a0.hx{ac}(aV:b0 P ac){w:ae}(C:r.op=.load o w){ah}{e}{aj}(O:η w=aH d off)(aI:k[d]?=f (.cells W ah))(p:b1 ac o=f e)(F:hk e (ga off ah)=f aj):a0 P r η k (.n aj) k:=by
 refine .dx λb x q s=>?_
 have m:=s w;rw[O]at m;obtain⟨_,L,i,J,y,I⟩:=m;obtain⟨v,A,rfl,D,z,_⟩:=q.box d _ L aI J;simp at y;subst y;rw[rB]at F;obtain⟨K,B,N⟩:=tw (b:=b) (k:=k) (P:=P) (aV o e p) (i:=v) (off:=off) (A:=A.drop off) (ah:=ah.drop off) (aj:=aj) (λt K g=>by
  simp[aL,D]
  grind) (z.drop off) F
 refine⟨K,by simp[ab,C,I,Instr.loadAt,Instr.sureAddr,B],N,λh a=>?_⟩;have M:h∈(loadVar o ⟨v,off,n⟩).events P b.a #[]:=by
  have aj:ab x r=(do pure (.value (<-loadVar o ⟨v,off,n⟩))):=by simp[ab,C,I,Instr.loadAt,Instr.sureAddr]
  rw[aj]at a;simpa[B]using a
 have Q:c (A.drop off)=c (ah.drop off):=(z.drop off).cL;obtain⟨t,g,rfl⟩:=pa (aV o e p) (j:=c (A.drop off)) (λt g=>by refine⟨(A.drop off)[t],?_⟩;simp only[aL,D];simp at g⊢<;>omega) (by grind[r7]) h M;exact qn (b' J) E
theorem a0.hz{ac}(aV:b0 P ac){B:ae}(I:r.op=.load o B){ah}{e}{aj}(W:η B=ax (.M ah))(w:b1 ac o=f e)(O:hk e (ah.map Q.c)=f aj):a0 P r η k (.n aj) k:=by
 refine .dx λb x v C=>?_;have s:=C B;rw[W]at s;have t:=b8 s;generalize F:x B=X at t;cases t;rename_i i off z p J;have V:∀j h,(∀d y,h[d]?=f y->Rd b.u (z (j+d)) y)->bM k b ((aA (c h)).map λd=>z (j+d)) (h.map Q.c):=by
  intro j h;induction h generalizing j with
  |nil=>intro _;trivial
  |cons S h D=>
   intro M;rw[fw,wY];refine⟨M 0 S a,?_⟩;have:=D (j+1) (λd y g=>by have:=M (d+1) y N;grind);grind[Function.comp_def]
 obtain⟨R,K,U⟩:=tw (b:=b) (k:=k) (P:=P) (aV o e w) (i:=i) (off:=off) (A:=(aA (c ah)).map λd=>z (0+d)) (ah:=ah.map Q.c) (aj:=aj) (λd R g=>by
  simp[m_,cW]at g;by_cases E:d<c ah
  .simp[E]at g;subst g;exact v.mem _ _ _ (p d ah[d] (bF E))
  grind) (V 0 ah N) O
 refine⟨R,by simp[ab,I,F,Instr.loadAt,Instr.sureAddr,K],U,λq m=>?_⟩;have T:q∈(loadVar o ⟨i,off,n⟩).events P b.a #[]:=by
  have aj:ab x r=(do pure (.value (<-loadVar o ⟨i,off,n⟩))):=by simp[ab,I,F,Instr.loadAt,Instr.sureAddr]
  rw[aj]at m;simpa[K]using m
 obtain⟨d,g,rfl⟩:=pa (aV o e w) (j:=c ah) (λd g=>⟨z d,v.mem _ _ _ (p d ah[d] (bF g))⟩) (by have:=r7 O;grind) q T;exact IM (p d ah[d] (bF g))
def iY{d:Type}:Nat->m d->m d->Option (m d)
 |0,[],i=>f i
 |0,j::b,_::a=>match iY 0 b a with|some e=>f (j::e)|none=>n
 |h+1,b,g::a=>match iY h b a with|some e=>f (g::e)|none=>n
 |_,_,[]=>n
def Ey{h:Type}:∀{a:Nat}{new g e:m h},iY a new g=f e->a+c new<=c g/\e=g.take a++new++g.drop (a+c new)
 |0,[],g,e,s=>by cases g<;>cases s<;>simp
 |0,o::b,k::d,e,s=>by
  simp[iY]at s;cases w:iY 0 b d with
  |none=>grind
  |some p=>
   exact O5
 |0,o::b,[],e,s=>by simp[iY]at s
 |j+1,b,k::d,e,s=>by
  simp[iY]at s;cases w:iY j b d with
  |none=>grind
  |some p=>
   exact O5
 |j+1,b,[],e,s=>by simp[iY]at s
def bM.ff{new}{ah a g}(h:AM.iY off a ah=f g)(d:bM k b A ah)(e:bM k b new a):
  off+c new<=c A/\bM k b (A.take off++new++A.drop (off+c new)) g:=by obtain⟨k1,rfl⟩:=Ey h;rw[e.cL,d.cL];refine⟨k1,((d.take off).append e).append (by have:=d.drop (off+c a);exact this)⟩
theorem a0.store{ac}(aV:b0 P ac){x h:ae}(I:r.op=.store o x h){ah new i}{e}(M:η x=aH d off)(aI:k[d]?=f (.cells W ah))(q:b1 ac o=f e)(y:mm (η h)=f new)(s:c new=e.size)(O:iY off new ah=f i):
  a0 P r η k .any (k.set d (.cells W i)):=by
 intro w g p t;have m:=t x;rw[M]at m;obtain⟨_,L,Y,B,F,K⟩:=m;obtain⟨v,A,rfl,J,T,R⟩:=p.box d _ L aI B;simp at F;subst F;have j:=uV y (t h);obtain⟨k1,V⟩:=bM.ff O T j;obtain⟨w1,w2⟩:=p.write aI B rfl V;refine⟨.skip,_,?_,a,w1,w2,?_⟩
 rotate_left
 .intro IL b;have z:(g h).cells.size=e.size:=by rw[<-s,<-j.cL,m8]
  have Q:ab g r=(do storeVar o ⟨v,off,n⟩ (g h);pure .skip):=by simp[ab,I,K,Instr.storeAt,Instr.sureAddr]
  rw[Q]at b;have S:IL∈(storeCells ⟨v,off,n⟩ (g h).cells.toList).events P w.a #[]:=by
   simp[storeVar,aD,(aV o e q).a_,z,aG,events_sizeOf,d6,hv,dm,cJ,c8,Sem.events_pure]at b;generalize(storeCells ⟨v,off,n⟩ (g h).cells.toList).run P w.a=U at b;cases U with
   |ok aa C=>simpa using b
   |halt x C=>simpa using b
  rcases ng (g h).cells.toList 0 A.toArray w.a #[] J N j.cell IL S with X|⟨Z,_,_,rfl⟩
  .grind
  exact og (b' B) E (R _)
 have D:=run_storeCells_at P v off W (g h).cells.toList 0 A.toArray w.a J N (j.cell);have z:(g h).cells.size=e.size:=by rw[<-s,<-j.cL,m8]
 simp[j8]at D;simp[ab,I,K,Instr.storeAt,Instr.sureAddr,storeVar,(aV o e q).a_,z,D]
def ld(d:m (Nat×cq))(i:ao)(g:Nat):Option (Nat×cq):=
 match b1 d i with
 |some h=>match h.desc with
  |.struct b=>match c' g b.toList with
   |some a=>match b1 d a.type with
    |some e=>cond (ad e.size 0) n (f (a.offset,e))
    |none=>n
   |none=>n
  |_=>n
 |none=>n
def CU{ac}(aV:b0 P ac){j}{t}(d:ld ac o j=f (off,t)):
  ∃g h b,b1 ac o=f g/\g.desc=.struct h/\h[j]?=f b/\b.offset=off/\b1 ac b.type=f t/\t.size≠0/\eM P o g/\eM P b.type t:=by
 unfold ld at d;split at d
 .rename_i g bp;split at d
  .rename_i h i;split at d
   .rename_i b e;split at d
    .rename_i k q;cases m:ad k.size 0<;>simp[m]at d
     obtain⟨rfl,rfl⟩:=d;refine⟨g,h,b,bp,i,by simpa using er e,a,q,?_,aV _ _ bp,aV _ _ q⟩;intro p;simp_all
    grind
   grind
  grind
 grind
def ze{ac}(aV:b0 P ac){a}{t}(m:ld ac o a=f (off,t))(i r)(b):
  (Instr.fieldAt o (.pointer (f ⟨i,r,n⟩)) a).run P b=.ok (.pointer (f ⟨i,r+off,n⟩)) b:=by obtain⟨q,w,j,s,h,p,k,v,d,g,e⟩:=CU aV m;simp[Instr.fieldAt,g.run_underlying,h,p,Instr.sureAddr,fieldPlace,e.a_,d,g2,k]
def x_{ac}(aV:b0 P ac){a}{t}(k:ld ac o a=f (off,t))(i r)(m)(U):
  (Instr.fieldAt o (.pointer (f ⟨i,r,n⟩)) a).events P m U=U:=by obtain⟨p,w,h,s,g,j,q,v,b,e,d⟩:=CU aV k;simp[Instr.fieldAt,e.run_underlying,g,j,Instr.sureAddr,fieldPlace,d.a_,b]
def a0.g'{ac}(aV:b0 P ac){i:ae}{q}(s:r.op=.fieldAddr o i q){h}{t}(y:η i=aH d off)(m:ld ac o q=f (h,t)):a0 P r η k (aH d (off+h)) k:=by refine .aY λA z x g=>?_;have b:=g i;rw[y]at b;obtain⟨e,L,j,w,v,p⟩:=b;exact⟨.pointer (f ⟨j,off+h,n⟩),by simp[ab,s,p,ze aV m],⟨e,L,j,w,v,a⟩,by simp[ab,s,p,x_ aV m]⟩
theorem a0.ha{ac}(aV:b0 P ac){d:ae}{q}(s:r.op=.fieldAddr o d q){ah}{h}{t}(A:η d=ax (.M ah))(p:ld ac o q=f (h,t)):a0 P r η k (ax (.M (ga h ah))) k:=by refine .aY λC i y g=>?_;have a:=g d;rw[A]at a;have b:=b8 a;generalize j:i d=B at b;cases b;rename_i m r x z v;refine⟨.pointer (f ⟨m,r+h,n⟩),by simp[ab,s,j,ze aV p],?_,by simp[ab,s,j,x_ aV p]⟩;rw[rB];refine Rd.M m (r+h) (λt=>x (h+t)) (λt w e=>N) (λt w e=>?_);grind
def RY{e}(m:eM P o e){ah}(r:bM k b A ah){j}(d:hk e (ga off ah)=f j)(h):
  ∃g,(part o A.toArray off).run P h=.ok g h/\eA k b g j/\∀a,(part o A.toArray off).events P h a=a:=by
 simp[part,cJ,m.ey,c8,aD,aG,events_isAgg];rw[rB]at d;cases t:e.agg<;>simp[hk,t]at d
 .cases q:c' 0 (ah.drop off)with
  |none=>grind
  |some w=>
   simp[q]at d;subst d;obtain⟨g,p,s⟩:=(r.drop off).get (er q);simp at p;refine⟨g,?_,s,λa=>?_⟩<;>simp[p]
 cases q:mS e.size (ah.drop off)with
 |none=>grind
 |some y=>
  simp[q]at d;subst d;obtain⟨v,x⟩:=tM q;have i:=(r.drop off).take e.size;rw[<-v]at i;refine⟨.agg (A.toArray.extract off (off+e.size)),by simp[m.a_],⟨(A.drop off).take e.size,?_,i⟩,λa=>by simp⟩;simp
theorem a0.field{P}{ac}(aV:b0 P ac){r}{d:ae->y}{k}{o}{g}{j}(p:r.op=.field o g j){ah}{h}{t}{i}(M:d g=.n (.agg ah))(F:ld ac o j=f (h,t))(J:hk t (ga h ah)=f i):a0 P r d k (.n i) k:=by refine .aY λK O E e=>?_;have a:=e g;rw[M]at a;obtain⟨A,q,z⟩:=a;obtain⟨Q,D,C,a,b,v,s,S,R,m,I⟩:=CU aV F;obtain⟨N,B,w,x⟩:=RY I z J K.a;exact⟨N,by simp[ab,p,q,Instr.field,m.run_underlying,b,v,asAgg,s,B],w,by simp[ab,p,q,Instr.field,m.run_underlying,b,v,asAgg,s,x]⟩
theorem a0.hI{b:ae}(i:r.op=.nilCheck b)(m:η b=aH d off):a0 P r η k (aH d off) k:=by refine .aY λv g o e=>?_;have a:=e b;rw[m]at a;have j:=a;obtain⟨p,L,q,t,s,h⟩:=a;exact⟨g b,by simp[ab,i,h],j,by simp[ab,i,h]⟩
theorem a0.hJ{d:ae}(i:r.op=.nilCheck d){ah}(j:η d=ax (.M ah)):a0 P r η k (ax (.M ah)) k:=by refine .aY λp g m e=>?_;have a:=e d;rw[j]at a;have b:=b8 a;generalize h:g d=o at b;cases b;exact⟨_,by simp[ab,i,h];rfl,by grind,by simp[ab,i,h]⟩
def YH(new):∀d a(b:Array Y),a+d+c new<=b.size ->
  ((new.zipIdx d).foldl (λb (g:Y×Nat)=>b.setIfInBounds (a+g.2) g.1) b).toList=b.toList.take (a+d)++new++b.toList.drop (a+d+c new):=by
 induction new with
 |nil=>simp
 |cons h A e=>
  intro d a b i;simp[List.zipIdx_cons,iH];rw[e (d+1) a _ N];have:=list_seg_step b.toList (a+d) h A N;simpa[Array.toList_setIfInBounds,Nat.add_assoc]using this
def rE(place:Nat->Option (Nat×Nat)):m (Nat×m Q)->m Q->Option (m Q)
 |[],a=>f a
 |(e,new)::b,a=>match place e with
  |some (d,size)=>match ad (c new) size with
   |true=>match iY d new a with
    |some g=>rE place b g
    |none=>n
   |false=>n
  |none=>n
def yh{k}{b}{place vO:Nat->Option (Nat×Nat)}(z:∀x g,place x=f g->vO x=f g):∀{parts:m (Nat×m Q)}{zN:m (Nat×Y)}{ah ba:m Q}{A:Array Y},
  rE place parts ah=f ba->zN.map (·.1)=parts.map (·.1)->(∀(s:Nat) g o,parts[s]?=f g->zN[s]?=f o->bM k b o.2.cells.toList g.2)->bM k b A.toList ah ->
  ∃r,Instr.fill vO A zN=f r/\bM k b r.toList ba
 |[],[],ah,ba,A,e,_,_,p=>by cases e;exact⟨A,a,p⟩
 |[],_::_,ah,ba,A,e,j,_,p=>by grind
 |_::_,[],ah,ba,A,e,j,_,p=>by grind
 |(x,new)::i,(w,t)::h,ah,ba,A,e,j,q,p=>by
  simp[me,List.cons.injEq]at j;obtain⟨rfl,j⟩:=j;simp[rE]at e;cases y:place w with
  |none=>grind
  |some g=>
   obtain⟨d,size⟩:=g;simp[y]at e;cases C:ad (c new) size with
   |false=>grind
   |true=>
    simp[C]at e;cases D:iY d new ah with
    |none=>grind
    |some o=>
     simp[D]at e;have v:=q 0 (w,new) (w,t) a a;simp only at v;have R:=v.cL;have J:c new=size:=dn C;obtain⟨k1,O⟩:=bM.ff D p v;have M:=YH t.cells.toList 0 d A N;have F:t.cells.size=size:=N;have K:d+size<=A.size:=N;obtain⟨r,I,B⟩:=yh (k:=k) (b:=b) z (parts:=i) (zN:=h) (ah:=o) (ba:=ba)
      (A:=t.cells.zipIdx.foldl (λah (E:Y×Nat)=>ah.setIfInBounds (d+E.2) E.1) A) e j (λs g o I B=>q (s+1) g o N N) (by grind[Array.toList_zipIdx])
     refine⟨r,?_,B⟩;simp[Instr.fill,z _ _ y,F,d6,hv,n1,Bool.false_or,bw];grind
def tn(b:m (Nat×cq)):m Field->Option (m (Nat×Nat))
 |[]=>f []
 |d::a=>match b1 b d.type with
  |some e=>match tn b a with
   |some g=>f ((d.offset,e.size)::g)
   |none=>n
  |none=>n
def Lx{P}{ac}(aV:b0 P ac):∀{b:m Field}{e:m (Nat×Nat)},tn ac b=f e->b.mapM (λd=>(P.info? d.type).map λk=>(d.offset,k.size))=f e
 |[],e,a=>by cases a;simp
 |d::b,e,a=>by
  simp[tn]at a;cases h:b1 ac d.type with
  |none=>grind
  |some p=>
   cases g:tn ac b with
   |none=>grind
   |some q=>
    simp[h,g]at a;subst a;obtain⟨o,r,j,i,_⟩:=(aV _ _ h).dc;simp[o5,j,i,Lx aV g]
def pv(a:ae->y):m (Nat×ae)->Option (m (Nat×m Q))
 |[]=>f []
 |(d,h)::g=>match mm (a h)with
  |some b=>match pv a g with
   |some e=>f ((d,b)::e)
   |none=>n
  |none=>n
def y3{k}{b}{d:ae->Y}{a:ae->y}(t:∀s,bv k b (d s) (a s)):∀{j:m (Nat×ae)}{g:m (Nat×m Q)},pv a j=f g ->
  (j.map λ(i,h)=>(i,d h)).map (·.1)=g.map (·.1)/\∀(p:Nat) q r,g[p]?=f q->(j.map λ(i,h)=>(i,d h))[p]?=f r->bM k b r.2.cells.toList q.2
 |[],g,e=>by cases e;simp
 |(i,h)::z,g,e=>by
  simp[pv]at e;cases v:mm (a h)with
  |none=>grind
  |some w=>
   cases o:pv a z with
   |none=>grind
   |some x=>
    simp[v,o]at e;subst e;obtain⟨B,A⟩:=y3 t o;grind[uV]
def xt(g:m (Nat×cq))(e:ae->y)(j:ao)(parts:m (Nat×ae)):Option (m Q):=
 match b1 g j with
 |some h=>match h.desc with
  |.struct a=>match tn g a.toList with
   |some b=>match pv e parts with
    |some d=>rE (λi=>c' i b) d (h.zero.map Q.c)
    |none=>n
   |none=>n
  |_=>n
 |none=>n
theorem a0.build{P}{ac}(aV:b0 P ac){r}{d:ae->y}{k}{o}{parts}(z:r.op=.build o parts){ah}(e:xt ac d o parts.toList=f ah):a0 P r d k (.n (.agg ah)) k:=by
 refine .aY λb s B m=>?_;unfold xt at e;cases a:b1 ac o with
 |none=>grind
 |some i=>
  simp[a]at e;cases x:i.desc with
  |struct j=>
   simp[x]at e;cases w:tn ac j.toList with
   |none=>grind
   |some q=>
    simp[w]at e;cases v:pv d parts.toList with
    |none=>grind
    |some J=>
     simp[v]at e;obtain⟨S,V,I,T,O,E,K,U,Q⟩:=(aV o i a).dc;obtain⟨D,p⟩:=y3 (k:=k) (b:=b) m v;obtain⟨g,M,F⟩:=yh (k:=k) (b:=b) (vO:=λA=>q.toArray[A]?) (λA R C=>by grind[er]) e D p (ul K);have h:P.built o (parts.map λ(i,N)=>(i,s N)).toList=f g:=by unfold Program.built;have t:=(aV o i a).eO;rw[x]at t;simp[I,t,E,Lx aV w];simpa using M
     refine⟨.agg g,?_,⟨g.toList,by simp,F⟩,?_⟩
     .simp only[ab,z,cJ,run_build b.a o _ g h,c8,dZ]
     simp[ab,z,aD,run_build b.a o _ g h,aG,Sem.events_pure];exact dC.build b.a #[]
  |_=>grind
theorem Zi{h}(a:e<j)(d:t<h):e*h+t<j*h:=by have b:(e+1)*h<=j*h:=g7 h x;grind
theorem Zh{h}(a:t<h):(e*h+t) / h=e:=by grind[Nat.mul_comm,Nat.mul_add_div,Nat.div_eq_of_lt]
theorem Zj{h}(a:t<h):(e*h+t) % h=t:=by rw[Nat.mul_comm,Nat.mul_add_mod,Nat.mod_eq_of_lt a]
def e9.nil{h}:e9 bA h 0 U []:=⟨by simp,by omega,by omega⟩
def cg(b:Nat)(d e:Nat->m O):Nat->m O:=λa=>if a<b then d a else e (a-b)
def e9.append{h}{b:Nat->m O}{i}(g:e9 bA h j U A)(p:e9 bA h z b i):e9 bA h (j+z) (cg j U b) (A++i):=by
 refine⟨by simp[g.len,p.len,jF],λe r=>?_,λe r k s a=>?_⟩
 .simp only[cg];split
  .rename_i o;exact g.bD e o
  exact p.bD _ x
 simp[cg]at a;split at a
 .rename_i o;obtain⟨t,q,d⟩:=g.rd e o k s a;grind
 rename_i w;obtain⟨t,q,d⟩:=p.rd _ x k s a;refine⟨t,?_,d⟩;have v:e*h+k=c A+((e-j)*h+k):=by rw[g.len,<-Nat.add_assoc,<-jF,AU x]
 grind
def e9.cell{bA}{h j}{d:Nat->m O}{A}(i:e9 bA h j d A):∀g∈A,g.oneCell'=l:=by intro g p;obtain⟨a,q,rfl⟩:=g6 p;rw[i.len]at q;have o:0<h:=N;have e:a / h<j:=sl N;have s:a % h<h:=p7 _ o;have t:=i.bD _ e;obtain⟨g,b,k⟩:=i.rd (a / h) e (a % h) ((d (a / h))[a % h]'x) (bF x);have r:a / h*h+a % h=a:=uu a h;rw[r]at b;rw[bF N]at b;simp at b;rw[b];have:=Rd.cell k;cases g<;>simp_all[dU,Value.oneCell']
def Rd.bY{o}{h}(C:Rd bA aa (.R o h j U)):
  ∃k b A,aa=.slice k j b/\j<=b/\b<=9223372036854775807/\(o=l->b=j)/\e9 bA h j U A/\∀e v,A[e]?=f v->∃m d,k=f ⟨m,d,n⟩/\bA m (d+e)=f v:=by
 cases C with
 |@R k _ b _ _ _ m d z w r t i q s E=>
  refine⟨k,b,(aA (j*h)).map λe=>z (e / h) (e % h),a,w,r,t,⟨by simp,i,?_⟩,?_⟩
  .grind [Zi,Zh,Zj]
  intro e v p;simp[m_]at p;by_cases y:e<j*h
  .simp[y]at p;subst p;have B:0<h:=N;have g:e / h<j:=sl N;have D:e % h<h:=p7 _ B;have F:=i _ g;have:=s (e / h) g (e % h) ((U (e / h))[e % h]'x) (bF x);refine⟨m,d,q (Nat.lt_of_le_of_lt (g1 _) g),?_⟩;grind[Nat.div_add_mod']
  grind
def Rd.eJ{h}(k:e9 bA h j U A){w}{cap}{o}(v:0<j->w=f ⟨i,off,n⟩)(t:j<=cap)(q:cap<=9223372036854775807)(x:o=l->cap=j)(y:∀r s,A[r]?=f s->bA i (off+r)=f s):Rd bA (.slice w j cap) (.R o h j U):=by
 refine .R i off (λd e=>(A[d*h+e]?).getD I) t q x k.bD v (λd a e g b=>?_) (λd a e g b=>?_)
 .obtain⟨aa,m,p⟩:=k.rd d a e g b;grind
 obtain⟨aa,m,p⟩:=k.rd d a e g b;grind
def oH(z:bc k b){o}{h}(v:Rd b.u aa (.R o h j U)):
  ∃A,e9 b.u h j U A/\(Builtin.firstCells h j aa).run P b.a=.ok A.toArray b.a/\Builtin.lenOf aa=pure j:=by
 obtain⟨r,m,A,rfl,B,E,D,q,p⟩:=v.bY;refine⟨A,q,?_,a⟩;have w:c A=j*h:=q.len;cases r with
 |none=>
  have:A=[]:=by
   cases A with
   |nil=>rfl
   |cons i C=>obtain⟨s,d,g,_⟩:=p 0 i rfl;cases g
  subst this;rfl
 |some e=>
  simp[Builtin.firstCells];rw[<-w];refine run_loadCells_list b.a e A λx i t=>?_;obtain⟨s,d,g,y⟩:=p x i t;cases g;rw[g2];exact z.mem _ _ _ y
def a0.js{ac}(aV:b0 P ac){v x:ae}(s:r.op=.index o v x){d}{t}{h}{e}(bp:b1 ac o=f e)(al:e.desc=.string)(F:η v=ax (.V d))(E:η x=ax (.int h t))(J':t=z)(C:z<c d):a0 P r η k (ax (.int .u8 (d[z]).toNat)) k:=by
 refine .aY λb q y p=>?_;have g:=p v;have j:=p x;rw[F]at g;rw[E]at j;replace g:=b8 g;replace j:=b8 j;generalize w:q v=I at g;generalize K:q x=J at j;cases g with
 |@V a _ D A=>
 cases j;subst D;have B:a[z]?=f (a.data.toList[z]):=by have m:z<a.size:=du;rw[getElem?_pos a z m];congr 1
 refine⟨.int .u8 (a.data.toList[z]).toNat,?_,Rd.int ?_,?_⟩
 rotate_left 2
 .exact Q9
 .exact Q9
 have:=(a.data.toList[z]).toNat_lt;exact mW
def a0.indexAddr{ac}(aV:b0 P ac){s v:ae}(T:r.op=.indexAddr o s v){e a4}(D:b1 ac o=f e)(Q:e.desc=.slice W)(R:b1 ac W=f a4){eO}{t}{h}(y:∀p N,bv k p N (η s)->Rd p.u N (.R eO a4.size j U))(O:η v=ax (.int h t))(E:t=z)(A:z<j):
  a0 P r η k (ax (.M (U z))) k:=by
 refine .aY λp q X i=>?_;have d:=y p _ (i s);have a:=i v;rw[O]at a;replace a:=b8 a;generalize af:q s=ah at d;generalize ag:q v=ai at a;cases a;cases d with
 |@R aj _ J _ _ _ I b S al V Z Y C g m=>
 have aa:0<j:=x;have K:=(aV o e D).run_underlying (M:=p.a);rw[Q]at K;refine⟨.pointer (f ⟨I,b+z*a4.size,n⟩),?_,Rd.M I (b+z*a4.size) (S z) (λF w B=>g z A F w B) (λF w B=>m z A F w B),?_⟩<;>
 simp[ab,T,af,ag,Instr.indexAt,asIntOf,K,E,C aa,(aV W a4 R).a_,g2,A]
def a0.jy{ac}(aV:b0 P ac){g:ae}(t:r.op=.call {callee:=.builtin .len,args:=#[g],argTypes:=dt})(y:dt[0]?=f o){e}(b:b1 ac o=f e)(s:e.desc=.slice W){eO}{h}(z:∀a p,bv k a p (η g)->Rd a.u p (.R eO h j U)):a0 P r η k (ax (.int .i64 j)) k:=by
 refine .aY λa B w d=>?_;obtain⟨C,i,A,x,D,v,_⟩:=(z a _ (d g)).bY;have m:=(aV o e b).run_underlying (M:=a.a);rw[s]at m;have q:dt[0]?=f o:=y;refine⟨.int .i64 j,?_,Rd.int mW,?_⟩<;>
 simp[ab,t,resolve,invoke,builtin,Builtin.len_,x,m,goInt,q]
theorem a0.jz{ac}(aV:b0 P ac){b:ae}(v:r.op=.call {callee:=.builtin .len,args:=#[b],argTypes:=dt})(z:dt[0]?=f o){e}(g:b1 ac o=f e)(t:e.desc=.string){d}(A:η b=ax (.V d)):a0 P r η k (ax (.int .i64 (c d))) k:=by
 refine .aY λB j w h=>?_;have a:=h b;rw[A]at a;replace a:=b8 a;generalize p:j b=C at a;cases a with
 |@V i _ y x=>
 have m:=(aV o e g).run_underlying (M:=B.a);rw[t]at m;have q:dt[0]?=f o:=z;have s:i.size=c d:=by rw[<-y];simp
 refine⟨.int .i64 (c d),?_,Rd.int mW,?_⟩<;>
 simp[ab,v,resolve,invoke,builtin,Builtin.len_,p,m,goInt,q,s]
def a5.newRow(a:a5)(e:ao)(A:m Y):a5:=
 {s:=a.s,u:=λb d=>if b=a.a.heap.size then A[d]? else a.u b d,a:=a.a.alloc (.cells A.toArray e),own:=a.own}
def bc.newRow{k}{b}(h:bc k b)(W)(A):bc k (b.newRow W A)/\cN k b k (b.newRow W A):=by
 refine h.cY E (λg d=>iU _ _ d) (λg d j=>by grind) (λg d j m e=>?_) a a a;by_cases i:g=b.a.heap.size
 .simp_all
 simp[i,dm]at e;have:=h.block e;omega
def Z6(d:a5)(W)(A):∀a b,A[a]?=f b->(d.newRow W A).u d.a.heap.size (0+a)=f b:=by intro a b e;simpa[a5.newRow]using e
def h7:m Q->Option (m O)
 |[]=>f []
 |.c e::d=>match h7 d with|some b=>f (e::b)|none=>n
 |.w _ g h a::d=>match h7 d with|some b=>f (.R u g h a::b)|none=>n
 |_::_=>n
def rz{k}{b}:∀{i:m Q}{g:m O}{A:m Y},h7 i=f g->bM k b A i->bM k b A (g.map Q.c)
 |[],g,A,a,e=>by cases a;exact e
 |_::_,_,[],_,e=>e.elim
 |.c r::d,g,j::A,a,e=>by
  simp[h7]at a;cases h:h7 d with
  |none=>grind
  |some q=>simp[h]at a;subst a;exact⟨e.1,rz h e.2⟩
 |.w o s t p::d,g,j::A,a,e=>by
  simp[h7]at a;cases h:h7 d with
  |none=>grind
  |some q=>simp[h]at a;subst a;exact⟨e.1.1,rz h e.2⟩
 |.ptr o v::d,g,j::A,a,e=>by simp[h7]at a
 |.aK o::d,g,j::A,a,e=>by simp[h7]at a
 |.K o w::d,g,j::A,a,e=>by simp[h7]at a
 |.any::d,g,j::A,a,e=>by simp[h7]at a
def rx{a:Type}(b:Nat):Nat->m a->Option (m (m a))
 |0,[]=>f []
 |0,_::_=>n
 |g+1,d=>match mS b d with
  |some e=>match rx b g (ga b d)with
   |some h=>f (e::h)
   |none=>n
  |none=>n
def bM.eY:∀{A:m Y}{a:m O},bM k b A (a.map Q.c)->∀(t:Nat)d,a[t]?=f d->∃e,A[t]?=f e/\Rd b.u e d:=by intro A a i t d j;obtain⟨e,g,h⟩:=i.get (t:=t) (w:=.c d) N;exact⟨e,g,h⟩
def BY{bA}{h}:∀{j:Nat}{b:m O}{d:m (m O)}{A:m Y},rx h j b=f d->c A=c b->(∀(k:Nat)e,b[k]?=f e->∃p,A[k]?=f p/\Rd bA p e)->c d=j/\e9 bA h j (λi=>d.getD i []) A
 |0,[],d,A,g,o,r=>by cases g;simp at o;subst o;exact⟨a,.nil⟩
 |0,_::_,d,A,g,o,r=>by cases g
 |j+1,b,d,A,g,o,r=>by
  simp[rx]at g;cases v:mS h b with
  |none=>grind
  |some e=>
   simp[v]at g;cases q:rx h j (ga h b)with
   |none=>grind
   |some w=>
    simp[q]at g;subst g;obtain⟨D,t⟩:=tM v;rw[rB]at q;obtain⟨E,B⟩:=BY (A:=A.drop h) q N (λk e C=>by
     obtain⟨p,D,t⟩:=r (h+k) e N
     exact⟨p,by grind,t⟩)
    refine⟨by grind,?_⟩;have z:h<=c b:=N;have s:e9 bA h 1 (λ_=>e) (A.take h):=by refine⟨by grind,by grind,λi y k F C=>?_⟩;grind
    have:=s.append B;rw[Nat.add_comm 1 j]at this;have x:cg 1 (λ_=>e) (λi=>w.getD i [])=λi=>(e::w).getD i []:=by funext i;cases i<;>simp[cg]
    rw[x]at this;simpa using this
def rR(i:m (Nat×cq))(h:ae->y)(q:ao)(e:Nat)(parts:m (Nat×ae)):Option (Nat×m (m O)):=
 match b1 i q with
 |some k=>match k.desc with
  |.slice j=>match b1 i j with
   |some a=>match ad a.size 0 with
    |true=>n
    |false=>match ay (e*a.size) 16777216 with
     |true=>match pv h parts with
      |some g=>match rE (λo=>f (o*a.size,a.size)) g (aX (e*a.size) Q.any)with
       |some b=>match h7 b with
        |some p=>match rx a.size e p with
         |some d=>f (a.size,d)
         |none=>n
        |none=>n
       |none=>n
      |none=>n
     |false=>n
   |none=>n
  |_=>n
 |none=>n
theorem a0.buildSlice{P}{ac}(aV:b0 P ac){r}{w:ae->y}{k}{o}{j}{parts}(s:r.op=.buildSlice o j parts){h}{U}(e:rR ac w o j parts.toList=f (h,U)):a0 P r w k (ax (.R l h j λv=>U.getD v [])) k:=by
 intro b q R T;unfold rR at e;cases B:b1 ac o with
 |none=>grind
 |some v=>
  simp[B]at e;cases ai:v.desc with
  |slice t=>
   simp[ai]at e;cases D:b1 ac t with
   |none=>grind
   |some d=>
    simp[D]at e;cases V:ad d.size 0 with
    |true=>grind
    |false=>
     simp[V]at e;cases G:ay (j*d.size) 16777216 with
     |false=>grind
     |true=>
      simp[G]at e;cases aB:pv w parts.toList with
      |none=>grind
      |some aa=>
       simp[aB]at e;cases az:rE (λh=>f (h*d.size,d.size)) aa (aX (j*d.size) Q.any)with
       |none=>grind
       |some I=>
        simp[az]at e;cases H:h7 I with
        |none=>grind
        |some aI=>
         simp[H]at e;cases ah:rx d.size j aI with
         |none=>grind
         |some ao=>
          simp only[ah,e4,lD]at e;obtain⟨rfl,rfl⟩:=e;have aS:d.size≠0:=λan=>by simp_all
          have aR:=fl G;obtain⟨aw,p,NJ,aN,aO,a,bq,aP,aQ⟩:=(aV t d D).dc;have au:p.cells.size=d.size:=N3;have ar:∀g∈p.cells.toList,dU g=l:=by intro g L;have al:k3 g∈p.cells.toList.map k3:=ho.2 ⟨g,L,rfl⟩;rw[bq]at al;obtain⟨aT,_,O⟩:=ho.1 al;exact(Rd.fq (bA:=b.u) O.symm).cell
          have aL:∀aH,(∀g∈(aA aH).map (λC=>p.cells[C % p.cells.size]!),dU g=l):=by grind[Nat.mod_lt]
          have aC:∀A:m Y,(∀g∈A,dU g=l)->bM k b A (aX (c A) Q.any):=by
           intro A;induction A with
           |nil=>intro _;trivial
           |cons g A W=>intro L;exact⟨L g E,W λaJ av=>L aJ N⟩
          obtain⟨X,Z⟩:=y3 (k:=k) (b:=b) T aB;have aE:bM k b ((Array.range (j*d.size)).map (λC=>p.cells[C % p.cells.size]!)).toList (aX (j*d.size) Q.any):=by have:=aC _ (aL (j*d.size));simpa using this
          obtain⟨z,aK,af⟩:=yh (k:=k) (b:=b) (vO:=λh=>f (h*d.size,d.size)) (λh aU S=>S) az X Z aE;have nI:=rz H af;obtain⟨aG,F⟩:=BY (bA:=b.u) (A:=z.toList) ah (by simpa using nI.cL) nI.eY;obtain⟨K,aj⟩:=R.newRow t z.toList;refine⟨.value (.slice (f ⟨b.a.heap.size,0,n⟩) j j),b.newRow t z.toList,?_,?_,K,aj,?_⟩
          rotate_left 2
          .have an:(ab q r).events P b.a #[]=#[]:=Ro;rw[an];exact .nil
          .have av:=(aV o v B).run_underlying (M:=b.a);rw[ai]at av;have aD:(zeroValue t).run P b.a=.ok p b.a:=N6;have J:Instr.fill (λh=>f (h*d.size,d.size)) ((Array.range (j*d.size)).map (λC=>p.cells[C % p.cells.size]!)) (parts.map λ(v,ag)=>(v,q ag)).toList=f z:=bu;by_cases aF:j*d.size=0
           .have aM:j=0:=by grind[Nat.mul_eq_zero]
            subst aM;have aq:Array.range 0=#[]:=rfl;simp[aq]at J;simp[ab,s,Instr.buildSlice,av,(aV t d D).a_,aq,J,Go.newRow,a5.newRow]
           rw[show ab q r=(do pure (.value (<-Instr.buildSlice o j (parts.map λ(v,ag)=>(v,q ag))))) by simp[ab,s]];simp only[Instr.buildSlice,cJ,av,c8,(aV t d D).a_,aF,dm,aD,show¬j*d.size>2 ^ 24 by omega,sy,J,dZ];simp[Go.newRow,a5.newRow]
          refine Rd.eJ (F.mono aj.mem) (i:=b.a.heap.size) (off:=0) bn (bB _) ?_ bn (Z6 b t z.toList);have:j<=j*d.size:=us j x;omega
  |_=>grind
def fv.trans{k aP a}{b i b5}(j:fv k b aP i)(m:fv aP i a b5):fv k b a b5:=by refine⟨λy z A s=>m.mem _ _ _ (j.mem _ _ _ s),λo p L aI h=>?_⟩;obtain⟨w,d,e,g,v⟩:=j.box o p L aI h;obtain⟨x,t,k1,q,r⟩:=m.box o w d e g;exact⟨x,t,k1,q,v.trans r⟩
def rF{a:m α}{d b:α}{e}(g:(a++[d])[e]?=f b):a[e]?=f b∨(e=c a/\b=d):=N
def bc.bX{j}(e:bc k j)(g:cN k b k j)(M:j.s=b.s)(q:bc k b){bS}{L}(aI:ez (k++[bS]) {j with s:=j.s++[L]} bS L)(D:∀i∈L.ab,b.a.heap.size<=i/\i<j.a.heap.size):bc (k++[bS]) {j with s:=j.s++[L]}/\cN k b (k++[bS]) {j with s:=j.s++[L]}:=by
 have v:fv k j (k++[bS]) {j with s:=j.s++[L]}:=by refine⟨λ_ _ _ I=>I,λy p h m d=>?_⟩;have x:=(cO.1 d).1;have K:=(cO.1 m).1;exact⟨p,h,by grind,by grind,.refl _ _⟩
 have B:=g.ext.trans v;refine⟨⟨e.mem,by simp[e.len],?_,?_,?_,?_⟩,⟨g.size,g.aV,g.mem,g.bz,?_,B.box,g.os,g.tape,g.output,g.own⟩⟩
 .intro y p h m d;rcases rF m with F|⟨rfl,rfl⟩
  .have x:y<c j.s:=by rw[e.len];grind
   rw[j5 x]at d;exact(e.box y p h F d).cb v e.len λ_ _=>⟨a,λ_=>rfl⟩
  rcases rF d with A|⟨_,rfl⟩
  .have:=(cO.1 A).1;rw[e.len]at this;omega
  grind
 .intro y C r s A t i cU o;rcases rF A with k1|⟨rfl,rfl⟩<;>rcases rF t with J|⟨rfl,rfl⟩
  .exact e.a1 y C r s k1 J i cU o
  .have kz:=D i o;have z:=q.lt r N i cU;omega
  .have kz:=D i cU;have z:=q.lt s N i o;omega
  simp
 .intro h d i cU;simp[fC,gK]at d;rcases d with d|rfl
  .exact e.lt h d i cU
  grind
 .intro i cU;refine⟨(e.own i cU).1,λh d w=>?_⟩;simp[fC,gK]at d;rcases d with d|rfl
  .exact(e.own i cU).2 h d w
  have E:=g.own;simp only at cU;rw[E]at cU;have:=(q.own i cU).1;grind
 grind
def bc.b8{cf}(m:bc k b){E ea}{L ct}(V:k[d]?=f E)(I:b.s[d]?=f L)(y:fP E L ea ct)(U:b.a.heap.size<=bj.heap.size)(S:∀e,e<b.a.heap.size->e∉L.ab->bj.heap[e]?=b.a.heap[e]?)(W:∀e,e<b.a.heap.size->e∉L.ab->∀r,cf e r=b.u e r)(F:∀e r v,b.u e r=f v->cf e r=f v)(M:∀e r v,cf e r=f v->bj.cell? ⟨e,r,n⟩=f v)(Z:∀e∈ct.ab,(e∈L.ab∨b.a.heap.size<=e)/\e<bj.heap.size)(D:bj.os=b.a.os)(Q:bj.tape=b.a.tape)(O:bj.output=b.a.output)(aI:ez (k.set d ea) ⟨b.s.set d ct,cf,bj,b.own⟩ ea ct):bc (k.set d ea) ⟨b.s.set d ct,cf,bj,b.own⟩/\cN k b (k.set d ea) ⟨b.s.set d ct,cf,bj,b.own⟩:=by
 have X:=(cO.1 V).1;have Y:=(cO.1 I).1;have x:∀g h,(b.s.set d ct)[g]?=f h->(g=d/\h=ct)∨(g≠d/\b.s[g]?=f h):=N;have s:fv k b (k.set d ea) ⟨b.s.set d ct,cf,bj,b.own⟩:=by
  refine⟨F,λg h w q A=>?_⟩;by_cases C:d=g
  .grind
  exact⟨h,w,by grind,by grind,.refl _ _⟩
 have J:∀g h,g≠d->b.s[g]?=f h->∀e∈h.ab,e<b.a.heap.size/\e∉L.ab:=by intro g h p q e i;exact⟨m.lt h (b' q) e i,λT=>p (m.a1 g d h L q I e i T)⟩
 refine⟨⟨M,by simp[m.len],?_,?_,?_,?_⟩,⟨U,?_,F,?_,?_,s.box,D,Q,O,a⟩⟩
 .intro g h w q A;rcases x g w A with⟨rfl,rfl⟩|⟨p,A⟩
  .grind
  rw[kB (λC=>p C.symm)]at q;refine(m.box g h w q A).cb s m.len λe i=>?_;grind
 .intro g K h o q B e i t;rcases x g h q with⟨rfl,rfl⟩|⟨p,z⟩<;>rcases x K o B with⟨rfl,rfl⟩|⟨j,R⟩
  .rfl
  .grind
  .grind
  exact m.a1 g K h o z R e i t
 .intro h q e i;obtain⟨g,p,rfl⟩:=g6 q;rcases x g _ (bF p)with⟨rfl,C⟩|⟨j,B⟩
  .grind
  grind
 .intro e i;obtain⟨H,G⟩:=m.own e i;grind
 .grind
 .grind
 grind
def KY{a old bytes}(d:old<a)(b:a*bytes<=140737488355328):¬Builtin.nextslicecap a old*bytes>2 ^ 48:=by have:=growslice_fits d b;omega
section
variable {ac:m (Nat×cq)}(aV:b0 P ac){t2:ao}{e K a4:cq}
def zd(d:eM P o e)(y:e.desc=.slice W)(v:eM P t2 K)(t:K.desc=.slice W)(z:eM P W a4)(C:bc k b){w}{cap}(s:j<=cap){q}{g}{a:Nat->m O}(p:Rd b.u q (.R g a4.size 0 a)):
  (Builtin.append_ #[o,t2] ty #[.slice w j cap,q]).run P b.a=.ok (.slice w j cap) b.a:=by obtain⟨E,D,B,I⟩:=oH (P:=P) C p;have i:=d.run_underlying (M:=b.a);have h:=v.run_underlying (M:=b.a);rw[y]at i;rw[t]at h;obtain⟨r,F,A,rfl,_⟩:=p.bY;have x:=jD (by simpa using D.len);subst x;cases w<;>simp[Builtin.append_,i,h,z.a_,Builtin.lenOf,s,B,storeCells]
def vV(w:eM P o e)(af:e.desc=.slice W)(aw:eM P t2 K)(av:K.desc=.slice W)(L:eM P W a4)(al:bc k b){q}{cap}{aj D}{g:Nat->m O}{i}(B:Rd b.u (.slice q j cap) (.R aj a4.size j U))(C:Rd b.u i (.R D a4.size z g))(ah:cap<j+z)(F:(j+z)*a4.bytes<=140737488355328)(y:a4.bytes≠0):
  ∃A p d,e9 b.u a4.size (j+z) (cg j U g) A/\j+z<=d/\d<=9223372036854775807/\c (A++p)=d*a4.size /\
   (Builtin.append_ #[o,t2] ty #[.slice q j cap,i]).run P b.a=.ok (.slice (f ⟨b.a.heap.size,0,n⟩) (j+z) d) (b.a.drew.alloc (.cells (A++p).toArray W)):=by
 have ab:bc k {b with a:=b.a.drew}:=al.same rfl;obtain⟨s,J,t,ar⟩:=oH (P:=P) ab (aa:=i) C;obtain⟨r,X,v,V⟩:=oH (P:=P) ab (aa:=.slice q j cap) B;have R:=w.run_underlying (M:=b.a);have S:=aw.run_underlying (M:=b.a);rw[af]at R;rw[av]at S;obtain⟨Z,E,I,ax,az,ai,ag,aB,aC⟩:=L.dc;have T:=fR (us _ (Nat.pos_of_ne_zero y)) F;have H:E.cells.size=a4.size:=by have:=eC List.length ag;grind
 refine⟨r++s,(Builtin.zeroCells E.cells (grownCap b.a (j+z) cap W-(j+z))).toList,grownCap b.a (j+z) cap W,X.append J,grownCap_ge _ _ _ _,?_,?_,?_⟩
 .have:=grownCap_le_maxLen b.a (j+z) cap W (by unfold maxLen;omega);unfold maxLen at this;omega
 .have aM:=grownCap_ge b.a (j+z) cap W;simp[dk,X.len,J.len,m8,size_zeroCells,H,<-jF];grind
 .have aD:=KY ah F;have au:¬Builtin.nextslicecap (j+z) cap*Z.bytes>2 ^ 48:=N;have aq:¬j+z<=cap:=x;have Q:¬((j+z:Nat):Int)>IntKind.i64.max:=bu;have G:∀h,(typeInfo W).run P h=.ok Z h:=λh=>by simp[typeInfo,I]
  have ae:∀h,(zeroValue W).run P h=.ok E h:=λh=>by simp[zeroValue,typeInfo,I,ai]
  have ao:(Builtin.lenOf i).run P b.a=.ok z b.a:=by rw[ar];rfl
  replace t:(Builtin.firstCells a4.size z i).run P b.a.drew=.ok s.toArray b.a.drew:=t;replace v:(Builtin.firstCells a4.size j (.slice q j cap)).run P b.a.drew=.ok r.toArray b.a.drew:=v
  unfold Builtin.append_;simp only[j6,mf,n3,cJ,R,S,c8,L.a_,dZ,j7,dm,ao,aq,
   Q,false_and,G,au,run_choose,Question.forced,run_askRoom,sy,World.drew_eq,v,t,hK,dH,ae]
  simp[Go.newRow,grownCap];have an:∀a:Array Y,(r++s).toArray++a=(r++(s++a.toList)).toArray:=λa=>by grind
  rw[an];rfl
def Ef(g:eM P o e)(F:e.desc=.slice W)(E:eM P t2 K)(D:K.desc=.slice W)(I:eM P W a4)(A:bc k b){cap}{w}{q}(J:b.a.heap[i]?=f (.cells q.toArray w (0,0)))(C:c q=cap*a4.size){p}{a:Nat->m O}{r}(y:Rd b.u r (.R p a4.size z a))(v:j+z<=cap):
  ∃d,e9 b.u a4.size z a d/\(Builtin.append_ #[o,t2] ty #[.slice (f ⟨i,0,n⟩) j cap,r]).run P b.a=.ok (.slice (f ⟨i,0,n⟩) (j+z) cap) (b.a.setRow i (q.take (j*a4.size)++d++q.drop (j*a4.size+c d)).toArray):=by
 obtain⟨d,h,Q,R⟩:=oH (P:=P) A y;have x:=g.run_underlying (M:=b.a);have s:=E.run_underlying (M:=b.a);rw[F]at x;rw[D]at s;have S:j*a4.size+c d<=c q:=by rw[h.len,C,<-jF];exact g7 _ v
 have t:=run_storeCells_at P i (j*a4.size) w d 0 q.toArray b.a J N h.cell;simp[j8]at t;have B:(Builtin.lenOf r).run P b.a=.ok z b.a:=du;refine⟨d,h,?_⟩;unfold Builtin.append_;simp[j6,mf,n3,cJ,x,s,c8,I.a_,dZ,j7,dm,B,v,dH,hK,Q,g2,cW,t]
end
def DB{d:Sem α}{b}{U}{a}(e:a∈d.events P b U):a∈U∨a∈d.events P b #[]:=by grind[Sem.events_acc]
def LY(e:a5)(d:aR):Prop:=∃a b g,d=px a b/\e.u a b=f g
def sT(I:bc k b){o}{h}(z:Rd b.u aa (.R o h j U)){M}(E:M.heap=b.a.heap):
  ∀t∈(Builtin.firstCells h j aa).events P M #[],LY b t:=by
 obtain⟨C,w,A,rfl,S,R,N,B,F⟩:=z.bY;have O:=B.len;intro t i;cases C with
 |none=>simp[Builtin.firstCells]at i
 |some r=>
  simp[Builtin.firstCells]at i;have s:∀e,e<j*h->∃g d m,r=⟨g,d,n⟩/\b.u g (d+e)=f m:=by intro e p;obtain⟨g,d,y,q⟩:=F e (A[e]'x) (bF x);grind
  by_cases J:j*h=0
  .rw[J]at i;simp[loadCells,loadCellsFrom]at i
  obtain⟨g,d,_,rfl,_⟩:=s 0 x;have Q:∀e,e<j*h->∃aa,M.cell? ⟨g,d+e,n⟩=f aa:=by intro e p;obtain⟨K,D,m,v,q⟩:=s e p;cases v;have:=I.mem _ _ _ q;exact⟨m,by simp[aL,E]at this⊢;omega⟩
  rcases Ja (P:=P) Q t i with z|⟨e,p,rfl⟩
  .grind
  obtain⟨K,D,m,v,q⟩:=s e p;cases v;exact⟨_,_,m,a,q⟩
theorem ts{a}(e:LY b a):h8 b a:=by obtain⟨g,h,i,rfl,d⟩:=e;exact IM d
section
variable {t2:ao}{e K a4:cq}
def x7(g:eM P o e)(D:e.desc=.slice W)(z:eM P t2 K)(y:K.desc=.slice W)(E:eM P W a4)(r:bc k b){p}{cap}(w:j<=cap){t}{i}{d:Nat->m O}(h:Rd b.u t (.R i a4.size 0 d)):
  dw b ((Builtin.append_ #[o,t2] ty #[.slice p j cap,t]).events P b.a #[]):=by obtain⟨N,J,F,R⟩:=oH (P:=P) r h;have C:=sT (P:=P) r h (M:=b.a) a;have s:=g.run_underlying (M:=b.a);have q:=z.run_underlying (M:=b.a);rw[D]at s;rw[y]at q;obtain⟨v,Q,A,rfl,_⟩:=h.bY;have B:=jD (by simpa using J.len);subst B;intro x I;refine ts (C x ?_);cases p<;>simpa[Builtin.append_,s,q,E.a_,Builtin.lenOf,w,F,storeCells]using I
def u4(A:eM P o e)(aj:e.desc=.slice W)(G:eM P t2 K)(y:K.desc=.slice W)(J:eM P W a4)(t:bc k b){p}{cap}{B C}{r:Nat->m O}{d}(T:Rd b.u (.slice p j cap) (.R B a4.size j U))(S:Rd b.u d (.R C a4.size z r))(al:cap<j+z)(I:(j+z)*a4.bytes<=140737488355328)(ah:a4.bytes≠0):
  dw b ((Builtin.append_ #[o,t2] ty #[.slice p j cap,d]).events P b.a #[]):=by
 have F:bc k {b with a:=b.a.drew}:=t.same rfl;obtain⟨az,aq,s,V⟩:=oH (P:=P) F (aa:=d) S;obtain⟨av,X,v,ab⟩:=oH (P:=P) F (aa:=.slice p j cap) T;have Y:=sT (P:=P) t S (M:=b.a.drew) a;have aJ:=sT (P:=P) t T (M:=b.a.drew) a;have R:=A.run_underlying (M:=b.a);have af:=G.run_underlying (M:=b.a);rw[aj]at R;rw[y]at af;obtain⟨w,aB,aM,aC,aE,E,aF,aH,aI⟩:=J.dc;have Z:=fR (us _ (Nat.pos_of_ne_zero ah)) I;have ae:=KY al I;have Q:¬Builtin.nextslicecap (j+z) cap*w.bytes>2 ^ 48:=N;have aw:¬j+z<=cap:=x;have H:¬((j+z:Nat):Int)>IntKind.i64.max:=bu;have ai:∀h,(typeInfo W).run P h=.ok w h:=λh=>by simp[typeInfo,aM]
 have L:∀h,(zeroValue W).run P h=.ok aB h:=λh=>by simp[zeroValue,typeInfo,aM,E]
 have an:(Builtin.lenOf d).run P b.a=.ok z b.a:=by rw[V];rfl
 have ar:(Builtin.lenOf d).events P b.a #[]=#[]:=by rw[V];rfl
 replace s:(Builtin.firstCells a4.size z d).run P b.a.drew=.ok az.toArray b.a.drew:=s;replace v:(Builtin.firstCells a4.size j (.slice p j cap)).run P b.a.drew=.ok av.toArray b.a.drew:=v
 intro q i;unfold Builtin.append_ at i;simp only[j6,mf,n3,aD,cJ,R,af,c8,aG,J.a_,dZ,j7,dm,an,ar,aw,
  H,false_and,ai,Q,run_choose,Question.forced,run_askRoom,sy,Sem.events_ite,World.drew_eq,v,s,hK,dH,L,events_underlying,events_sizeOf,events_typeInfo,events_choose,events_zeroValue,Sem.events_pure]at i
 have ag:∀(d:Nat) (M:au) (q:aR),q∈(askRoom d).events P M #[]->q=⟨.mark .noRoom,u,l⟩:=by intro d M q ao;unfold askRoom at ao;simp_all
 rw[dC.newRow (P:=P)]at i;generalize(Go.newRow W _).run P b.a.drew=ax at i;have g:q∈(Builtin.firstCells a4.size z d).events P b.a.drew ((Builtin.firstCells a4.size j (.slice p j cap)).events P b.a.drew ((askRoom ((Question.appendCap (j+z) cap W).cut (b.a.tape b.a.drawn (Question.appendCap (j+z) cap W))*w.bytes)).events P b.a.drew #[])):=by
  cases ax with
  |ok aa D=>simpa using i
  |halt aa D=>simpa using i
 rcases DB g with g|g
 .rcases DB g with g|g
  .rw[ag _ _ _ g];exact .inl a
  grind[ts]
 grind[ts]
def Cq(h:eM P o e)(x:e.desc=.slice W)(J:eM P t2 K)(I:K.desc=.slice W)(A:eM P W a4)(G:bc k b){cap}{Q}{d}(y:b.a.heap[i]?=f (.cells d.toArray Q (0,0)))(F:c d=cap*a4.size){r6}{dJ:Nat->m O}{C}(r:Rd b.u C (.R r6 a4.size z dJ))(w:j+z<=cap){L}(Y:L∈b.s)(U:i∈L.ab)(ab:∀v,j*a4.size<=v->b.u i v=n):
  dw b ((Builtin.append_ #[o,t2] ty #[.slice (f ⟨i,0,n⟩) j cap,C]).events P b.a #[]):=by
 obtain⟨g,p,aM,R⟩:=oH (P:=P) G r;have T:=sT (P:=P) G r (M:=b.a) a;have H:=h.run_underlying (M:=b.a);have s:=J.run_underlying (M:=b.a);rw[x]at H;rw[I]at s;have S:j*a4.size+c g<=c d:=by rw[p.len,F,<-jF];exact g7 _ w
 have t:=run_storeCells_at P i (j*a4.size) Q g 0 d.toArray b.a y N p.cell;simp[j8]at t;have D:(Builtin.lenOf C).run P b.a=.ok z b.a:=du;have E:(Builtin.lenOf C).events P b.a #[]=#[]:=du
 intro B q;unfold Builtin.append_ at q;simp[j6,mf,n3,aD,cJ,H,s,aG,A.a_,dZ,j7,dm,D,E,w,dH,hK,aM,g2,cW,t,
  sy,Sem.events_ite,events_underlying,events_sizeOf,Sem.events_pure]at q
 rcases ng g 0 d.toArray b.a _ y N p.cell B q with Z|⟨aa,X,V,rfl⟩
 .grind [ts]
 grind[og]
end
structure j0(P:aE)(r:ap)(C bI:ae)(W:ao)(a4:cq):Prop where
 op:∃o t2 e K,r.op=.call {callee:=.builtin .append,args:=#[C,bI],argTypes:=#[o,t2]}/\eM P o e/\e.desc=.slice W/\eM P t2 K/\K.desc=.slice W
 elem:eM P W a4
 bytes:a4.bytes≠0
 size:a4.size≠0
def a5.dC(a:a5)(h:ao)(A b:m Y)(d:m Loc):a5:=
 {s:=d,u:=λe g=>if e=a.a.heap.size then A[g]? else a.u e g,a:=a.a.drew.alloc (.cells (A++b).toArray h),own:=a.own}
def J2(j:bc k b)(W)(A a:m Y):∀d e h,(if d=b.a.heap.size then A[e]? else b.u d e)=f h->(b.a.drew.alloc (.cells (A++a).toArray W)).cell? ⟨d,e,n⟩=f h:=by
 intro d e h g;by_cases i:d=b.a.heap.size
 .subst i;simp[dH]at g;unfold aL;have:(b.a.drew.alloc (.cells (A++a).toArray W)).heap[b.a.heap.size]?=f (.cells (A++a).toArray W):=lR b.a.drew _;grind
 simp[i,dm]at g;have o:=j.block g;rw[<-j.mem d e h g];unfold aL;have:(b.a.drew.alloc (.cells (A++a).toArray W)).heap[d]?=b.a.heap[d]?:=iU b.a.drew _ o;grind
def J3(h:bc k b)(A:m Y):∀a d e,b.u a d=f e->(if a=b.a.heap.size then A[d]? else b.u a d)=f e:=by intro a d e g;have:=h.block g;grind
theorem jm{z}(a:dw b (z.events P b.a #[])):dw b ((do pure (.value (<-z)):Sem Next).events P b.a #[]):=du
theorem lc{d e:ae}{b:ao}(s:r.op=.call {callee:=.builtin .append,args:=#[d,e],argTypes:=#[o,b]})(a:ae->Y):
  ab a r=(do pure (.value (<-Builtin.append_ #[o,b] r.type #[a d,a e]))):=RH
def Rd.en{o}{h}(q:Rd bA aa (.R o h j U)):Rd bA aa (.R u h j U):=by
 cases q with
 |R m a p k d r e b g i=>exact .R m a p k d E e b g i
def Rd.cB{o}{h}{dJ:Nat->m O}(z:∀b,b<j->U b=dJ b)(x:Rd bA aa (.R o h j U)):Rd bA aa (.R o h j dJ):=by
 cases x with
 |R v d w t i r y g p q=>exact .R v d w t i r (λb a=>by grind) g (λb a s e k=>p b a s e N) (λb a s e k=>q b a s e N)
def Rd.fS{h gl}(a:h=gl∨j=0)(d:Rd bA aa (.R l h j U)):Rd bA aa (.R l gl j U):=by
 rcases a with rfl|rfl
 .exact d
 obtain⟨e,b,A,i,k,g,m,_⟩:=d.bY;grind[Rd.dK]
def tr{h}{L}(aI:k[d]?=f (.w W h j U))(o:b.s[d]?=f L)(e:ez k b (.w W h j U) L):cB k b L.v (.w d h j U):=by refine⟨e.1,(cO.1 aI).1,λp i m a g=>?_⟩;grind
def a0.fZ{X Y:ae}{e:cq}(s:j0 P r X Y W e){aa:Nat}{V:Bool}{dJ:Nat->m O}(ao:η X=ax (.R l aa j U))(R:aa=e.size∨j=0)(an:∀d J,bv k d J (η Y)->Rd d.u J (.R V e.size z dJ))(g:(j+z)*e.bytes<=140737488355328)(ar:j=0∨0<z):
  a0 P r η k (.n (.ar (.w (c k) e.size (j+z) (cg j U dJ)))) (k++[.w W e.size (j+z) (cg j U dJ)]):=by
 intro d aw bO D;obtain⟨aD,av,au,aB,t,h,G,I,F⟩:=s.op;have B:=D X;rw[ao]at B;have p:=Rd.fS R (b8 B);have o:=an d _ (D Y);obtain⟨w,b,A,aq,ab,aM,ai,az,C⟩:=p.bY;have H:b=j:=ai a;subst H;rw[lc t];rw[aq]at p⊢;by_cases aj:z=0
 .subst aj;have T:=zd (P:=P) (ty:=r.type) h G I F s.elem bO (w:=w) ab o;simp only[j8];have p:=Rd.cB (dJ:=cg b U dJ) (λau h=>by grind) p;have aI:ez (k++[.w W e.size b (cg b U dJ)]) {d with s:=d.s++[⟨.slice w b b,[]⟩]} (.w W e.size b (cg b U dJ)) ⟨.slice w b b,[]⟩:=⟨p.en,.inl ⟨⟨rfl,by omega⟩,p⟩⟩
  obtain⟨N,M⟩:=bO.bX (.refl _ _) rfl bO aI E;refine⟨.value (.slice w b b),_,?_,?_,N,M,jm (x7 h G I F s.elem bO ab o)⟩
  .simp[T]
  exact tr E t0 aI
 have Z:b<b+z:=x;obtain⟨q,Q,v,y,ag,L,af,T⟩:=vV (P:=P) (ty:=r.type) h G I F s.elem bO p o Z g s.bytes;have K:bc k (d.dC W q Q d.s)/\cN k d k (d.dC W q Q d.s):=
  bO.cY E (λi g=>iU d.a.drew _ g) (λi g r=>by grind)
   (λi g r J C=>J2 bO W q Q i r J C) a a a
 have ah:Rd (d.dC W q Q d.s).u (.slice (f ⟨d.a.heap.size,0,n⟩) (b+z) v) (.R u e.size (b+z) (cg b U dJ)):=
  Rd.eJ (y.mono K.2.mem) (i:=d.a.heap.size) (off:=0) bn ag L E (λaC aE al=>by simpa[a5.dC]using al)
 have aI:ez (k++[.w W e.size (b+z) (cg b U dJ)]) {(d.dC W q Q d.s)with s:=(d.dC W q Q d.s).s++[⟨.slice (f ⟨d.a.heap.size,0,n⟩) (b+z) v,[d.a.heap.size]⟩]} (.w W e.size (b+z) (cg b U dJ)) ⟨.slice (f ⟨d.a.heap.size,0,n⟩) (b+z) v,[d.a.heap.size]⟩:=by
  refine⟨ah,.inr ⟨d.a.heap.size,v,q++Q,a,lR d.a.drew _,af,λr t=>?_⟩⟩;have S:c q<=r:=by rw[y.len];exact t
  simp[a5.dC,wZ S]
 obtain⟨N,M⟩:=K.1.bX K.2 rfl bO aI (λi g=>by simp at g;subst g;refine⟨bB _,?_⟩;simp[a5.dC]);refine⟨.value (.slice (f ⟨d.a.heap.size,0,n⟩) (b+z) v),_,?_,?_,N,M,jm (u4 h G I F s.elem bO p o Z g s.bytes)⟩
 .simp[T];rfl
 exact tr E (by simp[a5.dC,<-bO.len]) aI
def a0.iv{aS aT:ae}{a4}(B:j0 P r aS aT W a4){aR}{g:Nat->m O}(aP:η aS=.n (.ar (.w d a4.size j U)))(s:k[d]?=f (.w W a4.size j U))(aQ:∀o S,bv k o S (η aT)->Rd o.u S (.R aR a4.size z g))(p:(j+z)*a4.bytes<=140737488355328):
  a0 P r η k (.n (.ar (.w d a4.size (j+z) (cg j U g)))) (k.set d (.w W a4.size (j+z) (cg j U g))):=by
 intro o bg b ao;obtain⟨bk,bf,aq,bh,v,q,Z,G,y⟩:=B.op;have aK:d<c k:=(cO.1 s).1;have ab:=ao aS;rw[aP]at ab;obtain⟨av,_,af⟩:=ab;obtain⟨L,J,bd⟩:=(af _ _ _ _ s).2 rfl;have t:=aQ o _ (ao aT);have aJ:d<c o.s:=(cO.1 J).1;have H:=b.box d _ L s J;obtain⟨w,e,A,R,aM,ai,bc,ag,bb⟩:=av.bY;rw[lc v,R];rw[R]at av;have aw:L.v=.slice w j e:=N;by_cases aG:z=0
 .subst aG;have au:=zd (P:=P) (ty:=r.type) q Z G y B.elem b (w:=w) aM t;simp only[j8];have ah:∀aq,aq<j->U aq=cg j U g aq:=λaq q=>by simp[cg,q]
  have M:ez (k.set d (.w W a4.size j (cg j U g))) ⟨o.s.set d L,o.u,o.a,o.own⟩ (.w W a4.size j (cg j U g)) L:=by
   refine⟨H.1.cB ah,?_⟩;rcases H.2 with⟨I,aH⟩|I
   .exact .inl ⟨I,aH.cB ah⟩
   grind
  have D:=b.b8 (cf:=o.u) (bj:=o.a) (ea:=.w W a4.size j (cg j U g)) (ct:=L) s J ⟨λ_=>rfl,bB _⟩ (bB _) (λ_ _ _=>rfl) (λ_ _ _ _=>rfl) (λ_ _ _ B=>B) b.mem
   (λi p=>⟨.inl p,b.lt L (b' J) i p⟩) a a a M
  refine⟨.value (.slice w j e),_,?_,?_,D.1,D.2,jm (x7 q Z G y B.elem b aM t)⟩
  .simp[au]
  rw[<-aw];exact tr (W:=W) N N M
 .have F:¬(j+z=j):=x;by_cases az:j+z<=e
  .rcases H.2 with⟨a1,aU⟩|⟨i,aF,h,rfl,hw,aD,bq⟩
   .rw[aw]at aU;obtain⟨_,_,_,ax,_,_,a8,_⟩:=aU.bY;grind
   .simp only at aw;cases aw;obtain⟨C,K,au⟩:=Ef (P:=P) (ty:=r.type) q Z G y B.elem b hw aD t az;have a6:c C=z*a4.size:=K.len;have aI:i<o.a.heap.size:=(jb.1 hw).1;let cf:Mem:=λQ r=>if Q=i/\j*a4.size<=r/\r<(j+z)*a4.size then C[r-j*a4.size]? else o.u Q r;have a2:c h=e*a4.size:=aD;have a7:(j+z)*a4.size=j*a4.size+z*a4.size:=jF _ _ _;have a5:(j+z)*a4.size<=e*a4.size:=g7 _ az;have aW:∀Q r S,o.u Q r=f S->cf Q r=f S:=N;have aO:∀aB aC,C[aB]?=f aC->cf i (j*a4.size+aB)=f aC:=N;have aE:Rd cf (.slice (f ⟨i,0,n⟩) (j+z) e) (.R u a4.size (j+z) (cg j U g)):=by refine Rd.eJ (A:=A++C) ((ag.append K).mono aW) (i:=i) (off:=0) bn az ai E (λaB aC aN=>?_);have a9:c A=j*a4.size:=ag.len;grind
    have D:=b.b8 (cf:=cf) (bj:=o.a.setRow i (h.take (j*a4.size)++C++h.drop (j*a4.size+c C)).toArray) (ea:=.w W a4.size (j+z) (cg j U g)) (ct:=⟨.slice (f ⟨i,0,n⟩) (j+z) e,[i]⟩) s J
     ⟨λax=>absurd ax F,by omega⟩ E (λQ _ aa=>setRow_other _ _ _ _ N) (λQ _ aa r=>by grind) aW ?_ (λQ aa=>by simp at aa;exact bu) a a a ?_
    .refine⟨.value (.slice (f ⟨i,0,n⟩) (j+z) e),_,?_,?_,D.1,D.2,jm (Cq q Z G y B.elem b hw aD t az (b' J) E bq)⟩
     .simp[au]
     exact tr (L:=⟨.slice (f ⟨i,0,n⟩) (j+z) e,[i]⟩) (W:=W) N N (D.1.box d _ _ N N)
    .intro Q r S Y;by_cases aa:Q=i
     .subst aa;have a':∀a_,(o.a.setRow Q (h.take (j*a4.size)++C++h.drop (j*a4.size+c C)).toArray).cell? ⟨Q,a_,n⟩=(h.take (j*a4.size)++C++h.drop (j*a4.size+c C))[a_]?:=by grind[cell_setRow_same]
      rw[a'];simp only[cf]at Y;have a3:c (h.take (j*a4.size))=j*a4.size:=by rw[List.length_take];omega
      split at Y
      .grind
      rename_i ba;have I:=b.mem Q r S Y;have v:r<j*a4.size:=N;rw[mh,j5 x,iq,bo v];simp only[aL,hw]at I;grind
     simp only[cf]at Y;rw[bl x]at Y;rw[<-b.mem Q r S Y];exact Qk
    refine⟨aE,.inr ⟨i,e,_,a,setRow_heap _ _ _ _ _ _ hw,N,λr v=>?_⟩⟩;grind
  .have aj:e<j+z:=x;obtain⟨T,X,ar,aV,al,an,V,au⟩:=vV (P:=P) (ty:=r.type) q Z G y B.elem b av t aj p B.bytes;have aZ:∀i∈L.ab,i<o.a.heap.size:=b.lt L (b' J);have aE:Rd (λi r=>if i=o.a.heap.size then T[r]? else o.u i r) (.slice (f ⟨o.a.heap.size,0,n⟩) (j+z) ar) (.R u a4.size (j+z) (cg j U g)):=
    Rd.eJ (aV.mono (J3 b T)) (i:=o.a.heap.size) (off:=0) bn al an E (λaB aC aN=>by grind)
   have D:=b.b8 (cf:=λi r=>if i=o.a.heap.size then T[r]? else o.u i r) (bj:=o.a.drew.alloc (.cells (T++X).toArray W)) (ea:=.w W a4.size (j+z) (cg j U g)) (ct:=⟨.slice (f ⟨o.a.heap.size,0,n⟩) (j+z) ar,[o.a.heap.size]⟩) s J
    ⟨λax=>absurd ax F,by omega⟩ E (λi p _=>iU o.a.drew _ p) (λi p _ r=>by grind) (J3 b T) (J2 b W T X) (λi p=>by
     simp at p;exact bu) a a a ⟨aE,.inr ⟨o.a.heap.size,ar,T++X,a,lR o.a.drew _,V,λr v=>by
      have s:c T<=r:=by rw[aV.len];exact v
      grind⟩⟩
   refine⟨.value (.slice (f ⟨o.a.heap.size,0,n⟩) (j+z) ar),_,?_,?_,D.1,D.2,jm (u4 q Z G y B.elem b av t aj p B.bytes)⟩
   .simp[au]
   exact tr (L:=⟨.slice (f ⟨o.a.heap.size,0,n⟩) (j+z) ar,[o.a.heap.size]⟩) (W:=W) N N (D.1.box d _ _ N N)
def dy{a:Type}:m Nat->m a->Option (m a)
  |[],_=>f []
  |e::b,d=>match c' e d with
    |some h=>match dy b d with
      |some g=>f (h::g)
      |none=>n
    |none=>n
def lg{d:Type}:∀a (e:m d),c' a e=e[a]?
  |_,[]=>by simp[c']
  |0,g::_=>by simp[c']
  |a+1,_::b=>by simpa[c']using lg a b
def l1{i:Type}:∀{a:m Nat} {b e:m i},dy a b=f e->c e=c a/\∀(k g:Nat),a[k]?=f g->∃h,e[k]?=f h/\b[g]?=f h
  |[],b,e,d=>by cases d;simp
  |g::a,b,e,d=>by
    simp[dy]at d;cases o:c' g b with
    |none=>grind
    |some h=>
      cases j:dy a b with
      |none=>grind
      |some r=>
        simp[o,j]at d;subst d;obtain⟨p,q⟩:=l1 j;grind[er]
def vZ{i o:Type}:∀{a:m Nat} {d h:m i} {kJ:m o},dy a d=f h->c kJ=c d->∃b,dy a kJ=f b
  |[],d,h,kJ,_,_=>⟨[],rfl⟩
  |g::a,d,h,kJ,r,j=>by
    simp[dy]at r;cases q:c' g d with
    |none=>grind
    |some t=>
      cases p:dy a d with
      |none=>grind
      |some s=>
        obtain⟨b,k⟩:=vZ (kJ:=kJ) p j;have e:g<c kJ:=by rw[j];exact(cO.1 (er q)).1
        exact⟨kJ[g]::b,by simp[dy,lg,e,k]⟩
def kq(a:m Nat):Q->Q
  |.ptr d i=>match c' d a with|some b=>.ptr b i|none=>.any
  |.w d b g e=>match c' d a with|some h=>.w h b g e|none=>.c (.R u b g e)
  |.aK d=>match c' d a with|some b=>.aK b|none=>.any
  |.K d j=>match c' d a with|some b=>.K b j|none=>.any
  |.c k=>.c k
  |.any=>.any
def qM(a:m Nat):m Q->m Q
  |[]=>[]
  |b::d=>kq a b::qM a d
def py(a:m Nat):E1->E1
  |.ar d=>.ar (kq a d)
  |.agg b=>.agg (qM a b)
def tt(a:m Nat):m E1->m E1
  |[]=>[]
  |b::d=>py a b::tt a d
def fg(a:m Nat):y->y
  |.n d=>.n (py a d)
  |.Q b=>.Q (tt a b)
  |.any=>.any
def gq(a:m Nat):m y->m y
  |[]=>[]
  |b::d=>fg a b::gq a d
def DY:Q->Bool
  |.c _|.any=>l
  |_=>u
def y7:m Q->Bool
  |[]=>l
  |a::b=>match DY a with|true=>y7 b|false=>u
def vP:an->Bool
  |.cells _ a=>y7 a
  |.loop ..=>u
  |_=>l
def ey:m an->Bool
  |[]=>l
  |a::b=>match vP a with|true=>ey b|false=>u
def vQ:∀{e:m an},ey e=l->∀a∈e,vP a=l
  |[],_,a,aI=>by grind
  |g::h,b,a,aI=>by
    simp[ey]at b;cases d:vP g with
    |false=>grind
    |true=>
      simp[d]at b;rcases fa.1 aI with rfl|aI
      · exact d
      · exact vQ b a aI
def bM.plain{k aq}{b az}(j:az.u=b.u):∀{A:m Y} {a:m Q},y7 a=l->bM k b A a->bM aq az A a
  |[],[],_,_=>trivial
  |[],_::_,_,d=>d.elim
  |_::_,[],_,d=>d.elim
  |o::A,g::i,e,d=>by
    simp[y7]at e;cases h:DY g with
    |false=>grind
    |true=>
      simp[h]at e;refine⟨?_,bM.plain j e d.2⟩;cases g with
      |c p=>have:=d.1;simp[cB]at this⊢;grind
      |any=>exact d.1
      |_=>simp[DY]at h
def ez.plain{k aq}{b az}(d:az.u=b.u)(g:az.a=b.a){e}{L}(m:vP e=l)(a:ez k b e L):ez aq az e L:=by
  cases e with
  |cells j p=>
    obtain⟨o,A,i,r,q,x⟩:=a;exact⟨o,A,i,by grind,q.plain d m,λy=>by simp_all⟩
  |w j s t h=>simp[ez,d,g]at a⊢;exact a
  |E H=>simp[ez,d,g]at a⊢;exact a
  |J=>trivial
  |loop w v z=>simp[vP]at m
  |bd=>simp[ez,d,g]at a⊢;exact a
  |p j s t h=>simp[ez,d,g]at a⊢;exact a
def eg:Nat->m Nat->Bool
  |_,[]=>u
  |a,d::b=>match ad a d with|true=>l|false=>eg a b
def ff:m Nat->Bool
  |[]=>l
  |b::a=>match eg b a with|true=>u|false=>ff a
theorem vA:∀{a:Nat} {d:m Nat},a∈d->eg a d=l
  |a,[],b=>by grind
  |a,e::h,b=>by
    simp[eg];cases g:ad a e with
    |true=>rfl
    |false=>
      rcases fa.1 b with rfl|b
      · grind[Nat.beq_refl]
      · exact vA b
def K2:∀{h:m Nat},ff h=l->∀(b d e:Nat),h[b]?=f e->h[d]?=f e->b=d
  |[],_,b,d,e,a,_=>by grind
  |o::k,g,b,d,e,a,i=>by
    simp[ff]at g;cases p:eg o k with
    |true=>grind
    |false=>
      simp[p]at g;have r:∀j,k[j]?=f o->False:=λj q=>by have:=vA (b' q);grind
      cases b with
      |zero=>
        grind
      |succ b=>
        cases d with
        |zero=>
          grind
        |succ d=>
          simp at a i;rw[K2 g b d e a i]
def lT(a:Nat):Q->Bool
  |.ptr d _|.w d _ _ _|.aK d|.K d _=>ay (d+1) a
  |_=>l
def li(a:Nat):m Q->Bool
  |[]=>l
  |b::d=>match lT a b with|true=>li a d|false=>u
def po(b:Nat):E1->Bool
  |.ar d=>lT b d
  |.agg a=>li b a
def oq(a:Nat):m E1->Bool
  |[]=>l
  |b::d=>match po a b with|true=>oq a d|false=>u
def hR(b:Nat):y->Bool
  |.n d=>po b d
  |.Q a=>oq b a
  |.any=>l
def hd(a:Nat):m y->Bool
  |[]=>l
  |b::d=>match hR a b with|true=>hd a d|false=>u
section sub
variable {lw:m Loc}
def cB.sub(M:dy aT k=f aq)(Q:dy aT b.s=f lw){m}(K:cB k b aa (kq aT m))(o:lT (c aT) m=l):cB aq {b with s:=lw} aa m:=by
  obtain⟨T,q⟩:=l1 M;obtain⟨O,p⟩:=l1 Q;cases m with
  |c s=>exact K
  |any=>exact K
  |ptr g R=>
    have a:g<c aT:=fl o;simp[kq,lg,bF a]at K;obtain⟨d,L,D,e,h,y⟩:=K;obtain⟨s,r,z⟩:=q g _ (bF a);obtain⟨A,j,i⟩:=p g _ (bF a);rw[i]at e;cases e;exact⟨λt x=>d t N,L,D,j,h,y⟩
  |w g E I v=>
    have a:g<c aT:=fl o;simp[kq,lg,bF a]at K;obtain⟨d,e,h⟩:=K;obtain⟨s,r,z⟩:=q g _ (bF a);obtain⟨A,j,i⟩:=p g _ (bF a);refine⟨d,by grind,λC F J B x=>?_⟩;grind
  |aK g=>
    have a:g<c aT:=fl o;simp[kq,lg,bF a]at K;obtain⟨d,L,e,h,y⟩:=K;obtain⟨s,r,z⟩:=q g _ (bF a);obtain⟨A,j,i⟩:=p g _ (bF a);rw[i]at e;cases e;exact⟨λt x=>d t N,L,j,h,y⟩
  |K g S=>
    have a:g<c aT:=fl o;simp[kq,lg,bF a]at K;obtain⟨w,d,e,h⟩:=K;obtain⟨s,r,z⟩:=q g _ (bF a);obtain⟨A,j,i⟩:=p g _ (bF a);refine⟨w,d,(cO.1 r).1,λC E I v x=>?_⟩;grind
def cB.cT{fh}{b5}(J:b5.u=b.u)(t:∀(r:Nat) s,k[r]?=f s->∃g,aT[r]?=f g/\fh[g]?=f s)(C:∀(r:Nat) L,b.s[r]?=f L->∃g,aT[r]?=f g/\b5.s[g]?=f L)(O:c b.s=c k){v}(m:cB k b aa v):cB fh b5 aa (kq aT v):=by
  cases v with
  |c R=>simp[kq,cB,J];exact m
  |any=>exact m
  |ptr d M=>
    obtain⟨e,L,E,a,q,B⟩:=m;obtain⟨g,k1,w⟩:=C d L a;have h:d<c k:=N;obtain⟨i,o,I⟩:=t d _ (bF h);rw[k1]at o;cases o;simp[kq,lg,k1];refine⟨λs A=>?_,L,E,w,q,B⟩;grind
  |w d g K F=>
    obtain⟨e,a,q⟩:=m;obtain⟨k1,y,j⟩:=t d _ (bF a);simp[kq,lg,y];refine⟨by grind,(cO.1 j).1,λD i z p A=>?_⟩;grind
  |aK d=>
    obtain⟨e,L,a,q,B⟩:=m;obtain⟨g,k1,w⟩:=C d L a;have h:d<c k:=N;obtain⟨i,o,I⟩:=t d _ (bF h);rw[k1]at o;cases o;simp[kq,lg,k1];refine⟨λs A=>?_,L,w,q,B⟩;grind
  |K d Q=>
    obtain⟨x,e,a,q⟩:=m;obtain⟨k1,y,j⟩:=t d _ (bF a);simp[kq,lg,y];refine⟨x,e,(cO.1 j).1,λD i z p A=>?_⟩;grind
def bM.sub(e:dy aT k=f aq)(g:dy aT b.s=f lw):∀{A:m Y} {a:m Q},bM k b A (qM aT a)->li (c aT) a=l->bM aq {b with s:=lw} A a
  |[],[],_,_=>trivial
  |[],_::_,d,_=>d.elim
  |_::_,[],d,_=>d.elim
  |o::A,i::j,d,K=>by
    simp[li]at K;cases h:lT (c aT) i with
    |false=>grind
    |true=>simp[h]at K;exact⟨d.1.sub e g h,bM.sub e g d.2 K⟩
def eA.sub(g:dy aT k=f aq)(h:dy aT b.s=f lw){aa}{a}(i:eA k b aa (py aT a))(K:po (c aT) a=l):eA aq {b with s:=lw} aa a:=by
  cases a with
  |ar m=>exact cB.sub g h i K
  |agg j=>obtain⟨A,d,e⟩:=i;exact⟨A,d,e.sub g h K⟩
def eX.sub(e:dy aT k=f aq)(g:dy aT b.s=f lw):∀{A:m Y} {a:m E1},eX k b A (tt aT a)->oq (c aT) a=l->eX aq {b with s:=lw} A a
  |[],[],_,_=>trivial
  |[],_::_,d,_=>d.elim
  |_::_,[],d,_=>d.elim
  |o::A,i::j,d,K=>by
    simp[oq]at K;cases h:po (c aT) i with
    |false=>grind
    |true=>simp[h]at K;exact⟨d.1.sub e g h,eX.sub e g d.2 K⟩
def bv.sub(e:dy aT k=f aq)(g:dy aT b.s=f lw){aa}{K}(i:bv k b aa (fg aT K))(h:hR (c aT) K=l):bv aq {b with s:=lw} aa K:=by
  cases K with
  |n m=>exact eA.sub e g i h
  |Q j=>obtain⟨A,a,d⟩:=i;exact⟨A,a,d.sub e g h⟩
  |any=>trivial
def b4.sub(e:dy aT k=f aq)(g:dy aT b.s=f lw):∀{A:m Y} {a:m y},b4 k b A (gq aT a)->hd (c aT) a=l->b4 aq {b with s:=lw} A a
  |[],[],_,_=>trivial
  |[],_::_,d,_=>d.elim
  |_::_,[],d,_=>d.elim
  |o::A,i::j,d,K=>by
    simp[hd]at K;cases h:hR (c aT) i with
    |false=>grind
    |true=>simp[h]at K;exact⟨d.1.sub e g h,b4.sub e g d.2 K⟩
variable {fh:m an}{b5:a5}
def bM.cT(p:b5.u=b.u)(o:∀(e:Nat) h,k[e]?=f h->∃g,aT[e]?=f g/\fh[g]?=f h)(j:∀(e:Nat) L,b.s[e]?=f L->∃g,aT[e]?=f g/\b5.s[g]?=f L)(i:c b.s=c k):
    ∀{A:m Y} {d:m Q},bM k b A d->bM fh b5 A (qM aT d)
  |[],[],_=>trivial
  |[],_::_,a=>a.elim
  |_::_,[],a=>a.elim
  |_::_,_::_,a=>⟨a.1.cT p o j i,bM.cT p o j i a.2⟩
def eA.cT(p:b5.u=b.u)(o:∀(a:Nat) (i:an),k[a]?=f i->∃d,aT[a]?=f d/\fh[d]?=f i)(m:∀(a:Nat) (L:Loc),b.s[a]?=f L->∃d,aT[a]?=f d/\b5.s[d]?=f L)(j:c b.s=c k){aa}{h}(q:eA k b aa h):eA fh b5 aa (py aT h):=by
  cases h with
  |ar s=>exact cB.cT p o m j q
  |agg r=>obtain⟨A,e,g⟩:=q;exact⟨A,e,g.cT p o m j⟩
def eX.cT(p:b5.u=b.u)(o:∀(d:Nat) h,k[d]?=f h->∃e,aT[d]?=f e/\fh[e]?=f h)(j:∀(d:Nat) (L:Loc),b.s[d]?=f L->∃e,aT[d]?=f e/\b5.s[e]?=f L)(i:c b.s=c k):
    ∀{A:m Y} {g:m E1},eX k b A g->eX fh b5 A (tt aT g)
  |[],[],_=>trivial
  |[],_::_,a=>a.elim
  |_::_,[],a=>a.elim
  |_::_,_::_,a=>⟨a.1.cT p o j i,eX.cT p o j i a.2⟩
def bv.cT(p:b5.u=b.u)(o:∀(a:Nat) (i:an),k[a]?=f i->∃d,aT[a]?=f d/\fh[d]?=f i)(m:∀(a:Nat) (L:Loc),b.s[a]?=f L->∃d,aT[a]?=f d/\b5.s[d]?=f L)(j:c b.s=c k){aa}{e}(q:bv k b aa e):bv fh b5 aa (fg aT e):=by
  cases e with
  |n s=>exact eA.cT p o m j q
  |Q r=>obtain⟨A,g,h⟩:=q;exact⟨A,g,h.cT p o m j⟩
  |any=>trivial
end sub
def db.cp{a:Type}:Nat->a->m a->m a
  |_,_,[]=>[]
  |0,d,_::b=>d::b
  |e+1,d,g::b=>g::db.cp e d b
def db{a:Type}:m Nat->m a->m a->m a
  |[],new,old=>old++new
  |d::b,e::new,old=>db b new (db.cp d e old)
  |_::_,[],old=>old
theorem mN{b:Type}:∀d (a:b) (e:m b),db.cp d a e=e.set d a
  |_,_,[]=>by simp[db.cp]
  |0,a,_::g=>by simp[db.cp]
  |d+1,a,h::g=>by simp[db.cp,mN d a g]
def D3{g:Type}:∀{aT:m Nat} {new old:m g},ff aT=l->(∀a∈aT,a<c old)->c aT<=c new ->
    c (db aT new old)=c old+(c new-c aT)/\(∀(b a:Nat),aT[b]?=f a->(db aT new old)[a]?=new[b]?) /\
    (∀b,(db aT new old)[c old+b]?=new[c aT+b]?)/\(∀d,d<c old->d∉aT->(db aT new old)[d]?=old[d]?)
  |[],new,old,_,_,_=>by
    refine⟨by simp[db],by simp,λb=>?_,λd j _=>?_⟩
    · simp[db,gL,cW]
      grind
    · simp[db,j5 j]
  |a::aT,[],old,_,_,o=>by grind
  |a::aT,r::new,old,e,i,t=>by
    have s:=e;simp[ff]at e;cases k:eg a aT with
    |true=>grind
    |false=>
      simp[k]at e;have p:a<c old:=i a E;have v:a∉aT:=λo=>by grind[vA]
      obtain⟨y,w,z,x⟩:=D3 (aT:=aT) (new:=new) (old:=old.set a r) e (λq h=>by grind) N;simp[db,mN];grind
def X(k:af P)(i:a2)(args:m y)(h:m an)(e:y)(b:m an):Prop:=
  (∃fn,P.funcs[i]?=f fn/\(fn.name== "runtime.NumGoroutine")=u/\fn.body.isNone=u) /\
  ∀g (A:m Y),b4 h g A args->bc h g->∀(j:ai->a5->Prop) d,
    (∀o p a,l_ P i o p a->bv b a p e->bc b a->de h g b a->cd k j (G o d) a)->cd k j (G (Frame.enter P i A.toArray .normal) d) g
def bk(o:af P)(j:a2)(args:m y)(i:m an)(e:ι->y)(b:ι->m an):Prop:=
  (∃fn,P.funcs[j]?=f fn/\(fn.name== "runtime.NumGoroutine")=u/\fn.body.isNone=u) /\
  ∀h (A:m Y),b4 i h A args->bc i h->∀(k:ai->a5->Prop) d,
    (∀g p q a,l_ P j p q a->bv (b g) a q (e g)->bc (b g) a->de i h (b g) a->cd o k (G p d) a)->cd o k (G (Frame.enter P j A.toArray .normal) d) h
def X.tocH{g:af P}{h}{args}{res}(i:X g h args k res aq):bk (ι:=Unit) g h args k (λ_=>res) (λ_=>aq):=
  ⟨i.1,λm A e d j a b=>i.2 m A e d j a (b ())⟩
def bk.toX{g:af P}{h}{args}{res}(i:bk (ι:=Unit) g h args k (λ_=>res) (λ_=>aq)):X g h args k res aq:=
  ⟨i.1,λm A e d j a b=>i.2 m A e d j a (λ_=>b)⟩
def oE(b:a5)(d:m Loc):Nat->Prop:=λa=>b.own a∨((∃L∈b.s,a∈L.ab)/\∀L∈d,a∉L.ab)
def gW(a:Nat):Nat->m Nat
  |0=>[]
  |b+1=>a::gW (a+1) b
def Ns:∀d b a,(gW b d)[a]?=if a<d then f (b+a)else n
  |0,b,a=>by simp[gW]
  |d+1,b,0=>by simp[gW]
  |d+1,b,a+1=>by simp[gW,n3,Ns d (b+1) a,Nat.add_lt_add_iff_right];grind
def frame{aP}{j}{z}(v:bc k b)(P:dy aT k=f dh)(aZ:dy aT b.s=f z)(Z:ff aT=l)(aC:ey aP=l)(E:bc aP j)(i:de dh {b with s:=z,own:=oE b z} aP j)(X:c aT<=c aP){res}(aD:bv aP j aa res):
    ∃b5:a5,b5.a=j.a/\bv (db aT aP k) b5 aa (fg (aT++gW (c k) (c aP-c aT)) res)/\bc (db aT aP k) b5/\de k b (db aT aP k) b5/\b5.u=j.u/\b5.own=b.own/\∀L∈b5.s,L∈j.s∨(L∈b.s/\∀h∈L.ab,∀p∈z,h∉p.ab):=by
  have aR:∀A∈aT,A<c k:=by intro A y;obtain⟨d,t,rfl⟩:=g6 y;obtain⟨aF,_,a1⟩:=(l1 P).2 d _ (bF t);grind
  have O:∀A∈aT,A<c b.s:=by rw[v.len];omega
  have H:c aT<=c j.s:=by rw[E.len];omega
  obtain⟨an,ao,S,aq⟩:=D3 (new:=aP) (old:=k) Z aR X;obtain⟨T,ar,U,au⟩:=D3 (new:=j.s) (old:=b.s) Z O H;obtain⟨a0,av⟩:=l1 P;obtain⟨d1,d2⟩:=l1 aZ;let aj:=aT++gW (c k) (c aP-c aT);have aS:∀d,d<c aP->∃A,aj[d]?=f A/\(db aT aP k)[A]?=aP[d]?/\(db aT j.s b.s)[A]?=j.s[d]?:=by
    intro d t;rcases dW d (c aT) with K|ai
    · refine⟨aT[d],?_,ao d _ (bF K),ar d _ (bF K)⟩
      grind
    · refine⟨c k+(d-c aT),?_,?_,?_⟩
      · simp[aj]
        rw[hn ai,Ns,bo x]
      · rw[S];grind
      · rw[<-v.len,U];grind
  have I:∀g L,(db aT j.s b.s)[g]?=f L->(∃d,d<c aP/\j.s[d]?=f L/\(∀w,(db aT aP k)[g]?=f w->aP[d]?=f w)/\(∀A,aT[d]?=f A->A=g)/\(d≥c aT->g=c k+(d-c aT))) ∨
      (g<c k/\g∉aT/\b.s[g]?=f L/\(db aT aP k)[g]?=k[g]?):=by
    intro g L m;have aU:g<c (db aT j.s b.s):=(cO.1 m).1;rcases dW g (c k) with K|ai
    · by_cases C:g∈aT
      · obtain⟨d,t,rfl⟩:=g6 C
        have y:=bF t;grind
      · exact .inr ⟨K,C,by rw[<-au g (by rw[v.len];omega) C];exact m,aq g K C⟩
    · rw[T,E.len,v.len]at aU
      refine .inl ⟨c aT+(g-c k),by omega,?_,λw aI=>?_,λA y=>?_,λ_=>by omega⟩
      · rw[<-U,v.len,AU ai];exact m
      · rw[<-S,AU ai];exact aI
      grind
  have Q:∀L∈z,L∈b.s:=by intro L m;obtain⟨d,t,rfl⟩:=g6 m;have af:d<c aT:=N;obtain⟨aF,aM,R⟩:=d2 d _ (bF af);grind
  have s:∀g L,g∉aT->b.s[g]?=f L->∀h∈L.ab,h<b.a.heap.size/\∀p∈z,h∉p.ab:=by intro g L F m h o;refine⟨v.lt L (b' m) h o,λp q r=>?_⟩;obtain⟨d,t,rfl⟩:=g6 q;have af:d<c aT:=N;obtain⟨aF,aM,R⟩:=d2 d _ (bF af);rw[bF t]at aM;cases aM;have:=v.a1 g aT[d] L _ m R h o r;grind
  have ab:∀h,h<b.a.heap.size->(∀L∈b.s,h∉L.ab)->∀L∈z,h∉L.ab:=λh _ ah L m=>ah L (Q L m);have V:fv k b (db aT aP k) ⟨db aT j.s b.s,j.u,j.a,b.own⟩:=by
    refine⟨i.mem,λg w L aI m=>?_⟩;have K:g<c k:=(cO.1 aI).1;by_cases C:g∈aT
    · obtain⟨d,t,rfl⟩:=g6 C
      have y:=bF t;obtain⟨aF,aM,R⟩:=av d _ y;obtain⟨a9,aG,ae⟩:=d2 d _ y;rw[aI]at R;cases R;rw[m]at ae;cases ae;obtain⟨aQ,p,a4,a6,a7⟩:=i.box d w L aM aG;grind
    · exact⟨w,L,by grind,by grind,.refl _ _⟩
  refine⟨⟨db aT j.s b.s,j.u,j.a,b.own⟩,a,?_,⟨E.mem,?_,?_,?_,?_,?_⟩,⟨i.size,?_,i.mem,?_,?_,V.box,i.os,i.tape,i.output,a⟩,a,a,?_⟩
  · refine bv.cT (b:=j) (b5:=⟨db aT j.s b.s,j.u,j.a,b.own⟩) (fh:=db aT aP k) (aT:=aj) a (λd w aI=>?_) (λd L m=>?_) E.len aD
    · grind
    · obtain⟨A,k1,_,a2⟩:=aS d (by rw[<-E.len];grind)
      grind
  · simp only;rw[an,T,E.len,v.len]
  · intro g w L aI m
    rcases I g L m with⟨d,t,B,D,_⟩|⟨F,C,q,aV⟩
    · exact ez.plain (k:=aP) (b:=j) (az:=⟨db aT j.s b.s,j.u,j.a,b.own⟩) a a (vQ aC w (b' (D w aI))) (E.box d w L (D w aI) B)
    · rw[aV]at aI
      refine(v.box g w L aI q).cb V v.len λh o=>?_;obtain⟨al,ag⟩:=s g L C q h o;exact⟨i.aV h (.inr ⟨⟨L,b' q,o⟩,ag⟩),i.bz h al ag⟩
  · intro g J L p m q h o r
    rcases I g L m with⟨d,t,B,_,aL,aN⟩|⟨F,C,e,_⟩<;>rcases I J p q with⟨aE,af,aH,_,aw,ax⟩|⟨aO,Y,G,_⟩
    · have a8:=E.a1 d aE L p B aH h o r
      grind
    · obtain⟨al,ag⟩:=s J p Y G h r
      rcases i.bN L (b' B) h o with ah|⟨M,W,aK⟩
      · grind
      grind
    · obtain⟨al,ag⟩:=s g L C e h o
      rcases i.bN p (b' aH) h r with ah|⟨M,W,aK⟩
      · grind
      grind
    · exact v.a1 g J L p e G h o r
  · intro L m h o
    obtain⟨g,F,rfl⟩:=g6 m;rcases I g _ (bF F)with⟨d,t,B,_⟩|⟨_,_,e,_⟩
    · exact E.lt _ (b' B) h o
    · have:=v.lt _ (b' e) h o
      have:=i.size;grind
  · intro h o
    refine⟨?_,λL m aJ=>?_⟩
    · have:=(v.own h o).1
      have:=i.size;grind
    · obtain⟨g,F,rfl⟩:=g6 m
      rcases I g _ (bF F)with⟨d,t,B,_⟩|⟨_,_,e,_⟩
      · have aB:j.own h:=by rw[i.own];exact .inl o
        exact(E.own h aB).2 _ (b' B) aJ
      · exact(v.own h o).2 _ (b' e) aJ
  · intro h o
    exact i.aV h (.inl o)
  · intro h o aW a3
    exact i.bz h o (ab h o aW) a3
  · intro L m h o
    obtain⟨g,F,rfl⟩:=g6 m;rcases I g _ (bF F)with⟨d,t,B,_⟩|⟨_,_,e,_⟩
    · rcases i.bN _ (b' B) h o with ah|⟨M,W,aK⟩
      · grind
      grind
    grind
  · intro L m
    obtain⟨g,F,rfl⟩:=g6 m;rcases I g _ (bF F)with⟨d,t,B,_⟩|⟨_,C,e,_⟩
    · grind
    grind
def g3:y->Option (a2×m O)
 |.n (.ar (.c (.fn (.func b) [] a)))=>f (b,a)
 |_=>n
theorem m5{k}{b}{d:ae->Y}{a:ae->y}(e:∀h,bv k b (d h) (a h)):∀g:m ae,b4 k b (g.map d) (g.map a)
 |[]=>trivial
 |j::i=>⟨e j,m5 e i⟩
def b4.append{k}{b}:∀{A e:m Y}{g a:m y},b4 k b A g->b4 k b e a->b4 k b (A++e) (g++a)
 |[],_,[],_,_,d=>d
 |[],_,_::_,_,d,_=>d.elim
 |_::_,_,[],_,d,_=>d.elim
 |_::_,_,_::_,_,d,h=>⟨d.1,b4.append d.2 h⟩
def BU:Q->Q
 |.w _ b d a=>.c (.R u b d a)
 |.c (.R _ b d a)=>.c (.R u b d a)
 |e=>e
def HT{d}(a:cB k b aa d):cB k b aa (BU d):=by
 cases d with
 |w i h j e=>exact a.1
 |c g=>cases g<;>first|exact a|exact Rd.en a
 |_=>exact a
def BW:m Q->m Q
 |[]=>[]
 |a::b=>BU a::BW b
def HV{k}{b}:∀{A:m Y}{d:m Q},bM k b A d->bM k b A (BW d)
 |[],[],_=>trivial
 |[],_::_,a=>a.elim
 |_::_,[],a=>a.elim
 |_::_,_::_,a=>⟨HT a.1,HV a.2⟩
def BV:y->y
 |.n (.ar b)=>.n (.ar (BU b))
 |.n (.agg a)=>.n (.agg (BW a))
 |d=>d
def HU{a}(d:bv k b aa a):bv k b aa (BV a):=by
 cases a with
 |n i=>cases i with
  |ar m=>exact HT d
  |agg h=>obtain⟨A,e,g⟩:=d;exact⟨A,e,HV g⟩
 |Q j=>exact d
 |any=>trivial
def k6:m y->m y
 |[]=>[]
 |a::b=>BV a::k6 b
theorem uT{k}{b}:∀{A:m Y}{d:m y},b4 k b A d->b4 k b A (k6 d)
 |[],[],_=>trivial
 |[],_::_,a=>a.elim
 |_::_,[],a=>a.elim
 |_::_,_::_,a=>⟨HU a.1,uT a.2⟩
def fc:m O->m y
 |[]=>[]
 |a::b=>ax a::fc b
theorem qi{k}{b}:∀{A:m Y}{a:m O},(∀(g:Nat)d,a[g]?=f d->∃h,A[g]?=f h/\Rd b.u h d)->c A=c a->b4 k b A (fc a)
 |[],[],_,_=>trivial
 |[],_::_,_,e=>by grind
 |_::_,[],_,e=>by grind
 |h::A,d::a,e,p=>by obtain⟨q,i,j⟩:=e 0 d rfl;simp at i;subst i;exact⟨j,qi (λg d o=>by simpa using e (g+1) d N) N⟩
def El{a b:m α}(h:dy aT a=f b):∀d∈b,d∈a:=by intro d g;obtain⟨k,e⟩:=l1 h;obtain⟨i,j,rfl⟩:=g6 g;obtain⟨q,o,p⟩:=e i _ (bF x);grind
def bc.sub{m}(h:bc k b)(E:dy aT k=f dh)(K:dy aT b.s=f m)(J:ey dh=l)(v:ff aT=l):
  bc dh {b with s:=m,own:=oE b m}/\e3 b {b with s:=m,own:=oE b m}:=by
 obtain⟨C,s⟩:=l1 E;obtain⟨d1,d2⟩:=l1 K;have y:∀L∈m,L∈b.s:=El K;refine⟨⟨h.mem,by grind,?_,?_,?_,?_⟩,⟨a,λ_ _ _ D=>D,λ_ _ _=>rfl,h.mem,?_⟩⟩
 .intro t x L aI d;have j:t<c aT:=N;obtain⟨R,A,M⟩:=s t _ (bF j);obtain⟨O,p,w⟩:=d2 t _ (bF j);rw[aI]at A;cases A;simp only at d;rw[d]at p;cases p;exact ez.plain (k:=k) (b:=b) (az:={b with s:=m,own:=oE b m}) rfl rfl (vQ J x (b' aI)) (h.box _ x L M w)
 .intro t B L r d o i g q;simp only at d o;have j:t<c aT:=N;have F:B<c aT:=N;obtain⟨O,p,w⟩:=d2 t _ (bF j);obtain⟨Q,z,I⟩:=d2 B _ (bF F);rw[d]at p;cases p;rw[o]at z;cases z;have:=h.a1 _ _ L r w I i g q;exact K2 v t B aT[t] (bF j) N
 .intro L d i g;exact h.lt _ (y L d) i g
 .rintro i (g|⟨⟨L,d,g⟩,e⟩)
  .exact⟨(h.own i g).1,λL d=>(h.own i g).2 L (y L d)⟩
  exact⟨h.lt L d i g,e⟩
 rintro i ((g|⟨⟨L,d,g⟩,_⟩)|⟨L,d,g⟩)
 .grind
 .grind
 grind
def e3.cO{aP}{q b5}{i}(v:bc k b)(j:bc aP q)(g:de dh {b with s:=i,own:=oE b i} aP q)(s:b5.a=q.a)(o:b5.u=q.u)(w:b5.own=b.own)(r:∀L∈b5.s,L∈q.s∨(L∈b.s/\∀a∈L.ab,∀h∈i,a∉h.ab)):e3 q b5:=by
 refine⟨s,λa m p e=>by grind,λa _ m=>by rw[o],λa m p e=>by rw[o]at e;exact j.mem a m p e,?_⟩;rintro a (d|⟨L,x,d⟩)
 .left;rw[g.own];exact .inl N
 rcases r L x with e|⟨e,t⟩
 .grind
 left;rw[g.own];exact .inr ⟨⟨L,e,d⟩,t a d⟩
def A8{v:af P}{i:aJ}{h}{w}{br}{V}(I:i.kind≠.early)(p:aF[e]?=f r)(M:aS r (yielded aF w.tmps)=l)(T:bc k b)(aE:∀z,(ab w.eval r).run P z=.ok (.enter V A.toArray) z)(Q:∀z,(ab w.eval r).events P z #[]=#[])(ai:bk v V cR dh res aP)(aw:b4 k b A (gq aT cR))(aM:hd (c aT) cR=l)(x:dy aT k=f dh)(K:ey dh=l)(Z:∀d,ey (aP d)=l)(U:ff aT=l)(ar:∀d,c aT<=c (aP d))(E:∀d t az,bv (db aT (aP d) k) az t (fg (aT++gW (c k) (c (aP d)-c aT)) (res d))->bc (db aT (aP d) k) az->de k b (db aT (aP d) k) az->cd v bq (G (i.N (w.put r.dst t) (.inRegion aF br::h)) ah) az):
  cd v bq (G (i.N w (.inRegion aF (e::br)::h)) ah) b:=by
 obtain⟨_,aC⟩:=ai;refine .next a λj an=>?_;have C:=v.bM an;have o:=T.rely C;obtain⟨D,N⟩:=vZ (kJ:=j.s) x o.len;obtain⟨y,ao⟩:=o.sub x N K U;have av:=aw.mono C.aH.ext T.len;have O:=(av.sub (b:=j) x N aM).mono (k:=dh) (b:={j with s:=D}) (aq:=dh) (az:={j with s:=D,own:=oE j D}) ⟨λ_ _ _ E=>E,λaG Y L aI F=>⟨Y,L,aI,F,.refl _ _⟩⟩ y.len;refine⟨_,j,_,tB p M I (aE j.a),?_,.aS ao (aC _ A O y bq _ λd au t ax J m g s=>?_)⟩
 .refine⟨⟨k,k,o,o,.refl _ _⟩,dw.seen ?_⟩;rw[Q];exact .nil
 refine uH (ah:=ah) (q:=i.N w (.inRegion aF (e::br)::h)) g J λaB R=>?_;have X:=g.rely R;have W:=s.trans R.aH;obtain⟨S,ae,aa,al,H,ag,aj,aD⟩:=frame o x N U (Z d) X W (ar d) (m.mono R.aH.ext g.len);refine .aS (e3.cO o X W ae ag aj aD) ?_;have B:=qq (i:=i) (w:=w) (h:=h) aF e br t;rw[p]at B;simp[n0]at B;rw[B];exact E d t S aa al (C.aH.trans H)
def GO{i:af P}{j:aJ}{h}{d}{br}{aP}{o}{res}(F:j.kind≠.early)(m:aF[e]?=f r)(C:aS r (yielded aF d.tmps)=l)(E:bc k b)(t:∀g,(ab d.eval r).run P g=.ok (.enter o A.toArray) g)(s:∀g,(ab d.eval r).events P g #[]=#[])(B:X i o cR dh res aP)(q:b4 k b A (gq aT cR))(x:hd (c aT) cR=l)(y:dy aT k=f dh)(D:ey dh=l)(v:ey aP=l)(I:ff aT=l)(z:c aT<=c aP)(w:∀p a,bv (db aT aP k) a p (fg (aT++gW (c k) (c aP-c aT)) res)->bc (db aT aP k) a->de k b (db aT aP k) a->cd i bq (G (j.N (d.put r.dst p) (.inRegion aF br::h)) ah) a):
  cd i bq (G (j.N d (.inRegion aF (e::br)::h)) ah) b:=
 A8 F m C E t s B.tocH q x y D (λ_=>v) I (λ_=>z) (λ_=>w)
theorem mL(b:r.op=.call {callee:=.value cP,args:=ag,argTypes:=dt}){d}{fn}(i:P.funcs[d]?=f fn)(o:(fn.name== "runtime.NumGoroutine")=u)(m:fn.body.isNone=u){a:Act}{ah}(j:a.eval cP=.func (.func d) #[] ah.toArray)(e):
  (ab a.eval r).run P e=.ok (.enter d (ag.toList.map a.eval++ah).toArray) e/\(ab a.eval r).events P e #[]=#[]:=by
 have k:(ag.map a.eval++ah.toArray)=(ag.toList.map a.eval++ah).toArray:=N;have h:fn.name≠ "runtime.NumGoroutine":=N;have g:fn.body≠n:=N;constructor
 .simp[ab,b,resolve,j,Deferred.ofValue,invoke,callFunc,i,h,g,k]
 simp[ab,b,resolve,j,Deferred.ofValue,invoke,callFunc,i,h,g]
def fi.eX{z:af P}{aM:bH->m an->Prop}(aw:∀k h j,bZ D k h F j->aS r (yielded all.toArray j.tmps)=l)(t:r.op=.call {callee:=.value cP,args:=ag,argTypes:=dt}){ab:a2}(x:g3 (bE F cP)=f (ab,cap))(b:m Nat)(aj:bk z ab cR dh res aP)(aI:∀h A,b4 k h A (ag.toList.map (bE F)++fc cap)->b4 k h A (gq b cR))(y:hd (c b) cR=l)(ar:dy b k=f dh)(L:ey dh=l)(Q:∀d,ey (aP d)=l)(V:ff b=l)(au:∀d,c b<=c (aP d))(E)(av:r.dst=E)(az:∀w,E=f w->w<D)(aH:∀d,fi z D all br aM (gf E (fg (b++gW (c k) (c (aP d)-c b)) (res d)) F) (db b (aP d) k)):fi z D all (r::br) aM F k:=by
 subst av;intro h j o g aC X C aB idx p a R;cases idx with
 |nil=>exact a.elim
 |cons aQ idx=>
 obtain⟨S,a⟩:=a;have al:=eQ o cP;unfold g3 at x;split at x
 case h_2=>cases x
 case h_1 u9 uU he=>
  cases x;rw[he]at al;have ah:=b8 al;generalize H:j.eval cP=aF at ah;cases ah with
  |fn J e U s aE I aG K aL Y=>
   have O:J=[]:=jD U;subst O;have aJ:b4 k h e (fc cap):=qi (λd aD T=>⟨I d,K d N,Y d aD T⟩) s;have aN:b4 k h (ag.toList.map j.eval++e) (gq b cR):=by exact aI _ _ ((m5 (eQ o) ag.toList).append aJ)
   obtain⟨fn,ao,ai,ae⟩:=aj.1;refine A8 p S (aw _ _ _ o) g (λaa=>(mL t ao ai ae H aa).1) (λaa=>(mL t ao ai ae H aa).2) aj aN y ar L Q V au λd aR Z W q i=>?_;refine aH d Z _ ?_ q aC X C aB idx p a λG aq ax B aK f3 M v=>R G aq ax B aK f3 M (i.trans v);cases aO:r.dst with
   |none=>exact o.mono i g.len
   |some w=>exact(o.mono i g.len).put (az w aO) W
def fi.gX{d:af P}{aM:bH->m an->Prop}(B:∀k j h,bZ D k j F h->aS r (yielded all.toArray h.tmps)=l)(g:r.op=.call {callee:=.value cP,args:=ag,argTypes:=dt}){i}(z:g3 (bE F cP)=f (i,cap))(aT)(w:bk d i cR dh res aP)(E:k6 (ag.toList.map (bE F)++fc cap)=gq aT cR)(q:hd (c aT) cR=l)(s:dy aT k=f dh)(x:ey dh=l)(p:∀a,ey (aP a)=l)(e:ff aT=l)(t:∀a,c aT<=c (aP a))(b)(y:r.dst=b)(C:∀o,b=f o->o<D)(v:∀a,fi d D all br aM (gf b (fg (aT++gW (c k) (c (aP a)-c aT)) (res a)) F) (db aT (aP a) k)):fi d D all (r::br) aM F k:=
 fi.eX B g z aT w (λj A I=>by grind[uT]) q s x p e t b y C v
theorem fi.call{b:af P}{aM:bH->m an->Prop}(z:∀k B g,bZ D k B F g->aS r (yielded all.toArray g.tmps)=l)(e:r.op=.call {callee:=.value cP,args:=ag,argTypes:=dt}){h}(y:g3 (bE F cP)=f (h,cap))(aT){aP}{res}(t:X b h cR dh res aP)(j:k6 (ag.toList.map (bE F)++fc cap)=gq aT cR)(p:hd (c aT) cR=l)(q:dy aT k=f dh)(v:ey dh=l)(o:ey aP=l)(d:ff aT=l)(s:c aT<=c aP)(a)(x:r.dst=a)(A:∀i,a=f i->i<D)(w:fi b D all br aM (gf a (fg (aT++gW (c k) (c aP-c aT)) res) F) (db aT aP k)):fi b D all (r::br) aM F k:=
 fi.gX z e y aT t.tocH j p q v (λ_=>o) d (λ_=>s) a x A (λ_=>w)
def nV.range(all):nV all (aA all.toArray.size) all:=by
 have key:∀a j,(∀t r,a[t]?=f r->all[j+t]?=f r)->nV all (List.range' j (c a)) a:=by
  intro a;induction a with
  |nil=>intro j _;trivial
  |cons r ba w=>
   exact QD
 grind[List.range_eq_range']
theorem b2.region{q:af P}{aM}{id}(z:fi q D aF.toList aF.toList (λF k=>aM .normal F k) F k):b2 q D (.region id aF u) aM F k:=by intro C s y d t A i r m j;refine .ctl d a (λ_=>zl) λw b=>?_;have:=z w s (y.rely b d) (d.rely b) t A i r (aA aF.size) m (by simpa using nV.range aF.toList) λe g o h B v x p=>j .normal e g o h B v x (b.aH.trans p);omega
def fi.nil{P:aE}{d:af P}{D}{all}{aM:bH->m an->Prop}{F}{k}(p:aM F k):fi d D all [] aM F k:=by
 intro v e o b r t h q idx _ g i;cases idx with
 |cons s idx=>exact g.elim
 |nil=>exact .ctl b rfl (λ_=>v3) λj a=>i F k j e p (o.rely a b) (b.rely a) a.aH
def fi.mono{p:af P}{aM q:bH->m an->Prop}(z:fi p D all br aM F k)(y:∀F k,aM F k->q F k):fi p D all br q F k:=
 λb s x i t A e r idx h j g=>z b s x i t A e r idx h j λa aq az d B v w o=>g a aq az d (y _ _ B) v w o
def fi.le{P:aE}{i:af P}{D}{all br}{aM:bH->m an->Prop}{F dG}{k}(r:fi i D all br aM dG k)(h:iA F dG):fi i D all br aM F k:=
 λt o q e p s a j idx d g b=>r t o (q.le h) e p s a j idx d g b
def h6:Nat->m y->bH
 |_,[]=>[]
 |a,b::d=>(a,b)::h6 (a+1) d
def yE:∀d(a b:Nat),look (h6 a d) b=if a<=b then(d[b-a]?).getD .any else .any
 |[],a,b=>by simp[h6,look]
 |g::e,a,b=>by
  simp only[h6,look];by_cases h:a=b
  .grind [Nat.beq_refl]
  have:ad a b=u:=t_;rw[this];simp[cond,yE e (a+1) b];grind
theorem b4.get{k}{b}:∀{A:m Y}{a:m y},b4 k b A a->c A=c a/\∀(t:Nat),bv k b ((A[t]?).getD I) ((a[t]?).getD .any)
 |[],[],_=>⟨rfl,λt=>by simp[bv]⟩
 |[],_::_,d=>d.elim
 |_::_,[],d=>d.elim
 |i::A,h::a,d=>by
  obtain⟨e,g⟩:=b4.get d.2;refine⟨by grind,λt=>?_⟩;cases t with
  |zero=>simpa using d.1
  |succ t=>grind
def oG(a:bH):m ResultVar->Option (m y)
 |[]=>f []
 |.tmp e::d=>match oG a d with
  |some b=>f (look a e::b)
  |none=>n
 |.cell _ _::_=>n
def qS:m y->Option (m E1)
 |[]=>f []
 |.n d::b=>match qS b with
  |some a=>f (d::a)
  |none=>n
 |_::_=>n
def pp:m y->Option y
 |[d]=>f d
 |a=>match qS a with
  |some b=>f (.Q b)
  |none=>n
def ie(d:Act):ResultVar->Sem Y
 |ResultVar.tmp b=>pure (d.tmps.getD b I)
 |ResultVar.cell a b=>do loadVar b (<-asAddr (d.tmps.getD a I))
def L4(P){D}{k}{b}{F}{g}(o:bZ D k b F g):∀{e:m ResultVar}{a:m y},oG F e=f a ->
  ∃A,(∀i,(e.mapM (ie g)).run P i=Result.ok A i)/\b4 k b A a/\dC P (e.mapM (ie g))
 |[],a,d=>by cases d;exact⟨[],by simp,v,by rw[List.mapM_nil];exact .pure⟩
 |.tmp h::p,a,d=>by
  simp[oG]at d;cases j:oG F p with
  |none=>grind
  |some w=>
   simp[j]at d;subst d;obtain⟨A,r,s,t⟩:=L4 P o j;refine⟨g.tmps.getD h I::A,?_,⟨o.al h,s⟩,?_⟩
   .intro i;simp[o5,cJ,ie,dZ,c8,r]
   rw[o5];exact .bind .pure λ_=>.bind t λ_=>.pure
 |.cell q h::p,a,d=>by simp[oG]at d
def Nf{k}{b}:∀{A:m Y}{e:m y}{a:m E1},qS e=f a->b4 k b A e->eX k b A a
 |[],[],a,d,_=>by cases d;trivial
 |[],_::_,_,_,d=>d.elim
 |_::_,[],_,_,d=>d.elim
 |o::A,.n p::i,a,d,h=>by
  simp[qS]at d;cases g:qS i with
  |none=>grind
  |some j=>simp[g]at d;subst d;exact⟨h.1,Nf g h.2⟩
 |_::_,.Q _::_,a,d,_=>by simp[qS]at d
 |_::_,.any::_,a,d,_=>by simp[qS]at d
def Ko{bg}{h}(d:pp bg=f h)(e:b4 k b A bg):bv k b (if d:c A=1 then A[0]else .tuple A.toArray) h:=by
 unfold pp at d;split at d
 .rename_i B;cases d
  match A,e with
  |[p],e=>simpa using e.1
 rename_i o;cases g:qS bg with
 |none=>grind
 |some j=>
  simp[g]at d;subst d;have m:c A≠1:=by
   intro i;rw[(b4.get e).1]at i
   match bg,i with
   |[q],_=>grind
  rw[dif_neg m];exact⟨A,a,Nf g e⟩
def oW(P:aE)(fn:Func)(k:bH)(p:y):Prop:=∀{o:Nat}{i:m an}{d:a5}{h:Act},bZ o i d k h->∃j,bv i d j p/\∀g,(∀a b e,d.u a b=f e->g.cell? ⟨a,b,n⟩=f e)->(results fn h.tmps).run P g=.ok j g/\∀q∈(results fn h.tmps).events P g #[],∃a b e,q=⟨.cell ⟨a,b,n⟩,u,u⟩/\d.u a b=f e
def Mc{a}(m:bZ D k b F a){fn}{bg}{g}(p:oG F fn.results.toList=f bg)(i:pp bg=f g):
  ∃h,(∀d,(results fn a.tmps).run P d=.ok h d)/\bv k b h g/\dC P (results fn a.tmps):=by
 obtain⟨A,r,j,o⟩:=L4 P m p;refine⟨_,λd=>?_,Ko i j,?_⟩
 .have e:(fn.results.mapM (ie a)).run P d=Result.ok A.toArray d:=Ru;unfold results;rw[cJ];refine(eC (λq=>Result.andThen q _) (Eq.trans ?_ e)).trans ?_
  .congr 2
  simp
 unfold results;have e:dC P (fn.results.mapM (ie a)):=by rw[xb];exact .map o
 exact .bind e λ_=>.pure
theorem oW.of{fn}{bg}{e}(k:oG F fn.results.toList=f bg)(d:pp bg=f e):oW P fn F e:=by intro o p s q j;obtain⟨m,a,b,i⟩:=Mc (P:=P) j k d;exact⟨m,b,λg _=>⟨a g,λr h=>by rw[i g #[]]at h;grind⟩⟩
section
def bc.d'(a:bc k b):bc (k.map λ_=>.J) b:=by
 refine⟨a.mem,by simp[a.len],λg h L aI e=>?_,a.a1,a.lt,a.own⟩;simp only[m_]at aI;cases d:k[g]? with
 |none=>grind
 |some i=>rw[d]at aI;cases aI;trivial
structure p1(nz:m Nat)(b az:a5):Prop where
 s:az.s=b.s
 u:az.u=b.u
 own:az.own=b.own
 size:b.a.heap.size<=az.a.heap.size
 aV:∀i,(b.own i∨∃(d:Nat) (L:Loc),b.s[d]?=f L/\d∉nz/\i∈L.ab)->az.a.heap[i]?=b.a.heap[i]?
 mem:∀i r aa,b.u i r=f aa->az.a.cell? ⟨i,r,n⟩=f aa
 os:az.a.os=b.a.os
 tape:az.a.tape=b.a.tape
 output:az.a.output=b.a.output
def cV.ko(a:cV b az)(nz):p1 nz b az:=
 ⟨a.s,a.u,a.own,a.size,λh e=>a.aV h (e.imp id λ⟨i,L,d,_,g⟩=>⟨L,b' d,g⟩),a.mem,a.os,a.tape,a.output⟩
theorem p1.X{nz}{m b5}(a:p1 [d] b m)(e:p1 nz m b5):p1 (d::nz) b b5:=by refine⟨e.s.trans a.s,e.u.trans a.u,e.own.trans a.own,fR a.size e.size,λg j=>?_,λg q r o=>e.mem g q r (by rw[a.u];exact o),e.os.trans a.os,e.tape.trans a.tape,e.output.trans a.output⟩;rw[e.aV g,a.aV g (j.imp id λ⟨k,L,h,i,p⟩=>⟨k,L,h,λs=>i N,p⟩)];rw[a.own,a.s];grind
def abs{d}{b}(e:d.heap[b]?=f (.deferred (f []))):
  (Instr.takeDeferred b).run P d=.ok [] {d with heap:=d.heap.setIfInBounds b (.deferred n)}/\(Instr.takeDeferred b).events P d #[]=#[⟨.obj b,u,u⟩,⟨.obj b,l,u⟩]:=by
 have g:(getObj b).run P d=.ok (.deferred (f [])) d:=by simp[getObj,Sem.run,e]
 have h:(setObj b (.deferred n)).run P d=.ok () {d with heap:=d.heap.setIfInBounds b (.deferred n)}:=by simp[setObj,Sem.run,e]
 have j:∀a,(getObj b).events P d a=a.push ⟨.obj b,u,u⟩:=λa=>by simp only[getObj,Sem.events,Sem.runT,e];rfl
 have i:∀a,(setObj b (.deferred n)).events P d a=a.push ⟨.obj b,l,u⟩:=λa=>by simp[setObj,Sem.events,Sem.runT,e];rfl
 constructor
 .simp[Instr.takeDeferred,g,h]
 simp[Instr.takeDeferred,g,j,i]
variable {p:af P}{eV:Bool}
def abI{a}{b}{bg}{d}(g:a.mode=.returning)(e:a.defers={target:=.collected b,args:=#[]}::bg)(i:d.heap[b]?=f (.deferred (f []))):
  ar P eV (G a ah) d=.go (G {a with defers:=bg} ah) {d with heap:=d.heap.setIfInBounds b (.deferred n)} (seen P a.fn #[⟨.obj b,u,u⟩,⟨.obj b,l,u⟩]):=by obtain⟨j,h⟩:=abs (P:=P) i;simp[G,ar,unwind,g,e,j,h,GStep.after]
def rf(d:a5):m Deferred->m Nat->Prop
 |[],[]=>True
 |h::e,g::a=>(∃b:Nat,d.s[g]?=f ⟨.int .i64 b,[b]⟩/\d.a.heap[b]?=f (.deferred (f []))/\(∀i,d.u b i=n)/\h={target:=.collected b,args:=#[]})/\g∉a/\rf d e a
 |_,_=>False
def i7.gI{k}{b}(g:bc k b):∀{a:m Deferred}{d:m Nat},i7 k b a d->rf b a d
 |[],[],_=>trivial
 |[],_::_,h=>h.elim
 |_::_,[],h=>h.elim
 |y::a,w::d,⟨⟨j,L,h,e,v,s⟩,t,o⟩=>by obtain⟨i,k1,p,q⟩:=g.box w _ L j e;subst k1;simp at v;have r:i=h:=x;subst r;exact⟨⟨i,e,p,q,s⟩,t,i7.gI g o⟩
def rf.mono{b az}{i}(h:p1 [i] b az):∀{d:m Deferred}{a:m Nat},i∉a->rf b d a->rf az d a
 |[],[],_,_=>trivial
 |[],_::_,_,e=>e.elim
 |_::_,[],_,e=>e.elim
 |s::d,r::a,k,⟨⟨e,g,j,t,p⟩,q,o⟩=>by simp[fa,not_or]at k;refine⟨⟨e,by rw[h.s];exact g,by rw[h.aV e (.inr ⟨r,_,g,by grind,by simp⟩)];exact j,λv=>by rw[h.u];grind,p⟩,q,rf.mono h k.2 o⟩
def A9:∀o(g:aJ)(s:a5)i,bc i s->(∀C∈i,C=.J)->g.mode=.returning->rf s g.defers o ->
  (∀r,p1 o s r->cd p bq (G {g with defers:=[]} ah) r)->cd p bq (G g ah) s
 |[],g,s,i,J,W,M,x,U=>by
  have A:g.defers=[]:=by
   cases A:g.defers with
   |nil=>rfl
   |cons an D=>rw[A]at x;exact x.elim
  have:=U s ((cV.refl J).ko _);have aq:{g with defers:=[]}=g:=by cases g;simp_all
  grind
 |V::o,g,s,i,J,W,M,x,U=>by
  cases A:g.defers with
  |nil=>rw[A]at x;exact x.elim
  |cons an D=>
   rw[A]at x;obtain⟨⟨k,K,H,aM,ai⟩,aj,al⟩:=x;subst ai;refine .next a λj y=>?_;have h:=p.bM y;have v:=J.rely h;have O:j.s[V]?=f ⟨.int .i64 k,[k]⟩:=by rw[h.s];exact K
   have Q:j.a.heap[k]?=f (.deferred (f [])):=by rw[h.aV k (.inr ⟨_,b' K,by simp⟩)];exact H
   have ao:∀q,j.u k q=n:=λq=>by rw[h.u];grind
   let d:a5:={j with a:={j.a with heap:=j.a.heap.setIfInBounds k (.deferred n)}}
   have F:∀b,b≠k->d.a.heap[b]?=j.a.heap[b]?:=λb e=>by grind
   have aa:∀b q B,j.u b q=f B->d.a.cell? ⟨b,q,n⟩=f B:=by intro b q B R;have ab:b≠k:=N;rw[<-v.mem b q B R];simp[aL];grind
   have ae:bc i d:=by
    refine⟨aa,v.len,λw C L aI m=>?_,v.a1,λL m b e=>?_,λb e=>⟨?_,(v.own b e).2⟩⟩
    .rw[W C (b' aI)];trivial
    .have:=v.lt L m b e;grind
    have:=(v.own b e).1;grind
   have af:∃L∈j.s,k∈L.ab:=⟨_,b' O,by simp⟩
   have Y:cN i j i d:=by refine⟨by grind,λb _ e=>F b ?_,λ_ _ _ S=>S,λ_ _ _ _=>rfl,λL m b e=>.inr ⟨L,m,e⟩,λ_ C L S ag=>⟨C,L,S,ag,.refl _ _⟩,rfl,rfl,rfl,rfl⟩;grind
   have I:p1 [V] s d:=by
    refine⟨h.s,h.u,h.own,fR h.size N,λb e=>?_,λb q B R=>aa b q B (by rw[h.u];exact R),h.os,h.tape,h.output⟩;have ab:b≠k:=by
     rintro rfl;rcases e with e|⟨w,t,Z,X,z⟩
     .exact(J.own b e).2 _ (b' K) E
     exact X (by simp;exact J.a1 w V t _ Z K b z E)
    rw[F b ab];exact h.aV b (e.imp id λ⟨w,t,Z,_,z⟩=>⟨t,b' Z,z⟩)
   refine⟨_,d,_,abI M A Q,⟨⟨i,i,v,ae,Y⟩,dw.seen (.fi ?_ ?_)⟩,?_⟩
   .exact⟨a,.inr af⟩
   .exact⟨a,.inr af⟩
   refine A9 o {g with defers:=D} d i ae W M (al.mono I aj) λr T=>?_;exact U r (I.X T)
end
def bs(e:Nat)(b d:Nat->m O):Prop:=∀a,a<e->b a=d a
def e9.cB{h}{dJ:Nat->m O}(d:e9 bA h j U A)(g:bs j U dJ):e9 bA h j dJ A:=
 ⟨d.len,λb a=>by rw[<-g b a];exact d.bD b a,λb a k i e=>d.rd b a k i (by rw[g b a];exact e)⟩
def Do:O->O->Option (m Prop)
 |.int j e,.int b a=>match s8 j b with|true=>f [e=a]|false=>n
 |.bool r,.bool h=>f [r=h]
 |.V s,.V k=>f [s=k]
 |.R q j e i,.R g b a d=>match ad j b with
  |true=>match q,g with
   |false,l=>n
   |_,_=>f [e=a,bs e i d]
  |false=>match q,g with
   |true,_=>f [e=0,a=0]
   |_,_=>n
 |.val o,.val p=>f [o=p]
 |o,p=>f [o=p]
def Ku{C k}(a:Do C k=f Z)(g:T Z)(e:Rd bA aa C):Rd bA aa k:=by
 unfold Do at a;split at a
 .rename_i h j i d;cases b:s8 h i<;>simp[b]at a
  subst a;cases Di b;cases(show j=d from g);exact e
 .cases a;rename_i m p;cases(show m=p from g);exact e
 .cases a;rename_i m p;cases(show m=p from g);exact e
 .rename_i o h j U q i d dJ;cases b:ad h i with
  |true=>
   simp[b]at a;have t:=dn b;subst t;cases o<;>cases q<;>simp at a
   all_goals (subst a;obtain⟨rfl,s⟩:=(show j=d/\bs j U dJ from g);first|exact e.cB s|exact e.en.cB s)
  |false=>
   simp[b]at a;cases o<;>simp at a
   subst a;obtain⟨rfl,rfl⟩:=(show j=0/\d=0 from g)
   obtain⟨v,r,A,rfl,_,_,w,_⟩:=e.bY;grind[Rd.dK]
 .cases a;rename_i C k;cases(show C=k from g);exact e
 cases a;cases g;exact e
def vs:Q->Q->Option (m Prop)
 |.c r,.c s=>Do r s
 |.w _ j i d,.c (.R u e h b)=>match ad j e with|true=>f [i=h,bs i d b]|false=>n
 |.w g j i d,.w a e h b=>match ad g a with
  |true=>match ad j e with|true=>f [i=h,bs i d b]|false=>n
  |false=>n
 |.ptr g p,.ptr a k=>match ad g a with|true=>(match ad p k with|true=>f []|false=>n)|false=>n
 |.aK g,.aK a=>match ad g a with|true=>f []|false=>n
 |.K g q,.K a o=>match ad g a with|true=>f [q=o]|false=>n
 |_,.any=>f []
 |_,_=>n
def Ks{v w}(e:vs v w=f Z)(q:T Z)(o:cB k b aa v):cB k b aa w:=by
 unfold vs at e;split at e
 .exact Ku e q o
 .rename_i h j U g m dJ;cases a:ad h g<;>simp[a]at e
  subst e;have t:=dn a;subst t;obtain⟨rfl,r⟩:=(show j=m/\bs j U dJ from q)
  exact o.1.cB r
 .rename_i d h j U i g m dJ;cases p:ad d i<;>simp[p]at e
  cases a:ad h g<;>simp[a]at e
  subst e;have t:=dn a;have s:=dn p;subst t s;obtain⟨rfl,r⟩:=(show j=m/\bs j U dJ from q)
  exact⟨o.1.cB r,o.2.1,o.2.2⟩
 .grind [Nat.eq_of_beq_eq_true]
 .grind [Nat.eq_of_beq_eq_true]
 .rename_i d x i bj;cases p:ad d i<;>simp[p]at e
  have s:=dn p;subst s;subst e;cases(show x=bj from q);exact o
 .exact cB.cell o
 grind
def gN:m Prop->m Prop->m Prop
 |[],a=>a
 |b::d,a=>b::gN d a
@[simp] theorem T.X{a b}:T (gN a b)↔T a/\T b:=by
 induction a with
 |nil=>simp[gN]
 |cons g e d=>simp[gN,T.cons,d,and_assoc]
def qB:m Q->m Q->Option (m Prop)
 |[],[]=>f []
 |d::a,e::b=>match vs d e with
  |some g=>match qB a b with
   |some h=>f (gN g h)
   |none=>n
  |none=>n
 |_,_=>n
def Dp{k}{b}:∀{A:m Y}{e g:m Q}{d:m Prop},qB e g=f d->T d->bM k b A e->bM k b A g
 |[],[],[],_,_,_,_=>trivial
 |_::_,[],_,_,_,_,a=>a.elim
 |[],_::_,_,_,_,_,a=>a.elim
 |[],[],_::_,_,a,_,_=>by simp[qB]at a
 |_::_,_::_,[],_,a,_,_=>by simp[qB]at a
 |w::A,r::h,s::i,d,a,j,q=>by
  simp[qB]at a;cases o:vs r s with
  |none=>grind
  |some t=>
   cases p:qB h i with
   |none=>grind
   |some v=>
    simp[o,p]at a;subst a;rw[T.X]at j;exact⟨Ks o j.1 q.1,Dp p j.2 q.2⟩
def vt:E1->E1->Option (m Prop)
 |.ar d,.ar e=>vs d e
 |.agg a,.agg b=>qB a b
 |_,_=>n
def Kv{d e}(a:vt d e=f Z)(g:T Z)(h:eA k b aa d):eA k b aa e:=by
 cases d<;>cases e<;>simp[vt,reduceCtorEq]at a
 .exact Ks a g h
 obtain⟨A,i,j⟩:=h;exact⟨A,i,Dp a g j⟩
def rQ:m E1->m E1->Option (m Prop)
 |[],[]=>f []
 |d::a,e::b=>match vt d e with
  |some g=>match rQ a b with
   |some h=>f (gN g h)
   |none=>n
  |none=>n
 |_,_=>n
def Kw{k}{b}:∀{A:m Y}{e g:m E1}{d:m Prop},rQ e g=f d->T d->eX k b A e->eX k b A g
 |[],[],[],_,_,_,_=>trivial
 |_::_,[],_,_,_,_,a=>a.elim
 |[],_::_,_,_,_,_,a=>a.elim
 |[],[],_::_,_,a,_,_=>by simp[rQ]at a
 |_::_,_::_,[],_,a,_,_=>by simp[rQ]at a
 |w::A,r::h,s::i,d,a,j,q=>by
  simp[rQ]at a;cases o:vt r s with
  |none=>grind
  |some t=>
   cases p:rQ h i with
   |none=>grind
   |some v=>
    simp[o,p]at a;subst a;rw[T.X]at j;exact⟨Kv o j.1 q.1,Kw p j.2 q.2⟩
def kk:y->y->Option (m Prop)
 |.n d,.n e=>vt d e
 |.Q a,.Q b=>rQ a b
 |_,.any=>f []
 |_,_=>n
theorem pq{d e}(a:kk d e=f Z)(g:T Z)(h:bv k b aa d):bv k b aa e:=by
 cases d<;>cases e<;>simp[kk,reduceCtorEq]at a
 .exact Kv a g h
 .trivial
 .obtain⟨A,i,q⟩:=h;exact⟨A,i,Kw a g q⟩
 .trivial
 trivial
def iW(a:bH):bH->Option (m Prop)
 |[]=>f []
 |(d,b)::h=>match kk (look a d) b with
  |some e=>match iW a h with
   |some g=>f (gN e g)
   |none=>n
  |none=>n
def eJ{F}:∀{b:bH}{a:m Prop},iW F b=f a->T a->iA F b
 |[],_,_,_=>λ_ _ _ _ _=>trivial
 |(h,o)::q,a,d,e=>by
  simp[iW]at d;cases p:kk (look F h) o with
  |none=>grind
  |some v=>
   cases g:iW F q with
   |none=>grind
   |some w=>
    simp[p,g]at d;subst d;rw[T.X]at e;intro j r s i k;simp[look];cases t:ad h i with
    |true=>
     grind[Nat.eq_of_beq_eq_true,pq]
    |false=>exact eJ g e.2 j r s i k
def l0(a:m an):Bool:=match ey a with|true=>jQ a|false=>u
def Ly(a:l0 k=l):ey k=l/\jQ k=l:=by unfold l0 at a;grind
def i7.e6{k}{b}:∀{e:m Deferred}{d:m Nat},i7 k b e d->∀g∈d,k[g]?=f .bd
 |[],[],_,g,a=>by grind
 |[],_::_,i,_,_=>i.elim
 |_::_,[],i,_,_=>i.elim
 |p::e,o::d,⟨⟨h,_⟩,_,j⟩,g,a=>by
  rcases fa.1 a with rfl|a
  .exact h
  exact i7.e6 j g a
def bX(fn:Func)(p:Nat)(b:y)(d:m an):fB:=λk o h=>
 (k=.ret∨k=.normal)/\∃a e j g,oG o fn.results.toList=f e/\pp e=f j/\kk j (fg a b)=f g/\T g/\hR (c a) b=l /\
  dy a h=f d/\l0 d=l/\ff a=l/\(∀i,i<p->a[i]?=f i)
def k0(P:aE)(fn:Func)(o:Nat)(b:y)(d:m an):fB:=λj k g=>
 (j=.ret∨j=.normal)/\∃a i e,oW P fn k i/\kk i (fg a b)=f e/\T e/\hR (c a) b=l /\
  dy a g=f d/\l0 d=l/\ff a=l/\(∀h,h<o->a[h]?=f h)
def bX.toF{fn}{g}{res}{h}{aP}(o:bX fn g res aq h F aP):k0 P fn g res aq h F aP:=by obtain⟨i,d,m,k,e,a,b,j⟩:=o;exact⟨i,d,k,e,oW.of a b,j⟩
def bk.gy{ab:af P}{S}{fn}{args}{r:ι->m an}(rG:P.funcs[S]?=f fn)(bj:(fn.name== "runtime.NumGoroutine")=u)(cU:fn.body=f q)(aN:args.length<=fn.ntmps)(U:∀b a',bZ fn.ntmps k b (h6 0 args) a'->bc k b->∀i bd s (J:ai->a5->Prop),i.kind≠.early->i.roundOf=n ->
  (∀aj C j az K,(∃z,k0 P fn (c k) (res z) (r z) aj C j)->bZ fn.ntmps j az C K->bc j az->de k b j az->kG ab J i bd s aj K az)->cd ab J (G (i.N a' (.code q::bd)) s) b):bk ab S args k res r:=by
 refine⟨⟨fn,rG,bj,by grind⟩,λb A aO aH J s aE=>?_⟩;obtain⟨aL,aG⟩:=b4.get aO;let i:aJ:={fn:=S,tmps:=#[],todo:=[],defers:=[],mode:=.run,kind:=.normal,roundOf:=n}
 have bu:Frame.enter P S A.toArray .normal=i.N {tmps:=A.toArray++Array.replicate (fn.ntmps-A.toArray.size) I,defers:=[]} [.code q]:=NU;rw[bu];refine U b {tmps:=A.toArray++Array.replicate (fn.ntmps-A.toArray.size) I,defers:=[]} ⟨by grind,⟨[],v⟩,λo=>?_⟩ aH i [] s J (by simp[i]) rfl ?_
 .rw[yE];simp[g1,dH,sq];have:=aG o;rcases dW o (c A) with bb|ba
  .exact Qy
  rw[wZ x];trivial
 rintro aj C j a1 M ⟨Z,ag,aR,bw,bt,av,aw,ax,aB,aa,bm,aC,bp⟩ au Y a2;obtain⟨a,bn⟩:=Ly bm;have fin:∀g d,cV a1 d->g.fn=S->g.tmps=M.tmps->g.defers=M.defers->g.mode=.returning->g.kind=.normal->cd ab J (G g s) d:=by
  intro g d e al ao aq R ar;have T:=au.rely e Y;have D:=Y.rely e;have t:=a2.trans e.aH;obtain⟨a3,aZ,a9⟩:=av T;obtain⟨y,ae⟩:=vZ (kJ:=d.s) aa D.len;have a0:=(pq aw ax aZ).sub aa ae aB;obtain⟨bo,ah⟩:=l1 aa;obtain⟨d1,d2⟩:=l1 ae;have O:∀L∈y,L∈d.s:=El ae;have Q:bc (r Z) {d with s:=y}:=by obtain⟨F,_⟩:=D.sub aa ae a aC;refine⟨F.mem,F.len,λz X L aI h=>?_,F.a1,F.lt,λi cU=>⟨(D.own i cU).1,λL h=>(D.own i cU).2 L (O L h)⟩⟩;exact ez.plain (k:=r Z) (b:={d with s:=y,own:=oE d y}) (az:={d with s:=y}) rfl rfl (vQ a X (b' aI)) (F.box z X L aI h)
  have aM:de k b (r Z) {d with s:=y}:=by refine⟨t.size,t.aV,t.mem,t.bz,λL h i cU=>t.bN _ (O L h) i cU,λbf X L aI h=>?_,t.os,t.tape,t.output,t.own⟩;have aL:bf<c k:=(cO.1 aI).1;obtain⟨bh,bl,bq,br,bs⟩:=t.box bf X L aI h;grind
  obtain⟨aS,a8⟩:=T.defers;refine A9 aS g d _ D.d' E R (by rw[aq];exact a8.gI D) λH p=>?_;have aU:cV {d with s:=y} {H with s:=y}:=by refine⟨rfl,p.u,p.own,p.size,λi cU=>p.aV i (cU.imp id ?_),p.mem,p.os,p.tape,p.output⟩;rintro⟨L,h,cU⟩;obtain⟨z,aK,rfl⟩:=g6 h;have a7:z<c aR:=N;obtain⟨bz,a_,a6⟩:=d2 z _ (bF a7);obtain⟨bx,a4,W⟩:=ah z _ (bF a7);rw[bF aK]at a_;cases a_;refine⟨_,_,a6,λaF=>?_,cU⟩;rw[a8.e6 _ aF]at W;cases W;exact vC bn _ (b' a4) rfl
  have aD:e3 H {H with s:=y}:=⟨rfl,λ_ _ _ U=>U,λ_ _ _=>rfl,λi w a3 aP=>p.mem i w a3 (by rw[<-p.u];exact aP),λi cU=>cU.imp id λ⟨L,h,cU⟩=>⟨L,by rw[p.s];grind,cU⟩⟩
  refine .aS aD (aE Z _ a3 _ ⟨al,R,rfl,ar,fn,by grind,λV aQ=>?_⟩ (a0.mono aU.aH.ext Q.len) (Q.rely aU) (aM.trans aU.aH));show(results fn g.tmps).run P V=_/\∀aj∈(results fn g.tmps).events P V #[],_;rw[ao];have bg:∀i w B,d.u i w=f B->V.cell? ⟨i,w,n⟩=f B:=λi w B U=>aQ i w B (by show H.u i w=f B;rw[p.u];exact U);refine⟨(a9 V bg).1,λaj ag=>?_⟩;obtain⟨i,w,B,aV,aW⟩:=(a9 V bg).2 aj ag;exact⟨i,w,B,aV,by show H.u i w=f B;rw[p.u];exact aW⟩
 rcases ag with rfl|rfl
 .intro pre;exact .ctl Y rfl (λ_=>Ep rfl) λd e=>fin _ d e rfl rfl (hL _) rfl rfl
 exact .ctl Y rfl (λ_=>En rfl) λd e=>fin _ d e rfl rfl (hL _) rfl rfl
def bk.hP{w:af P}{s}{fn}{args}{j:ι->m an}(F:P.funcs[s]?=f fn)(D:(fn.name== "runtime.NumGoroutine")=u)(A:fn.body=f q)(C:args.length<=fn.ntmps)(E:∀i p,bZ fn.ntmps k i (h6 0 args) p->bc k i->∀h v g (o:ai->a5->Prop),h.kind≠.early->h.roundOf=n ->
  (∀r d a b e,(∃t,bX fn (c k) (res t) (j t) r d a)->bZ fn.ntmps a b d e->bc a b->de k i a b->kG w o h v g r e b)->cd w o (G (h.N p (.code q::v)) g) i):bk w s args k res j:=
 bk.gy F D A C λi p s B h v g o x y z=>E i p s B h v g o x y λr d a b e ⟨t,I⟩=>z r d a b e ⟨t,I.toF⟩
def bk.hl{p:af P}{b}{fn}{args}{aq:ι->m an}(A:P.funcs[b]?=f fn)(w:(fn.name== "runtime.NumGoroutine")=u)(e:fn.body=f q)(t:args.length<=fn.ntmps)(x:b2 p fn.ntmps q (λv j a=>∃i,k0 P fn k.length (res i) (aq i) v j a) (h6 0 args) k):bk p b args k res aq:=
 bk.gy A w e t λB r b g s z d o h _ y=>x B r b g s z d o h y
def bk.intro{j:af P}{d}{fn}{args}{a:ι->m an}(B:P.funcs[d]?=f fn)(x:(fn.name== "runtime.NumGoroutine")=u)(g:fn.body=f q)(v:args.length<=fn.ntmps)(y:b2 j fn.ntmps q (λw o b=>∃t,bX fn k.length (res t) (a t) w o b) (h6 0 args) k):bk j d args k res a:=
 bk.hP B x g v λC r d h s A e p i _ z=>y C r d h s A e p i z
def X.intro{P}{b:af P}{d}{fn}{q}{args}{k aq}{res}(h:P.funcs[d]?=f fn)(g:(fn.name== "runtime.NumGoroutine")=u)(a:fn.body=f q)(e:args.length<=fn.ntmps)(i:b2 b fn.ntmps q (bX fn k.length res aq) (h6 0 args) k):X b d args k res aq:=
 (bk.intro h g a e (b2.mono i λ_ _ _ j=>⟨(),j⟩)).toX
inductive il where
 |code (q:Code)
 |blk (id:Nat)
 |S (all br:List ap)
def g{P}(i:af P)(h:Nat)(a:fB):m il->fB
 |[],k,b,d=>a k b d
 |.code q::e,.normal,b,d=>b2 i h q (g i h a e) b d
 |.code _::e,k,b,d=>g i h a e k b d
 |.blk id::e,.exit j,b,d=>if j=id then g i h a e .normal b d else g i h a e (.exit j) b d
 |.blk _::e,k,b,d=>g i h a e k b d
 |.S p o::e,.normal,b,d=>fi i h p o (g i h a e .normal) b d
 |.S _ _::e,k,b,d=>g i h a e k b d
section
variable {p:af P}{be:fB}{av:m il}
def g.aU(a:g p D be [.code q] .normal F k):b2 p D q be F k:=a
theorem g.skip(a:g p D be av .normal F k):g p D be (.code .skip::av) .normal F k:=b2.skip a
theorem g.seq{a b}(i:g p D be (.code a::.code b::av) .normal F k):g p D be (.code (.seq a b)::av) .normal F k:=by refine b2.seq (b2.mono i ?_);intro h d e j;cases h<;>exact j
theorem g.block{id}{q}(e:g p D be (.code q::.blk id::av) .normal F k):g p D be (.code (.block id q)::av) .normal F k:=by refine b2.block (b2.mono e ?_);intro d a b h;cases d<;>exact h
theorem g.iF{id}(a:g p D be av .normal F k):g p D be (.blk id::av) .normal F k:=a
theorem g.region{id}{aF}(a:g p D be (.S aF.toList aF.toList::av) .normal F k):g p D be (.code (.region id aF u)::av) .normal F k:=b2.region a
theorem g.hT(a:g p D be av .normal F k):g p D be (.S all []::av) .normal F k:=fi.nil a
def g.dL:∀{av:m il},be .ret F k->g p D be av .ret F k
 |[],a=>a
 |.code _::av,a=>g.dL (av:=av) a
 |.blk _::av,a=>g.dL (av:=av) a
 |.S _ _::av,a=>g.dL (av:=av) a
def g.ret(a:be .ret F k):g p D be (.code .ret::av) .normal F k:=b2.ret (g.dL a)
def iR(id:Nat):m il->Option (m il)
 |[]=>n
 |.blk b::a=>match ad id b with|true=>f a|false=>iR id a
 |_::a=>iR id a
def g.toExit{id}:∀{av e:m il},iR id av=f e->g p D be e .normal F k->g p D be av (.exit id) F k
 |[],_,a,_=>by cases a
 |.blk i::av,e,a,d=>by
  simp[iR]at a;cases b:ad id i with
  |true=>
   simp[b]at a;subst a;have h:=dn b;simp[g,h,dH];exact d
  |false=>
   simp[b]at a;have j:id≠i:=λh=>by grind[Nat.beq_refl]
   simp[g,j,dm];exact g.toExit a d
 |.code _::av,e,a,d=>g.toExit (av:=av) a d
 |.S _ _::av,e,a,d=>g.toExit (av:=av) a d
theorem g.exit{id}{b}(a:iR id av=f b)(d:g p D be b .normal F k):g p D be (.code (.exit id)::av) .normal F k:=b2.exit (g.toExit a d)
theorem g.cond{q}{b d}{i}{o}(e:q=.tmp o)(a:look F o=ax (.bool i))(j:i=l->g p D be (.code b::av) .normal F k)(h:i=u->g p D be (.code d::av) .normal F k):g p D be (.code (.cond q b d)::av) .normal F k:=b2.cond e a j h
def g.loop{bq:Type}{q}(o:bq->Prop)(a:bq->bH)(b:bq->m an)(r:bq->Nat)(d)(w:o d)(t:iA F (a d))(s:b d=k)(round:∀d,o d->g p D (λj e h=>match j with
   |.normal=>∃i,o i/\r i<r d/\iA e (a i)/\h=b i
   |j=>g p D be av j e h) [.code q] .normal (a d) (b d)):g p D be (.code (.loop q)::av) .normal F k:=by refine b2.loop o a b r d w t s λi v=>b2.mono (round i v) ?_;intro j e h x;cases j<;>exact x
end
def e0{a d:Type}:m a->(m a->Option d)->Option d
 |[],b=>b []
 |h::g,b=>e0 g λe=>b (h::e)
theorem hz{b:Type}(d)(a:m α->Option b):e0 d a=a d:=by
 induction d generalizing a with
 |nil=>rfl
 |cons h g e=>simp[e0,e]
def yw(d:bH)(a:m ap)(g:Nat):Option (Option Bool):=
 match c' g a with
 |some b=>match b.dst with
  |some e=>match look d e with
   |.n (.ar (.c (.bool l)))=>f (f l)
   |.n (.ar (.c (.bool u)))=>f (f u)
   |.Q []=>f n
   |_=>n
  |none=>n
 |none=>n
def yx{e}(s:yw F all t=f e){w}(g:bZ D k b F w):yielded all.toArray w.tmps t=e:=by
 unfold yw at s;rw[lg]at s;unfold yielded;cases a:all[t]? with
 |none=>grind
 |some d=>
  simp[a]at s;simp[j6,a,n0];cases j:d.dst with
  |none=>grind
  |some K=>
   simp[j]at s;simp[n0];have q:=g.al K;have key:∀aa,w.tmps.getD K I=aa->aa≠I->w.tmps[K]?=f aa:=by intro aa aj p;simp[hu]at aj;grind
   split at s
   .exact O0
   .exact O0
   .rename_i B;cases s;rw[B]at q;obtain⟨A,o,m⟩:=q;have h:A=[]:=by cases A with
     |nil=>rfl
     |cons _ _=>exact m.elim
    subst h;simp[hu]at o;grind
   grind
def yW(o:m (Nat×cq))(g:bH)(d:m an)(I:ap):Option (y×m an×m Prop):=
 match I.op with
 |.move e|.assign e=>f (bE g e,d,[])
 |.pick v t z=>match bE g v with
  |.n (.ar (.c (.bool l)))=>f (bE g t,d,[])
  |.n (.ar (.c (.bool u)))=>f (bE g z,d,[])
  |_=>n
 |.binOp q _ e E _=>match bE g e,bE g E with
  |.n (.ar (.c t)),.n (.ar (.c z))=>match xo q t z with
   |some (v,x)=>f (ax v,d,x)
   |none=>n
  |_,_=>n
 |.unOp q _ e=>match bE g e with
  |.n (.ar (.c t))=>match zK q t with
   |some v=>f (ax v,d,[])
   |none=>n
  |_=>n
 |.extract e C=>match bE g e with
  |.Q D=>match c' C D with
   |some p=>f (.n p,d,[])
   |none=>n
  |_=>n
 |.alloc r=>match b1 o r with
  |some j=>e0 (d++[.cells r (j.zero.map Q.c)]) λh=>f (aH (c d) 0,h,[])
  |none=>n
 |.box r e=>match mm (bE g e)with
  |some a=>e0 (d++[.cells r a]) λh=>f (aH (c d) 0,h,[])
  |none=>n
 |.load i e=>match b1 o i with
  |some j=>match bE g e with
   |.n (.ar (.ptr k b))=>match c' k d with
    |some (.cells _ a)=>match hk j (ga b a)with
     |some p=>f (.n p,d,[])
     |none=>n
    |_=>n
   |.n (.ar (.c (.M a)))=>match hk j (a.map Q.c)with
    |some p=>f (.n p,d,[])
    |none=>n
   |_=>n
  |none=>n
 |.store i e E=>match b1 o i with
  |some j=>match bE g e with
   |.n (.ar (.ptr k b))=>match c' k d with
    |some (.cells r a)=>match mm (bE g E)with
     |some new=>match ad (c new) j.size with
      |true=>match iY b new a with
       |some w=>e0 (db.cp k (.cells r w) d) λh=>f (.any,h,[])
       |none=>n
      |false=>n
     |none=>n
    |_=>n
   |_=>n
  |none=>n
 |.fieldAddr i e B=>match ld o i B with
  |some (s,_)=>match bE g e with
   |.n (.ar (.ptr k b))=>f (aH k (b+s),d,[])
   |.n (.ar (.c (.M a)))=>f (ax (.M (ga s a)),d,[])
   |_=>n
  |none=>n
 |.field i e B=>match ld o i B with
  |some (s,C)=>match bE g e with
   |.n (.agg a)=>match hk C (ga s a)with
    |some p=>f (.n p,d,[])
    |none=>n
   |_=>n
  |none=>n
 |.nilCheck e=>match bE g e with
  |.n (.ar (.ptr k b))=>f (aH k b,d,[])
  |.n (.ar (.c (.M a)))=>f (ax (.M a),d,[])
  |_=>n
 |.build i parts=>match xt o (bE g) i parts.toList with
  |some a=>f (.n (.agg a),d,[])
  |none=>n
 |.buildSlice i F parts=>match rR o (bE g) i F parts.toList with
  |some (s,A)=>f (ax (.R l s F λj=>A.getD j []),d,[])
  |none=>n
 |_=>n
theorem DQ{ac}(aV:b0 P ac){m}(a:yW ac F k r=f (m,aq,cj))(s:T cj):a0 P r (bE F) k m aq:=by
 unfold yW at a;split at a
 .grind [a0.move]
 .grind [a0.assign]
 .rename_i q v i b;split at a
  .rename_i j;cases a;exact a0.pick b j
  .rename_i j;cases a;exact a0.pick b j
  grind
 .grind [a0.binOp]
 .grind [a0.unOp]
 .grind [a0.extract,er]
 .grind [hz,a0.alloc]
 .grind [hz,a0.box]
 .rename_i o p b;split at a
  .grind [a0.hx,er,a0.hz]
  grind
 .rename_i o p x b;split at a
  .rename_i e bp;split at a
   .rename_i d off g;split at a
    .grind [hz,mN,a0.store,er,Nat.eq_of_beq_eq_true]
    grind
   grind
  grind
 .rename_i o p w b;split at a
  .rename_i h t B;split at a
   .rename_i d off g;cases a;exact a0.g' aV b g B
   .grind [a0.ha]
   grind
  grind
 .grind [a0.field]
 .grind [a0.hI,a0.hJ]
 .grind [a0.build]
 .grind [a0.buildSlice]
 grind
def fp(a:Nat):Option Nat->Bool
 |some b=>ay (b+1) a
 |none=>l
def k_{b}(e:fp D b=l):∀a,b=f a->a<D:=by intro a d;subst d;exact fl e
theorem i5(b:r.guard=n){a:Act}:aS r (yielded all.toArray a.tmps)=l:=by simp[aS,b]
section
variable {ac:m (Nat×cq)}
def kE(a:ae->y):Option ae->Option (Option Int)
 |none=>f n
 |some d=>match a d with
  |.n (.ar (.c (.int _ b)))=>f (f b)
  |_=>n
def j'{a:ae->Y}(o:∀d,bv k b (a d) (η d)){g}{i}(e:kE η g=f i):(g.map a=n/\i=n)∨∃j h,g.map a=f (.int j h)/\i=f h:=by
 cases g with
 |none=>cases e;grind
 |some d=>
  right;simp[kE]at e;split at e
  .rename_i j h m;cases e;have:=o d;rw[m]at this;have:=b8 this;generalize p:a d=q at this;cases this;grind
  grind
def bV(a:Nat):Option Int->Nat
 |none=>a
 |some b=>b.toNat
def jh(d:Nat):Option Int->Option Int->m Prop
 |none,n=>[]
 |some b,n=>[0<=b,b<=d]
 |none,f a=>[0<=a,a<=d]
 |some b,f a=>[0<=b,b<=a,a<=d]
def vW{kj}{cap}(t:j<=cap){e7 bp}{d a}(o:(e7=n/\d=n)∨∃k h,e7=f (.int k h)/\d=f h)(p:(bp=n/\a=n)∨∃k h,bp=f (.int k h)/\a=f h)(b:T (jh j d a))(e):(aW kj j cap e7 bp n).run P e=.ok (bV 0 d,bV j a,cap) e/\bV 0 d<=bV j a/\bV j a<=j:=by
 rcases o with⟨rfl,rfl⟩|⟨m,d,rfl,rfl⟩<;>rcases p with⟨rfl,rfl⟩|⟨q,a,rfl,rfl⟩
 .exact⟨by simp[aW,bV],by simp[bV],by simp[bV]⟩
 .obtain⟨g,i⟩:0<=a/\a<=(j:Int):=b;refine⟨?_,by simp[bV],by simp[bV];omega⟩;simp[aW,bV,run_sliceBound (P:=P) e q a cap _ g x]
 .obtain⟨g,i⟩:0<=d/\d<=(j:Int):=b;refine⟨?_,by simp[bV];omega,by simp[bV]⟩;simp[aW,bV,run_sliceBound (P:=P) e m d j _ g i]
 obtain⟨g,i,s⟩:0<=d/\d<=a/\a<=(j:Int):=b;have r:=rh x;refine⟨?_,by simp[bV];omega,by simp[bV];omega⟩;simp[aW,bV,run_sliceBound (P:=P) e q a cap _ x x,run_sliceBound (P:=P) e m d a.toNat _ g x]
def lb(g)(h)(e)(a:Nat)(code)(b:0<=e)(d:e<=(a:Int))(U):(Instr.sliceBound (.int h e) a code).events P g U=U:=by simp[Instr.sliceBound,asIntOf,b,d]
def u5{kj}{cap}{e7 bp}{d a}(y:j<=cap)(r:(e7=n/\d=n)∨∃k h,e7=f (.int k h)/\d=f h)(s:(bp=n/\a=n)∨∃k h,bp=f (.int k h)/\a=f h)(e:T (jh j d a))(b)(U):(aW kj j cap e7 bp n).events P b U=U:=by
 have v:∀kj (o:Option Y) (p:Nat) b U,o=n->(aW kj j cap n n n).events P b U=U:=λkj o p b U _=>by simp[aW]
 rcases r with⟨rfl,rfl⟩|⟨m,d,rfl,rfl⟩<;>rcases s with⟨rfl,rfl⟩|⟨i,a,rfl,rfl⟩
 .simp[aW]
 .obtain⟨g,q⟩:0<=a/\a<=(j:Int):=e;simp[aW,lb (P:=P) b i a cap _ g x]
 .obtain⟨g,q⟩:0<=d/\d<=(j:Int):=e;simp[aW,lb (P:=P) b m d j _ g q]
 obtain⟨g,q,w⟩:0<=d/\d<=a/\a<=(j:Int):=e;have t:=rh x;simp[aW,run_sliceBound (P:=P) b i a cap _ x x,lb (P:=P) b i a cap _ x x,lb (P:=P) b m d a.toNat _ g x]
def mo(a:m UInt8):Option Int->Option Int->m UInt8
 |none,n=>a
 |some d,n=>a.drop d.toNat
 |none,f b=>a.take b.toNat
 |some d,f b=>(a.take b.toNat).drop d.toNat
theorem a0.ki(aV:b0 P ac){q:ae}{e7 bp}(A:r.op=.slice o q e7 bp n){e}(F:b1 ac o=f e)(J:e.desc=.string){b}{d m}(K:η q=ax (.V b))(p:kE η e7=f d)(C:kE η bp=f m)(E:T (jh (c b) d m)):a0 P r η k (ax (.V (mo b d m))) k:=by
 refine .aY λi v D h=>?_;have g:=h q;rw[K]at g;replace g:=b8 g;generalize w:v q=O at g;cases g with
 |@V a _ B Q=>
 have z:a.size=c b:=by rw[<-B];exact m8.symm
 obtain⟨t,x,y⟩:=vW (P:=P) (kj:=u) (j:=a.size) (cap:=a.size) (bB _) (j' h p) (j' h C) N i.a;have s:=(aV o e F).run_underlying (M:=i.a);rw[J]at s;have I:=u5 (P:=P) (kj:=u) (j:=a.size) (cap:=a.size) (bB _) (j' h p) (j' h C) N i.a;refine⟨.string (a.extract (bV 0 d) (bV a.size m)),?_,Rd.V ?_ ?_,by simp[ab,A,w,Instr.sliceAt,s,Instr.slice,I]⟩
 .simp[ab,A,w,Instr.sliceAt,s,Instr.slice,t]
 .rw[Lib.extract_data,B,z];rw[z]at x y;cases d<;>cases m<;>simp only[mo,bV]at x y⊢
  .simp
  .simp
  .grind [List.take_of_length_le]
  rw[List.drop_take]
 cases d<;>cases m<;>simp[mo,sm,List.length_take]<;>omega
def fF(d:Nat)(a:Nat->m O):Nat->m O:=λb=>a (d+b)
def xS(eO:Bool):Option Int->Bool
 |none=>eO
 |some _=>u
theorem a0.kh(aV:b0 P ac){K:ae}{e7 a}(S:r.op=.slice o K e7 a n){e a4}(ai:b1 ac o=f e)(aj:e.desc=.slice W)(al:b1 ac W=f a4){eO}{d q}(Z:∀X Y,bv k X Y (η K)->Rd X.u Y (.R eO a4.size j U))(t:kE η e7=f d)(V:kE η a=f q)(w:T (jh j d q)):
  a0 P r η k (ax (.R (xS eO q) a4.size (bV j q-bV 0 d) (fF (bV 0 d) U))) k:=by
 refine .aY λg an ag b=>?_;have m:=Z g _ (b K);obtain⟨N,i,A,J,R,Q,O,G,ah⟩:=m.bY;rw[J]at m;obtain⟨s,ao,y⟩:=vW (P:=P) (kj:=l) R (j' b t) (j' b V) w g.a;have E:=(aV o e ai).run_underlying (M:=g.a);rw[aj]at E;refine⟨.slice (if i=bV 0 d then N else N.map (·.add (bV 0 d*a4.size))) (bV j q-bV 0 d) (i-bV 0 d),?_,?_,by simp[ab,S,J,Instr.sliceAt,E,Instr.slice,s,u5 (P:=P) (kj:=l) R (j' b t) (j' b V) w g.a]⟩
 .simp[ab,S,J,Instr.sliceAt,E,Instr.slice,s,(aV W a4 al).a_]
 cases m with
 |R aa C af _ _ _ I F v z=>
  refine Rd.R aa (C+bV 0 d*a4.size) (λe B=>af (bV 0 d+e) B) x x ?_ (λe a=>I _ x) (λaq=>?_) (λe a B D p=>?_) (λe a B D p=>z _ x B D p)
  .intro h;cases q with
   |none=>simp[xS]at h;have:=O h;simp[bV];omega
   |some q=>cases h
  .rw[bl x,F x];simp[g2]
  have:=v (bV 0 d+e) x B D p;grind
def a0.iO(aV:b0 P ac){b dst:ao}{i:ae}(w:r.op=.convert b dst i){x m:cq}{h d}{t}(o:b1 ac b=f x)(y:b1 ac dst=f m)(A:m.desc=.int d)(B:η i=ax (.int h t))(e:a8 d t):
  a0 P r η k (ax (.int d t)) k:=by refine .aY λg q z p=>?_;have a:=p i;rw[B]at a;replace a:=b8 a;generalize s:q i=C at a;cases a;have v:=(aV b x o).run_underlying (M:=g.a);have j:=(aV dst m y).run_underlying (M:=g.a);rw[A]at j;exact⟨.int d t,by simp[ab,w,s,convert,v,j,Conv.intToInt,r8 e],Rd.int e,by simp[ab,w,s,convert,v,j,Conv.intToInt]⟩
theorem a0.iP(aV:b0 P ac){a dst:ao}{g:ae}(t:r.op=.convert a dst g){v m:cq}{b}(i:b1 ac a=f v)(w:b1 ac dst=f m)(y:m.desc=.string)(z:η g=ax (.V b)):
  a0 P r η k (ax (.V b)) k:=by refine .aY λe o x j=>?_;have d:=j g;rw[z]at d;have s:=b8 d;generalize p:o g=A at s;cases s;have q:=(aV a v i).run_underlying (M:=e.a);have h:=(aV dst m w).run_underlying (M:=e.a);rw[y]at h;exact⟨_,by simp[ab,t,p,convert,q,h];rfl,by grind,by simp[ab,t,p,convert,q,h]⟩
def uP(a:Nat->m O):Nat->Nat->Option (m UInt8)
 |_,0=>f []
 |b,d+1=>match a b with
  |[.int .u8 g]=>match uP a (b+1) d with
   |some e=>f (UInt8.ofNat g.toNat::e)
   |none=>n
  |_=>n
def Hb{bA}{s:Nat->m O}:∀{h e:Nat}{i:m UInt8}{A:m Y},uP s e h=f i->c A=h->(∀g,g<h->∀j,(s (e+g))[0]?=f j->∃o,A[g]?=f o/\Rd bA o j) ->
  ∃b:m Int,A=b.map (Value.int .u8)/\i=b.map (λk=>UInt8.ofNat k.toNat)
 |0,e,i,A,d,p,_=>by cases d;exact⟨[],by grind,a⟩
 |h+1,e,i,[],d,p,_=>by grind
 |h+1,e,i,o::A,d,p,q=>by
  simp[uP]at d;split at d
  .rename_i k C;split at d
   .rename_i D t;cases d;obtain⟨E,r,v⟩:=q 0 x (.int .u8 k) N
    simp at r;subst r;cases v;obtain⟨b,z,y⟩:=Hb (A:=A) t N (λg w j B=>by
     have:=q (g+1) x j N
     simpa using this)
    exact⟨k::b,by grind,by grind⟩
   grind
  grind
def Mb{P}(e){g:Y->ByteArray->Sem (ForInStep ByteArray)}(h:∀d b,g (.int .u8 d) b=pure (.yield (b.push (UInt8.ofNat d.toNat)))):∀(a:m Int)b,
  (forIn (m:=Sem) (a.map (Value.int .u8)) b g).run P e=.ok ⟨b.data++(a.map λd=>UInt8.ofNat d.toNat).toArray⟩ e
 |[],b=>by simp
 |d::a,b=>by simp only[me,List.forIn_cons,h,cJ,dZ,c8];rw[Mb e h a];congr 2;apply Array.ext';simp[ByteArray.push]
end
def aK(p:af P)(w:Nat)(a:m ap)(s:ap)(v:bH)(i:m an)(x:y)(e:m an):Prop:=
  ∀h j,bZ w i h v j->bc i h->∀(k:aJ) r g (o:ai->a5->Prop) q b,k.kind≠.early->a.toArray[q]?=f s ->
    (∀t d,bv e d t x->bc e d->de i h e d->cd p o (G (k.N (j.put s.dst t) (.inRegion a.toArray b::r)) g) d)->cd p o (G (k.N j (.inRegion a.toArray (q::b)::r)) g) h
section
variable {p:af P}{dG:bH}{C:y}
theorem aK.aZ(N:∀k B e,bZ D k B F e->aS r (yielded all.toArray e.tmps)=l)(K:a0 P r (bE F) k C aq):aK p D all r F k C aq:=by
  intro B e x i R T J Q S w s t h;refine ro s t (N _ _ _ x) λo j=>?_;have m:=i.rely j;obtain⟨O,b,g,d,q,z,M⟩:=K o e.eval m (eQ (x.rely j i));have y:=j.aH.trans (z.too1 m);have A:ky o b ((ab e.eval r).events P o.a #[]):=⟨⟨k,aq,m,q,z⟩,M⟩;cases O with
  |value E=>exact⟨_,b,E,g,.inl rfl,A,h E b d q y⟩
  |skip=>simp[AA]at d;subst d;exact⟨_,b,I,g,.inr ⟨a,a⟩,A,h I b v q y⟩
  |_=>exact d.elim
def aK.hV(o:∀k j d,bZ D k j F d->aS r (yielded all.toArray d.tmps)=u):aK p D all r F k (.Q []) k:=by intro j d s b x z m w y h t g e;exact .ctl b a (λ_=>abE g (o _ _ _ s)) λq i=>e I q ⟨[],a,v⟩ (b.rely i) i.aH
def fi.dg{aM:bH->m an->Prop}(N:aK p D all r F k C aq)(M:∀q,r.dst=f q->q<D)(Q:fi p D all br aM (gf r.dst C F) aq):fi p D all (r::br) aM F k:=by
  intro S I t b E i e B idx g a x;cases idx with
  |nil=>exact a.elim
  |cons O idx=>
  refine N S I t b E i e B O idx g a.1 λT z y h d=>Q z _ ?_ h E i e B idx g a.2 λJ o A s R v w j=>x J o A s R v w (d.trans j);cases K:r.dst with
  |none=>exact t.mono d b.len
  |some q=>exact(t.mono d b.len).put (M q K) y
end
abbrev bJ:=m y->m an->Option (y×m an×m Prop)
def tc:m (Nat×bJ)->Nat->Option bJ
  |[],_=>n
  | (d,b)::e,a=>cond (ad d a) (f b) (tc e a)
def bK(g:af P)(h:a2)(i:bJ):Prop:=∀args e b d a,i args e=f (b,d,a)->T a->X g h args e b d
def a9(e:af P)(a:m (Nat×bJ)):Prop:=∀b d,tc a b=f d->bK e b d
def a9.nil{a:af P}:a9 a []:=λ_ _ b=>by cases b
def a9.cons{d:af P}{e}{B}{CT}(j:bK d e B)(i:a9 d CT):a9 d ((e,B)::CT):=by
  intro b g a;simp[tc]at a;cases h:ad e b with
  |true=>grind[Nat.eq_of_beq_eq_true]
  |false=>rw[h]at a;exact i b g a
def n6:Q->m Nat->m Nat
  |.ptr b _,a=>cond (eg b a) a (a++[b])
  |.w b _ _ _,a=>cond (eg b a) a (a++[b])
  |.aK b,a=>cond (eg b a) a (a++[b])
  |.K b _,a=>cond (eg b a) a (a++[b])
  |_,a=>a
def G':m Q->m Nat->m Nat
  |[],a=>a
  |b::d,a=>G' d (n6 b a)
def qg:y->m Nat->m Nat
  |.n (.ar d),a=>n6 d a
  |.n (.agg b),a=>G' b a
  |_,a=>a
def G_:m y->m Nat->m Nat
  |[],a=>a
  |b::d,a=>G_ d (qg b a)
def s7(b:Nat):m Nat->Nat->Option Nat
  |[],_=>n
  |d::e,a=>match ad d b with|true=>f a|false=>s7 b e (a+1)
def Kh{d}:∀{b:m Nat} {e g:Nat},s7 d b e=f g->e<=g/\b[g-e]?=f d
  |[],_,_,a=>by cases a
  |i::o,e,g,a=>by
    simp[s7]at a;cases h:ad i d with
    |true=>simp_all
    |false=>
      rw[h]at a;obtain⟨j,k⟩:=Kh a;grind
def tO(a:m Nat):Q->Option Q
  |.ptr d e=>match s7 d a 0 with|some b=>f (.ptr b e)|none=>n
  |.aK d=>match s7 d a 0 with|some b=>f (.aK b)|none=>n
  |.K d g=>match s7 d a 0 with|some b=>f (.K b g)|none=>n
  |.w _ _ _ _=>n
  |.c h=>f (.c h)
  |.any=>f .any
def zL(a:m Nat):m Q->Option (m Q)
  |[]=>f []
  |b::g=>match tO a b with
    |some d=>match zL a g with
      |some e=>f (d::e)
      |none=>n
    |none=>n
def EZ(a:m Nat):y->Option y
  |.n (.ar e)=>match tO a e with|some b=>f (.n (.ar b))|none=>n
  |.n (.agg d)=>match zL a d with|some b=>f (.n (.agg b))|none=>n
  |.Q _=>n
  |.any=>f .any
def tP(a:m Nat):m y->Option (m y)
  |[]=>f []
  |b::g=>match EZ a b with
    |some d=>match tP a g with
      |some e=>f (d::e)
      |none=>n
    |none=>n
def Nl{b i}(a:tO aT b=f i):kq aT i=b/\lT (c aT) i=l:=by
  cases b with
  |ptr d k=>
    simp[tO]at a;split at a
    · rename_i e bp
      cases a;exact Fz
    grind
  |aK d=>
    simp[tO]at a;split at a
    · rename_i e bp
      cases a;exact Fz
    grind
  |K d m=>
    simp[tO]at a;split at a
    · rename_i e bp
      cases a;exact Fz
    grind
  |w d h j g=>cases a
  |c o=>cases a;exact cT
  |any=>cases a;exact cT
def No{aT}:∀{d b:m Q},zL aT d=f b->qM aT b=d/\li (c aT) b=l
  |[],b,a=>by cases a;exact cT
  |d::p,b,a=>by
    simp[zL]at a;split at a
    · rename_i q k
      split at a
      · rename_i o e
        cases a;obtain⟨i,g⟩:=Nl k;obtain⟨j,h⟩:=No e;exact⟨by simp[qM,i,j],by simp[li,g,h]⟩
      grind
    grind
def adV{b i}(a:EZ aT b=f i):fg aT i=b/\hR (c aT) i=l:=by
  unfold EZ at a;split at a
  · rename_i b
    split at a
    · rename_i j e;cases a;obtain⟨d,h⟩:=Nl e;exact⟨by simp[fg,py,d],by exact cT⟩
    grind
  · rename_i g
    split at a
    · rename_i j e;cases a;obtain⟨d,h⟩:=No e;exact⟨by simp[fg,py,d],by exact cT⟩
    grind
  · cases a
  · cases a;exact cT
def Nn{aT}:∀{d b:m y},tP aT d=f b->gq aT b=d/\hd (c aT) b=l
  |[],b,a=>by cases a;exact cT
  |d::p,b,a=>by
    simp[tP]at a;split at a
    · rename_i q k
      split at a
      · rename_i o e
        cases a;obtain⟨i,g⟩:=adV k;obtain⟨j,h⟩:=Nn e;exact⟨by simp[gq,i,j],by simp[hd,g,h]⟩
      grind
    grind
def BS(j:m (Nat×bJ))(q:bH)(k:m an)(o:ae)(p:m ae):Option (y×m an×m Prop):=
  match g3 (bE q o)with
  |none=>n
  |some (r,g)=>match tc j r with
    |none=>n
    |some s=>
      let args:=k6 (p.map (bE q)++fc g);let a:=G_ args []
      match tP a args with
      |none=>n
      |some d=>match dy a k with
        |none=>n
        |some e=>match s d e with
          |none=>n
          |some (i,b,h)=>match ey e,ey b,ff a,ay (c a) (c b) with
            |true,l,l,l=>f (fg (a++gW (c k) (c b-c a)) i,db a b k,h)
            |_,_,_,_=>n
theorem aK.gY{J:af P}{CT}(p:a9 J CT)(H:∀k g b,bZ D k g F b->aS r (yielded all.toArray b.tmps)=l)(e:r.op=.call {callee:=.value cP,args:=ag,argTypes:=dt}){i}(h:g3 (bE F cP)=f (i,cap)){B}(aw:tc CT i=f B){aP}{res}(O:tP aT (k6 (ag.toList.map (bE F)++fc cap))=f cR)(X:dy aT k=f dh)(aq:B cR dh=f (res,aP,cj))(Z:ey dh=l)(av:ey aP=l)(y:ff aT=l)(Y:c aT<=c aP)(ao:T cj):aK J D all r F k (fg (aT++gW (c k) (c aP-c aT)) res) (db aT aP k):=by
  obtain⟨al,W⟩:=Nn O;intro g b A t az aj ab ax aB E s v q;have S:=p i B aw _ _ _ _ _ aq ao;have U:=eQ A cP;unfold g3 at h;split at h
  case h_2=>cases h
  case h_1 u9 uU he=>
    cases h;rw[he]at U;have M:=b8 U;generalize G:b.eval cP=ah at M;cases M with
    |fn m a x d ae j ai o ar C=>
      have Q:m=[]:=jD x;subst Q;have an:b4 k g a (fc cap):=qi (λz aa w=>⟨j z,o z N,C z aa w⟩) d;have au:b4 k g (ag.toList.map b.eval++a) (gq aT cR):=by rw[al];exact uT ((m5 (eQ A) ag.toList).append an)
      obtain⟨fn,V,R,K⟩:=S.1;exact GO s v (H _ _ _ A) t (λI=>(mL e V R K G I).1) (λI=>(mL e V R K G I).2) S au W X Z av y Y q
theorem aK.call{b:af P}{CT}(g:a9 b CT){C}(p:∀k j d,bZ D k j F d->aS r (yielded all.toArray d.tmps)=l)(i:r.op=.call {callee:=.value cP,args:=ag,argTypes:=dt})(a:BS CT F k cP ag.toList=f (C,aq,cj))(m:T cj):aK b D all r F k C aq:=by
  unfold BS at a;split at a
  · cases a
  rename_i q e h;split at a
  · cases a
  rename_i s o;simp only at a;split at a
  · cases a
  grind[aK.gY,Nat.le_of_ble_eq_true]
def L3{g}(e:hR 0 g=l):fg [] g=g:=by
  have j:∀{a:Q},lT 0 a=l->kq [] a=a:=by intro a d;cases a<;>simp[lT]at d<;>first|rfl|simp_all
  have p:∀{b:m Q},li 0 b=l->qM [] b=b:=by
    intro b;induction b with
    |nil=>exact cT
    |cons a q h=>
      intro e;simp[li]at e;cases d:lT 0 a with
      |false=>grind
      |true=>simp[d]at e;simp[qM,j d,h e]
  have i:∀{a:E1},po 0 a=l->py [] a=a:=by
    intro a d;cases a with
    |ar a=>simp[py,j d]
    |agg o=>simp[py,p d]
  have k:∀{b:m E1},oq 0 b=l->tt [] b=b:=by
    intro b;induction b with
    |nil=>exact cT
    |cons a q h=>
      intro e;simp[oq]at e;cases d:po 0 a with
      |false=>grind
      |true=>simp[d]at e;simp[tt,i d,h e]
  cases g with
  |n s=>simp[fg,i e]
  |Q r=>simp[fg,k e]
  |any=>rfl
def BT(g:m (Nat×bJ))(j:bH)(h:ae)(i:m ae):Option (y×m Prop):=
  match g3 (bE j h)with
  |none=>n
  |some (k,d)=>match tc g k with
    |none=>n
    |some o=>match tP [] (k6 (i.map (bE j)++fc d))with
      |none=>n
      |some a=>match o a []with
        |some (b,[],e)=>match hR 0 b with
          |true=>f (b,e)
          |false=>n
        |_=>n
theorem aK.iJ{P:aE}{o:af P}{D}{all}{F}{k}{r}{CT}(h:a9 o CT){cP}{ag}{dt}{C}{cj}(x:∀k y p,bZ D k y F p->aS r (yielded all.toArray p.tmps)=l)(j:r.op=.call {callee:=.value cP,args:=ag,argTypes:=dt})(b:AM.BT CT F cP ag.toList=f (C,cj))(t:T cj):aK o D all r F k C k:=by
  unfold AM.BT at b;split at b
  · cases b
  rename_i z q i;split at b
  · cases b
  rename_i A v;split at b
  · cases b
  rename_i g e;split at b
  case h_2=>cases b
  rename_i s m d;split at b
  case h_2=>cases b
  rename_i w;cases b;have:=aK.gY (k:=k) h x j i v e a d a a a (bB _) t;simpa[gW,L3 w,db]using this
structure l8(D:Nat)(k:m an)(b:a5)(Gn:Nat->y)(w:Act):Prop where
 size:w.tmps.size=D
 defers:∃nz,i7 k b w.defers nz
 al:∀o,bv k b (w.tmps.getD o I) (Gn o)
def l8.fg{e:Nat->y}{g}(d:l8 D k b e g)(i:∀a k b h,bv k b h (e a)->bv k b h (look F a)):bZ D k b F g:=
 ⟨d.size,d.defers,λa=>i a _ _ _ (d.al a)⟩
def eS(a:Edge):Bool:=Region.binds .any a
structure q'{P:aE}(p:af P)(D:Nat)(aF:Array ap)(F:bH)(bq:Nat->m an)(C:Nat->y)(S:Nat->bH)(qu q:Nat->Bool)(z:Nat->Nat->Prop)(idx:Nat->Option Nat)(dG:bH):Prop where
 kt:P.follows Departure.mixedOrders=l
 cO:∀e r,aF[e]?=f r->∀aj∈r.after,eS aj=l->aj.on<e
 eV:∀e r K,aF[e]?=f r->r.dst=f K->idx K=f e/\K<D
 dQ:∀K e,idx K=f e->∃r,aF[e]?=f r/\r.dst=f K
 aY:∀e,q e=u->bq (e+1)=bq e
 ar:∀e r,aF[e]?=f r->qu e=u->aK p D aF.toList r (S e) (bq e) (C e) (bq (e+1))
 all:∀e r,aF[e]?=f r->qu e=l->q e=u/\∀h,aK p D aF.toList r (S e) (bq h) (C e) (bq h)
 fu:∀L:Nat->Prop,(∀e r,aF[e]?=f r->L e->∀aj∈r.after,eS aj=l->L aj.on)->∀e t,z e t->(L e->L t)/\∃r,aF[e]?=f r/\((∀aj∈r.after,eS aj=l->L aj.on)->L t)
 comp:∀e al,e<aF.size->al<aF.size->q al=l->e≠al->qu e=u->(al<e/\z e al)∨(e<al/\z al e)
 eU:∀e r,aF[e]?=f r->∀o k b aa,bv k b aa (match idx o with|some t=>(if ∃aj∈r.after,eS aj=l/\aj.on=t then C t else if ∃vE,aF[t]?=f vE/\∃aj∈vE.after,eS aj=l/\aj.on=e then look F o else .any)|none=>look F o)->bv k b aa (look (S e) o)
 fin:∀o k b aa,bv k b aa (match idx o with|some t=>C t|none=>look F o)->bv k b aa (look dG o)
open Classical in
noncomputable def gH(b:bH)(e:Nat->y)(idx:Nat->Option Nat)(L:Array Bool)(a:Nat):y:=
 match idx a with
 |some d=>if L.getD d u=l then e d else look b a
 |none=>look b a
theorem pr:e∈aQ .any aF L↔∃h,aF[e]?=f h/\L.getD e l=u/\∀a∈h.after,eS a=l->L.getD a.on u=l:=by
 unfold aQ;simp[jd,rj,cl,jc];constructor
 .rintro⟨b,B,i⟩;rw[iE b]at i;simp only[lC,h5,Array.all_eq_true',jE,jc]at i;refine⟨aF[e],iE b,B,λa d g=>?_⟩;rcases i a d with k|k
  .unfold eS at g;grind
  grind
 rintro⟨h,b,B,i⟩;have j:e<aF.size:=(jb.1 b).1;refine⟨j,B,?_⟩;rw[b];simp only[lC,h5,Array.all_eq_true',jE,jc];intro a d;cases g:Region.binds .any a with
 |false=>grind
 |true=>exact .inr (i a d g)
section
variable {p:af P}{dG:bH}{bq:Nat->m an}{C:Nat->y}{S:Nat->bH}{qu q:Nat->Bool}{z:Nat->Nat->Prop}{idx:Nat->Option Nat}
def q'.chain(j:q' p D aF F bq C S qu q z idx dG){e}:∀{h:Nat},e<=h->(∀b,e<=b->b<h->q b=u)->bq h=bq e
 |0,g,_=>by grind
 |h+1,g,i=>by
  rcases dW h e with a|a
  .grind
  rw[j.aY h (i h a x),j.chain (h:=h) a (λb d k=>i b d x)]
def q'.last(j:q' p D aF F bq C S qu q z idx dG)(E:∀r,r<aF.size->L.getD r u=l){h}{e}{m}(k:h<=aF.size)(K:∀i,i<aF.size->q i=l->(L.getD i u=l↔i<h))(o:l8 D (bq h) b (gH F C idx L) m)(a:bc (bq h) b)(g:de (bq 0) e (bq h) b):
  bZ D (bq aF.size) b dG m/\bc (bq aF.size) b/\de (bq 0) e (bq aF.size) b:=by
 have w:bq aF.size=bq h:=j.chain k (λI x y=>by grind);rw[<-w]at o a g;refine⟨o.fg λt v b B s=>j.fin t v b B ?_,a,g⟩;unfold gH at s;cases d:idx t with
 |none=>grind
 |some J=>
  simp only[d]at s⊢;obtain⟨M,A,_⟩:=j.dQ _ _ d;grind
theorem mx(a:e<L.size):(L.setIfInBounds e l).getD t u=l↔t=e∨L.getD t u=l:=FY
theorem xR:∀{d:m Bool}{e:Nat},d[e]?=f u->c ((d.set e l).filter (λa=>!a))+1=c (d.filter (λa=>!a))
 |[],_,b=>by grind
 |a::g,0,b=>by grind
 |a::g,e+1,b=>by simp at b;have:=xR (d:=g) b;cases a<;>simp[List.set_cons_succ]<;>omega
theorem Dt(o)(L):Region.linearise.go .any aF 0 o L []=[]:=by simp[Region.linearise.go]
theorem vw(j o)(L):Region.linearise.go .any aF (j+1) o L []=match(aQ .any aF L)[o % c (aQ .any aF L)]? with
  |some a=>a::Region.linearise.go .any aF j (o / c (aQ .any aF L)) (L.setIfInBounds a l) []
  |none=>[]:=by
 simp only[Region.linearise.go]
 change (match(aQ .any aF L)[o % c (aQ .any aF L)]? with
   |some a=>Region.linearise.go .any aF j (o / c (aQ .any aF L)) (L.setIfInBounds a l) [a]
   |none=>[].reverse)=_
 grind[linearise_go_acc]
def q'.eP(s:q' p D aF F bq C S qu q z idx dG){ab:ai->a5->Prop}{r:aJ}{y}(I:r.kind≠.early){cG}(aN:∀b d,bZ D (bq aF.size) b dG d->bc (bq aF.size) b->de (bq 0) cG (bq aF.size) b->cd p ab (G (r.N d y) ah) b):
  ∀K L,L.size=aF.size->c (L.toList.filter (λr=>!r))<=K ->
   (∀e A,aF[e]?=f A->L.getD e u=l->∀m∈A.after,eS m=l->L.getD m.on u=l) ->
   ∀j b d,j<=aF.size->(∀g,g<aF.size->q g=l->(L.getD g u=l↔g<j))->l8 D (bq j) b (gH F C idx L) d->bc (bq j) b->de (bq 0) cG (bq j) b ->
   ∀k,cd p ab (G (r.N d (.inRegion aF (Region.linearise.go .any aF K k L [])::y)) ah) b:=by
 have fin:∀b d,bZ D (bq aF.size) b dG d->bc (bq aF.size) b->de (bq 0) cG (bq aF.size) b->cd p ab (G (r.N d (.inRegion aF []::y)) ah) b:=
  λb d kz j4 Gp=>.ctl j4 a (λ_=>v3) λaW aG=>aN aW d (kz.rely aG j4) (j4.rely aG) (Gp.trans aG.aH)
 intro K;induction K with
 |zero=>
  intro L aU aP J j b d bW Db om bO b_;have Q:∀e,e<aF.size->L.getD e u=l:=by
   intro e t;have av:L[e]'x∈L.toList:=E;cases I:L[e]'x with
   |true=>simp[hu,iE (by omega:e<L.size),I]
   |false=>
    have:L[e]'x∈L.toList.filter (λr=>!r):=jd.2 ⟨av,by grind⟩;grind
  intro k;rw[Dt];exact Oq
 |succ K aV=>
  intro L aU aP J j b d bW Db om bO b_;intro k;rw[vw];cases ba:(aQ .any aF L)[k % c (aQ .any aF L)]? with
  |none=>
   have aT:aQ .any aF L=[]:=by
    cases aT:aQ .any aF L with
    |nil=>rfl
    |cons bf bb=>
     grind[Nat.mod_lt]
   have Q:∀e,e<aF.size->L.getD e u=l:=by
    intro e;induction e using Nat.strongRecOn with
    |_ e a8=>
     intro t;cases I:L.getD e u with
     |true=>rfl
     |false=>
      have av:e∈aQ .any aF L:=pr.2 ⟨aF[e],iE t,by
       grind,λm X af=>by
       have:=s.cO e _ (iE t) m X af
       grind⟩
      grind
   exact Oq
  |some e=>
   have t:=b' ba;obtain⟨A,v,a6,aR⟩:=pr.1 t;have aE:e<aF.size:=(jb.1 v).1;have H:¬L.getD e u=l:=N;have T:=s.fu (λV=>L.getD V u=l) J;have aC:∀i,z i e->¬L.getD i u=l:=λi an aL=>H ((T i e an).1 aL);have a7:∀i,z e i->L.getD i u=l:=λi an=>by grind
   have O:(L.setIfInBounds e l).size=aF.size:=N;have a9:c ((L.setIfInBounds e l).toList.filter (λr=>!r))<=K:=by have h:L.toList[e]?=f u:=Q1;grind[xR]
   have a':∀V aB,aF[V]?=f aB->(L.setIfInBounds e l).getD V u=l->∀m∈aB.after,eS m=l->(L.setIfInBounds e l).getD m.on u=l:=wH
   have al:bZ D (bq j) b (S e) d:=om.fg λk a_ b Z Y=>s.eU e A v k a_ b Z (by
    unfold gH at Y;cases bd:idx k with
    |none=>grind
    |some V=>
     simp only[bd]at Y⊢;split
     .grind
     .split
      .grind
      .trivial)
   have aM:∀B o Z,de (bq j) b B o->bv B o Z (C e)->l8 D B o (gH F C idx (L.setIfInBounds e l)) (d.put A.dst Z):=by
    intro B o Z W Y;cases aO:A.dst with
    |none=>
     refine⟨om.size,om.defers.imp λ_ h=>h.mono W.ext,λk=>?_⟩;have M:=(om.al k).mono W.ext bO.len;simp only[Act.put];unfold gH at M⊢;cases bd:idx k with
     |none=>grind
     |some V=>
      exact OR
    |some aI=>
     obtain⟨ar,a4⟩:=s.eV e A aI v aO;refine⟨by simp[Act.put,om.size],om.defers.imp λ_ h=>h.mono W.ext,λk=>?_⟩;simp only[Act.put];by_cases m:aI=k
     .subst m;have ax:aI<d.tmps.size:=by rw[om.size];omega
      simp only[hu,uC ax,h5];unfold gH;simp only[ar];rw[bo ((mx x).2 (.inl a))];exact Y
     have M:=(om.al k).mono W.ext bO.len;simp only[hu]at M⊢;rw[sA m];unfold gH at M⊢;cases bd:idx k with
     |none=>grind
     |some V=>
      exact OR
   have aZ:∀w,w<=aF.size->aK p D aF.toList A (S e) (bq j) (C e) (bq w)->(∀g,g<aF.size->q g=l->((L.setIfInBounds e l).getD g u=l↔g<w)) ->
     cd p ab (G (r.N d (.inRegion aF (e::Region.linearise.go .any aF K (k / c (aQ .any aF L)) (L.setIfInBounds e l) [])::y)) ah) b:=by intro w au aw U;have:=aw b d al bO r y ah ab e (Region.linearise.go .any aF K (k / c (aQ .any aF L)) (L.setIfInBounds e l) []) I N;simp only[xa]at this;exact this λZ o Y aq W=>aV _ O a9 a' w o _ au U (aM _ _ _ W Y) aq (b_.trans W) _
   have same:q e=u->∀g,g<aF.size->q g=l->((L.setIfInBounds e l).getD g u=l↔g<j):=wH;cases az:qu e with
   |true=>
    obtain⟨aS,R⟩:=s.all e A v az;exact aZ j bW (R j) (same aS)
   |false=>
    have aD:=s.ar e A v az;have a2:bq e=bq j:=by
     rcases Nat.le_total j e with aH|aH
     .refine s.chain aH λi h ae=>?_;cases X:q i with
      |false=>rfl
      |true=>
       exfalso;rcases s.comp e i aE x X x az with⟨_,aa⟩|⟨aa,_⟩
       .grind
       omega
     refine(s.chain aH λi h ae=>?_).symm;cases X:q i with
     |false=>rfl
     |true=>
      exfalso;have a3:=(Db i x X).2 ae;by_cases ao:i=e
      .grind
      rcases s.comp e i aE x X (λm=>ao m.symm) az with⟨aa,_⟩|⟨_,aa⟩
      .omega
      grind
    rw[a2]at aD;cases a0:q e with
    |false=>
     rw[s.aY e a0,a2]at aD;exact aZ j bW aD (same a0)
    |true=>
     refine aZ (e+1) x aD λg ag aj=>?_;rw[mx x];by_cases a1:g=e
     .grind
     simp only[a1,false_or];rcases s.comp e g aE ag aj (λm=>a1 m.symm) az with⟨h,aa⟩|⟨h,aa⟩
     .grind
     grind
end
def wR(P:aE):m TypeDesc->m Field->Nat->Prop
 |[],[],_=>True
 |e::a,b::d,g=>b.name≠ "_"/\b.offset=g/\P.underlying b.type=f e/\(match e with|.int _|.string|.bool=>True|_=>False)/\wR P a d (g+1)
 |_,_,_=>False
def u3(g:Nat)(b d:Array Y)(a:Field)(_:Option Bool×Unit):Sem (ForInStep (Option Bool×Unit)):=
 if a.name= "_" then pure (ForInStep.yield (n,()))
 else do
  let e<-part a.type b a.offset;let i<-part a.type d a.offset;let h<-aO g a.type e i
  if h=u then pure (ForInStep.done (f u,()))else pure (ForInStep.yield (n,()))
def Ma{P}(j)(v)(ag e):∀{h:m TypeDesc}{s:m Field}{g:Nat}{A x:m Y}{k:Bool},wR P h s g->nf h A x=f k->(∀p d,A[p]?=f d->ag[g+p]?=f d)->(∀p d,x[p]?=f d->e[g+p]?=f d) ->
  (Op.eqFields (v+1) ag e s).run P j=.ok k j/\∀b,(forIn s (n,()) (u3 (v+1) ag e)).events P j b=b
 |[],[],g,[],[],k,_,i,_,_=>by cases i;simp[Op.eqFields]
 |[],[],g,_::_,_,k,_,i,_,_=>by cases i
 |[],[],g,[],_::_,k,_,i,_,_=>by cases i
 |[],_::_,g,_,_,k,I,_,_,_=>I.elim
 |_::_,[],g,_,_,k,I,_,_,_=>I.elim
 |B::h,o::s,g,[],_,k,_,i,_,_=>by cases i
 |B::h,o::s,g,_::_,[],k,_,i,_,_=>by cases i
 |B::h,o::s,g,d::A,q::K,k,⟨M,U,J,V,G⟩,i,y,O=>by
  simp[nf]at i;cases w:rC B d q with
  |none=>grind
  |some C=>
   cases Q:nf h A K with
   |none=>grind
   |some W=>
    simp[w,Q]at i;subst i;obtain⟨aa,Z⟩:=Ma j v ag e G Q (λp d H=>by have:=y (p+1) d N;grind) (λp d H=>by have:=O (p+1) d N;grind);have E:ag[g]?=f d:=by simpa using y 0 d a
    have D:e[g]?=f q:=by simpa using O 0 q a
    have S:(isAgg o.type).run P j=.ok u j:=by unfold isAgg underlying;cases B<;>simp at V<;>simp[J]
    have z:∀r t,r[g]?=f t->(part o.type r o.offset).run P j=.ok t j:=by intro r t F;unfold part;simp[S,U,F]
    have T:∀r t,r[g]?=f t->∀b,(part o.type r o.offset).events P j b=b:=by intro r t F b;unfold part;simp[S,U,F]
    have X:∀b,(aO (v+1) o.type d q).events P j b=b:=by
     intro b;unfold rC at w;split at w<;>first
      |(cases w;done)
      |(unfold aO;simp[underlying,J];done)
      |(unfold aO;simp[underlying,J];split<;>rfl)
    have R:(aO (v+1) o.type d q).run P j=.ok C j:=by unfold rC at w;grind[run_equalIn_int,run_equalIn_string,run_equalIn_bool]
    refine⟨?_,λb=>?_⟩
    .rw[Op.eqFields.eq_2,bo M];simp[cJ,z ag d E,z e q D,R,c8];cases C
     .simp
     grind
    rw[List.forIn_cons];simp[u3,M,dm,aD,cJ,z ag d E,z e q D,R,c8,aG,T ag d E,T e q D,X];cases C
    .simp
    simpa using Z b
def YE{e:m Field}{bg}(i:P.underlying o=f (.struct e.toArray))(k:P.stoodInHeld o=u)(v:P.eqGuardType P.depth o=u)(p:wR P bg e 0):
  P.eqGuardType P.depth o=u/\∀d A b g,nf bg A b=f g->(Op.equal o (.agg A.toArray) (.agg b.toArray)).run P d=.ok g d/\∀a,(Op.equal o (.agg A.toArray) (.agg b.toArray)).events P d a=a:=by
 refine⟨v,λd A b g r=>?_⟩;have y:P.fieldsOf o=e.toArray:=by unfold Program.fieldsOf;rw[i]
 have key:=Ma d 9998 A.toArray b.toArray p r (λt x q=>by grind) (λt x q=>by grind);refine⟨?_,λa=>?_⟩
 rotate_left
 .show (aO (9999+1) o _ _).events P d a=a;have s:=key.2 a;unfold aO;simp[underlying,i,k];show Result.evThen ((forIn e (n,()) (u3 9999 A.toArray b.toArray)).run P d) ((forIn e (n,()) (u3 (9998+1) A.toArray b.toArray)).events P d a) _=a;rw[s];cases(forIn e (n,()) (u3 9999 A.toArray b.toArray)).run P d with
  |ok j h=>obtain⟨w,_⟩:=j;cases w<;>rfl
  |halt z h=>rfl
 show(aO (9999+1) o _ _).run P d=_;grind[run_equalIn_agg]
def ql:m TypeDesc->m Q->m Q->Option Bool
 |[],[],[]=>f l
 |.int _::b,.c (.int j e)::a,.c (.int i g)::d=>match s8 j i with
  |true=>match ql b a d with
   |some h=>f ((e==g)&&h)
   |none=>n
  |false=>n
 |.string::b,.c (.V e)::a,.c (.V g)::d=>match ql b a d with
  |some h=>f ((e==g)&&h)
  |none=>n
 |.bool::b,.c (.bool e)::a,.c (.bool g)::d=>match ql b a d with
  |some h=>f ((e==g)&&h)
  |none=>n
 |_,_,_=>n
def Cn:∀{i:m TypeDesc}{g j:m Q}{z:Bool}{A a:m Y},ql i g j=f z->bM k b A g->bM k b a j->nf i A a=f z:=by
 intro i;induction i with
 |nil=>
  intro g j z A a o r q;cases g<;>cases j<;>simp only[ql,reduceCtorEq]at o
  cases A<;>cases a<;>first|exact r.elim|exact q.elim|exact cT
 |cons J i s=>
  intro g j z A a o r q;unfold ql at o;split at o
  .grind
  .rename_i d t h v C I e dJ heq;cases heq;split at o
   .rename_i bW;cases Di bW;split at o
    .rename_i D B;cases o;cases A with
     |nil=>exact r.elim
     |cons x A=>cases a with
      |nil=>exact q.elim
      |cons y a=>
       obtain⟨p,w⟩:=r;obtain⟨w1,w2⟩:=q;cases(show Rd b.u x (.int h v)from p);cases(show Rd b.u y (.int h e)from w1);simp[nf,rC,s B w w2]
    grind
   grind
  .rename_i t v C e dJ heq;cases heq;split at o
   .rename_i D B;cases o;cases A with
    |nil=>exact r.elim
    |cons x A=>cases a with
     |nil=>exact q.elim
     |cons y a=>
      obtain⟨p,w⟩:=r;obtain⟨w1,w2⟩:=q;cases(show Rd b.u x (.V v)from p)with
      |V E _=>
      cases(show Rd b.u y (.V e)from w1)with
      |V F _=>
      simp[nf,rC,s B w w2];grind[ByteArray.toList_eq]
   grind
  .rename_i t v C e dJ heq;cases heq;split at o
   .rename_i D B;cases o;cases A with
    |nil=>exact r.elim
    |cons x A=>cases a with
     |nil=>exact q.elim
     |cons y a=>
      obtain⟨p,w⟩:=r;obtain⟨w1,w2⟩:=q;cases(show Rd b.u x (.bool v)from p);cases(show Rd b.u y (.bool e)from w1);simp[nf,rC,s B w w2]
   grind
  grind
section
variable {ac:m (Nat×cq)}
def ia:BinOp->Bool->Option Bool
 |.eql,a=>f a
 |.neq,a=>f (!a)
 |_,_=>n
def GX{C bI}{M}{i q}(K:match C,bI with|.agg _,.agg _=>True|.bool _,.bool _=>True|_,_=>False)(w:(Op.equal o C bI).run P M=.ok i M)(s:ia op i=f q):
  (binOp op o C bI).run P M=.ok (.bool q) M:=by
 cases op<;>simp[ia,reduceCtorEq,e4]at s
 .exact QC
 exact QC
def IP{C bI}{M}{i q}(b:match C,bI with|.agg _,.agg _=>True|.bool _,.bool _=>True|_,_=>False)(e:(Op.equal o C bI).run P M=.ok i M)(a:∀U,(Op.equal o C bI).events P M U=U)(d:ia op i=f q)(U):
  (binOp op o C bI).events P M U=U:=by cases op<;>simp[ia,reduceCtorEq,e4]at d<;>(cases C<;>cases bI<;>simp only at b<;>simp[binOp,a])
def UL(op)(o)(e g)(ag a)(d)(b:P.eqGuardType P.depth o=u)(U):(eqGuard op o e g (.agg ag) (.agg a)).events P d U=U:=by cases op<;>simp[eqGuard,b]
theorem a0.kl(aV:b0 P ac){C bI:ae}(x:r.op=.binOp op o C bI ty){e}(p:b1 ac o=f e)(F:e.eq≠[]){ah U}{i q}(J:η C=.n (.agg ah))(I:η bI=.n (.agg U))(s:ql e.eq ah U=f i)(B:ia op i=f q):a0 P r η k (ax (.bool q)) k:=by refine .aY λa K E g=>?_;have b:=g C;have d:=g bI;rw[J]at b;rw[I]at d;obtain⟨A,z,m⟩:=b;obtain⟨h,y,j⟩:=d;obtain⟨t,heq⟩:=(aV o e p).iV F;have w:=GX (C:=.agg A.toArray) (bI:=.agg h.toArray) v (heq a.a A h i (Cn s m j)).1 B;have D:=IP (C:=.agg A.toArray) (bI:=.agg h.toArray) v (heq a.a A h i (Cn s m j)).1 (heq a.a A h i (Cn s m j)).2 B;refine⟨.bool q,?_,Rd.bool,by simp[ab,x,z,y,aD,run_eqGuard_agg a.a op o C bI _ _ t,UL op o C bI _ _ a.a t,aG,cJ,c8,w,D,Sem.events_pure]⟩;simp[ab,x,z,y,cJ,run_eqGuard_agg a.a op o C bI _ _ t,c8,w,dZ]
theorem a0.iG(aV:b0 P ac){C bI:ae}(x:r.op=.binOp op o C bI ty){e}(p:b1 ac o=f e)(E:e.desc=.bool){g i q}(I:η C=ax (.bool g))(F:η bI=ax (.bool i))(z:ia op (g==i)=f q):a0 P r η k (ax (.bool q)) k:=by
 refine .aY λh m B j=>?_;have b:=j C;have d:=j bI;rw[I]at b;rw[F]at d;replace b:=b8 b;replace d:=b8 d;generalize w:m C=J at b;generalize y:m bI=K at d;cases b;cases d;have s:P.underlying o=f .bool:=by rw[(aV o e p).eO,E]
 have t:=GX (P:=P) (M:=h.a) (C:=.bool g) (bI:=.bool i) v (run_equal_bool h.a o g i s) z;have D:∀a,(Op.equal o (.bool g) (.bool i)).events P h.a a=a:=λa=>by show(aO (9999+1) o _ _).events P h.a a=a;unfold aO;simp[underlying,s]
 have A:=IP (P:=P) (M:=h.a) (C:=.bool g) (bI:=.bool i) v (run_equal_bool h.a o g i s) D z;refine⟨.bool q,?_,Rd.bool,by simp[ab,x,w,y,aD,eqGuard_at_bool,Sem.events_pure,dZ,aG,cJ,c8,t,A]⟩;simp[ab,x,w,y,cJ,eqGuard_at_bool,dZ,c8,t]
def a0.kr{m p:ae}(t:r.op=.binOp .xor o m p ty){a i}(C:η m=ax (.int .i64 a))(B:η p=ax (.int .i64 i))(J:0<=a)(x:0<=i):
  a0 P r η k (ax (.int .i64 ((a.toNat ^^^ i.toNat:Nat):Int))) k:=by
 refine .aY λv j y h=>?_;have b:=h m;have d:=h p;rw[C]at b;rw[B]at d;replace b:=b8 b;replace d:=b8 d;generalize q:j m=D at b;generalize s:j p=E at d;cases b with|int e=>
 cases d with|int g=>
 have I:a.toNat ^^^ i.toNat<2 ^ 63:=by apply Nat.xor_lt_two_pow<;>simp[a8]at e g<;>omega
 have z:a8 .i64 ((a.toNat ^^^ i.toNat:Nat):Int):=cT;refine⟨.int .i64 ((a.toNat ^^^ i.toNat:Nat):Int),?_,.int z,?_⟩
 rotate_left
 .simp only[ab,t,q,s,aD,qm,x9,aG,Go.binOp,d6,hv,dm,Op.intBits,cJ,c8,dZ,Sem.events_pure]
 have w:((BitVec.ofInt 64 a) ^^^ (BitVec.ofInt 64 i)).toNat=a.toNat ^^^ i.toNat:=by rw[BitVec.toNat_xor,BitVec.toNat_ofInt,BitVec.toNat_ofInt];simp[a8]at e g;congr 1<;>omega
 have F:(BitVec.ofInt IntKind.i64.bits a ^^^ BitVec.ofInt IntKind.i64.bits i).toNat=a.toNat ^^^ i.toNat:=w;have A:(Go.binOp .xor o (.int .i64 a) (.int .i64 i)).run P v.a=.ok (.int .i64 ((a.toNat ^^^ i.toNat:Nat):Int)) v.a:=by simp only[Go.binOp,d6,hv,dm,Op.intBits,dZ];grind[r8]
 simp only[ab,t,q,s,cJ,qm,c8,A,dZ]
def a0.iL(aV:b0 P ac){e dst:ao}{m:ae}(V:r.op=.convert e dst m){K S h:cq}(F:b1 ac e=f K)(Q:b1 ac dst=f S)(aa:K.desc=.slice W)(an:S.desc=.string)(L:b1 ac W=f h)(ar:h.desc=.int .u8){eO}{t}(af:∀d T,bv k d T (η m)->Rd d.u T (.R eO 1 j U))(E:uP U 0 j=f t):a0 P r η k (ax (.V t)) k:=by
 refine .dx λd au q J=>?_;have g:=af d _ (J m);obtain⟨A,H,i⟩:=oH (P:=P) q g;obtain⟨z,o,aB,s,av,az,_⟩:=g.bY;have G:j<=9223372036854775807:=x;have aq:c A=j:=by rw[H.len];omega
 obtain⟨v,C,ah⟩:=Hb (bA:=d.u) (A:=A) E aq (λaj I ag aC=>by
  obtain⟨T,aM,al⟩:=H.rd aj I 0 ag N
  grind)
 have y:=(aV e K F).run_underlying (M:=d.a);have D:=(aV dst S Q).run_underlying (M:=d.a);have R:=(aV W h L).run_underlying (M:=d.a);rw[aa]at y;rw[an]at D;rw[ar]at R;have Z:c t<=9223372036854775807:=N;have ai:∃w:ByteArray,(Conv.bytesToString (.slice z j o)).run P d.a=.ok (.string w) d.a/\w.data.toList=t:=by
  cases z with
  |none=>
   have aw:t=[]:=by
    have:A=[]:=by rw[s]at i;have b:=i.1;simp[Builtin.firstCells]at b;grind
    grind
   exact⟨ByteArray.empty,by simp[Conv.bytesToString],by exact bu⟩
  |some B=>
   rw[s]at i;have b:=i.1;simp[Builtin.firstCells,Nat.mul_one]at b;refine⟨⟨#[]++(v.map λm=>UInt8.ofNat m.toNat).toArray⟩,?_,by grind⟩;simp only[Conv.bytesToString,cJ,b,c8,C];rw[List.forIn_toArray,Mb (P:=P) d.a (λ_ _=>rfl) v ByteArray.empty];rfl
 obtain⟨w,Y,O⟩:=ai;refine⟨.string w,?_,Rd.V O Z,?_⟩
 rotate_left
 .intro aE p;simp only[ab,V,s,aD,convert,y,D,aG,c8,R,Y,cJ,events_underlying,Sem.events_pure]at p;cases z with
  |none=>simp[Conv.bytesToString]at p
  |some B=>
   have X:=sT (P:=P) q (g.cB (λ_ _=>rfl)) (M:=d.a) a;rw[s]at i X;have b:=i.1;simp only[Builtin.firstCells,Nat.mul_one]at b X;unfold Conv.bytesToString at p;simp only at p;rw[aD,b,aG,dC.bind (P:=P) ?_ λ_=>.pure]at p
   .grind [ts]
   rw[List.forIn_toArray];refine dC.hh (λm d=>?_) _ _;split
   .exact .pure
   exact .bind .stuck λ_=>.pure
 simp only[ab,V,s,cJ,convert,y,D,c8,R,Y,dZ]
end
def ry(a:ae->y):m ae->Option (m O)
 |[]=>f []
 |g::e=>match a g with
  |.n (.ar (.c b))=>match ry a e with
   |some d=>f (b::d)
   |none=>n
  |_=>n
def B2{k}{b}{e:ae->Y}{i:ae->y}(p:∀s,bv k b (e s) (i s)):∀{d:m ae}{a:m O},ry i d=f a->c d=c a/\∀(h:Nat)j,a[h]?=f j->∃q,(d.map e)[h]?=f q/\Rd b.u q j
 |[],a,g=>by cases g;grind
 |r::B,a,g=>by
  simp[ry]at g;split at g
  .rename_i j v;split at g
   .rename_i A t;cases g;obtain⟨x,w⟩:=B2 p t;refine⟨by grind,λh z o=>?_⟩;cases h with
    |zero=>
     simp at o;subst o;have:=p r;rw[v]at this;exact⟨e r,by simp,b8 this⟩
    |succ h=>grind
   grind
  grind
section
variable {ac:m (Nat×cq)}
theorem a0.makeFunc{fn}{b i}(m:r.op=.makeFunc fn b i){j h}(q:ry η b.toList=f j)(e:ry η i.toList=f h):a0 P r η k (ax (.fn fn j h)) k:=by
 refine .aY λy a s d=>?_;obtain⟨o,p⟩:=B2 d q;obtain⟨w,x⟩:=B2 d e;have t:b.map a=(b.toList.map a).toArray:=N;have v:i.map a=(i.toList.map a).toArray:=N;refine⟨.func fn (b.toList.map a).toArray (i.toList.map a).toArray,?_,?_,by simp only[ab,m,Instr.makeFunc];rfl⟩
 .simp only[ab,m,Instr.makeFunc,t,v];rfl
 refine Rd.fn _ _ N N (λg=>((b.toList.map a)[g]?).getD I) (λg=>((i.toList.map a)[g]?).getD I) N N N ?_;grind
def vq:TypeDesc->Bool
 |.interface _=>l
 |_=>u
def yM(b:ao):y->Option O
 |.n (.ar (.c d))=>f (.b_ b d)
 |.n (.agg a)=>match h7 a with
  |some e=>f (.cF b e)
  |none=>n
 |_=>n
def Z3{g}{q}(a:yM o g=f q)(d:bv k b aa g):Rd b.u (.iface o aa) q:=by
 unfold yM at a;split at a
 .cases a;exact Rd.b_ (b8 d) (b8 d).cell
 .split at a
  .rename_i r h;cases a;obtain⟨A,rfl,j⟩:=d;have e:=rz h j;refine Rd.cF (by have:=e.cL;grind) (λt=>(A[t]?).getD I) (λt i=>by grind) λt q i=>?_;obtain⟨aa,p,m⟩:=e.get (t:=t) (w:=.c q) N;rw[p];exact m
  grind
 grind
theorem a0.makeInterface(aV:b0 P ac){o}{b}(m:r.op=.makeInterface o b){e}(g:b1 ac o=f e)(a:vq e.desc=u){q}(p:yM o (η b)=f q):a0 P r η k (ax q) k:=by
 refine .aY λt i s h=>?_;have j:=(aV o e g).run_underlying (M:=t.a);refine⟨.iface o (i b),?_,Z3 p (h b),?_⟩
 rotate_left
 .simp only[ab,m,Instr.makeInterface,aD,cJ,j,aG,c8,events_underlying];cases d:e.desc<;>rw[d]at a<;>first|(cases a;done)|simp
 simp[ab,m,Instr.makeInterface,cJ,j,c8];cases d:e.desc<;>rw[d]at a<;>first|(cases a;done)|simp
def tS(a:cq):Option E1:=match a.agg with
 |true=>f (.agg (a.zero.map Q.c))
 |false=>n
def aet{e}(p:eM P o e){j}(g:tS e=f j):∃a,(zeroValue o).run P b.a=.ok a b.a/\eA k b a j:=by
 obtain⟨a,v,i⟩:=p.h2 k b;refine⟨a,v,?_⟩;obtain⟨w,m,t,x,A,s,y,⟨h,d⟩,z⟩:=p.dc;have q:m=a:=by
  have:(zeroValue o).run P b.a=.ok m b.a:=by simp[zeroValue,typeInfo,t,s]
  grind
 subst q;unfold tS at g;cases r:e.agg with
 |true=>
  rw[r]at g d;simp[dH]at d;cases g;rw[d]at i⊢;exact⟨h.toList,by simp,by simpa[Value.cells]using i⟩
 |false=>grind
def sC(g:ao)(e:cq):O->Option (E1×Bool)
 |.b_ a h=>match ad a g with
  |true=>f (.ar (.c h),l)
  |false=>match tS e with
   |some b=>f (b,u)
   |none=>n
 |.cF a d=>match ad a g with
  |true=>f (.agg (d.map Q.c),l)
  |false=>match tS e with
   |some b=>f (b,u)
   |none=>n
 |.bC=>match tS e with
  |some b=>f (b,u)
  |none=>n
 |_=>n
theorem a0.typeAssert(aV:b0 P ac){T}{R o}(aa:r.op=.typeAssert T R o l){e}(K:b1 ac o=f e)(y:vq e.desc=u){q}(H:η T=ax q){x}{i}(h:sC o e q=f (x,i)):
  a0 P r η k (.Q [x,.ar (.c (.bool i))]) k:=by
 refine .aY λb w ah V=>?_;have j:=V T;rw[H]at j;replace j:=b8 j;generalize af:w T=z at j;have E:=(aV o e K).run_underlying (M:=b.a);have key:∀p i,(Instr.typeAssert z R o l).run P b.a=.ok (.tuple #[p,.bool i]) b.a->eA k b p x->(Instr.typeAssert z R o l).events P b.a #[]=#[]->∃p,(ab w r).run P b.a=.ok (.value p) b.a/\bv k b p (.Q [x,.ar (.c (.bool i))])/\(ab w r).events P b.a #[]=#[]:=by intro p i j B m;refine⟨.tuple #[p,.bool i],?_,⟨[p,.bool i],a,B,Rd.bool,v⟩,by simp[ab,aa,af,aD,j,m,aG,Sem.events_pure]⟩;simp[ab,aa,af,cJ,j,c8,dZ]
 have fail:∀F,tS e=f F->(∀I,(zeroValue o).run P b.a=.ok I b.a->(Instr.typeAssert z R o l).run P b.a=.ok (.tuple #[I,.bool u]) b.a/\(Instr.typeAssert z R o l).events P b.a #[]=#[])->x=F->i=u->∃p,(ab w r).run P b.a=.ok (.value p) b.a/\bv k b p (.Q [x,.ar (.c (.bool i))])/\(ab w r).events P b.a #[]=#[]:=by intro F C al aj g;subst aj g;obtain⟨I,m,ao⟩:=aet (k:=k) (aV o e K) (b:=b) C;grind
 have D:∀ae,e.desc≠.interface ae:=by intro ae x;rw[x]at y;cases y
 cases j with
 |@b_ t p q B ag=>
  simp[sC]at h;cases g:ad t o with
  |true=>
   rw[g]at h;cases h;have U:=dn g;subst U;refine key p l ?_ B ?_<;>
   .unfold Instr.typeAssert;simp only[cJ,E,c8,aD,aG,events_underlying];cases s:e.desc<;>first|(exact absurd s (D _))|simp
  |false=>
   rw[g]at h;have X:t≠o:=λx=>by grind[Nat.beq_refl]
   simp only at h;split at h
   .rename_i F C;cases h;refine fail _ C (λI m=>⟨?_,?_⟩) a a<;>
    .unfold Instr.typeAssert;simp only[cJ,E,c8,aD,aG,events_underlying];cases s:e.desc<;>first|(exact absurd s (D _))|simp[X,m]
   grind
 |@cF t A d O aq an G=>
  simp only[sC]at h;cases g:ad t o with
  |true=>
   rw[g]at h;cases h;have U:=dn g;subst U;refine key (.agg A.toArray) l ?_ ⟨A,a,?_⟩ ?_
   rotate_left 2
   .unfold Instr.typeAssert;simp only[E,aD,aG,events_underlying];cases s:e.desc<;>first|(exact absurd s (D _))|simp
   .unfold Instr.typeAssert;simp only[cJ,E,c8];cases s:e.desc<;>first|(exact absurd s (D _))|simp
   have go:∀A d,c A=c d->(∀(S:Nat) q,d[S]?=f q->∃p,A[S]?=f p/\Rd b.u p q)->bM k b A (d.map Q.c):=by
    intro A;induction A with
    |nil=>intro d O _;cases d with|nil=>trivial|cons _ _=>grind
    |cons p A W=>
     intro d O J;cases d with
     |nil=>grind
     |cons q d=>
      obtain⟨ar,Z,Y⟩:=J 0 q rfl;simp at Z;subst Z;exact⟨Y,W d N (λS q ai=>by simpa using J (S+1) q N)⟩
   grind
  |false=>
   rw[g]at h;have X:t≠o:=λx=>by grind[Nat.beq_refl]
   simp only at h;split at h
   .rename_i F C;cases h;refine fail _ C (λI m=>⟨?_,?_⟩) a a<;>
    .unfold Instr.typeAssert;simp only[cJ,E,c8,aD,aG,events_underlying];cases s:e.desc<;>first|(exact absurd s (D _))|simp[X,m]
   grind
 |bC=>
  simp only[sC]at h;split at h
  .rename_i F C;cases h;refine fail _ C (λI m=>⟨?_,?_⟩) a a<;>
   .unfold Instr.typeAssert;simp only[cJ,E,c8,aD,aG,events_underlying];cases s:e.desc<;>first|(exact absurd s (D _))|simp[m]
  grind
 |_=>simp[sC]at h
end
def uK(e:BinOp)(g:IntKind)(d:Int)(b:IntKind)(a:Int):Option (Int×m Prop):=
 match g with
 |.u64=>match e with
  |.shl=>f (((d.toNat*2 ^ a.toNat % 18446744073709551616:Nat):Int),[0<=a,a<=64])
  |.shr=>f (((d.toNat / 2 ^ a.toNat:Nat):Int),[0<=a,a<=64])
  |.and=>match b with|.u64=>f (((d.toNat &&& a.toNat:Nat):Int),[])|_=>n
  |.xor=>match b with|.u64=>f (((d.toNat ^^^ a.toNat:Nat):Int),[])|_=>n
  |_=>n
 |_=>n
section
variable {ac:m (Nat×cq)}
theorem G0{a}(b:a8 .u64 a):(BitVec.ofInt IntKind.u64.bits a).toNat=a.toNat:=by rw[BitVec.toNat_ofInt];simp[a8]at b;simp[IntKind.bits];omega
def abm{h d}{a i q}(o)(b:uK op h a d i=f (q,cj))(e:T cj)(g:a8 h a)(r:a8 d i)(j):
  a8 h q/\(Go.binOp op o (.int h a) (.int d i)).run P j=.ok (.int h q) j/\(Go.binOp op o (.int h a) (.int d i)).events P j #[]=#[]:=by
 unfold uK at b;split at b
 .split at b
  .cases b;obtain⟨p,m⟩:0<=i/\i<=64:=e;have w:a.toNat*2 ^ i.toNat % 18446744073709551616<18446744073709551616:=p7 _ ca;simp[a8]at g;refine⟨by simp[a8];omega,?_⟩;have s:IntKind.wrap .u64 (a*2 ^ (min i.toNat IntKind.u64.bits))=((a.toNat*2 ^ i.toNat % 18446744073709551616:Nat):Int):=by have k:min i.toNat IntKind.u64.bits=i.toNat:=RF;have t:a=(a.toNat:Int):=x;rw[k,t];simp only[IntKind.wrap,IntKind.bits,IntKind.signed,c5];grind
   exact PI
  .cases b;obtain⟨p,m⟩:0<=i/\i<=64:=e;simp[a8]at g;have v:a.toNat / 2 ^ i.toNat<=a.toNat:=Nat.div_le_self _ _;refine⟨by simp[a8];grind,?_⟩;have s:a.fdiv (2 ^ (min i.toNat IntKind.u64.bits))=((a.toNat / 2 ^ i.toNat:Nat):Int):=by have k:min i.toNat IntKind.u64.bits=i.toNat:=RF;grind
   exact PI
  .split at b
   .cases b;have m:a.toNat &&& i.toNat<=a.toNat:=Nat.and_le_left;have K:a8 .u64 ((a.toNat &&& i.toNat:Nat):Int):=by simp[a8]at g⊢;omega
    refine⟨K,?_⟩;have aj:(BitVec.ofInt IntKind.u64.bits a &&& BitVec.ofInt IntKind.u64.bits i).toNat=a.toNat &&& i.toNat:=by grind[G0]
    exact Og
   grind
  .split at b
   .cases b;have K:a8 .u64 ((a.toNat ^^^ i.toNat:Nat):Int):=by simp[a8]at g r⊢;have:a.toNat ^^^ i.toNat<2 ^ 64:=Nat.xor_lt_two_pow x x;omega
    refine⟨K,?_⟩;have aj:(BitVec.ofInt IntKind.u64.bits a ^^^ BitVec.ofInt IntKind.u64.bits i).toNat=a.toNat ^^^ i.toNat:=by grind[G0]
    exact Og
   grind
  grind
 grind
theorem a0.bits{j m:ae}{h e}{v i q}(z:r.op=.binOp op o j m ty)(F:η j=ax (.int h v))(D:η m=ax (.int e i))(C:uK op h v e i=f (q,cj))(t:T cj):
  a0 P r η k (ax (.int h q)) k:=by
 refine .aY λI g A d=>?_;have a:=d j;have b:=d m;rw[F]at a;rw[D]at b;replace a:=b8 a;replace b:=b8 b;generalize w:g j=J at a;generalize x:g m=K at b;cases a with|int p=>
 cases b with|int s=>
 obtain⟨E,y,B⟩:=abm (P:=P) o C t p s I.a;exact⟨.int h q,by simp[ab,z,cJ,w,x,qm,c8,y,dZ],.int E,by simp[ab,z,w,x,qm,x9,y,B]⟩
end
def ln(e:Nat)(a:m O)(b:Nat->m O):Nat->m O:=λd=>if d=e then a else b d
def nM(e b:Nat)(g:m O)(a:Nat->m O):Nat->m O:=λd=>if e<=d/\d<b then g else a d
section
variable {ac:m (Nat×cq)}{B:Nat}{h:Nat}
def G9(C:bc k b)(q:k[d]?=f (.p W h j U)){m r}(x:cB k b aa (.K d (.bp B m e r)))(E:B=j):
  ∃g i A a,b.s[d]?=f ⟨.slice (f ⟨g,0,n⟩) 0 i,[g]⟩/\aa=.pointer (f ⟨g,e*m+r,n⟩)/\b.a.heap[g]?=f (.cells (A++a).toArray W (0,0))/\c (A++a)=i*h/\j<=i/\i<=9223372036854775807/\e9 b.u h j U A/\∀w,b.u g w=n:=by
 obtain⟨J,⟨g,i,v,y⟩,_,Q⟩:=x;obtain⟨L,s,p⟩:=(Q _ _ _ _ q).2 E;rw[v]at p;rcases C.box d _ L q s with⟨_,rfl⟩|⟨O,g9,A,a,rfl,F,o,I,t,D,z⟩
 .cases p
 cases p;exact⟨g,i,A,a,s,y,F,o,I,t,D,z⟩
def D'{B:Nat->Y}:∀{bg:m O}{z:Nat},(∀d e,bg[d]?=f e->Rd b.u (B (z+d)) e)->bM k b ((aA (c bg)).map λd=>B (z+d)) (bg.map Q.c)
 |[],z,_=>trivial
 |h::bg,z,g=>by rw[fw,wY];refine⟨g 0 h a,?_⟩;have:=D' (bg:=bg) (z:=z+1) (λd e i=>by have:=g (d+1) e N;rwa [show z+1+d=z+(d+1) by omega]);grind[Function.comp_def]
theorem a0.jq(aV:b0 P ac){i j:ae}(N:r.op=.indexAddr o i j){e a4}(m:b1 ac o=f e)(O:e.desc=.slice W)(y:b1 ac W=f a4){s}{t}{p}(H:η i=cD d (.R B a4.size s z))(F:η j=ax (.int p t))(af:0<=t)(R:t<z):a0 P r η k (cD d (.bp B a4.size (s+t.toNat) 0)) k:=by
 refine .aY λE g S b=>?_;have D:=b i;rw[H]at D;have a:=b j;rw[F]at a;replace a:=b8 a;generalize Q:g j=Y at a;cases a;have C:=D;change cB k E (g i) (.K d _)at C;obtain⟨q,⟨ag,K,A,J,I,L,G,aa,Z,V⟩,U,T⟩:=C;obtain⟨w,rfl,rfl⟩:=V x;have v:=(aV o e m).run_underlying (M:=E.a);rw[O]at v;obtain⟨h,rfl⟩:∃h:Nat,t=h:=⟨t.toNat,by omega⟩
 have X:h<z:=x;refine⟨.pointer (f ⟨w,(s+h)*a4.size,n⟩),?_,⟨q,⟨w,J,Z,by simp⟩,U,T⟩,?_⟩<;>
 simp[ab,N,I,Q,Instr.indexAt,asIntOf,v,(aV W a4 y).a_,g2,X,jF]
def a0.ja(aV:b0 P ac){b:ae}{q}(s:r.op=.fieldAddr o b q){z i}{t}(F:η b=cD d (.bp B z e i))(v:ld ac o q=f (off,t)):a0 P r η k (cD d (.bp B z e (i+off))) k:=by refine .aY λD j A g=>?_;have a:=g b;rw[F]at a;have m:=a;change cB k D (j b) (.K d _)at m;obtain⟨h,⟨p,E,C,w⟩,y,x⟩:=m;exact⟨.pointer (f ⟨p,e*z+i+off,n⟩),by simp[ab,s,w,ze aV v],⟨h,⟨p,E,C,by grind⟩,y,x⟩,by simp[ab,s,w,x_ aV v]⟩
theorem a0.jJ{b:ae}(o:r.op=.nilCheck b){m p}(v:η b=cD d (.bp B m e p)):a0 P r η k (cD d (.bp B m e p)) k:=by refine .aY λw g s h=>?_;have a:=h b;rw[v]at a;have q:=a;have i:=a;change cB k w (g b) (.K d _)at i;obtain⟨t,⟨x,C,A,j⟩,z,y⟩:=i;exact⟨g b,by simp[ab,o,j],q,by simp[ab,o,j]⟩
theorem a0.jw(aV:b0 P ac){b:ae}(v:r.op=.call {callee:=.builtin .len,args:=#[b],argTypes:=dt})(Q:dt[0]?=f o){e}(g:b1 ac o=f e)(t:e.desc=.slice W){D A}(O:η b=cD d (.R B D A z)):a0 P r η k (ax (.int .i64 z)) k:=by
 refine .aY λq i w h=>?_;have a:=h b;rw[O]at a;have j:=a;change cB k q (i b) (.K d _)at j;obtain⟨x,⟨F,s,m,y,C,S,N,E,R,K⟩,J,I⟩:=j;have p:=(aV o e g).run_underlying (M:=q.a);rw[t]at p;refine⟨.int .i64 z,?_,Rd.int cT,?_⟩<;>
 simp[ab,v,resolve,invoke,builtin,Builtin.len_,C,p,goInt,Q]
theorem a0.sliceB(aV:b0 P ac){v:ae}{e7 bp}(J:r.op=.slice o v e7 bp n){e a4}(X:b1 ac o=f e)(O:e.desc=.slice W)(y:b1 ac W=f a4){N}{j t}(H:η v=cD d (.R B a4.size N z))(q:kE η e7=f j)(Q:kE η bp=f t)(s:T (jh z j t)):a0 P r η k (cD d (.R B a4.size (N+bV 0 j) (bV z t-bV 0 j))) k:=by
 refine .aY λg D S b=>?_;have m:=b v;rw[H]at m;have I:=m;change cB k g (D v) (.K d _)at I;obtain⟨C,⟨F,w,h,R,E,K,af,aa,Z,Y⟩,V,U⟩:=I;obtain⟨p,ag,G⟩:=vW (P:=P) (kj:=l) K (j' b q) (j' b Q) s g.a;have A:=(aV o e X).run_underlying (M:=g.a);rw[O]at A;refine⟨.slice (if h=bV 0 j then F else F.map (·.add (bV 0 j*a4.size))) (bV z t-bV 0 j) (h-bV 0 j),?_,⟨C,⟨_,w,_,R,a,by omega,by omega,aa,Z,λah=>?_⟩,V,U⟩,by simp[ab,J,E,Instr.sliceAt,A,Instr.slice,p,u5 (P:=P) (kj:=l) K (j' b q) (j' b Q) s g.a]⟩
 .simp[ab,J,E,Instr.sliceAt,A,Instr.slice,p,(aV W a4 y).a_]
 obtain⟨i,rfl,rfl⟩:=Y x;exact Qo
def a0.e8(aV:b0 P ac){K:ae}(T:r.op=.load o K){m}{C}{aj}(ag:η K=cD d (.bp B h e m))(x:B=j)(F:k[d]?=f (.p W h j U))(w:b1 ac o=f C)(R:hk C ((ga m (U e)).map Q.c)=f aj)(Z:e<j):a0 P r η k (.n aj) k:=by
 refine .dx λb M D J=>?_;have v:=J K;rw[ag]at v;obtain⟨i,av,A,ar,af,G,ah,H,ao,L,y,aq⟩:=G9 D F v x;have aM:=y.bD e Z;let B:Nat->Y:=λa=>A.getD (e*h+a) I;have x:∀a q,(ga m (U e))[a]?=f q->A[e*h+(m+a)]?=f (B (m+a))/\Rd b.u (B (m+a)) q:=by intro a q g;rw[rB,p6]at g;obtain⟨s,an,au⟩:=y.rd e Z (m+a) q g;grind
 have O:=D' (k:=k) (b:=b) (B:=B) (bg:=ga m (U e)) (z:=m) (λa q g=>(x a q g).2);have S:∀a s,((aA (c (ga m (U e)))).map λa=>B (m+a))[a]?=f s->b.a.cell? ⟨i,e*h+m+a,n⟩=f s:=by
  intro a s g;simp[m_]at g;by_cases V:a<c (ga m (U e))
  .simp[V]at g;subst g;have ai:=(x a _ (bF V)).1;simp[aL,ah];grind
  grind
 obtain⟨s,X,aa⟩:=tw (b:=b) (k:=k) (P:=P) (aV o C w) (i:=i) (off:=e*h+m) (aj:=aj) S O R;refine⟨s,by simp[ab,T,G,Instr.loadAt,Instr.sureAddr,X],aa,λt p=>?_⟩;have al:t∈(loadVar o ⟨i,e*h+m,n⟩).events P b.a #[]:=by
  have aj:ab M r=(do pure (.value (<-loadVar o ⟨i,e*h+m,n⟩))):=by simp[ab,T,G,Instr.loadAt,Instr.sureAddr]
  rw[aj]at p;simpa[X]using p
 obtain⟨a,g,rfl⟩:=pa (aV o C w) (j:=c (ga m (U e))) (λa g=>⟨_,S a (B (m+a)) N⟩) (by have:=r7 R;grind) t al;exact qn (b' af) E
def e9.put{jz}{b}{gO ci}(m:e9 bA h j U A)(p:e<j)(I:iY b gO (U e)=f ci)(z:c jz=c gO)(E:∀(g:Nat)k,gO[g]?=f k->∃aa,jz[g]?=f aa/\Rd bA aa k):
  e*h+b+c jz<=c A/\e9 bA h j (ln e ci U) (A.take (e*h+b)++jz++A.drop (e*h+b+c jz)):=by
 obtain⟨w,s⟩:=Ey I;have Q:=m.bD e p;have y:e*h+h<=j*h:=by have:=g7 h (show e+1<=j by omega);grind
 have M:=m.len;have D:e*h+b+c jz<=c A:=x;have K:∀i,(A.take (e*h+b)++jz++A.drop (e*h+b+c jz))[i]?=if i<e*h+b then A[i]? else if i<e*h+b+c jz then jz[i-(e*h+b)]? else A[i]?:=by
  intro i;have C:c (A.take (e*h+b))=e*h+b:=N;by_cases o:i<e*h+b
  .grind
  rw[bl o];by_cases r:i<e*h+b+c jz
  .grind
  rw[bl r,hn N,p6];grind
 refine⟨D,⟨by grind,λd q=>?_,λd q g k a=>?_⟩⟩
 .simp only[ln];split
  .grind
  exact m.bD d q
 simp[ln]at a;rw[K];split at a
 .rename_i v;subst v;rw[s]at a;by_cases o:g<b
  .rw[mh,j5 N,iq,bo o]at a;rw[bo x];exact m.rd d p g k a
  by_cases r:g<b+c gO
  .rw[mh,hn N,j5 N]at a;obtain⟨aa,t,F⟩:=E _ k a;refine⟨aa,?_,F⟩;rw[bl x,bo x,<-t];congr 1;grind
  rw[hn N,p6]at a;rw[bl x,bl x];refine m.rd d p g k ?_;grind
 rename_i v;have O:g<h:=by have:=(cO.1 a).1;have:=m.bD d q;omega
 rcases dW d e with B|J
 .have:(d+1)*h<=e*h:=g7 h B;rw[jF,Nat.one_mul]at this;rw[bo x];exact m.rd d q g k a
 have:(e+1)*h<=d*h:=g7 h x;rw[jF,Nat.one_mul]at this;rw[bl x,bl x];exact m.rd d q g k a
def bc.gC(r:bc k b)(t:k[d]?=f (.p W h j U)){q p}{e}(R:b.s[d]?=f ⟨.slice (f ⟨i,0,n⟩) 0 e,[i]⟩)(X:c (A++q)=e*h)(F:j<=e)(I:e<=9223372036854775807){g:Nat->m O}(w:b.a.heap[i]?=f (.cells (A++q).toArray W (0,0)))(Q:e9 b.u h j g p)(V:c p=c A)(K:∀D,b.u i D=n):
  bc (k.set d (.p W h j g)) {b with a:=b.a.setRow i (p++q).toArray}/\cN k b (k.set d (.p W h j g)) {b with a:=b.a.setRow i (p++q).toArray}:=by
 have C:(b.a.setRow i (p++q).toArray).heap[i]?=f (.cells (p++q).toArray W (0,0)):=setRow_heap b.a i _ _ W _ w;have B:∀o,o≠i->(b.a.setRow i (p++q).toArray).heap[o]?=b.a.heap[o]?:=λo s=>setRow_other b.a i o _ s;have S:b.s.set d ⟨.slice (f ⟨i,0,n⟩) 0 e,[i]⟩=b.s:=mX;obtain⟨J,t2⟩:=r.b8 (cf:=b.u) (bj:=b.a.setRow i (p++q).toArray) (ea:=.p W h j g) (ct:=⟨.slice (f ⟨i,0,n⟩) 0 e,[i]⟩) t R ⟨λ_=>rfl,bB _⟩ E
  (λo s z=>B o N) (λ_ _ _ _=>rfl) (λ_ _ _ x=>x) (λo v M y=>by
   have T:o≠i:=N;have:=r.mem o v M y;rw[<-this];simp[aL]
   grind) (λo s=>⟨.inl s,by grind⟩) a a a
  (.inr ⟨i,e,p,q,rfl,C,by grind,F,I,Q,K⟩)
 grind
def Mz{e:Type}:∀{new d:m e},c new=c d->iY 0 new d=f new
 |[],[],_=>rfl
 |[],_::_,g=>by grind
 |_::_,[],g=>by grind
 |i::b,h::a,g=>by simp[iY,Mz (new:=b) (d:=a) N]
def a0.h_(aV:b0 P ac){F i:ae}(X:r.op=.store o F i){m}{y}{new}{gO ci}(al:η F=cD d (.bp B h e m))(ai:B=j)(w:k[d]?=f (.p W h j U))(v:b1 ac o=f y)(aj:mm (η i)=f new)(K:c new=y.size)(G:h7 new=f gO)(I:c (U e)=h->iY m gO (U e)=f ci)(aa:e<j):
  a0 P r η k .any (k.set d (.p W h j (ln e ci U))):=by
 intro D b t x;have s:=x F;rw[al]at s;obtain⟨z,aw,A,p,T,aM,J,H,ag,ah,V,S⟩:=G9 t w s ai;have C:=uV aj (x i);have R:=rz G C;have L:=bM.eY R;have aq:(b i).cells.toList.length=c gO:=by have:=R.cL;grind
 replace I:=I (V.bD e aa);obtain⟨av,M⟩:=V.put aa I aq L;have Z:(b i).cells.size=y.size:=by rw[<-K,<-C.cL,m8]
 obtain⟨O,t2⟩:=t.gC w T H ag ah J M N S;have Y:=run_storeCells_at P z (e*h+m) W (b i).cells.toList 0 (A++p).toArray D.a J N C.cell;have af:((A++p).toArray.toList.take (e*h+m+0)++(b i).cells.toList++(A++p).toArray.toList.drop (e*h+m+0+(b i).cells.toList.length))=A.take (e*h+m)++(b i).cells.toList++A.drop (e*h+m+(b i).cells.toList.length)++p:=N;rw[af]at Y;refine⟨.skip,_,?_,a,O,t2,?_⟩
 .simp[ab,X,aM,Instr.storeAt,Instr.sureAddr,storeVar,(aV o y v).a_,Z,Y]
 intro q g;have an:ab b r=(do storeVar o ⟨z,e*h+m,n⟩ (b i);pure .skip):=by simp[ab,X,aM,Instr.storeAt,Instr.sureAddr]
 rw[an]at g;have ao:q∈(storeCells ⟨z,e*h+m,n⟩ (b i).cells.toList).events P D.a #[]:=by
  simp[storeVar,aD,(aV o y v).a_,Z,aG,events_sizeOf,d6,hv,dm,cJ,c8,Sem.events_pure]at g;generalize(storeCells ⟨z,e*h+m,n⟩ (b i).cells.toList).run P D.a=ar at g;cases ar with
  |ok az Q=>simpa using g
  |halt F Q=>simpa using g
 rcases ng (b i).cells.toList 0 (A++p).toArray D.a #[] J N C.cell q ao with au|⟨ax,_,_,rfl⟩
 .grind
 exact og (b' T) E (S _)
end
section
def bc.fw(j:bc k b)(q:∀a,b.u i a=n)(r:∀a e,A[a]?=f e->b.a.cell? ⟨i,a,n⟩=f e):
  bc (k.map λ_=>.J) {b with u:=λd a=>if d=i then A[a]? else b.u d a}/\∀d a e,b.u d a=f e->(if d=i then A[a]? else b.u d a)=f e:=by
 have g:=j.d';refine⟨⟨λd a e h=>?_,g.len,λs p L aI o=>?_,g.a1,g.lt,g.own⟩,λd a e h=>?_⟩
 .by_cases m:d=i
  .grind
  simp[m,dm]at h;exact g.mem d a e h
 .have:=b' aI;simp at this;rw[<-this.2];trivial
 grind
def dw.gL{e}{U}(r:dw {b with u:=e} U){L}(x:L∈b.s)(s:i∈L.ab)(w:∀h k g,b.u h k=f g->e h k=f g)(v:∀h k g,e h k=f g->h=i∨b.u h k=f g):dw b U:=by
 intro o q;have d:=r o q;unfold h8 at d⊢;split at d
 .obtain⟨kz,j4,a⟩:=d;refine⟨kz,j4,?_⟩;rcases a with a|⟨a,j⟩|⟨a,g,j⟩
  .grind
  .refine .inr (.inl ⟨a,λp=>?_⟩);have:=j p;rename_i m _;cases t:b.u m.block m.off with
   |none=>rfl
   |some g=>grind
  grind
 all_goals exact d
end
def nh(e:Nat)(a:Nat->Nat->Y):Nat->m O:=λb=>(aA e).map λd=>.val (a b d)
theorem sV{h}{a:Nat->Nat->Y}{q}(b:(nh h a e)[t]?=f q):t<h/\q=.val (a e t):=by
 have d:t<h:=by have:=(cO.1 b).1;simpa[nh]using this
 simp[nh,d]at b;grind
def CM{h}{a:Nat->Nat->Y}(b:t<h):(nh h a e)[t]?=f (.val (a e t)):=by simp[nh,b]
def Rd.exact{bA}{aa}{o}{h j}{d:Nat->m O}(C:Rd bA aa (.R o h j d)):
  ∃k:Nat->Nat->Y,Rd bA aa (.R o h j (nh h k))/\(∀a,a<j->c (d a)=h)/\∀a,a<j->∀b i,(d a)[b]?=f i->Rd bA (k a b) i:=by
 cases C with
 |R z q k y v x w t D p=>
  have A:∀a,a<j->∀b,b<h->∃i,(d a)[b]?=f i:=λa e b g=>⟨_,bF N⟩
  refine⟨k,.R z q k y v x (λa _=>by simp[nh]) t (λa e b i g=>?_) (λa e b i g=>?_),w,p⟩
  .grind [sV]
  obtain⟨r,rfl⟩:=sV g;obtain⟨B,s⟩:=A a e b r;exact .val (p a e b B s).cell
def D_{h}{L}{e q}{cap}(aI:k[d]?=f (.p W h j U))(p:b.s[d]?=f L)(m:L.v=.slice q 0 cap)(r:j<=cap)(o:cap<=9223372036854775807)(x:0<cap->∃g,q=f ⟨g,0,n⟩/\e=f ⟨g,0,n⟩):cB k b (.slice e j cap) (.K d (.R j h 0 j)):=
 ⟨L.v,⟨e,q,cap,cap,rfl,r,by omega,o,m,λv=>by grind⟩,(cO.1 aI).1,λw s t i a=>by rw[aI]at a;cases a;exact⟨bB _,λ_=>⟨L,p,rfl⟩⟩⟩
def GN{bQ bR:ae}{a4}(s:j0 P r bQ bR W a4){z}{bC}{o:Nat->m O}{aj:ae->Y}(t:bc k b)(bt:cB k b (aj bQ) (.K d (.R j a4.size 0 j)))(K:k[d]?=f (.p W a4.size j U))(av:Rd b.u (aj bR) (.R bC a4.size z o))(H:(j+z)*a4.bytes<=140737488355328):
  ∃a9 ai,(ab aj r).run P b.a=.ok a9 ai.a/\AA (k.set d (.p W a4.size (j+z) (cg j U o))) ai a9 (cD d (.R (j+z) a4.size 0 (j+z)))/\bc (k.set d (.p W a4.size (j+z) (cg j U o))) ai/\cN k b (k.set d (.p W a4.size (j+z) (cg j U o))) ai/\dw b ((ab aj r).events P b.a #[]):=by
 obtain⟨bW,t2,g,bU,a5,e,J,aD,aE⟩:=s.op;have bS:=(cO.1 K).1;obtain⟨bV,⟨w,bo,aG,B,a6,bd,bH,bb,a2,bI⟩,_,a8⟩:=bt;obtain⟨L,F,ao⟩:=(a8 _ _ _ _ K).2 rfl;rw[a2]at ao;have aW:B=aG:=x;subst aW;have bD:0<B->∃i,bo=f ⟨i,0,n⟩/\w=f ⟨i,0,n⟩:=λs=>by grind
 have aM:=(cO.1 F).1;have bh:=b' F;have bG:=t.box d _ L K F;rw[lc a5,a6];have row:0<B->∃i A p,w=f ⟨i,0,n⟩/\L=⟨.slice (f ⟨i,0,n⟩) 0 B,[i]⟩/\b.a.heap[i]?=f (.cells (A++p).toArray W (0,0))/\c (A++p)=B*a4.size/\e9 b.u a4.size j U A/\∀r,b.u i r=n:=by
  intro y;obtain⟨i,S,X⟩:=bD y;rcases bG with⟨_,rfl⟩|⟨h,v,A,p,rfl,aa,aK,aN,aO,aP,aQ⟩
  .grind
  grind
 by_cases br:z=0
 .subst br;have aw:=zd (P:=P) (ty:=r.type) e J aD aE s.elem t (w:=w) bd av;simp only[j8];have bw:bs j U (cg j U o):=λg e=>by simp[cg,e]
  have aT:ez (k.set d (.p W a4.size j (cg j U o))) ⟨b.s.set d L,b.u,b.a,b.own⟩ (.p W a4.size j (cg j U o)) L:=by
   rcases bG with aa|⟨h,v,A,p,av,aa,aK,aN,aO,aP,aQ⟩
   .exact .inl aa
   exact .inr ⟨h,v,A,p,av,aa,aK,aN,aO,aP.cB bw,aQ⟩
  have au:=t.b8 (cf:=b.u) (bj:=b.a) (ea:=.p W a4.size j (cg j U o)) (ct:=L) K F ⟨λ_=>rfl,bB _⟩ (bB _) (λ_ _ _=>rfl) (λ_ _ _ _=>rfl) (λ_ _ _ s=>s) t.mem
   (λi H=>⟨.inl H,t.lt L bh i H⟩) a a a aT
  refine⟨.value (.slice w j B),_,?_,?_,au.1,au.2,jm (x7 e J aD aE s.elem t bd av)⟩
  .simp[aw]
  exact D_ (W:=W) Fk N ao bd bb bD
 .by_cases aI:j+z<=B
  .obtain⟨i,A,p,rfl,rfl,hw,G,D,af⟩:=row x;obtain⟨M,an,aw⟩:=Ef (P:=P) (ty:=r.type) e J aD aE s.elem t hw G av aI;have a7:=D.len;have bL:=an.len;have bJ:j*a4.size+z*a4.size<=B*a4.size:=by rw[<-jF];exact g7 _ aI
   have ah:((A++p).take (j*a4.size)++M++(A++p).drop (j*a4.size+c M))=(A++M)++p.drop (c M):=by rw[<-a7];simp
   rw[ah]at aw;have az:=setRow_heap b.a i _ ((A++M)++p.drop (c M)).toArray W _ hw;have aB:∀h,h≠i->(b.a.setRow i ((A++M)++p.drop (c M)).toArray).heap[h]?=b.a.heap[h]?:=λh ba=>setRow_other b.a i h _ ba;obtain⟨aC,bg⟩:=t.b8 (cf:=b.u) (bj:=b.a.setRow i ((A++M)++p.drop (c M)).toArray) (ea:=.p W a4.size (j+z) (cg j U o)) (ct:=⟨.slice (f ⟨i,0,n⟩) 0 B,[i]⟩) K F ⟨λ_=>rfl,by omega⟩ E
    (λh ba bT=>aB h N) (λ_ _ _ _=>rfl) (λ_ _ _ s=>s) (λh bA R a3=>by
     have bK:h≠i:=N;have:=t.mem h bA R a3;rw[<-this];simp[aL]
     grind) (λh ba=>⟨.inl ba,by grind⟩) a a a
    (.inr ⟨i,B,A++M,p.drop (c M),rfl,az,by grind,aI,bb,D.append an,af⟩)
   refine⟨.value (.slice (f ⟨i,0,n⟩) (j+z) B),_,?_,?_,aC,bg,jm (Cq e J aD aE s.elem t hw G av aI bh E (λr _=>af r))⟩
   .simp[aw]
   exact D_ (W:=W) Fk (by simp only;rw[ip aM]) a aI bb λ_=>⟨i,a,a⟩
  .have a0:B<j+z:=x;obtain⟨bq,aJ,bP,bN⟩:=av.exact;have aH:∃(cf:Mem) (Z:Nat->Nat->Y),bc (k.map λ_=>.J) {b with u:=cf}/\(∀h r R,b.u h r=f R->cf h r=f R)/\Rd cf (.slice w j B) (.R u a4.size j (nh a4.size Z))/\(∀{U},dw {b with u:=cf} U->dw b U) /\
     (∀g,g<j->c (U g)=a4.size)/\∀g,g<j->∀q C,(U g)[q]?=f C->Rd b.u (Z g q) C:=by
    by_cases y:0<B
    .obtain⟨i,A,p,rfl,rfl,hw,G,D,af⟩:=row y;obtain⟨v,T⟩:=t.fw (i:=i) (A:=A) af (λr R a5=>by
      simp only[aL,hw]
      grind)
     have bE:∀g,g<j->∀q C,(U g)[q]?=f C->A[g*a4.size+q]?=f (A.getD (g*a4.size+q) I)/\Rd b.u (A.getD (g*a4.size+q) I) C:=by intro g e q C Q;obtain⟨R,a_,a'⟩:=D.rd g e q C Q;grind
     have aV:∀g,g<j->∀q,q<a4.size->∃C,(U g)[q]?=f C:=λg e q Q=>⟨_,bF (by rw[D.bD g e];exact Q)⟩
     refine⟨_,λg q=>A.getD (g*a4.size+q) I,v,T,.R i 0 (λg q=>A.getD (g*a4.size+q) I) bd bb E (λg _=>by simp[nh]) bn (λg e q C Q=>?_) (λg e q C Q=>?_),λbx=>?_,D.bD,λg e q C Q=>(bE g e q C Q).2⟩
     .obtain⟨S,_⟩:=sV Q;grind
     .obtain⟨S,rfl⟩:=sV Q;obtain⟨bp,X⟩:=aV g e q S;exact .val (bE g e q bp X).2.cell
     exact bx.gL (i:=i) bh E T λh r R a6=>by grind
    have S:B=0:=x;have X:j=0:=x;subst S X;have aF:=t.d';exact⟨b.u,λ_ _=>I,⟨aF.mem,aF.len,aF.box,aF.a1,aF.lt,aF.own⟩,λ_ _ _ s=>s,Rd.dK,λs=>s,λg e=>by omega,λg e=>by omega⟩
   obtain⟨cf,Z,v,T,aU,aR,bO,bM⟩:=aH;have al:=aJ.mono T;obtain⟨bk,p,bf,bl,aq,ar,ax,aw⟩:=vV (P:=P) (b:={b with u:=cf}) (ty:=r.type) e J aD aE s.elem v aU al a0 H s.bytes;have aZ:=u4 (P:=P) (b:={b with u:=cf}) (ty:=r.type) e J aD aE s.elem v aU al a0 H s.bytes;have aS:e9 b.u a4.size (j+z) (cg j U o) bk:=by
    refine⟨bl.len,λg e=>?_,λg e q C Q=>?_⟩
    .by_cases V:g<j
     .simp only[cg,V,dH];grind
     simp only[cg,V,dm];grind
    by_cases V:g<j
    .simp only[cg,V,dH]at Q;have bm:q<a4.size:=N;obtain⟨R,a_,a'⟩:=bl.rd g e q (.val (Z g q)) (by simp only[cg,V,dH];exact CM bm);grind[Rd.a']
    simp only[cg,V,dm]at Q;have bm:q<a4.size:=N;obtain⟨R,a_,a'⟩:=bl.rd g e q (.val (bq (g-j) q)) (by simp only[cg,V,dm];exact CM bm);grind[Rd.a']
   have bz:∀r,b.u b.a.heap.size r=n:=λr=>by
    cases ag:b.u b.a.heap.size r with
    |none=>rfl
    |some R=>have:=t.block ag;omega
   obtain⟨aC,bg⟩:=t.b8 (cf:=b.u) (bj:=b.a.drew.alloc (.cells (bk++p).toArray W)) (ea:=.p W a4.size (j+z) (cg j U o)) (ct:=⟨.slice (f ⟨b.a.heap.size,0,n⟩) 0 bf,[b.a.heap.size]⟩) K F
    ⟨λV=>absurd V x,by omega⟩ E (λi H _=>iU b.a.drew _ H) (λ_ _ _ _=>rfl) (λ_ _ _ s=>s) (λi r R ag=>by have a1:=t.block ag;rw[<-t.mem i r R ag];simp only[aL];rw[iU b.a.drew _ a1];rfl) (λi H=>by simp at H;exact bu) a a a (.inr ⟨b.a.heap.size,bf,bk,p,rfl,lR b.a.drew _,ax,aq,ar,aS,bz⟩)
   refine⟨.value (.slice (f ⟨b.a.heap.size,0,n⟩) (j+z) bf),_,?_,?_,aC,bg,jm (aR aZ)⟩
   .simp only at aw;simp[aw]
   exact D_ (W:=W) Fk (by simp only;rw[ip aM]) a aq ar λ_=>⟨_,a,a⟩
def a0.im{q s:ae}{a4}(x:j0 P r q s W a4){b}{p}{a:Nat->m O}(w:η q=cD d (.R j a4.size 0 j))(o:k[d]?=f (.p W a4.size j U))(v:∀g t,bv k g t (η s)->Rd g.u t (.R p a4.size b a))(h:(j+b)*a4.bytes<=140737488355328):
  a0 P r η k (cD d (.R (j+b) a4.size 0 (j+b))) (k.set d (.p W a4.size (j+b) (cg j U a))):=
 λg y i e=>GN x i (by have:=e q;rw[w]at this;exact this) o (v g _ (e s)) h
section
variable {ac:m (Nat×cq)}
def a0.jA(aV:b0 P ac){g:ae}(s:r.op=.call {callee:=.builtin .len,args:=#[g],argTypes:=dt})(q:dt[0]?=f o){e}(b:b1 ac o=f e)(m:e.desc=.slice W){i}{cap}(w:η g=ax (.val (.slice i j cap)))(v:j<=9223372036854775807):a0 P r η k (ax (.int .i64 j)) k:=by
 refine .aY λx y t d=>?_;have a:=d g;rw[w]at a;have p:=Rd.a' (b8 a);have h:=(aV o e b).run_underlying (M:=x.a);rw[m]at h;refine⟨.int .i64 j,?_,Rd.int cT,?_⟩<;>
 simp[ab,s,resolve,invoke,builtin,Builtin.len_,p,h,goInt,q]
theorem a0.jr(aV:b0 P ac){q h:ae}(A:r.op=.indexAddr o q h){e a4}(m:b1 ac o=f e)(D:e.desc=.slice W)(E:b1 ac W=f a4){cap}{t}{p}(J:η q=ax (.val (.slice (f ⟨i,off,n⟩) j cap)))(I:η h=ax (.int p t))(O:0<=t)(B:t<j):a0 P r η k (ax (.val (.pointer (f ⟨i,off+t.toNat*a4.size,n⟩)))) k:=by
 refine .aY λK s C d=>?_;have v:=d q;rw[J]at v;have F:=Rd.a' (b8 v);have b:=d h;rw[I]at b;replace b:=b8 b;generalize z:s h=N at b;cases b;have w:=(aV o e m).run_underlying (M:=K.a);rw[D]at w;obtain⟨g,rfl⟩:∃g:Nat,t=g:=⟨t.toNat,by omega⟩
 have y:g<j:=x;refine⟨.pointer (f ⟨i,off+g*a4.size,n⟩),?_,Rd.val a,?_⟩<;>
 simp[ab,A,F,z,Instr.indexAt,asIntOf,w,(aV W a4 E).a_,g2,y]
def a0.jd(aV:b0 P ac){e:ae}{m}(p:r.op=.fieldAddr o e m){h}{t}(q:η e=ax (.val (.pointer (f ⟨i,off,n⟩))))(j:ld ac o m=f (h,t)):a0 P r η k (ax (.val (.pointer (f ⟨i,off+h,n⟩)))) k:=by refine .aY λw v s d=>?_;have b:=d e;rw[q]at b;have g:=Rd.a' (b8 b);exact⟨.pointer (f ⟨i,off+h,n⟩),by simp[ab,p,g,ze aV j],Rd.val a,by simp[ab,p,g,x_ aV j]⟩
def a0.j9(aV:b0 P ac){V F I:ae}(Z:r.op=.slice o V n (f F) (f I)){e a4}(O:b1 ac o=f e)(H:e.desc=.slice W)(ai:b1 ac W=f a4){eO}{h}{m p}{t z}(aj:∀aa ag,bv k aa ag (η V)->Rd aa.u ag (.R eO h j U))(L:η F=ax (.int m t))(ah:η I=ax (.int p z))(J:0<=t)(ao:t<=z)(aq:z<=j):a0 P r η k (ax (.R u h t.toNat U)) k:=by
 refine .aY λa D ar i=>?_;have T:=aj a _ (i V);have q:=i F;rw[L]at q;replace q:=b8 q;generalize Q:D F=av at q;cases q;have C:=i I;rw[ah]at C;replace C:=b8 C;generalize af:D I=aw at C;cases C;obtain⟨X,b,A,y,G,aB,aM,aC,au⟩:=T.bY;rw[y]at T;have N:=(aV o e O).run_underlying (M:=a.a);rw[H]at N;have em:=rh x;have s:(aW l j b n (f (.int m t)) (f (.int p z))).run P a.a=.ok (0,t.toNat,z.toNat) a.a:=by simp[aW,run_sliceBound (P:=P) a.a p z b _ x x,run_sliceBound (P:=P) a.a m t z.toNat _ J x]
 have al:(aW l j b n (f (.int m t)) (f (.int p z))).events P a.a #[]=#[]:=by simp[aW,run_sliceBound (P:=P) a.a p z b _ x x,run_sliceBound (P:=P) a.a m t z.toNat _ J x,lb (P:=P) a.a p z b _ x x,lb (P:=P) a.a m t z.toNat _ J x]
 refine⟨.slice X t.toNat z.toNat,?_,?_,by simp[ab,Z,y,Q,af,Instr.sliceAt,N,Instr.slice,s,al]⟩
 .simp[ab,Z,y,Q,af,Instr.sliceAt,N,Instr.slice,s,(aV W a4 ai).a_];intro _;rcases X with _|⟨Y,d,sp⟩<;>simp[Addr.add]
 cases T with
 |R Y d an _ _ _ S R w B=>
  exact Rd.R Y d an x x E (λe v=>S e x) (λaz=>R x) (λe v t K g=>w e x t K g) (λe v t K g=>B e x t K g)
end
def e9.hX{h a}{kH:Nat->m O}{jz}(p:e9 bA h j U A)(q:e9 bA h z kH jz)(v:a+z<=j):
  e9 bA h j (λb=>if a<=b/\b<a+z then kH (b-a)else U b) (A.take (a*h)++jz++A.drop (a*h+c jz)):=by
 have D:=p.len;have F:=q.len;have C:a*h+z*h<=j*h:=by rw[<-jF];exact g7 h v
 have I:c (A.take (a*h))=a*h:=N;have s:∀i,(A.take (a*h)++jz++A.drop (a*h+c jz))[i]?=if i<a*h then A[i]? else if i<a*h+z*h then jz[i-a*h]? else A[i]?:=by
  intro i;by_cases e:i<a*h
  .grind
  rw[bl e];by_cases r:i<a*h+z*h
  .grind
  rw[bl r,hn N,p6];grind
 refine⟨by grind,λb g=>?_,λb g o t d=>?_⟩
 .by_cases k:a<=b/\b<a+z
  .rw[bo k];exact q.bD _ x
  rw[bl k];exact p.bD b g
 rw[s];by_cases k:a<=b/\b<a+z
 .rw[bo k]at d;have B:o<h:=by have:=(cO.1 d).1;rw[q.bD _ x]at this;omega
  have w:=g7 h k.1;have y:b*h+h<=a*h+z*h:=by rw[<-jF,<-o3];exact g7 h k.2
  rw[bl x,bo x];obtain⟨K,E,J⟩:=q.rd (b-a) x o t d;grind[Nat.sub_mul]
 rw[bl k]at d;have B:o<h:=by have:=(cO.1 d).1;rw[p.bD b g]at this;omega
 have:b*h+o<a*h∨a*h+z*h<=b*h+o:=by
  by_cases e:b<a
  .left;have:b*h+h<=a*h:=by rw[<-o3];exact g7 h e
   omega
  right;have:(a+z)*h<=b*h:=g7 h x;grind
 rcases this with e|e
 .rw[bo e];exact p.rd b g o _ d
 rw[bl x,bl x];exact p.rd b g o _ d
def DI{W h i}{r:Nat->m O}{e}(v:Rd b.u aa (.R l i 0 r))(k:aq[d]?=f (.p W h 0 U))(s:e[d]?=f ⟨.slice n 0 0,[]⟩):cB aq {b with s:=e} aa (.K d (.R 0 h 0 0)):=by obtain⟨p,j,A,t,_,_,q,_,_⟩:=v.bY;have:=q a;subst this;refine⟨.slice n 0 0,⟨p,n,0,0,t,by omega,a,by omega,a,λg=>absurd g x⟩,(cO.1 k).1,λo w y kH g=>?_⟩;rw[k]at g;cases g;exact⟨bB _,λ_=>⟨_,s,a⟩⟩
def dw.jB{a}{U}(i:dw {b with s:=a++[⟨aa,[]⟩]} U)(k:b.s=a):dw b U:=by
 intro h g;have e:=i h g;have key:∀d,(∃L∈a++[(⟨aa,[]⟩:Loc)],d∈L.ab)->∃L∈b.s,d∈L.ab:=λd ⟨L,m,j⟩=>by grind
 unfold h8 at e⊢;grind
def a0.iu{j t:ae}{a4}(D:j0 P r j t W a4){h}{s}{e:Nat->m O}(Q:η j=ax (.R l h 0 U))(J:∀b A,bv k b A (η t)->Rd b.u A (.R s a4.size z e))(p:(0+z)*a4.bytes<=140737488355328):
  a0 P r η k (cD (c k) (.R (0+z) a4.size 0 (0+z))) (k++[.p W a4.size (0+z) (cg 0 U e)]):=by intro b v bO i;have g:=i j;rw[Q]at g;have o:=J b _ (i t);obtain⟨I,F⟩:=bO.bX (bS:=.p W a4.size 0 U) (L:=⟨.slice n 0 0,[]⟩) (.refl _ _) rfl bO (.inl ⟨rfl,rfl⟩) E;have C:cB (k++[.p W a4.size 0 U]) {b with s:=b.s++[⟨.slice n 0 0,[]⟩]} (v j) (.K (c k) (.R 0 a4.size 0 0)):=DI (W:=W) (U:=U) (b8 g) E t0;obtain⟨M,q,K,w,y,x,N⟩:=GN (P:=P) (k:=k++[.p W a4.size 0 U]) (b:={b with s:=b.s++[⟨.slice n 0 0,[]⟩]}) (d:=c k) (U:=U) D I C E o p;have B:(k++[an.p W a4.size 0 U]).set (c k) (.p W a4.size (0+z) (cg 0 U e))=k++[.p W a4.size (0+z) (cg 0 U e)]:=E;rw[B]at w y x;exact⟨M,q,K,w,y,F.trans x,N.jB a⟩
def qH(d e g:Nat)(a:Nat->m O):Nat->m O:=λb=>if d<=b/\b<d+g then a (e+(b-d))else a b
def a0.ir{a9 ba:ae}{a4}(aC:j0 P r a9 ba W a4)(bz:η a9=cD d (.R j a4.size 0 e))(bA:η ba=cD d (.R j a4.size t z))(s:k[d]?=f (.p W a4.size j U))(Z:e+z<=j)(aO:t+z<=j):
  a0 P r η k (cD d (.R j a4.size 0 (e+z))) (k.set d (.p W a4.size j (qH e t z U))):=by
 intro b a7 p aT;obtain⟨b3,t2,b4,bS,bx,q,ar,bf,aM⟩:=aC.op;have ao:=aT a9;rw[bz]at ao;change cB k b (a7 a9) (.K d _)at ao;have aq:=aT ba;rw[bA]at aq;change cB k b (a7 ba) (.K d _)at aq;obtain⟨bD,⟨w,bj,h,y,aU,bh,aJ,V,aa,X⟩,_,bH⟩:=ao;obtain⟨L,C,bg⟩:=(bH _ _ _ _ s).2 rfl;rw[aa]at bg;obtain⟨bQ,⟨o,bJ,aB,bK,aV,bZ,bp,bq,au,br⟩,_,az⟩:=aq;obtain⟨bV,S,H⟩:=(az _ _ _ _ s).2 rfl;rw[C]at S;cases S;rw[au,bg]at H;cases H;have aF:=b' C;have ax:=q.run_underlying (M:=b.a);have bc:=bf.run_underlying (M:=b.a);rw[ar]at ax;rw[aM]at bc;rw[lc bx,aU,aV];by_cases aP:j=0
 .have an:e=0:=x;have bm:z=0:=x;subst aP an bm;have aw:k.set d (.p W a4.size 0 (qH 0 t 0 U))=k:=by
   have:qH 0 t 0 U=U:=by funext bd;exact cT
   rw[this];exact mX
  have aW:Rd b.u (.slice o 0 aB) (.R u a4.size 0 λ_=>[]):=.R 0 0 (λ_ _=>I) x x E (λe q=>by omega) (λaC=>by omega) (λe q=>by omega) (λe q=>by omega);have bG:=zd (P:=P) (ty:=r.type) q ar bf aM aC.elem p (w:=w) bh aW;rw[aw];refine⟨.value (.slice w 0 h),b,?_,?_,p,.refl _ _,jm (x7 q ar bf aM aC.elem p bh aW)⟩
  .simp[bG]
  exact⟨bD,⟨w,bj,h,y,a,bh,aJ,V,aa,X⟩,(cO.1 s).1,bH⟩
 rcases p.box d _ L s C with⟨al,_⟩|⟨i,aj,A,ah,rfl,B,aZ,a1,a2,ag,aH⟩
 .grind
 cases bg;have bX:0<h:=x;obtain⟨b0,an,rfl⟩:=X bX;cases an;have aK:y=h:=x;subst aK;rw[show i=i from a];have bP:=ag.len;have bC:e+z<=y:=x;have bL:e*a4.size+z*a4.size<=j*a4.size:=by rw[<-jF];exact g7 _ Z
 have bM:t*a4.size+z*a4.size<=j*a4.size:=by rw[<-jF];exact g7 _ aO
 obtain⟨aj,bl⟩:=p.fw (i:=i) (A:=A) aH (λbd aE G=>by
  simp[aL,B]
  grind)
 let m:=(A.drop (t*a4.size)).take (z*a4.size);have aR:c m=z*a4.size:=N;have aQ:∀g,g<z*a4.size->m[g]?=A[t*a4.size+g]?:=λg F=>by grind
 have R:e9 b.u a4.size z (λbd=>U (t+bd)) m:=by
  refine⟨aR,λbd G=>ag.bD _ x,λbd G g bk F=>?_⟩;have bO:g<a4.size:=by have:=(cO.1 F).1;rw[ag.bD _ x]at this;omega
  obtain⟨aE,K,D⟩:=ag.rd (t+bd) x g bk F;refine⟨aE,?_,D⟩;exact Px
 have bR:=R.cell;have af:Rd (λv bd=>if v=i then A[bd]? else b.u v bd) (.slice o z aB) (.R u a4.size z (nh a4.size λbd g=>A.getD ((t+bd)*a4.size+g) I)):=by
  refine .R i (t*a4.size) (λbd g=>A.getD ((t+bd)*a4.size+g) I) bZ x E (λbd _=>by simp[nh]) (λF=>N) (λbd G g bk F=>?_) (λbd G g bk F=>?_)
  .obtain⟨a3,_⟩:=sV F;exact Px
  obtain⟨a3,rfl⟩:=sV F;obtain⟨ai,aI⟩:∃ai,(U (t+bd))[g]?=f ai:=⟨_,bF (by rw[ag.bD _ x];exact a3)⟩
  obtain⟨aE,K,D⟩:=ag.rd (t+bd) x g ai aI;have al:A.getD ((t+bd)*a4.size+g) I=aE:=N;rw[al];exact .val D.cell
 obtain⟨Q,bI,J,bu⟩:=oH (P:=P) (b:={b with u:=λv bd=>if v=i then A[bd]? else b.u v bd}) aj af;have aS:Q=m:=by
  apply p';intro g;have bN:=bI.len;by_cases F:g<z*a4.size
  .have bW:0<a4.size:=N;have G:g / a4.size<z:=sl N;have ab:=uu g a4.size;obtain⟨aE,K,D⟩:=bI.rd _ G (g % a4.size) _ (CM (p7 _ bW));rw[ab]at K;rw[K,aQ g F,Rd.a' D];rw[jF,Nat.add_assoc,ab,ak,bF x];rfl
  grind
 subst aS;have aN:=sT (P:=P) (b:={b with u:=λv bd=>if v=i then A[bd]? else b.u v bd}) aj af (M:=b.a) rfl;replace J:(Builtin.firstCells a4.size z (.slice o z aB)).run P b.a=.ok m.toArray b.a:=J;have bt:e*a4.size+c m<=c (A++ah):=N;have O:=run_storeCells_at P i (e*a4.size) W m 0 (A++ah).toArray b.a B N bR;simp only[j8]at O;have av:((A++ah).toArray.toList.take (e*a4.size)++m++(A++ah).toArray.toList.drop (e*a4.size+c m))=A.take (e*a4.size)++m++A.drop (e*a4.size+c m)++ah:=N;rw[av]at O;have a5:=ag.hX R Z;have bs:(λbd=>if e<=bd/\bd<e+z then(λbd=>U (t+bd)) (bd-e)else U bd)=qH e t z U:=rfl;rw[bs]at a5;obtain⟨bE,a6⟩:=p.gC s C aZ a1 a2 B a5 N aH;have bT:(Builtin.lenOf (.slice o z aB)).run P b.a=.ok z b.a:=cT;have bY:(Builtin.lenOf (.slice o z aB)).events P b.a #[]=#[]:=cT;refine⟨.value (.slice (f ⟨i,0*a4.size,n⟩) (e+z) y),_,?_,?_,bE,a6,jm ?_⟩
 .have bG:(Builtin.append_ #[b3,t2] r.type #[.slice (f ⟨i,0*a4.size,n⟩) e y,.slice o z aB]).run P b.a=.ok (.slice (f ⟨i,0*a4.size,n⟩) (e+z) y) (b.a.setRow i (A.take (e*a4.size)++m++A.drop (e*a4.size+c m)++ah).toArray):=by unfold Builtin.append_;simp[j6,mf,n3,cJ,ax,bc,c8,aC.elem.a_,dZ,j7,dm,bT,bC,dH,hK,J,g2,Nat.zero_mul,cW,O]
  grind[Go.Sem.run_bind,Go.Result.andThen_ok,Go.Sem.run_pure]
 .exact⟨.slice (f ⟨i,0,n⟩) 0 y,⟨_,_,y,y,a,bC,by omega,V,a,λ_=>⟨i,a,a⟩⟩,by grind,λbU b1 b2 kH Y=>by rw[ip (cO.1 s).1]at Y;cases Y;exact⟨bB _,λ_=>⟨_,C,a⟩⟩⟩
 .intro al bb;unfold Builtin.append_ at bb;simp[j6,mf,n3,aD,cJ,ax,bc,aG,aC.elem.a_,dZ,j7,dm,bT,bY,bC,dH,hK,J,g2,Nat.zero_mul,cW,O,
   sy,Sem.events_ite,events_underlying,events_sizeOf,Sem.events_pure]at bb
  rcases ng m 0 (A++ah).toArray b.a _ B N bR al bb with bn|⟨g,_,_,rfl⟩
  .have bo:dw {b with u:=λv bd=>if v=i then A[bd]? else b.u v bd} #[al]:=dw.ar (ts (aN al bn));exact bo.gL (i:=i) aF E bl (λv bd aE aU=>by grind) al E
  grind[og]
section
variable {ac:m (Nat×cq)}
theorem a0.slice3B(aV:b0 P ac){C M D E:ae}(R:r.op=.slice o C (f M) (f D) (f E)){F a4}(y:b1 ac o=f F)(H:F.desc=.slice W)(T:b1 ac W=f a4){B h ai}{aa b q}{e t z}(X:η C=cD d (.R B h ai j))(U:η M=ax (.int aa e))(V:η D=ax (.int b t))(S:η E=ax (.int q z))(av:0<=e)(Z:e<=t)(af:t<=z)(aw:z<=j):a0 P r η k (.n (.ar .any)) k:=by
 refine .aY λg p ag m=>?_;have J:=m C;rw[X]at J;change cB k g (p C) (.K d _)at J;obtain⟨ah,⟨N,Y,i,az,G,au,ao,ar,aq,L⟩,_,_⟩:=J;have A:=m M;rw[U]at A;replace A:=b8 A;generalize Q:p M=aj at A;cases A;have s:=m D;rw[V]at s;replace s:=b8 s;generalize O:p D=al at s;cases s;have v:=m E;rw[S]at v;replace v:=b8 v;generalize K:p E=an at v;cases v;have I:=(aV o F y).run_underlying (M:=g.a);rw[H]at I;have w:(aW l j i (f (.int aa e)) (f (.int b t)) (f (.int q z))).run P g.a=.ok (e.toNat,t.toNat,z.toNat) g.a:=by simp[aW,run_sliceBound (P:=P) g.a q z i _ x x,run_sliceBound (P:=P) g.a b t z.toNat _ x x,run_sliceBound (P:=P) g.a aa e t.toNat _ x x]
 have aM:(aW l j i (f (.int aa e)) (f (.int b t)) (f (.int q z))).events P g.a #[]=#[]:=by
  simp[aW,run_sliceBound (P:=P) g.a q z i _ x x,run_sliceBound (P:=P) g.a b t z.toNat _ x x,run_sliceBound (P:=P) g.a aa e t.toNat _ x x,
   lb (P:=P) g.a q z i _ x x,lb (P:=P) g.a b t z.toNat _ x x,lb (P:=P) g.a aa e t.toNat _ x x]
 refine⟨.slice (if z.toNat=e.toNat then N else N.map (·.add (e.toNat*a4.size))) (t.toNat-e.toNat) (z.toNat-e.toNat),?_,a,by simp[ab,R,G,Q,O,K,Instr.sliceAt,I,Instr.slice,w,aM]⟩;simp[ab,R,G,Q,O,K,Instr.sliceAt,I,Instr.slice,w,(aV W a4 T).a_]
end
section drop
variable {aP br:m an}
def a5.cut(a:a5)(b:Nat):a5:={a with s:=a.s.take b}
def cB.drop{g}(e:cB (aP++br) b aa g)(h:lT (c aP) g=l):cB aP (b.cut (c aP)) aa g:=by
 have lt:∀{d:Nat},ay (d+1) (c aP)=l->d<c aP:=λq=>fl q;cases g with
 |c w=>exact e
 |any=>exact e
 |ptr d t=>
  have gR:=lt h;obtain⟨a,L,o,j,al⟩:=e;refine⟨λi k=>a i N,L,o,?_,al⟩;simp[a5.cut,iq,gR,dH];exact j
 |aK d=>
  have gR:=lt h;obtain⟨a,L,j,al⟩:=e;refine⟨λi k=>a i N,L,?_,al⟩;simp[a5.cut,iq,gR,dH];exact j
 |K d v=>
  have gR:=lt h;obtain⟨m,a,_,al⟩:=e;refine⟨m,a,gR,λW gl DH dJ k=>?_⟩;exact Q0
 |w d r s p=>
  have gR:=lt h;obtain⟨a,_,al⟩:=e;refine⟨a,gR,λW gl DH dJ k=>?_⟩;exact Q0
def bM.cJ:∀{A:m Y}{a:m Q},bM (aP++br) b A a->li (c aP) a=l->bM aP (b.cut (c aP)) A a
 |[],[],_,_=>trivial
 |[],_::_,d,_=>d.elim
 |_::_,[],d,_=>d.elim
 |i::A,h::a,d,e=>by
  simp[li]at e;cases g:lT (c aP) h with
  |false=>grind
  |true=>simp[g]at e;exact⟨d.1.drop g,bM.cJ d.2 e⟩
def eA.cJ{aa}{a}(h:eA (aP++br) b aa a)(g:po (c aP) a=l):eA aP (b.cut (c aP)) aa a:=by
 cases a with
 |ar j=>exact cB.drop h g
 |agg i=>obtain⟨A,d,e⟩:=h;exact⟨A,d,bM.cJ e g⟩
def eX.cJ:∀{A:m Y}{a:m E1},eX (aP++br) b A a->oq (c aP) a=l->eX aP (b.cut (c aP)) A a
 |[],[],_,_=>trivial
 |[],_::_,d,_=>d.elim
 |_::_,[],d,_=>d.elim
 |i::A,h::a,d,e=>by
  simp[oq]at e;cases g:po (c aP) h with
  |false=>grind
  |true=>simp[g]at e;exact⟨eA.cJ d.1 g,eX.cJ d.2 e⟩
def bv.drop{a}(h:bv (aP++br) b aa a)(g:hR (c aP) a=l):bv aP (b.cut (c aP)) aa a:=by
 cases a with
 |n j=>exact eA.cJ h g
 |Q i=>obtain⟨A,d,e⟩:=h;exact⟨A,d,eX.cJ e g⟩
 |any=>trivial
def de.drop{d}{h}(a:de d h (aP++br) b)(s:d.length<=c aP):de d h aP (b.cut (c aP)):=by refine⟨a.size,a.aV,a.mem,a.bz,λL k r o=>a.bN L (g0 k) r o,?_,a.os,a.tape,a.output,a.own⟩;intro p q L aI k;obtain⟨i,j,e,m,t⟩:=a.box p q L aI k;have g:p<c aP:=eH (cO.1 aI).1 s;rw[j5 g]at e;exact⟨i,j,e,by simp[a5.cut,iq,g,dH];exact m,t⟩
def cB.cH{g}(j:c b.s=c k)(e:cB k b aa g):lT (c k) g=l:=by
 have ok:∀{a:Nat},a<c k->ay (a+1) (c k)=l:=λd=>AJ d;have lt:∀{a:Nat} {L:Loc},b.s[a]?=f L->a<c k:=λd=>by grind
 cases g with
 |c t=>rfl
 |any=>rfl
 |ptr a r=>obtain⟨_,L,o,h,_⟩:=e;exact ok (lt h)
 |aK a=>obtain⟨_,L,h,_⟩:=e;exact ok (lt h)
 |K a s=>obtain⟨m,_,d,_⟩:=e;exact ok d
 |w a p q i=>exact ok e.2.1
def bM.cH{k}(e:c b.s=c k):∀{A:m Y}{a:m Q},bM k b A a->li (c k) a=l
 |[],[],_=>rfl
 |[],_::_,d=>d.elim
 |_::_,[],d=>d.elim
 |h::A,g::a,d=>by simp[li,d.1.cH e];exact bM.cH e d.2
def eA.cH{k}(a:c b.s=c k){aa}{d}(e:eA k b aa d):po (c k) d=l:=by
 cases d with
 |ar i=>exact cB.cH a e
 |agg g=>obtain⟨A,_,h⟩:=e;exact bM.cH a h
def eX.cH{k}(e:c b.s=c k):∀{A:m Y}{a:m E1},eX k b A a->oq (c k) a=l
 |[],[],_=>rfl
 |[],_::_,d=>d.elim
 |_::_,[],d=>d.elim
 |h::A,g::a,d=>by simp[oq,eA.cH e d.1];exact eX.cH e d.2
def bv.cH{k}(a:c b.s=c k){aa}{d}(e:bv k b aa d):hR (c k) d=l:=by
 cases d with
 |n i=>exact eA.cH a e
 |Q h=>obtain⟨A,_,g⟩:=e;exact eX.cH a g
 |any=>rfl
def Aq(o:Nat)(d:m an)(k:Nat)(b:an):Prop:=(∃h a,b=.cells h a/\li o a=l)∨d[k]?=f b∨(∃g e i j,b=.loop g e i/\d[k]?=f (.loop g e j))∨((∀h a,b≠.cells h a)/\∀g e i,b≠.loop g e i)
def bc.g2{w}{g}(q:bc g w)(x:g.length=c aP)(O:∀d(r:an),aP[d]?=f r->Aq (c aP) g d r)(s:bc (aP++br) b):bc aP (b.cut (c aP)):=by
 have E:c aP<=c b.s:=Ff;refine⟨s.mem,by simp[a5.cut,E],?_,?_,?_,λh a=>⟨(s.own h a).1,λL e=>(s.own h a).2 L (g0 e)⟩⟩
 .intro d r L aI e;have K:d<c aP:=(cO.1 aI).1;simp[a5.cut,iq,K,dH]at e;have p:=s.box d r L N e;have y:∃z,w.s[d]?=f z:=⟨_,bF (by rw[q.len,x];exact K)⟩
  obtain⟨z,y⟩:=y;have aa:=q.len.trans x;cases r with
  |cells J S=>
   obtain⟨h,A,j,k,I,F⟩:=p;refine⟨h,A,j,k,bM.cJ I ?_,F⟩;rcases O d _ aI with⟨_,_,t,i⟩|i|⟨_,_,_,_,t,_⟩|i
   .grind
   .obtain⟨_,_,_,_,Y,_⟩:=q.box d _ z i y;exact x▸Y.cH q.len
   .cases t
   grind
  |w J T U D=>exact p
  |E H=>exact p
  |J=>trivial
  |loop R Q Z=>
   obtain⟨m,tmps,fn,W,j,k,I,F,X⟩:=p;have key:∃o,g[d]?=f (.loop R Q o):=by
    rcases O d _ aI with⟨_,_,t,_⟩|i|⟨_,_,_,o,t,i⟩|i
    .cases t
    .grind
    .grind
    grind
   obtain⟨o,i⟩:=key;obtain⟨_,_,_,_,_,_,_,V,_⟩:=q.box d _ z i y;exact⟨m,tmps,fn,W,j,k,I,λM=>(F M).drop (x▸(V M).cH q.len),X⟩
  |bd=>exact p
  |p J T U D=>exact p
 .intro d m L C e B h a v;simp only[a5.cut,iq]at e B;split at e<;>split at B<;>first|exact s.a1 d m L C e B h a v|grind|grind
 intro L e h a;exact s.lt L (g0 e) h a
def bc.iT{e}(g:bc aP e)(d:bc (aP++br) b):bc aP (b.cut (c aP)):=g.g2 a (λ_ _ d=>.inr (.inl d)) d
def aK.e1{v:af P}{h}(m:aK v D all r F k (.n (.ar (.w (c k) h j U))) (k++[.w W h j U])):aK v D all r F k (ax (.R u h j U)) k:=by
 intro E y A g w s i x C d a p o;refine m E y A g w s i x C d a p λI e q b t=>?_;have B:e3 e (e.cut (c k)):=⟨rfl,λ_ _ _ m=>m,λ_ _ _=>rfl,b.mem,λw a=>a.imp id λ⟨L,z,a⟩=>⟨L,g0 z,a⟩⟩
 exact .aS B (o I (e.cut (c k)) q.1 (g.iT b) (t.drop (bB _)))
end drop
end Go.AM
