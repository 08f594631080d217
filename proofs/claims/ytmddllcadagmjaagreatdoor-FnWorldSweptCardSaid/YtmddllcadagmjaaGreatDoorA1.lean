/- Part 1. No condition. -/
import Derived.KernelRfl
import Derived.Tactics2
import Derived.LaidSub
import Derived.LaidLaws
import Derived.LaidHandle
import Derived.Conc.Own
import Derived.Conc.Events
import Derived.Conc.Listed
import Derived.Laws.CopyRow
import Derived.Laws.AppendOwn
import Derived.Laws.Rows
import Derived.Laws.Strings
import Derived.Laws.Cells
import Derived.Lib.Strings
import Derived.Laws.Slices
import Derived.Orders
import Derived.Laws.StructEq
set_option linter.all false
set_option maxHeartbeats 8000000
open Go.Conc (G)
open List renaming length → c, range → aA, replicate → aV, getD_eq_getElem?_getD → aj
open Go renaming Value → X, TypeId → ak, Event → aO, undef → J, World → au, Frame → aG, FuncId → a0, execOp → ab, Operand → ae, Program → aD, Goroutine → ai, stepG → ao, Oper → an
open Option renaming some → h, none → n
open Bool renaming true → l, false → v
open Nat renaming beq → ad, ble → ax
open Go.Region renaming wanted → aP, ready → aN
open Go.World renaming cell? → aI
open Go.Instr renaming sliceBounds → aT
open Go.Op renaming bytesLess → aS, equalIn → aL
open Go.Sem renaming events_bind → aC
open Go.Result renaming evThen_ok → aF
set_option linter.defProp false
set_option linter.deprecated false
namespace Go
def B:=@_root_.trivial
def bz:=@_root_.decide_eq_true_eq
def bJ:=@_root_.List.getElem?_eq_getElem
def a9:=@_root_.and_true
def a':=@_root_.true_and
def b':=@_root_.List.mem_of_getElem?
def dq:=@_root_.decide_eq_false_iff_not
def cP:=@_root_.List.getElem?_eq_some_iff
def dp:=@_root_.Nat.eq_of_beq_eq_true
def cR:=@_root_.Int.toNat_natCast
def c9:=@_root_.List.length_append
def bC:=@_root_.Nat.le_refl
def cp:=@_root_.Bool.and_eq_true
def c':=@_root_.Go.Result.andThen_ok
def cZ:=@_root_.Nat.zero_add
def c0:=@_root_.List.take_length
def bj:=@_root_.if_neg
def fT:=@_root_.List.length_singleton
def eN:=@_root_.beq_eq_false_iff_ne
def bo:=@_root_.if_pos
def cL:=@_root_.Go.Sem.run_bind
def hF:=@_root_.Array.getD_eq_getD_getElem?
def eE:=@_root_.Nat.lt_of_lt_of_le
def fz:=@_root_.Nat.le_of_ble_eq_true
def hd:=@_root_.List.getElem_of_mem
def e_:=@_root_.Option.some.injEq
def hx:=@_root_.List.getElem?_append_right
def fe:=@_root_.List.length_cons
def hf:=@_root_.Nat.mul_le_mul_right
def jJ:=@_root_.List.eq_nil_of_length_eq_zero
def e2:=@_root_.List.mem_append
def fU:=@_root_.List.mem_singleton
def d_:=@_root_.Go.Sem.run_pure
def gk:=@_root_.beq_self_eq_true
def dY:=@_root_.Nat.lt_or_ge
def gN:=@_root_.List.mem_of_mem_take
def iR:=@_root_.Array.getElem?_eq_getElem
def ix:=@_root_.List.getElem?_set_self
def fA:=@_root_.decide_eq_true
def eT:=@_root_.List.mem_cons
def gz:=@_root_.Bool.not_true
def jl:=@_root_.Array.getElem?_eq_some_iff
def hG:=@_root_.not_true_eq_false
def jm:=@_root_.List.getElem?_append_left
def dn:=@_root_.if_false
def e3:=@_root_.Nat.le_trans
def na:=@_root_.List.pairwise_iff_getElem
def iy:=@_root_.List.pairwise_cons
def gO:=@_root_.List.length_nil
def iz:=@_root_.List.length_filter_le
def g3:=@_root_.List.append_nil
def fV:=@_root_.Bool.true_and
def iA:=@_root_.List.getElem?_take
def iS:=@_root_.bne_self_eq_false
def iT:=@_root_.Bool.not_eq_true'
def hg:=@_root_.List.mem_filter
def dw:=@_root_.if_true
def sK:=@_root_.List.take_append_drop
def iB:=@_root_.List.mem_cons_self
def h9:=@_root_.Option.getD_some
def iC:=@_root_.Bool.not_false
def kg:=@_root_.List.getElem?_toArray
def gl:=@_root_.beq_iff_eq
def hS:=@_root_.List.foldl_cons
def qa:=@_root_.List.ext_getElem?
def kJ:=@_root_.List.getElem?_set_ne
def g4:=@_root_.List.mem_map
def uO:=@_root_.List.findIdx?_eq_some_iff_getElem
def eF:=@_root_.congrArg
def sL:=@_root_.List.take_add_one
def kh:=@_root_.Bool.false_eq_true
def iU:=@_root_.Nat.not_lt_zero
def ml:=@_root_.List.getElem?_cons_zero
def g5:=@_root_.Nat.zero_le
def jK:=@_root_.Bool.or_eq_true
def k_:=@_root_.List.append_assoc
def kK:=@_root_.List.length_map
def nb:=@_root_.Array.length_toList
def mm:=@_root_.List.mem_cons_of_mem
def xj:=@_root_.Array.getElem?_replicate
def n8:=@_root_.List.getElem?_cons_succ
def nc:=@_root_.List.pairwise_append
def A4:=@_root_.List.mem_iff_getElem
def sM:=@_root_.Nat.beq_refl
def o6:=@_root_.List.map_congr_left
def d':=@_root_.ne_eq
def ki:=@_root_.bne_iff_ne
def kj:=@_root_.List.map_cons
def lK:=@_root_.Option.map_some
def uP:=@_root_.Option.isSome_iff_exists
def jL:=@_root_.Nat.add_mul
def qb:=@_root_.not_false_eq_true
def kk:=@_root_.Nat.add_zero
def nd:=@_root_.List.getElem?_map
def uQ:=@_root_.Array.getElem?_setIfInBounds_self_of_lt
def sN:=@_root_.Array.getElem?_setIfInBounds_ne
def nf:=@_root_.decide_true
def n9:=@_root_.Nat.eq_zero_or_pos
def xk:=@_root_.Array.mapM_eq_mapM_toList
def lL:=@_root_.Prod.mk.injEq
def n4:=@_root_.decide_eq_false
def n5:=@_root_.Option.bind_some
def p4:=@_root_.List.mem_of_mem_drop
def n6:=@_root_.List.filter_cons
def w8:=@_root_.Array.toArray_toList
def rk:=@_root_.Option.map_eq_some_iff
def o1:=@_root_.List.getElem?_set
def rl:=@_root_.List.filter_eq_self
def n7:=@_root_.List.nil_append
def p5:=@_root_.Nat.add_sub_cancel
def p6:=@_root_.List.getElem?_drop
def o2:=@_root_.decide_false
def o3:=@_root_.Nat.succ_mul
def p7:=@_root_.Nat.mod_lt
def o4:=@_root_.Bool.eq_iff_iff
def rm:=@_root_.Int.toNat_of_nonneg
def p8:=@_root_.List.mem_flatMap
def p9:=@_root_.Bool.not_eq_true
def o5:=@_root_.List.mapM_cons
def AN:=@_root_.Bool.and_eq_false_iff
def uF:=@_root_.List.mem_of_find?_eq_some
def SC:=@_root_.List.drop_eq_getElem_cons
def rn:=@_root_.of_decide_eq_true
def sz:=@_root_.Nat.div_lt_of_lt_mul
def ro:=@_root_.List.pairwise_map
def rp:=@_root_.List.flatMap_cons
def k9:=@_root_.true_or
def uG:=@_root_.Nat.le_mul_of_pos_right
def rq:=@_root_.List.not_mem_nil
def rr:=@_root_.List.mem_range
def sA:=@_root_.List.length_drop
def ru:=@_root_.List.ext_getElem
def AO:=@_root_.List.take_of_length_le
def sB:=@_root_.List.find?_eq_none
def sC:=@_root_.Int.emod_lt_of_pos
def AP:=@_root_.Bool.not_eq_false'
def uH:=@_root_.UInt8.toNat_inj
def AQ:=@_root_.Nat.ble_eq_true_of_le
def uI:=@_root_.Array.mem_of_getElem?
def sD:=@_root_.Nat.sub_zero
def uJ:=@_root_.Nat.div_add_mod'
def sE:=@_root_.List.cons_append
def w9:=@_root_.Nat.lt_succ_iff_lt_or_eq
def sF:=@_root_.Option.some.inj
def sG:=@_root_.Int.emod_nonneg
def w_:=@_root_.List.range_succ_eq_map
def uK:=@_root_.List.foldl_append
def sH:=@_root_.Bool.false_and
def w':=@_root_.List.getElem?_eq_none
def p_:=@_root_.Nat.not_lt
def SD:=@_root_.List.find?_eq_some_iff_getElem
def uL:=@_root_.List.drop_length
def xa:=@_root_.Bool.or_eq_false_iff
def xb:=@_root_.List.length_set
def SE:=@_root_.bne_eq_false_iff_eq
def xc:=@_root_.Nat.mul_le_mul_left
def xd:=@_root_.List.length_pos_iff
def sI:=@_root_.Nat.sub_self
def AR:=@_root_.List.getElem?_concat_length
def Gr:=@_root_.List.length_eraseIdx_of_lt
def AS:=@_root_.List.mem_or_eq_of_mem_set
def AT:=@_root_.List.findIdx?_eq_none_iff
def xe:=@_root_.List.nodup_append
def Gs:=@_root_.List.set_eq_of_length_le
def sJ:=@_root_.Go.Sem.run_ite
def AU:=@_root_.Nat.add_sub_cancel_left
def AV:=@_root_.List.length_eq_zero_iff
def xf:=@_root_.List.getElem_mem
def xg:=@_root_.Nat.mul_comm
def uM:=@_root_.List.map_map
def Gt:=@_root_.List.drop_eq_nil_of_le
def AW:=@_root_.Array.getElem?_eq_none
def xh:=@_root_.Nat.le_antisymm
def AX:=@_root_.List.contains_iff_mem
def Gu:=@_root_.Array.getElem?_toList
def AY:=@_root_.Array.getElem?_modify
def AZ:=@_root_.Nat.pow_le_pow_right
def A0:=@_root_.List.mem_append_left
def A1:=@_root_.List.getElem?_of_mem
def uN:=@_root_.Int.le_refl
def p':=@_root_.Ne.symm
def A2:=@_root_.Nat.add_sub_cancel'
def xi:=@_root_.Nat.lt_irrefl
def A3:=@_root_.List.take_set
def bk{α:Sort _}{β:α→Sort _}{al:(E:α)→β E}:∀E,al E=al E:=λ_=>rfl
def a{α:Sort _}{x:α}:x=x:=rfl
section
variable{S:Prop}
abbrev m.{bA}(α:Type bA):=List α
def w(s:S:=by omega):=s
def N(s:S:=by grind):=s
def D(s:S:=by simp):=s
def bG(s:S:=by kernel_rfl):=s
def bM(s:S:=by simp;omega):=s
def ca(s:S:=by decide):=s
def ds(s:S:=by simp_all):=s
def iq(s:S:=by grind[h4]):=s
def h7(s:S:=by rw[bQ.len];grind):=s
def so(s:S:=by simp only[U,a7,bz,a',a9];and_intros<;>omega):=s
def lF(s:S:=by simp[a7]):=s
def q0(s:S:=by simp[G,ao,stepG.exec,Frame.U]):=s
def mb(s:S:=by simp only[phi];omega):=s
def j8(s:S:=by simp[a7];omega):=s
def ud(s:S:=by simp only[U,a7,a',a9];omega):=s
def OI(s:S:=by have f:E.data.toList.length=E.size:=nb;have u:bv.data.toList.length=bv.size:=nb;have ap:IntKind.i64.max=9223372036854775807:=rfl;have C:E.data.toList.length+bv.data.toList.length<=9223372036854775807:=cy;grind):=s
def ha(s:S:=by simp[s]):=s
def q5(s:S:=by simp only[U,a9];omega):=s
def m3(s:S:=by apply qa;grind):=s
def nS(s:S:=by simp only[a7];omega):=s
def Fy(s:S:=by show(aL (9999+1) o _ _).run P b.a=_;unfold aL;simp[underlying,C]):=s
def FJ(s:S:=by simp[b3,C,j,f,d,al,a1.J,bd.J,a4.J,az.J,A];omega):=s
def wO(s:S:=by simp only[bV,cR];omega):=s
def ae'(s:S:=by rw[x];simp only[jx,AN,dq];omega):=s
def ug(s:S:=by grind[List.getElem_of_mem]):=s
def O_(s:S:=by unfold Func.isWrapper;first|(rw[bo (by decide +kernel)];kernel_rfl)|(rw[bj (by decide +kernel)];exact⟨rfl,rfl⟩)):=s
def uh(s:S:=by rw[<-aZ];decide +kernel):=s
def pT(s:S:=by grind[pJ]):=s
def mc(s:S:=by simp[b3]):=s
def q6(s:S:=by cases he):=s
def q7(s:S:=by rw[cZ];rfl):=s
def Ah(s:S:=by grind[MB]):=s
def FX(s:S:=by rw[<-touchAt_old (u:=bA) (eE bp s.bP)];exact j):=s
def FY(s:S:=by rw[<-touchAt_old (u:=bA) (eE bp s.bP)];exact f):=s
def FZ(s:S:=by grind[Ep]):=s
def QL(s:S:=by simp[-aW,-List.all_eq_false,b3,i,t,x,a1.J,bd.J,a4.J,al,ap,C]):=s
def Ai(s:S:=by intro y aZ afc;grind[aet,NP]):=s
def Q6(s:S:=by show(aL (9999+1) o _ _).run P b.a=_;unfold aL;simp[underlying,j]):=s
def nT(s:S:=by simp;rfl):=s
def Rq(s:S:=by rw[Gu,iR (by omega:e<L.size)];simpa[hF,iR (by omega:e<L.size)]using H):=s
def ui(s:S:=by grind[kn]):=s
def oT(s:S:=by rfl):=s
def RT(s:S:=by refine Y.ab Tryz.func318 rfl λx=>?_;exact cB rfl (by simp[a7]) (g.ao rfl)):=s
def RU(s:S:=by simp only[ab,s];exact dA.bind dA.buildSlice (λ_=>dA.pure) _ _):=s
def F0(s:S:=by simp[G,ao,stepG.exec,Frame.U,s]):=s
def RV(s:S:=by intro hZ ap t;match hZ,t with|0,_=>exact .inr (by simp[deafBehind])|hZ+1,t=>grind):=s
def nU(s:S:=by simp[x]):=s
def uj(s:S:=by simp only;omega):=s
def wP(s:S:=by simp only[U,a7];omega):=s
def uk(s:S:=by simp[<-bQ.len]):=s
def RX(s:S:=by unfold hr;rw[k_];congr 1;rw[h4 (by grind) (0,0)];grind):=s
def F1(s:S:=by simp only[hF];grind):=s
def RY(s:S:=by show -9223372036854775808<=_/\_<=9223372036854775807;unfold lC;omega):=s
def RZ(s:S:=by simp[ab,cy,resolve,invoke,builtin,Builtin.len_,al,A,goInt,C]):=s
def Aj(s:S:=by simp only[dV,sM]):=s
def R0(s:S:=by unfold ez;rw[<-qT (d9 E.2)];exact Ic _):=s
def F2(s:S:=by grind[List.drop_eq_getElem_cons]):=s
def R2(s:S:=by grind[Array.mapM_eq_mapM_toList,Sem.run_map,Go.Result.andThen_ok]):=s
def R3(s:S:=by rw[show((b.2.1.length:Int)-1).toNat=b.2.1.length-1 by omega];rfl):=s
def pU(s:S:=by simp[O]):=s
def F3(s:S:=by simp only[U,a7,a9];omega):=s
def F4(s:S:=by rw[<-o3];exact hf _ bp):=s
def sn(s:S:=by grind[nM]):=s
def wQ(s:S:=by grind[mD]):=s
def Ak(s:S:=by simp[World.freeze,al]):=s
def F5(s:S:=by simp[b3,a4.l,a4.J]):=s
def ul(s:S:=by simp[bs,ap]):=s
def R4(s:S:=by rw[sL,<-abR];simp[aj,s]):=s
def afa(s:S:=by decide +kernel):=s
def R5(s:S:=by simp only[joinedFacts,cp];and_intros<;>decide +kernel):=s
def um(s:S:=by grind[Nat.eq_of_beq_eq_true]):=s
def F6(s:S:=by grind[List.take_append_drop]):=s
def Al(s:S:=by show _*24<=_;omega):=s
def wR(s:S:=by simpa using s):=s
def Am(s:S:=by unfold mN;grind):=s
def F7(s:S:=by simp[hN,je,nG,jD]):=s
def F8(s:S:=by unfold jv;split<;>omega):=s
def R6(s:S:=by simp[b3,bv,aa,eJ,a1.J,bd.J,a4.J,ba]):=s
def F9(s:S:=by simp[a1.l,bd.l,a4.l,az.l]):=s
def R7(s:S:=by simp only[U,a7,a',a9];and_intros<;>omega):=s
def F_(s:S:=by simp[bs]):=s
def R8(s:S:=by intro ap t;simp at t;subst t;exact bk_cell _ _ rfl):=s
def An(s:S:=by simp[ap]):=s
def F'(s:S:=by rw[Op.bytesLess.eq_def]):=s
def R9(s:S:=by simp[rA,e,bu.l,bu.J,sc,aa]):=s
def R_(s:S:=by rw[<-f.bA i (λL W eJ=>t ⟨L,W,eJ⟩)];exact bm):=s
def Ao(s:S:=by simpa using iV):=s
def un(s:S:=by simp[jR]):=s
def R'(s:S:=by simp only[U,a7,gz,a',a9];omega):=s
def Ap(s:S:=by cases op<;>rfl):=s
def Sa(s:S:=by simp[ab,cy,resolve,invoke,builtin]):=s
def wS(s:S:=by simp[bV]):=s
def Sb(s:S:=by simp only[U,a7,dq,a',a9];omega):=s
def Sc(s:S:=by simp only[U,a7,bz,a',a9];omega):=s
def Sd(s:S:=by rw[show IntKind.u64.bits=64 from rfl];omega):=s
def Ga(s:S:=by rw[t];simp):=s
def Se(s:S:=by unfold cc;grind[List.take_append_drop]):=s
def Sf(s:S:=by simp[ab,s,resolve,invoke,builtin]):=s
def Sg(s:S:=by unfold dD;grind[List.take_append_drop]):=s
def Gb(s:S:=by unfold fh;grind):=s
def z1(s:S:=by simp[fq]):=s
def N'(s:S:=by simp only[look];cases ad bA o<;>rfl):=s
def Oa(s:S:=by simp only[U.Y,U,j,u,gk,a']):=s
def Fb(s:S:=by rw[cE.aF.size];omega):=s
def Fc(s:S:=by simp only[da,i]):=s
def Ob(s:S:=by simp only[U.Y,U,ap,a',a9]):=s
def Oc(s:S:=by show(b.a.drew.heap.push _).size=_;simp):=s
def Od(s:S:=by rw[Gr (by simp;omega)];simp;omega):=s
def Oe(s:S:=by have:=Lx ee;simp only[a7];omega):=s
def Fe(s:S:=by unfold dr;omega):=s
def Ff(s:S:=by simp[Act.eval,stA]):=s
def Fg(s:S:=by simp only[dV,dG]):=s
def Fh(s:S:=by simp only[dV,c8]):=s
def Of(s:S:=by have:=Vc_upd y (⟨1,0,1⟩:WD) hn;grind):=s
def wE(s:S:=by simp[mk]):=s
def Og(s:S:=by simp only[fB,jK,bz];grind):=s
def wF(s:S:=by rw[upd_same];simp):=s
def Oh(s:S:=by simp[World.shape?,ba.heap _ _ ba.cI]):=s
def Oi(s:S:=by simp[Frame.enter,Frame.U,pj,cW,i]):=s
def Oj(s:S:=by simp only[U];exact az.J _):=s
def Ol(s:S:=by grind[run_store,setCell_eq_setRow]):=s
def ae7(s:S:=by simp[deafBehind]):=s
def Fi(s:S:=by simp[bV];omega):=s
def Om(s:S:=by simp only[U,a',a9];omega):=s
def On(s:S:=by unfold gD;rw[bj];grind):=s
def Oo(s:S:=by unfold eV Region.binds;grind):=s
def Oq(s:S:=by simp[b3,I,a4.l,a4.J]):=s
def Ot(s:S:=by simp[fE]):=s
def Fj(s:S:=by simp only[gq,nC,bj s];rfl):=s
def Ou(s:S:=by rw[h4 s (0,[])];simp):=s
def Ov(s:S:=by have:=eF List.length br;grind):=s
def Ow(s:S:=by grind[ZC]):=s
def Fk(s:S:=by grind[Option.isSome_iff_exists]):=s
def ae8(s:S:=by rw[<-o3];exact hf _ G):=s
def Ox(s:S:=by simpa using List.find?_some i):=s
def Oy(s:S:=by simp[zeroValue,typeInfo,N5,a]):=s
def Fl(s:S:=by grind[NG]):=s
def Oz(s:S:=by simp only[gq,nC,dw,e]):=s
def ae9(s:S:=by rw[JW C A aa];grind):=s
def ae_(s:S:=by simpa using ap):=s
def OA(s:S:=by simp[aI,C,bp]):=s
def OB(s:S:=by simp only[ab,cy,u]):=s
def OC(s:S:=by simp only[U,dq];omega):=s
def OD(s:S:=by simp only[U,bz];omega):=s
def OE(s:S:=by rw[<-d];simp only[KK];omega):=s
def OF(s:S:=by unfold fh at x⊢;grind):=s
def OG(s:S:=by simp[deafBehind,semEvents]):=s
def Fm(s:S:=by simp[cc]):=s
def OH(s:S:=by simp[mv,List.drop_take]):=s
def Fo(s:S:=by rw[ix bU]):=s
def fC(s:S:=by and_intros<;>omega):=s
def iN(s:S:=by exact .aK (a2.eT (d:=0) bc rfl rfl rfl rfl rfl) rfl):=s
def j9(s:S:=by rw[lM s N];simp):=s
def kE(s:S:=by exact dx _ _ rfl D):=s
def kF(s:S:=by refine g.b9 () [0,1,2] ?_ mB;simp):=s
def oS(s:S:=by refine g.b9 () [0,1] ?_ yw;simp):=s
def pS(s:S:=by simp only[U];grind):=s
def q1(s:S:=by exact .aK (a2.fI rfl rfl Tryz.underlying22 rfl ca) rfl):=s
def q2(s:S:=by and_intros<;>first|rfl|omega):=s
def q3(s:S:=by show e+1<=_;omega):=s
def q4(s:S:=by simp only[U,cZ,cR,al,a7,bz,a',a9];and_intros<;>omega):=s
def sj(s:S:=by refine g.freeze 4 1 rfl rfl rfl ?_;exact g.cv bc [] rfl D rfl rfl rfl e4):=s
def sk(s:S:=by exact bW.dh [0] rfl B rfl rfl rfl hl):=s
def sl(s:S:=by exact aQ rfl B (g.ao rfl)):=s
def sm(s:S:=by simp only[U,a7];and_intros<;>omega):=s
def ue(s:S:=by exact g.aI [0] rfl D s'):=s
def uf(s:S:=by simp only[U.Y,U,a',a9];and_intros<;>first|exact bs.same|exact u.2|rfl):=s
def wG(s:S:=by simp only[U,x,a7,bz,a',a9];and_intros<;>omega):=s
def wH(s:S:=by refine g.bM 6 rfl rfl rfl D D ?_;refine g.bM 7 rfl rfl rfl D D ?_;refine cU x rfl B ?_;refine g.b9 () [0,1,2] ?_ mB;simp[ii,C]):=s
def wI(s:S:=by exactλu=>⟨.w,.w,.w,.eval (bh:=[]) bc x (cq:=[a7 .i64 _]) rfl lF,.eval (bh:=[]) bc x (cq:=[_,_]) rfl lF,.w,.w,B,.w,B⟩):=s
def wJ(s:S:=by exact⟨.w,.w,.w,.eval (bh:=[]) bc x (cq:=[a7 .i64 _]) rfl lF,.eval (bh:=[]) bc x (cq:=[_,_]) rfl lF,.w,.w,B,B,B⟩):=s
def wK(s:S:=by exact dX.cH (λ_ _ _ _=>jf rfl) rfl rfl bA rfl D):=s
def wL(s:S:=by rw[w8]at this;exact this):=s
def wM(s:S:=by simp[hF,xj];split<;>simp):=s
def wN(s:S:=by refine g.eL 3 ?_;refine g.cJ 9 rfl (λ_=>rfl) ?_;refine g.ret ?_;exact⟨⟨_,bs.same⟩,.inl rfl,rfl,rfl,_,_,_,rfl,rfl,rfl,rfl⟩):=s
def z2(s:S:=by exact aQ rfl D (g.bu ⟨(7,.inl d),by simp only;omega⟩ (g.aI [] rfl D e4))):=s
def z3(s:S:=by exact aQ rfl D (g.bu ⟨(7,.inr (S,V)),by simp only;omega⟩ (g.aI [] rfl D e4))):=s
def z4(s:S:=by rw[ofEvent_loc_mark bm]at t;cases t):=s
def z5(s:S:=by rw[i];simp only[al];simp;exact O):=s
def z6(s:S:=by and_intros<;>first|exact j|omega):=s
def z7(s:S:=by simp only[U,al,a7,show dZ.bytes=8 from rfl,bz,dq,gl,eN,ki,SE,d'];and_intros<;>first|rfl|omega|(simp[hi,iV];done)):=s
def z8(s:S:=by grind [S_,aY.a3,a2.bits]):=s
def z9(s:S:=by refine g.freeze 8 1 rfl rfl rfl ?_;exact g.cv bc [] rfl D rfl rfl rfl e4):=s
def z_(s:S:=by rw[U,Z_ s ae']):=s
def z'(s:S:=by simp only[U,a7,dq,a',a9];and_intros<;>omega):=s
def Aa(s:S:=by simp only[U,cZ,cR,bA,bm,a7,bz,a',a9];and_intros<;>omega):=s
def Ab(s:S:=by exact a3 [-16] rfl bE (g.aw (e+1) rfl D D N w)):=s
def Ac(s:S:=by simp only[U,a1.l,a1.J,bd.l,bd.J,a4.l,a4.J,az.l,az.J,bu.l,bu.J,x,t,sc,O,i,gz,iC,a',a9];simp):=s
def Ad(s:S:=by exact cU x rfl B (g.ao rfl)):=s
def Ae(s:S:=by refine g.aA (qq b x.aZ x.bl x.aW x.bm x.aM) [] rfl ?_;refine cU t rfl B ?_;refine g.freeze 8 1 rfl rfl rfl ?_;refine g.cv bc [] rfl ?_ rfl rfl rfl e4;simp):=s
def Af(s:S:=by rw[t];simp only[U.Y,U,O,c9,fT,a',a9];and_intros<;>first|exact bs.same|exact al bv|rfl|omega):=s
def Ag(s:S:=by simp only[U,cZ,cR,C,a7,bz,a',a9];and_intros<;>omega):=s
def Fp(s:S:=by simp only[U,a1.l,a1.J,bd.l,bd.J,a4.l,a4.J,az.l,az.J,bu.l,bu.J,x,al,C,r,aa,nf,and_self,gz,iC,a',a9]):=s
def Fq(s:S:=by exact⟨by omega,by omega,by grind[MA]⟩):=s
def Fs(s:S:=by exact aY.eval (bh:=[]) bc a_.nil rfl cy):=s
def Ft(s:S:=by obtain⟨_,O⟩:=Kv bp;simp only[sD]at O;have ap:e<aX.length:=(cP.1 O).1;exact⟨by simp[kB,lo,O],AQ ap⟩):=s
def Fu(s:S:=by refine g.ao rfl ?_;simp[bs,ck]):=s
def Fv(s:S:=by exact⟨bU,cw,by grind,lW,.refl _ _⟩):=s
def Fw(s:S:=by have:(x==i)=v:=eN.2 N;simp[this]):=s
def Fx(s:S:=by refine g.eL 2 ?_;refine g.cJ 9 rfl (λ_=>rfl) ?_;refine g.cJ 10 rfl (λ_=>rfl) ?_;refine g.ret ?_;exact⟨⟨_,bs.same⟩,.inl rfl,rfl,rfl,_,_,_,rfl,rfl,rfl,rfl⟩):=s
def Fz(s:S:=by refine g.b9 () [] ?_ e4;simp):=s
def FA(s:S:=by grind [Go.Conc.mem_ofEvents]):=s
def FB(s:S:=by intro e r cy bp;simp[hF,xj]at bp;split at bp<;>simp at bp):=s
def FC(s:S:=by refine bf e [917] rfl B ?_;exact dx _ _ rfl D):=s
def FD(s:S:=by exact⟨λ_ _ _ _ he=>q6,λ_=>⟨λ_ _ _ _ he=>q6,.inl rfl⟩⟩):=s
def FE(s:S:=by refine g.aI [0] rfl ?_ (λu x=>absurd x D);simp):=s
def FF(s:S:=by refine cU x rfl B ?_;refine g.b9 () [0,1] ?_ yw;simp):=s
def FG(s:S:=by simp only[U,al,a7,show pk.bytes=16 from rfl,bz,dq,iT,AP,gl,eN,ki,d',ap,heq,hG,qb,gk,gz,iS,nf,o2,a',a9];and_intros<;>omega):=s
def FH(s:S:=by simp only[U,x,dq];and_intros<;>omega):=s
def FI(s:S:=by grind[List.pairwise_iff_getElem]):=s
def FK(s:S:=by exact⟨s.a.mono w,b3.1,b3.2⟩):=s
def FL(s:S:=by simp only[U,x,a7,show nA.bytes=32 from rfl,show mF.bytes=24 from rfl,bz,k9,a',a9];and_intros<;>omega):=s
def FM(s:S:=by have ap:=bd.cW b.2.1 s (0,[]);simp only[U.Y,U,i,cx.l,a9,a'];exact⟨⟨bs.same,bs.same,bs.same⟩,⟨bs.same,bs.same,bs.same⟩,⟨rfl,bs.same⟩,bs.same,ap⟩):=s
def FN(s:S:=by refine g.bE 6 81 2 rfl rfl (g.bc [ng []] rfl D (g.aI [0] rfl D ?_));grind):=s
def FO(s:S:=by simp only[U,c9,a7,bz,dq,a',a9];and_intros<;>omega):=s
def FP(s:S:=by obtain rfl:=jJ (x rfl);refine aQ rfl B ?_;refine g.ao rfl ?_;simp):=s
def FQ(s:S:=by refine g.aI [0] rfl ?_ (λu x=>absurd x D);simp;rfl):=s
def FR(s:S:=by simp only[U.Y,U,a9,a'];and_intros<;>first|exactλ_ _=>rfl|exact ap|rfl):=s
def FS(s:S:=by refine cU e rfl B (g.aS (bW.mk [0] rfl B rfl rfl rfl hl))):=s
def FT(s:S:=by simp[-aj,O];omega):=s
def FU(s:S:=by refine bR [-14] rfl bM (g.az ?_);exact cB rfl B (g.ao rfl)):=s
def FV(s:S:=by and_intros<;>first|omega|rfl):=s
def FW(s:S:=by simp only[U,x,a7,show rR.bytes=32 from rfl,a',a9];and_intros<;>omega):=s
def OJ(s:S:=by simp only[U.Y,U,x,o7,cZ,a9,a'];and_intros<;>first|exactλ_ _=>rfl|exact ap|rfl):=s
def OK(s:S:=by rw[al];simp only[U.Y,U,i,bS.l,j,h9,c9,fT,a',a9];and_intros<;>first|exact bs.same|exact R|rfl|omega):=s
def OL(s:S:=by simp only[U,b3,a4.l,a4.J,gz,bz,dq,a',a9];omega):=s
def OM(s:S:=by refine a3 [-9] rfl bM (g.bs rfl rfl ?_);refine aQ rfl B (g.ao rfl ?_);simp[th (λu r=>x u w)]):=s
def ON(s:S:=by exact .eval (bh:=[]) bc a_.nil (cq:=[a7 .i64 (((0:Nat):Int)-((0:Nat):Int))]) rfl lF):=s
def OO(s:S:=by refine a3 [16] rfl D (g.aS (bW.mk [0] rfl ?_ rfl rfl rfl ib));simp[tg s C x]):=s
def OP(s:S:=by simp only[U,cZ,t,ap,x,C,i,a7,bz,dq,a',a9];and_intros<;>omega):=s
def OQ(s:S:=by refine aQ rfl B ?_;exact⟨u,bW.dh [0] rfl B rfl rfl rfl ib⟩):=s
def OR(s:S:=by simp only[U,U.Y,i,O,t,pM,yb,a9];grind):=s
def OS(s:S:=by simp only;rw[f,c9,show ∀x,[x].length=1 fromλ_=>rfl,sL,A3,Gs N,S,ix w];rfl):=s
def OT(s:S:=by simp only[U,al,a7,show pk.bytes=16 from rfl,bz,dq,iT,AP,gl,eN,ki,d',heq,hG,qb,gk,gz,iS,nf,o2,a',a9];and_intros<;>omega):=s
def OU(s:S:=by obtain⟨kI,kf,Gq⟩:=s.last R b3 Dg ou bQ b_;grind):=s
def OV(s:S:=by have ap:((d.take (i0+1)).filter λE=>!bm E).length=i0:=ae9;simp[ap]):=s
def OW(s:S:=by obtain⟨rfl,rfl⟩:=s;obtain⟨i,x⟩:=cy;replace x:0<bv:=x;simp only[binOp,d',hG,dn,Op.intDiv,show bv≠0 by omega];rfl):=s
def OX(s:S:=by refine g.ret ?_;exact⟨(),.inl rfl,rfl,rfl,_,_,_,rfl,rfl,rfl,B⟩):=s
def OY(s:S:=by exact a3 [-16] rfl bE (g.b4 (e+1) rfl D rfl B N w)):=s
def OZ(s:S:=by simp only[U,xE,bz,dq,x];omega):=s
def O0(s:S:=by refine aQ rfl B (g.aI [0,1] rfl D ta (t:=bE))):=s
def O1(s:S:=by rw[Deaf_other o w _ g_of_ofEvents];exact s.above e bp):=s
def O2(s:S:=by have ap:(z.toArray++Array.replicate (fn.ntmps-z.toArray.size) J).getD o J=(z[o]?).getD J:=F1;grind):=s
def O3(s:S:=by simp[-aj,j,a7,cx.l,cx.J,a1.l,a1.J,A,C.1];and_intros<;>first|omega|grind):=s
def O4(s:S:=by intro _;refine aQ rfl B (g.aI [0] rfl ?_ ib);simp):=s
def O5(s:S:=by rw[t];simp only[U.Y,U,al,a',a9];and_intros<;>first|exact u|exact f|simp|rfl|omega):=s
def O6(s:S:=by have ap:scanDown (λE=>!ltInt E d2[x]!) d2 (d) (s)=f:=Ah;exact dx () B rfl bw rfl D):=s
def O7(s:S:=by refine a3 [-7] rfl bM (g.bs rfl rfl ?_);refine aQ rfl B (g.ao rfl ?_);rw[U,aab (λu O=>t u w)]):=s
def O8(s:S:=by simp only[U,a7,show dZ.bytes=8 from rfl,bz,dq,gl,eN,d'];and_intros<;>first|rfl|omega|(simp[hi];done)):=s
def O9(s:S:=by simp[-aj,C,a7,r,c5.B];omega):=s
def O'(s:S:=by refine g.cU 4 0 2 3 (lt:=_) (cA:=.ax al d u t) rfl rfl (λ_=>rfl) (λ_=>rfl) (λ_ _=>by decide) ?_;exact g.aI [0] rfl D s'):=s
def Pa(s:S:=by exact⟨b_ bv,C,λs1 c8=>⟨bv,p,R.rely c8 C,C.rely c8,O.trans c8.aT,ap⟩⟩):=s
def Pb(s:S:=by simp[ab,cy,resolve,C,Deferred.ofValue,invoke,callFunc,O,t,i]):=s
def Pc(s:S:=by simp only[U,Cv,bS.l,x,bS.J];simp[s,lg,x,i,-List.length_flatten]):=s
def Pd(s:S:=by have R:0+((((d.take u).filter λE=>!bm E).length:Nat):Int).toNat=((d.take u).filter λE=>!bm E).length:=w;simp only[U.Y,U,R,a9,a'];exact ap):=s
def Pe(s:S:=by have:=O.ba _ (kr (show b.2.1.length-1<b.2.1.length by omega) (0,[]));omega):=s
def Pf(s:S:=by refine g.bf () [] ?_ (λu i=>absurd i D);simp):=s
def Pg(s:S:=by refine a3 [16] rfl D (g.bR (bW.zero rfl ?_));simp[tg s A x]):=s
def Ph(s:S:=by simp only[U.Y,U,cZ,cR,bA,a9,a'];exact li S w w (λ_ _=>rfl)):=s
def Pj(s:S:=by refine g.bM 1 rfl rfl rfl D D ?_;exact g.ao rfl (by simp[x,ii])):=s
def Pk(s:S:=by have ap:scanDown (λE=>!ltInt E d0[x]!) d0 (e) (i-1)=f:=Ah;exact dx () B rfl bw rfl D):=s
def Pl(s:S:=by simp only[Go.binOp,d',hG,dn,Op.intBits,ap,sf O];exact⟨rfl,rfl⟩):=s
def Pm(s:S:=by simp only[bm]at p⊢;obtain⟨vS,afi,afg⟩:=s.dO _ _ bm;grind[mD]):=s
def Pn(s:S:=by simp only[U.Y,U,cZ,cR,u,e,s,xorNext_toNat,a9,a'];exact li d w w (λ_ _=>rfl)):=s
def Po(s:S:=by rw[t];simp only[U.Y,U,al,a',a9];and_intros<;>first|exact u|simp|simp|simp|rfl|omega|simp):=s
def Pp(s:S:=by rw[t];simp only[U.Y,U,al,a',a9];and_intros<;>first|exact u|exact f|exactλ_ _=>rfl|rfl|omega):=s
def Pq(s:S:=by exact⟨(),.inr rfl,rfl,rfl,_,_,_,rfl,rfl,rfl,B⟩):=s
def Pr(s:S:=by rename_i C;cases s;rw[C]at t;have i:=b8 t;generalize ap:x.tmps.getD O J=aa at i;cases i;rw[key _ ap (by simp[J])]):=s
def Ps(s:S:=by simp only[U,O,a7,show dZ.bytes=8 from rfl];exact bw):=s
def Pt(s:S:=by have ap:=dp cW;subst ap;exact DP (W:=W) (V:=dK) (b8 C) D uk):=s
def Pu(s:S:=by simp only[U,b3,a4.l,a4.J,gz,bz,a',a9];omega):=s
def Pv(s:S:=by refine g.ret ?_;exact⟨⟨_,bs.same⟩,.inl rfl,rfl,rfl,_,_,_,rfl,rfl,rfl,B⟩):=s
def Pw(s:S:=by simp only[U,i,a7,bz,eN,a',a9];and_intros<;>first|grind|omega):=s
def Px(s:S:=by exact bW.dh [0,1] rfl B bE rfl rfl ta):=s
def Py(s:S:=by exact bR [14,-25] rfl lO (g.aw (e+1) rfl D D N w)):=s
def Pz(s:S:=by simp[x]at s;subst s;obtain⟨i,O⟩:=EE x;grind):=s
def PA(s:S:=by exact .aK (a2.gT rfl rfl Tryz.underlying22 rfl ca) rfl):=s
def PC(s:S:=by simp only[U,kA,t0,cR,d,r,O,al,bz,i];grind):=s
def PD(s:S:=by refine cU C rfl B (g.aI [0] rfl ?_ hl);simp):=s
def PE(s:S:=by rw[x];simp only[U.Y,U,c9,fe,gO,a',a9];and_intros<;>first|exactλ_ _=>rfl|exact ba|rfl|omega):=s
def PF(s:S:=by simp only[U.Y,U,O,c9,fT,a',a9];and_intros<;>first|exact bs.same|exact ap|rfl|omega):=s
def PG(s:S:=by have bm:=C _ al;simp only[U,i,bI.l,a7];exact⟨by omega,B,B,show(e+1)*32<=_ by omega,bI.J _,bm,by omega,by omega,fA w⟩):=s
def PH(s:S:=by have ap:O[e]?=(d.filter λE=>!bm E)[e]?:=N;refine(N9 wO).trans ?_;simp only[c5.fn,gI,aj,ap]):=s
def PI(s:S:=by simp only[f]at j⊢;obtain⟨vS,bA,Gp⟩:=s.dO _ _ f;grind[mD]):=s
def PJ(s:S:=by simp[G,ao,stepG.exec,Frame.U,C,O,al,GStep.after,doReturn,b3]):=s
def PK(s:S:=by simp only[U.Y,U,c9,fT,a',a9];and_intros<;>first|exact bs.same|exact t|rfl|omega):=s
def PL(s:S:=by rename_i bU;cases s;exact aY.a3 ba (a2.pick bm bU)):=s
def PM(s:S:=by exact .ctl al rfl (λ_=>MF) λb6 dG=>lX .normal dE ar b6 fS bm (C.rely dG al) (al.rely dG) (O.trans dG.aT)):=s
def PN(s:S:=by refine bR [-52,55] rfl An (g.aI [0] rfl ?_ hl);exact bE):=s
def PO(s:S:=by rw[this];refine a3 [-9] rfl bw (g.az ?_);exact aQ rfl B (g.ao rfl)):=s
def PP(s:S:=by rw[t];simp only[U.Y,U,c9,fT,a',a9];and_intros<;>first|exact bs.same|exact al j|rfl|omega):=s
def PQ(s:S:=by simp only[U,cZ,t,ap,x,i,a7,bz,dq,a',a9];and_intros<;>omega):=s
def PR(s:S:=by rw[d];simp[-aj];exact bu.a0 _ al):=s
def PS(s:S:=by rw[x];simp only[U.Y,U,i,a',a9];and_intros<;>first|exact bs.same|exact ap|rfl|omega):=s
def PT(s:S:=by simp only[U.Y,U,cZ,t,ap,x,a9,a'];exact li u w w (λ_ _=>rfl)):=s
def PU(s:S:=by exact⟨by simp[aK,MemAct.low],λi t=>by simp[aK,MemAct.touch?]at t,λi t=>by simp[aK,MemAct.touch?]at t,⟨by simp,by simp⟩,by simp⟩):=s
def PV(s:S:=by obtain⟨c8,dG⟩:=al W gn DN dK N;refine⟨c8,λap=>?_⟩;obtain⟨L,S,A⟩:=dG ap;refine⟨L,?_,A⟩;simp only[a6.cut,iA,gU,dw];exact S):=s
def PW(s:S:=by simp[-aj,kn,al,O,a7];omega):=s
def PX(s:S:=by have ap:scanDown (λE=>ltInt d2[x]! E) d2 (al) (t)=f:=Ah;exact dx () B rfl bw rfl D):=s
def PY(s:S:=by refine i4 ?_;change dv b (Sem.events P (asInt (.int .i64 0) >>= _) _ _);simp[asInt,asIntOf,IntKind.max];exact .nil):=s
def PZ(s:S:=by exact .dc (.aK (a2.gT rfl rfl Tryz.underlying22 rfl ca) rfl)):=s
def P0(s:S:=by simp only[U,cZ,cR,bU,bm,a7,bz,a',a9];and_intros<;>omega):=s
def P1(s:S:=by refine aQ rfl B (g.ret (.freeze 8 4 rfl rfl rfl (.freeze 9 5 rfl rfl rfl (.of ⟨(),k7.cells bc [0,1] rfl ?_ rfl rfl rfl qt⟩))));simp):=s
def P2(s:S:=by rw[f];simp only[c9,fT,U.Y,U,x,a',a9];and_intros<;>first|exact A|simp|rfl|omega):=s
def P3(s:S:=by rw[t];simp only[U.Y,U,O,c9,fe,gO,a',a9];and_intros<;>first|exact bs.same|exact r j bv|rfl|omega):=s
def P4(s:S:=by simp only[U,a1.l,bd.l,a4.l,bu.l,e,sc,j];and_intros<;>first|rfl|exact True.intro|exact a1.J _|exact bd.J _|exact a4.J _|exact bu.J _|exact ba):=s
def P5(s:S:=by simp only[U,a7,show yM.bytes=40 from rfl,a',a9];and_intros<;>omega):=s
def P6(s:S:=by rw[f.bA i (eE cW s.size) (dx i cW ju),s.bA i cW ju]):=s
def P7(s:S:=by rw[O];simp[-aj,s5];exact bS.a0 _ _):=s
def P8(s:S:=by simp only[jc,cp]at this;grind[pe]):=s
def P9(s:S:=by simp only[U,x,i,a7,show yM.bytes=40 from rfl,show dZ.bytes=8 from rfl,bz,k9,a',a9];and_intros<;>omega):=s
def P_(s:S:=by simp only[U,a7,dq,eN,d'];and_intros<;>omega):=s
def P'(s:S:=by exact .aK (a2.fI rfl rfl Tryz.underlying22 rfl x) rfl):=s
def Qa(s:S:=by obtain rfl:e=S.2.length:=w;rw[c0];refine a8 i [-15] rfl D (g.az ?_);refine b9 i rfl B ?_;refine g.bf () [] ?_ (λu f=>absurd f D);simp[fj]):=s
def Qb(s:S:=by simp only[U.Y,U,cZ,a',a9];and_intros<;>first|exact bs.same|exact dM|rfl):=s
def Qc(s:S:=by simp only[Go.binOp,Op.shift,bj (show¬i<0 by omega),s];exact⟨rfl,rfl⟩):=s
def Qd(s:S:=by rw[t];simp only[U.Y,U,al,a',a9];and_intros<;>first|exact u|simp|simp|grind|rfl|omega|simp):=s
def Qe(s:S:=by simp only[hr,List.take_zero,g3,o,U.Y,U,a',a9];and_intros<;>first|simp|rfl|omega):=s
def Qf(s:S:=by refine g.b9 () [0,1,2] ?_ mB;simp[ii]):=s
def Qg(s:S:=by simp[-aj,r,bm,s,a7];omega):=s
def Qh(s:S:=by simp only[U.Y,U,c9,fT,a',a9];and_intros<;>first|exact bs.same|exact k6|rfl|omega):=s
def Qi(s:S:=by refine g.bf () [0,1] ?_ yw;simp):=s
def Qj(s:S:=by simp only[U.Y,U,i,a',a9];and_intros<;>first|exactλ_ _=>rfl|exact t|rfl|omega):=s
def Qk(s:S:=by simp only[U,t,i,bz,k9,a',a9];and_intros<;>omega):=s
def Ql(s:S:=by refine g.eL 2 ?_;refine g.cJ 9 rfl (λ_=>rfl) ?_;refine g.ret ?_;exact⟨⟨_,bs.same⟩,.inl rfl,rfl,rfl,_,_,_,rfl,rfl,rfl,rfl⟩):=s
def Qm(s:S:=by refine aQ rfl B (g.aI [0] rfl ?_ ib);simp):=s
def Qn(s:S:=by simp only[dw]at O;subst O;exact cB rfl B (g.ao rfl)):=s
def Qo(s:S:=by simp only[U,show nA.bytes=32 from rfl,a',a9];grind):=s
def Qp(s:S:=by refine a3 [-8] rfl D (g.az ?_);exact aQ rfl B (g.ao rfl)):=s
def Qq(s:S:=by have bm:=O _ al;simp only[U,i,cx.l,a7];exact⟨by omega,B,B,show(e+1)*32<=_ by omega,cx.J _,bm.1,bm.2,by omega,by omega,fA w⟩):=s
def Qr(s:S:=by refine aQ rfl B ?_;refine g.aA (YR (q:=q) f (by simpa using b3)) [] rfl ?_;refine a3 [18,22] rfl D ?_;refine g.b9 () [] ?_ e4;simp):=s
def Qs(s:S:=by refine cB rfl B (g.aI [0] rfl ?_ ib);simp;rfl):=s
def Qt(s:S:=by simp[-aj,-List.contains_eq_mem,O,s,al,az.l,az.J,a7];omega):=s
def Qu(s:S:=by rw[eJ];simp only[U.Y,U,cR,A,R,c9,fT,a',a9];and_intros<;>first|exact bs.same|exact H|rfl|omega):=s
def Qv(s:S:=by rw[i];simp only[U.Y,U,cR,O,t,bI.l,az.l,c9,fT,a',a9];and_intros<;>first|exact bs.same|exact d|rfl|omega):=s
def Qw(s:S:=by rw[i];simp[-aj];exact bu.a0 _ (cv o e,lD o e)):=s
def Qx(s:S:=by simp only[U.Y,U,bs.same,a',a9];rfl):=s
def Qy(s:S:=by simp only[U.Y,U,cZ,cR,a9,a'];exact li bA w w (λ_ _=>rfl)):=s
def Qz(s:S:=by simp only[U.Y,U,a',a9];and_intros<;>first|exact bs.same|rfl|(intro e bp;match e,bp with|0,_=>rfl|1,_=>rfl)):=s
def QA(s:S:=by simp only[U.Y,U,c9,fT,a',a9];and_intros<;>first|exact bs.same|exact bU|rfl|omega):=s
def QB(s:S:=by refine a3 [-9] rfl bM (g.az ?_);refine aQ rfl B (g.aI [0] rfl ?_ ib);simp[th (λu j=>x u w)]):=s
def QC(s:S:=by simp[-aj,s,kA,t0,i,O,C,t,A];omega):=s
def QD(s:S:=by refine⟨rfl,λe bp=>?_⟩;rcases e with _|_|_|_|_|_|_|_|e<;>first|rfl|omega):=s
def QE(s:S:=by simp only[U.Y,U,a9,a',xb];exact⟨bs.same,bs.same,bs.same⟩):=s
def QF(s:S:=by and_intros<;>first|exact bS.J _|rfl|omega):=s
def QG(s:S:=by refine g.cU 4 0 2 9 (lt:=.ax O e f C) (cA:=.nil) rfl rfl (λ_=>rfl) (λs=>absurd rfl s) (λ_ s=>absurd rfl s) ?_;exact g.aI [0] rfl D s'):=s
def QH(s:S:=by have ap:=a1.cW b.1 s (0,[]);simp only[U.Y,U,i,bI.l,a9,a'];exact⟨⟨bs.same,bs.same,bs.same⟩,⟨bs.same,bs.same,bs.same⟩,⟨rfl,bs.same⟩,ap,bs.same⟩):=s
def QI(s:S:=by exact .aK (KB 0 rfl rfl rfl lF (λp=>rfl) (λp=>rfl)) rfl):=s
def QJ(s:S:=by simp[-aj,A,o,bI.l,bI.J,s]):=s
def QK(s:S:=by refine⟨by grind[nM],by grind,?_⟩;rw[<-t,u1,al,show x+L / 4*2-1+(3-(f+1))+1=x+L / 4*2-1+(3-f) by omega]):=s
def QM(s:S:=by simp only[aI];grind[setRow_other]):=s
def QN(s:S:=by subst d;exact⟨.bool l,by simp[ab,s,i,O,x,binOp,f],Rd.bool,by simp[ab,s,i,O,x,al,binOp,f,C]⟩):=s
def QO(s:S:=by rw[i];simp only[U.Y,U,cR,C,c9,fT,a',a9];and_intros<;>first|exact bs.same|exact u|rfl|omega):=s
def QP(s:S:=by simp only[U.Y,U,x,i,o7,cZ,a9,a'];and_intros<;>first|exactλ_ _=>rfl|exact A|rfl):=s
def QQ(s:S:=by exact a3 [8] rfl (fA (Kt s)) (g.ao rfl)):=s
def QR(s:S:=by simp[-aj,bA,o,b3,i,r,bI.l,bI.J,a7];omega):=s
def QS(s:S:=by refine⟨by grind,ba,by grind,λe bp=>bA e N⟩):=s
def QT(s:S:=by show h (E1.Q (R.c (nC b.1 e (.slice (h ⟨i,0,n⟩) ag.length cap) (0+(e:Int).toNat))))=_;rw[j,nC,bo rfl]):=s
def QU(s:S:=by simp only[U,a7,ap,t,A,bz,eq_self,a',a9];omega):=s
def QV(s:S:=by refine b9 i rfl bE (g.aw (e+1) rfl D ?_ s w);simp):=s
def QW(s:S:=by refine bR [52] rfl (by simp[al]) (g.aI [0] rfl ?_ hl);exact bE):=s
def QX(s:S:=by rw[i];simp only[U.Y,U,cR,O,c9,fT,a',a9];and_intros<;>first|exact bs.same|exact d|rfl|omega):=s
def QY(s:S:=by exact aQ rfl D (g.bu ⟨(7,f+3),by simp⟩ (g.aI [0] rfl D kQ))):=s
def QZ(s:S:=by have O:a_ (af.aC T) [(8,eO [gT j7,gT j7] (bg l))]:=.cons (e8 Je) .nil;refine bf O [-44,-50,53,57] rfl D (g.aI [0,1,2] rfl ?_ mB);simp):=s
def Q0(s:S:=by and_intros<;>first|exact bs.same|exact k6|rfl):=s
def Q1(s:S:=by have cE:a_ (af.aC T) [(8,eO [gT j7,gT j7] (bg l))]:=.cons (e8 Je) .nil;refine bf cE [-44,-50,53,57] rfl D (g.aI [0,1,2] rfl ?_ mB);simp):=s
def Q2(s:S:=by have ap:scanUp (λE=>ltInt E d0[x]!) d0 (i-1) (x+1)=f:=FZ;exact dx () B rfl bw rfl D):=s
def Q3(s:S:=by have ap:scanUp (λE=>!ltInt d2[x]! E) d2 (t) (dZ)=f:=FZ;exact dx () B rfl bw rfl D):=s
def Q4(s:S:=by simp only[U,a7,ap,t,e,bz,dq,a',a9];omega):=s
def Q5(s:S:=by refine cU i rfl ud ?_;exact⟨⟨_,by rw[cZ];exact e'⟩,.inr rfl,rfl,rfl,_,_,_,rfl,rfl,rfl,B⟩):=s
def Q7(s:S:=by simp only[U,bz,a',a9];and_intros<;>omega):=s
def Q8(s:S:=by simp only[U,xE,bz,dq,x,a7];omega):=s
def Q9(s:S:=by subst s;cases E<;>cases bv<;>simp only at O<;>simp[binOp,x]):=s
def Q_(s:S:=by have afk:bm*a5.size+a5.size<=A*a5.size:=ae8;grind):=s
def Q'(s:S:=by intro j s;rw[fe,List.range'_succ];refine⟨by simpa using s 0 r rfl,x (j+1) λu i Kq=>?_⟩;have:=s (u+1) i N;grind):=s
def Ra(s:S:=by refine b9 x rfl bE ?_;refine g.aK (yZ ((min (al+8) o.length:Nat):Int) rfl rfl rfl w d) rfl rfl ?_;refine b9 x rfl B (g.ao rfl ?_);simp[ap]):=s
def Rb(s:S:=by simp only[U,a7,bz,a',a9];and_intros<;>first|rfl|omega):=s
def Rc(s:S:=by simp[-aj];exact bu.a0 _ al):=s
def Re(s:S:=by simp only[U,cZ,t,ap,x,f,C,i,a7,bz,dq,a',a9];and_intros<;>omega):=s
def Rf(s:S:=by exact aY.eval (bh:=[]) bc a_.nil rfl (nz b d j i s)):=s
def Rg(s:S:=by simp only[U,show vx.bytes=16 from rfl,a',a9];grind):=s
def Rh(s:S:=by simp[-aj,A,j,o,bI.l,bI.J,s,a7];omega):=s
def Ri(s:S:=by simp only[U,a7,bz,dq,a',a9];and_intros<;>omega):=s
def Rj(s:S:=by and_intros<;>first|exact bS.J _|exact ff.J _|omega):=s
def Rk(s:S:=by subst d;exact⟨.bool v,by simp[ab,s,i,O,x,binOp,f],Rd.bool,by simp[ab,s,i,O,x,al,binOp,f,C]⟩):=s
def Rl(s:S:=by simp only[U,a1.l,bd.l,a4.l,bu.l,e,sc,r];and_intros<;>first|rfl|exact True.intro|exact a1.J _|exact bd.J _|exact a4.J _|exact bu.J _|exact ba):=s
def Rm(s:S:=by refine⟨i,rfl,?_⟩;rw[bj w];simp[g6,jL]):=s
def Rn(s:S:=by have ap:scanUp (λE=>ltInt E d2[x]!) d2 (s) (dZ)=f:=FZ;exact dx () B rfl bw rfl D):=s
def Ro(s:S:=by have:=s e (rr.2 bp);simp only[io,cp]at this;grind):=s
def Rp(s:S:=by and_intros<;>first|exactλ_ _=>rfl|exact ap|rfl|omega):=s
def Rr(s:S:=by simp[-aj,j,r,a7,cx.l,cx.J,a1.l,a1.J,A,C.1];and_intros<;>first|omega|grind):=s
def Rs(s:S:=by exact a3 [-8] rfl (n4 Ow) (g.ao rfl)):=s
def Rt(s:S:=by rw[<-gU,dM]at f1;simp only[ie,e_]at f1;grind):=s
def Ru(s:S:=by simp only[oD,x,hq,t];grind[Nat.eq_of_beq_eq_true]):=s
def Rv(s:S:=by simp only[U,C,t,i,bu.l,bu.J,nf,and_self,gk,a',a9]):=s
def Rw(s:S:=by refine a3 [-18,22] rfl bM ?_;refine g.b9 () [] ?_ e4;simp):=s
def Rx(s:S:=by exact⟨by exact cV,λi f=>by exact cV,⟨by simp,by simp⟩,by simp⟩):=s
def Ry(s:S:=by rename_i ap;subst ap;intro pre vw;refine .ctl al rfl (λ_=>ME (gn:=f) (by rw[vw];simp[exitTo])) λb6 dG=>?_;exact lX .normal dE ar b6 fS bm (C.rely dG al) (al.rely dG) (O.trans dG.aT)):=s
def Rz(s:S:=by rw[hJ]at s;cases s;exact fm.dc (eh aZ ap i cy) al f):=s
def RA(s:S:=by simp[-aj,-List.length_take,O,kn,i,C,t,a7];omega):=s
def RB(s:S:=by refine bR [-52,-55] rfl bw (g.aI [0] rfl ?_ hl);simp[al,ap,qy,Df]):=s
def RC(s:S:=by have i:=(aZ o e bp).run_underlying (p:=b.a);rw[al]at i;simp[ab,s,x,O,Instr.index,asIntOf,i,Kq,C]):=s
def RD(s:S:=by obtain⟨S,L1,c8,dG,ba⟩:=s.box d bU L aJ x;obtain⟨o,u,k1,al,C⟩:=f.box d S L1 c8 dG;exact⟨o,u,k1,al,ba.trans C⟩):=s
def RE(s:S:=by have:=O.aZ _ (kr (show b.1.length-1<b.1.length by omega) (0,[]));omega):=s
def RF(s:S:=by simp only[U,bI.l,x,b3];and_intros<;>first|exact bI.J _|rfl|exact True.intro|grind):=s
def RG(s:S:=by have ap:=JW C A aa;refine⟨by omega,rfl,?_,λ_ _=>rfl⟩;grind):=s
def RH(s:S:=by obtain⟨e,r,i,x⟩:=Dd s;exact⟨e+1,r,by grind,x⟩):=s
def RI(s:S:=by simp only[U,a7,i,x,gk,bz,dq,a',a9];and_intros<;>omega):=s
def RJ(s:S:=by refine aQ rfl B ?_;exact⟨(),.inr rfl,rfl,rfl,_,_,_,rfl,rfl,rfl,B⟩):=s
def RK(s:S:=by simp[-aj,O,t];omega):=s
def RL(s:S:=by simp[-aj,-List.contains_eq_mem,O,s,al,az.l,az.J,a7,show mF.bytes=24 from rfl];omega):=s
def RM(s:S:=by rw[t];simp only[U.Y,U,cR,O,c9,fT,a',a9];and_intros<;>first|exact bs.same|exact C|rfl|omega):=s
def RN(s:S:=by simp[-aj,A,j,s,hi,a7,cx.l,cx.J,a1.l,a1.J,bd.J,a4.J,r,bm.1];and_intros<;>first|omega|grind):=s
def RO(s:S:=by rw[d];simp only[U.Y,U,i,t,A,a1.l,c9,fT,a',a9];and_intros<;>first|exact bs.same|exact r|rfl|omega):=s
def RP(s:S:=by simp only[ie,e_]at dM;rw[<-dM,f2,s.db]at e';omega):=s
def RQ(s:S:=by simp at O;subst O;exact⟨_,rfl,.inr ⟨rfl,rfl⟩⟩):=s
def RR(s:S:=by simp[ab,cy,resolve,t,Deferred.ofValue,invoke,O]):=s
def RS(s:S:=by refine g.cU 4 0 9 2 (lt:=.nil) (cA:=.ax al d u t) rfl rfl (λs=>absurd rfl s) (λ_=>rfl) (λs=>absurd rfl s) ?_;exact g.aI [0] rfl D s'):=s
end
end Go
namespace Go.AM
instance{j:Nat}:OfNat (Nat×Bool) j:=⟨(j,true)⟩
instance:Neg (Nat×Bool):=⟨λE=>(E.1,false)⟩
inductive M where
  |int (f:IntKind) (j:Int)
  |bool (i:Bool)
  |T (b:List UInt8)
  |B (tight:Bool) (f j:Nat) (V:Nat->List M)
  |R (ah:List M)
  |bp
  |cg (o:ak) (t:M)
  |cE (o:ak) (ah:List M)
  |bD
  |fn (al:Fn) (first cap:List M)
  |dq
  |val (E:X)
inductive pV where
  |B (C f r j:Nat)
  |bx (C f e al:Nat)
def pV.g:pV->Nat
  |.B C _ _ _=>C
  |.bx C _ _ _=>C
def pV.fW:pV->X->X->Prop
  |.B _ g m k,d,i=>∃j e a b,i=.slice j k a/\k<=a/\m+a=b/\b<=9223372036854775807/\d=.slice e 0 b/\(0<a->∃f,e=h ⟨f,0,n⟩/\j=h ⟨f,m*g,n⟩)
  |.bx _ g p o,d,i=>∃f b,d=.slice (h ⟨f,0,n⟩) 0 b/\i=.pointer (h ⟨f,p*g+o,n⟩)
inductive R where
  |c (E:M)
  |ptr (d off:Nat)
  |x (d f j:Nat) (V:Nat->List M)
  |aY (d:Nat)
  |O (d:Nat) (p:pV)
  |any
abbrev R.v(a:X):R:=.c (.val a)
inductive E1 where
  |Q (x:R)
  |agg (ah:List R)
inductive y where
  |n (E:E1)
  |S (ag:List E1)
  |any
abbrev bL:=m (Nat×y)
def look:bL->Nat->y
  |[],_=>.any
  | (d,b)::e,a=>cond (ad d a) b (look e a)
inductive aq where
  |cells (W:ak) (ah:List R)
  |x (W:ak) (f j:Nat) (V:Nat->List M)
  |K (H:X->(Nat->Option Obj)->Prop)
  |N
  |loop (F:Nat) (I:bL) (ba:Loop)
  |bn
  |q (W:ak) (f j:Nat) (V:Nat->List M)
@[simp] def aq.dL:aq->Bool
  |.x _ _ _ _=>l
  |.q _ _ _ _=>l
  |_=>v
structure Loc where
  v:X
  aj:m Nat
abbrev Mem:=Nat->Nat->Option X
structure a6 where
  s:m Loc
  D:Mem
  a:au
  own:Nat->Prop
def a7:IntKind->Int->Prop
  |.i8,a=>-128<=a/\a<=127
  |.i16,a=>-32768<=a/\a<=32767
  |.i32,a=>-2147483648<=a/\a<=2147483647
  |.i64,a=>-9223372036854775808<=a/\a<=9223372036854775807
  |.u8,a=>0<=a/\a<=255
  |.u16,a=>0<=a/\a<=65535
  |.u32,a=>0<=a/\a<=4294967295
  |.u64,a=>0<=a/\a<=18446744073709551615
def dT:X->Bool
  |.agg _|.tuple _=>v
  |_=>l
def pV.fW.cell{b:pV}{aah aa}(a:b.fW aah aa):dT aa=l:=by
  cases b with
  |B=>obtain⟨_,_,_,_,rfl,_⟩:=a;rfl
  |bx=>obtain⟨_,_,_,rfl⟩:=a;rfl
inductive Rd (bB:Mem):X->M->Prop
  |int {f:IntKind} {j:Int} (s:a7 f j):Rd bB (.int f j) (.int f j)
  |bool {i:Bool}:Rd bB (.bool i) (.bool i)
  |T {b:ByteArray} {d:List UInt8} (s:b.data.toList=d) (gU:c d<=9223372036854775807):Rd bB (.string b) (.T d)
  |B {x:Option Addr} {j cap:Nat} {tight:Bool} {f:Nat} {V:Nat->List M} (i off:Nat) (al:Nat->Nat->X)
      (aff:j<=cap) (cW:cap<=9223372036854775807) (afl:tight=l->cap=j) (b3:∀e,e<j->c (V e)=f)
      (afd:0<j->x=h ⟨i,off,n⟩)
      (Dh:∀e,e<j->∀u t,(V e)[u]?=h t->bB i (off+e*f+u)=h (al e u))
      (Kr:∀e,e<j->∀u t,(V e)[u]?=h t->Rd bB (al e u) t):Rd bB (.slice x j cap) (.B tight f j V)
  |R {ah:List M} (i off:Nat) (al:Nat->X)
      (Dh:∀u t,ah[u]?=h t->bB i (off+u)=h (al u))
      (Kr:∀u t,ah[u]?=h t->Rd bB (al u) t):Rd bB (.pointer (h ⟨i,off,n⟩)) (.R ah)
  |bp:Rd bB (.pointer n) .bp
  |cg {o:ak} {aa:X} {t:M} (s:Rd bB aa t) (afe:dT aa=l):Rd bB (.iface o aa) (.cg o t)
  |cE {o:ak} {z:List X} {ah:List M} (gU:c z=c ah)
      (al:Nat->X) (pj:∀u,u<c z->z[u]?=h (al u)) (Kr:∀u t,ah[u]?=h t->Rd bB (al u) t):Rd bB (.iface o (.agg z.toArray)) (.cE o ah)
  |bD:Rd bB .nilIface .bD
  |fn {C:Fn} {first cap:List M} (yG ah:List X) (gU:c yG=c first) (afh:c ah=c cap) (f1 f2:Nat->X)
      (c8:∀u,u<c yG->yG[u]?=h (f1 u)) (dG:∀u,u<c ah->ah[u]?=h (f2 u))
      (afq:∀u t,first[u]?=h t->Rd bB (f1 u) t) (afr:∀u t,cap[u]?=h t->Rd bB (f2 u) t):Rd bB (.func C yG.toArray ah.toArray) (.fn C first cap)
  |dq:Rd bB .nilFunc .dq
  |val {E:X} (s:dT E=l):Rd bB E (.val E)
theorem Rd.bd{bB}{aa a}(b:Rd bB aa (.val a)):aa=a:=by cases b;rfl
def Rd.cell{bB}{aa}{t}(a:Rd bB aa t):dT aa=l:=by cases a<;>first|rfl|assumption
def Rd.mono{bB m}(J:∀k K aa,bB k K=h aa->m k K=h aa){aa}{t}(g:Rd bB aa t):Rd m aa t:=by
  induction g with
  |int g=>exact .int g
  |bool=>exact .bool
  |T g e=>exact .T g e
  |B k f o M D F E C j q b=>
    exact .B k f o M D F E C (λI i d t a=>J _ _ _ (j I i d t a)) (λI i d t a=>b I i d t a)
  |R k f o j q b=>exact .R k f o (λd t a=>J _ _ _ (j d t a)) (λd t a=>b d t a)
  |bp=>exact .bp
  |cg g N b=>exact .cg b N
  |cE e o O q b=>exact .cE e o O (λd t a=>b d t a)
  |bD=>exact .bD
  |fn y u e p w x z A Q S r s=>exact .fn y u e p w x z A (λd t a=>r d t a) (λd t a=>s d t a)
  |dq=>exact .dq
  |val g=>exact .val g
def cC(g:m aq)(i:a6)(b:X):R->Prop
  |.c w=>Rd i.D b w
  |.ptr a o=>(∀j,g[a]?=h j->j.dL=v)/\∃L u,i.s[a]?=h L/\L.v=.pointer (h ⟨u,0,n⟩)/\b=.pointer (h ⟨u,o,n⟩)
  |.x a q e d=>Rd i.D b (.B v q e d)/\a<c g/\∀p r f k,g[a]?=h (aq.x p r f k)->e<=f/\(f=e->∃L,i.s[a]?=h L/\b=L.v)
  |.aY a=>(∀j,g[a]?=h j->j.dL=v)/\∃L,i.s[a]?=h L/\b=L.v/\dT b=l
  |.O a s=>∃t,s.fW t b/\a<c g/\∀p q e d,g[a]?=h (aq.q p q e d)->s.g<=e/\(s.g=e->∃L,i.s[a]?=h L/\L.v=t)
  |.any=>dT b=l
def bN(b:m aq)(d:a6):m X->m R->Prop
  |[],[]=>True
  |f::z,e::a=>cC b d f e/\bN b d z a
  |_,_=>False
def eB(b:m aq)(d:a6)(e:X):E1->Prop
  |.Q f=>cC b d e f
  |.agg a=>∃z:m X,e=.agg z.toArray/\bN b d z a
def e1(b:m aq)(d:a6):m X->m E1->Prop
  |[],[]=>True
  |f::z,e::a=>eB b d f e/\e1 b d z a
  |_,_=>False
def bx(b:m aq)(d:a6)(e:X):y->Prop
  |.n f=>eB b d e f
  |.S a=>∃z:m X,e=.tuple z.toArray/\e1 b d z a
  |.any=>True
def b5(b:m aq)(d:a6):m X->m y->Prop
  |[],[]=>True
  |f::z,e::a=>bx b d f e/\b5 b d z a
  |_,_=>False
structure e0(bB:Mem)(f j:Nat)(V:Nat->m M)(z:m X):Prop where
  len:c z=j*f
  bF:∀e,e<j->c (V e)=f
  rd:∀e,e<j->∀(u:Nat) (t:M),(V e)[u]?=h t->∃aa,z[e*f+u]?=h aa/\Rd bB aa t
def e0.mono{bB a}(o:∀i k aa,bB i k=h aa->a i k=h aa){f j}{b:Nat->m M}{z}(d:e0 bB f j b z):e0 a f j b z:=
  ⟨d.len,d.bF,λq e r p g=>let ⟨aa,c8,dG⟩:=d.rd q e r p g;⟨aa,c8,dG.mono o⟩⟩
def eA(u:m aq)(b:a6):aq->Loc->Prop
  |.cells o s,L=>∃a z,L=⟨.pointer (h ⟨a,0,n⟩),[a]⟩/\b.a.heap[a]?=h (.cells (List.toArray z) o (0,0))/\bN u b z s/\∀d,b.D a d=n
  |.x o j f e,L=>Rd b.D L.v (.B v j f e) /\
      (((L.aj=[]/\f=0)/\Rd b.D L.v (.B l j f e)) ∨
       ∃a g z,L=⟨.slice (h ⟨a,0,n⟩) f g,[a]⟩/\b.a.heap[a]?=h (.cells (List.toArray z) o (0,0))/\c z=g*j/\∀d,f*j<=d->b.D a d=n)
  |.K H,L=>∃i,H L.v i/\(∀a d,i a=h d->b.a.heap[a]?=h d)/\(∀a,a∈L.aj↔(i a).isSome=l)/\∀a∈L.aj,∀d,b.D a d=n
  |.N,_=>True
  |.loop y x k,L=>∃r tmps fn t,L=⟨.func (.yield r) #[] #[],[r]⟩/\b.a.heap[r]?=h (.loop {k with tmps:=tmps,fn:=fn,defers:=t})/\tmps.size=y/\(∀w,bx u b (tmps.getD w J) (look x w))/\∀d,b.D r d=n
  |.bn,L=>∃k:Nat,L=⟨.int .i64 k,[k]⟩/\b.a.heap[k]?=h (.deferred (h []))/\∀d,b.D k d=n
  |.q o j f e,L=>(f=0/\L=⟨.slice n 0 0,[]⟩)∨∃a q z p,L=⟨.slice (h ⟨a,0,n⟩) 0 q,[a]⟩/\b.a.heap[a]?=h (.cells (List.toArray (z++p)) o (0,0))/\c (z++p)=q*j/\f<=q/\q<=9223372036854775807/\e0 b.D j f e z/\∀d,b.D a d=n
structure bb(k:m aq)(b:a6):Prop where
  mem:∀i r aa,b.D i r=h aa->b.a.cell? ⟨i,r,n⟩=h aa
  len:c b.s=c k
  box:∀(d:Nat) (bU:aq) (L:Loc),k[d]?=h bU->b.s[d]?=h L->eA k b bU L
  a4:∀(d kS:Nat) (L cw:Loc),b.s[d]?=h L->b.s[kS]?=h cw->∀i∈L.aj,i∈cw.aj->d=kS
  lt:∀L∈b.s,∀i∈L.aj,i<b.a.heap.size
  own:∀i,b.own i->i<b.a.heap.size/\∀L∈b.s,i∉L.aj
def fQ:aq->Loc->aq->Loc->Prop
  |.x _ _ d _,L,.x _ _ b _,a=>(b=d->a.v=L.v)/\d<=b
  |.x _ _ _ _,_,.N,_=>True
  |.x _ _ _ _,_,_,_=>False
  |.q _ _ d _,L,.q _ _ b _,a=>(b=d->a.v=L.v)/\d<=b
  |.q _ _ _ _,_,.N,_=>True
  |.q _ _ _ _,_,_,_=>False
  |_,_,.x _ _ _ _,_=>False
  |_,_,.q _ _ _ _,_=>False
  |.N,L,.N,a=>a.v=L.v
  |.N,_,_,_=>False
  |.bn,L,.bn,a=>a.v=L.v
  |.bn,_,_,_=>False
  |_,_,.bn,_=>False
  |_,L,_,a=>a.v=L.v
structure fw(k:m aq)(b:a6)(ar:m aq)(aE:a6):Prop where
  mem:∀i r aa,b.D i r=h aa->aE.D i r=h aa
  box:∀(d:Nat) (bU:aq) (L:Loc),k[d]?=h bU->b.s[d]?=h L->∃ed cw,ar[d]?=h ed/\aE.s[d]?=h cw/\fQ bU L ed cw
structure cO(k:m aq)(b:a6)(ar:m aq)(aE:a6):Prop where
  size:b.a.heap.size<=aE.a.heap.size
  a7:∀i,i<b.a.heap.size->(∀L∈b.s,i∉L.aj)->aE.a.heap[i]?=b.a.heap[i]?
  mem:∀i r aa,b.D i r=h aa->aE.D i r=h aa
  bA:∀i,i<b.a.heap.size->(∀L∈b.s,i∉L.aj)->∀r,aE.D i r=b.D i r
  bS:∀cw∈aE.s,∀i∈cw.aj,b.a.heap.size<=i∨∃L∈b.s,i∈L.aj
  box:∀(d:Nat) (bU:aq) (L:Loc),k[d]?=h bU->b.s[d]?=h L->∃ed cw,ar[d]?=h ed/\aE.s[d]?=h cw/\fQ bU L ed cw
  os:aE.a.os=b.a.os
  tape:aE.a.tape=b.a.tape
  output:aE.a.output=b.a.output
  own:aE.own=b.own
structure dh(k:m aq)(b:a6)(ar:m aq)(aE:a6):Prop where
  size:b.a.heap.size<=aE.a.heap.size
  a7:∀i,b.own i->aE.a.heap[i]?=b.a.heap[i]?
  mem:∀i r aa,b.D i r=h aa->aE.D i r=h aa
  bA:∀i,i<b.a.heap.size->(∀L∈b.s,i∉L.aj)->∀r,aE.D i r=b.D i r
  bS:∀cw∈aE.s,∀i∈cw.aj,b.a.heap.size<=i∨∃L∈b.s,i∈L.aj
  box:∀(d:Nat) (bU:aq) (L:Loc),k[d]?=h bU->b.s[d]?=h L->∃ed cw,ar[d]?=h ed/\aE.s[d]?=h cw/\fQ bU L ed cw
  os:aE.a.os=b.a.os
  tape:aE.a.tape=b.a.tape
  output:aE.a.output=b.a.output
  own:aE.own=b.own
structure cX(b aE:a6):Prop where
  s:aE.s=b.s
  D:aE.D=b.D
  own:aE.own=b.own
  size:b.a.heap.size<=aE.a.heap.size
  a7:∀i,(b.own i∨∃L∈b.s,i∈L.aj)->aE.a.heap[i]?=b.a.heap[i]?
  mem:∀i r aa,b.D i r=h aa->aE.a.cell? ⟨i,r,n⟩=h aa
  os:aE.a.os=b.a.os
  tape:aE.a.tape=b.a.tape
  output:aE.a.output=b.a.output
def ia(d:a6)(b:aO):Prop:=
  match b.loc with
  |.cell a=>b.sync=v/\a.spot=n/\(False∨((∃L∈d.s,a.block∈L.aj)/\(b.write=l->d.D a.block a.off=n))∨(b.write=v/\∃i,d.D a.block a.off=h i))
  |.obj g=>b.sync=v/\(False∨∃L∈d.s,g∈L.aj)
  |.mark e=>e=.noRoom∨∃f,e=.extern f
  |_=>False
def dv(d:a6)(a:Array aO):Prop:=∀b∈a,ia d b
def dv.nil{b}:dv b #[]:=by intro a d;grind
def fQ.refl(a)(L):fQ a L a L:=by cases a<;>simp[fQ]
def fQ.trans{f d a}{L e b}(i:fQ f L d e)(g:fQ d e a b):fQ f L a b:=by
  cases f<;>cases d<;>cases a<;>simp_all[fQ]
  all_goals
    grind
def cO.refl(k)(b):cO k b k b:=
  ⟨bC _,λ_ _ _=>rfl,λ_ _ _ a=>a,λ_ _ _ _=>rfl,λL a g d=>.inr ⟨L,a,d⟩,λ_ e L a f=>⟨e,L,a,f,.refl _ _⟩,rfl,rfl,rfl,rfl⟩
def cO.trans{k aU a}{b e b6}(s:cO k b aU e)(f:cO aU e a b6):cO k b a b6:=by
  have dx:∀i,i<b.a.heap.size->(∀L∈b.s,i∉L.aj)->∀L∈e.s,i∉L.aj:=by
    intro i cW ju L x g;rcases s.bS L x i g with c8|⟨w,t,p⟩
    · omega
    grind
  refine⟨e3 s.size f.size,?_,λi m y j=>f.mem _ _ _ (s.mem _ _ _ j),?_,?_,?_,f.os.trans s.os,f.tape.trans s.tape,f.output.trans s.output,f.own.trans s.own⟩
  · intro i cW ju
    rw[f.a7 i (eE cW s.size) (dx i cW ju),s.a7 i cW ju]
  · intro i cW ju m
    exact P6
  · intro L x i cW
    rcases f.bS L x i cW with c8|⟨L1,r,q⟩
    · exact .inl (e3 s.size c8)
    grind
  · intro d bU L aJ x
    exact RD
def dh.refl(k)(b):dh k b k b:=
  ⟨bC _,λ_ _=>rfl,λ_ _ _ a=>a,λ_ _ _ _=>rfl,λL a g d=>.inr ⟨L,a,d⟩,λ_ e L a f=>⟨e,L,a,f,.refl _ _⟩,rfl,rfl,rfl,rfl⟩
def dh.trans{k aU a}{b e b6}(s:dh k b aU e)(f:dh aU e a b6):dh k b a b6:=by
  have dx:∀i,i<b.a.heap.size->(∀L∈b.s,i∉L.aj)->∀L∈e.s,i∉L.aj:=by
    intro i cW ju L x g;rcases s.bS L x i g with c8|⟨w,t,p⟩
    · omega
    grind
  refine⟨e3 s.size f.size,?_,λi m y j=>f.mem _ _ _ (s.mem _ _ _ j),?_,?_,?_,f.os.trans s.os,f.tape.trans s.tape,f.output.trans s.output,f.own.trans s.own⟩
  · intro i cW
    rw[f.a7 i (by rw[s.own];exact cW),s.a7 i cW]
  · intro i cW ju m
    exact P6
  · intro L x i cW
    rcases f.bS L x i cW with c8|⟨L1,r,q⟩
    · exact .inl (e3 s.size c8)
    grind
  · intro d bU L aJ x
    exact RD
def cO.too0{k ar}{b aE}(e:bb k b)(a:cO k b ar aE):dh k b ar aE:=
  ⟨a.size,λf d=>a.a7 f (e.own f d).1 (e.own f d).2,a.mem,a.bA,a.bS,a.box,a.os,a.tape,a.output,a.own⟩
def dh.ext{k ar}{b aE}(a:dh k b ar aE):fw k b ar aE:=⟨a.mem,a.box⟩
def cX.refl{k}{b}(a:bb k b):cX b b:=⟨rfl,rfl,rfl,bC _,λ_ _=>rfl,a.mem,rfl,rfl,rfl⟩
def cX.aT{k}{b aE}(a:cX b aE):dh k b k aE:=
  ⟨a.size,λf d=>a.a7 f (.inl d),λf m o i=>by rw[a.D];exact i,λ_ _ _ _=>by rw[a.D],λL e f d=>.inr ⟨L,by rw[<-a.s];exact e,d⟩,
    λj g L aJ e=>⟨g,L,aJ,by rw[a.s];exact e,.refl _ _⟩,a.os,a.tape,a.output,a.own⟩
def cO.ext{k ar}{b aE}(a:cO k b ar aE):fw k b ar aE:=⟨a.mem,a.box⟩
section mono
variable {k ar:m aq}{b aE:a6}
def fw.ht(m:fw k b ar aE){a:Nat}{L}(j:b.s[a]?=h L)(o:c b.s=c k)(g:∀d,k[a]?=h d->d.dL=v):
    (∀d,ar[a]?=h d->d.dL=v)/\∃e,aE.s[a]?=h e/\e.v=L.v:=by have i:a<c k:=N;obtain⟨f,e,k1,q,r⟩:=m.box a (k[a]) L (bJ i) j;have p:=g _ (bJ i);generalize k[a]=d at *;rw[k1];cases d<;>cases f<;>simp_all[fQ,aq.dL]
def cC.mono(i:fw k b ar aE)(s:c b.s=c k){aa}{x}(j:cC k b aa x):cC ar aE aa x:=by
  cases x with
  |c V=>exact Rd.mono i.mem j
  |any=>exact j
  |ptr a K=>
    obtain⟨g,L,N,e,z,F⟩:=j;obtain⟨q,d,k1,A⟩:=i.ht e s g;exact⟨q,d,N,k1,by grind,F⟩
  |x a S T O=>
    obtain⟨B,m,Q⟩:=j;obtain⟨u,d,k1,A,r⟩:=i.box a (k[a]) (b.s[a]'w) (bJ m) (bJ w);have y:a<c ar:=(cP.1 k1).1;refine⟨Rd.mono i.mem B,y,λM C q o f=>?_⟩;rw[f]at k1;cases k1;have aJ:=bJ m;generalize k[a]=t at *;cases t with
    |x eR D I p=>
      obtain⟨R,J⟩:=r;grind
    |_=>simp[fQ]at r
  |aY a=>
    obtain⟨g,L,e,z,F⟩:=j;obtain⟨q,d,k1,A⟩:=i.ht e s g;exact⟨q,d,k1,by grind,F⟩
  |O a U=>
    obtain⟨E,B,m,Q⟩:=j;obtain⟨u,d,k1,A,r⟩:=i.box a (k[a]) (b.s[a]'w) (bJ m) (bJ w);have y:a<c ar:=(cP.1 k1).1;refine⟨E,B,y,λM C q o f=>?_⟩;rw[f]at k1;cases k1;have aJ:=bJ m;generalize k[a]=t at *;cases t with
    |q eR D I p=>
      obtain⟨R,J⟩:=r;grind
    |_=>simp[fQ]at r
def bN.mono(f:fw k b ar aE)(a:c b.s=c k){z}{ah}(e:bN k b z ah):bN ar aE z ah:=by
  induction z generalizing ah with
  |nil=>cases ah<;>simp_all[bN]
  |cons i z d=>
    cases ah with
    |nil=>simp[bN]at e
    |cons g ah=>exact⟨e.1.mono f a,d e.2⟩
def eB.mono(g:fw k b ar aE)(a:c b.s=c k){aa}{f}(i:eB k b aa f):eB ar aE aa f:=by
  cases f with
  |Q m=>exact cC.mono g a i
  |agg j=>obtain⟨z,d,e⟩:=i;exact⟨z,d,e.mono g a⟩
def e1.mono(g:fw k b ar aE)(a:c b.s=c k){z}{ag}(e:e1 k b z ag):e1 ar aE z ag:=by
  induction z generalizing ag with
  |nil=>cases ag<;>simp_all[e1]
  |cons j z d=>
    cases ag with
    |nil=>simp[e1]at e
    |cons i f=>exact⟨e.1.mono g a,d e.2⟩
def bx.mono(g:fw k b ar aE)(a:c b.s=c k){aa}{d}(i:bx k b aa d):bx ar aE aa d:=by
  cases d with
  |n m=>exact eB.mono g a i
  |S j=>obtain⟨z,e,f⟩:=i;exact⟨z,e,f.mono g a⟩
  |any=>trivial
def b5.mono(g:fw k b ar aE)(a:c b.s=c k){z}{ag}(e:b5 k b z ag):b5 ar aE z ag:=by
  induction z generalizing ag with
  |nil=>cases ag<;>simp_all[b5]
  |cons j z d=>
    cases ag with
    |nil=>simp[b5]at e
    |cons i f=>exact⟨e.1.mono g a,d e.2⟩
end mono
def ji(e:m aq)(g:a6):m Deferred->m Nat->Prop
  |[],[]=>True
  |i::b,d::a=>(e[d]?=h .bn/\∃(L:Loc) (f:Nat),g.s[d]?=h L/\L.v=.int .i64 f/\i={target:=.collected f,args:=#[]})/\d∉a/\ji e g b a
  |_,_=>False
def ji.mono{k ar}{b aE}(o:fw k b ar aE):∀{a:m Deferred} {d:m Nat},ji k b a d->ji ar aE a d
  |[],[],_=>trivial
  |[],_::_,e=>e.elim
  |_::_,[],e=>e.elim
  |w::a,u::d,⟨⟨i,L,e,j,x,s⟩,t,p⟩=>by
    obtain⟨f,g,k1,q,r⟩:=o.box u _ L i j;cases f<;>simp[fQ]at r
    exact⟨⟨k1,g,e,q,by grind,s⟩,t,ji.mono o p⟩
def jY:m aq->Bool
  |[]=>l
  |.bn::_=>v
  |_::a=>jY a
def vQ:∀{e:m aq},jY e=l->∀a∈e,a≠.bn
  |[],_,a,aJ=>by grind
  |d::f,g,a,aJ=>by
    have b:d≠.bn/\jY f=l:=by cases d<;>simp_all[jY]
    rcases eT.1 aJ with rfl|aJ
    · exact b.1
    · exact vQ b.2 a aJ
theorem mA{b}{a}{wr}{L}(d:L∈b.s)(e:a∈L.aj):ia b ⟨.obj a,wr,v⟩:=⟨rfl,.inr ⟨L,d,e⟩⟩
def dv.Q{b}{a}(e:ia b a):dv b #[a]:=by intro E d;grind
def dv.fo{b}{d a}(g:ia b d)(f:ia b a):dv b #[d,a]:=by intro i e;grind
def bw{S:Prop}(s:S:=by simp<;>omega):S:=s
def cV{S:Prop}(s:S:=by((try simp only[U,U.Y,a7,bz,dq,cR,cZ,c9,fT,fe,gO,kK,List.length_take,d',eN,gl,ki,dn,dw,gk,iS,gz,iC,hG,qb,cp,jK,iT,nf,o2,k9,a9,a']);and_intros<;>first|rfl|omega|trivial|assumption)):S:=s
def hI{S:Prop}(s:S:=by((try simp only[*,U,U.Y,a7,bz,dq,cR,cZ,c9,fT,fe,gO,kK,List.length_take,d',eN,gl,ki,dn,dw,gk,iS,gz,iC,hG,qb,cp,jK,iT,nf,o2,k9,a9,a']);and_intros<;>first|rfl|omega|trivial|assumption)):S:=s
def lO{S:Prop}(s:S:=by(simp_all[U,U.Y,a7,bz,dq,cR,cZ,c9,fT,fe,gO,kK,List.length_take,d',eN,gl,ki,dn,dw,gk,iS,gz,iC,hG,qb,cp,jK,iT,nf,o2,k9,a9,a']<;>omega)):S:=s
def bE{S:Prop}(s:S:=by((try simp only[*,U,U.Y,a7,bz,dq,cR,cZ,c9,fT,fe,gO,kK,List.length_take,d',eN,gl,ki,dn,dw,gk,iS,gz,iC,hG,qb,cp,jK,iT,nf,o2,k9,a9,a',a1.l,a4.l,bd.l,bI.l,az.l,bu.l,bS.l,cx.l,ff.l,a1.J,a4.J,bd.J,bI.J,az.J,bu.J,bS.J,cx.J,ff.J]);and_intros<;>first|rfl|omega|trivial|assumption)):S:=s
abbrev ay(a:M):y:=.n (.Q (.c a))
abbrev aH(a b:Nat):y:=.n (.Q (.ptr a b))
abbrev cF(a:Nat)(b:pV):y:=.n (.Q (.O a b))
abbrev cN(a:Value):y:=.n (.Q (.c (.val a)))
variable {j A:Nat}{f:Int}{d i e u:Nat}{W:ak}{H:X->(Nat->Option Obj)->Prop}{L:Array Bool}{bB:Mem}{F:Nat}{P:aD}{br:ai->a6->Prop}{t:Code}{C:ai}{r:an}{b:a6}{o:ak}{aa:X}{p:au}{α:Type}{η:ae->y}{ι:Type}{k:m aq}{I:bL}{all:m an}{dt:Array ak}{cap:m M}{cS:m y}{ld:Nat->Option Obj}{ah:m aG}{bh:m (Nat×Bool)}{V:Nat->m M}{cQ:ae}{gs:Array ai}{aX:m Nat}{cq:m Prop}{off:Nat}{op:BinOp}{aR:Array an}{Z:m Prop}{bq:m an}{aE:a6}{ty:ak}{val:Nat->Nat->X}{z:m X}{bi:au}{ag:Array ae}{ar dj:m aq}{res:ι->y}{aU:ι->m aq}
def KF{P}{p}:∀{o:m (String×DataW Unit)}{d:m MemPlace},DataW.LaidVars P p o d->∀{e:String}{g:DataW Unit},(e,g)∈o ->
  ∃i j b a q,P.globalNamed e=h i/\(P.globals[i]?).map (·.type)=h j/\p.var? P e=h b/\DataW.trod (λ_=>()) P p 0 (λ_=>l) v a j b.toList=h (g,q)
 |[],_,_,_,_,f=>by cases f
 |(z,s)::B,d,t,e,g,f=>by
  obtain⟨i,j,b,a,q,A,x,u,y,w,r,_⟩:=t;rcases eT.1 f with k|k
  .grind
  exact KF r k
theorem MM{P}{a:au}(b:a.ShapedOpen P){C}{zero}{o}(d:C<P.globals.size)(g:(((begin P (λ_ _=>0) default).world.heap[C]?).bind Obj.row?)=h (zero,o)){j}(k:P.globalNamed j=h C){ah}(e:a.var? P j=h ah):
  a.heap[C]?=h (.cells ah o (0,0)):=by obtain⟨f,i,_⟩:=b.1 C zero o d g;unfold World.var? at e;grind
def KH{P}{b}{f:m (String×DataW Unit)}(p:laidMetH P f b)(g:b.ShapedOpen P){j e}{k}(F:(j,.iface e k)∈f.filter λE=>E.2.handleName?.isNone){C o t}{cz}{zero}(d:P.globalNamed j=h C)(y:(P.globals[C]?).map (·.type)=h o)(x:P.underlying o=h (.interface cz))(D:C<P.globals.size)(I:(((begin P (λ_ _=>0) default).world.heap[C]?).bind Obj.row?)=h (zero,t)):∃a:ak×X,b.heap[C]?=h (.cells #[.iface a.1 a.2] t (0,0)):=by obtain⟨w,q,_⟩:=(laidMetH_iff.1 p).1;obtain⟨R,t2,i,J,K,u,r,z,s⟩:=KF q F;cases d.symm.trans u;cases y.symm.trans r;obtain⟨_,A,B,a,_⟩:=iface_of_trod x s;have:=MM g D I d z;rw[Array.eq_one_of_toList a]at this;exact⟨(A,B),this⟩
def Z0{P}{a}{d}(p:laidMetH P d a)(y:a.ShapedOpen P){j}{e}{b}(w:(j,e)∈d.filter λx=>x.2.handleName?.isSome)(m:e.funcsIn?=n)(t:e.handleName?=h b){C i g ty}{zero}(F:P.globalNamed j=h C)(s:(P.cutTypes.find? (·.1== "internal/reflectlite.rtype")).map (·.2)=h g)(D:((aA P.types.size).filter λf=>P.rowNamed f b)=[ty])(E:C<P.globals.size)(R:(((begin P (λ_ _=>0) default).world.heap[C]?).bind Obj.row?)=h (zero,i)):a.heap[C]?=h (.cells #[.iface g (.agg #[typeHandle P ty])] i (0,0)):=by have:=(laidMetH_iff.1 p).2 _ w;rw[m]at this;obtain⟨name,B,k,o,u,q,r,A⟩:=this;cases t.symm.trans o;cases s.symm.trans u;have z:k∈(aA P.types.size).filter λf=>P.rowNamed f b:=hg.2 ⟨rr.2 q,r⟩;grind[MM]
section
open Go.Conc (G listed)
def kH(e b:a6)(d:Array aO):Prop:=(∃f a,bb f e/\bb a b/\cO f e a b)/\dv e d
structure af(P:aD) where
 b3:Bool
 rely:a6->a6->Prop
 dm:ai->a6->(ai->a6->Prop)->Prop
 bJ:∀{b aE},rely b aE->cX b aE
 dN:Prop
class af.b1 {P:aD} (q:af P):Prop where
 ok:q.dN
structure e9(b aE:a6):Prop where
 a:aE.a=b.a
 mem:∀i r aa,b.D i r=h aa->aE.D i r=h aa
 bA:∀i,(∀L∈b.s,i∉L.aj)->∀r,aE.D i r=b.D i r
 cell:∀i r aa,aE.D i r=h aa->b.a.cell? ⟨i,r,n⟩=h aa
 blk:∀i,(aE.own i∨∃L∈aE.s,i∈L.aj)->b.own i∨∃L∈b.s,i∈L.aj
structure nY(b aE:a6):Prop where
 a:aE.a=b.a
 s:aE.s=b.s
 own:aE.own=b.own
 e9:∀i r aa,aE.D i r=h aa->b.D i r=h aa
 mem:∀i r aa,b.D i r=h aa->aE.D i r=h aa∨b.own i
inductive cj {P:aD} (q:af P) (br:ai->a6->Prop):ai->a6->Prop
 |stop {C:ai} {b:a6}:br C b->cj q br C b
 |step {C:ai} {b:a6} (Ld:a6->ai) (bt:a6->a6) (K_:a6->Array aO):C.status=.running ->
   (∀s1,q.rely b s1->ao P q.b3 C s1.a=.go (Ld s1) (bt s1).a (K_ s1))->(∀s1,q.rely b s1->kH s1 (bt s1) (K_ s1))->(∀s1,q.rely b s1->cj q br (Ld s1) (bt s1))->cj q br C b
 |aP {C:ai} {b aE:a6}:e9 b aE->cj q br C aE->cj q br C b
 |b2 {C:ai} {b aE:a6}:q.dN->nY b aE->cj q br C aE->cj q br C b
 |dm {C:ai} {b:a6} {ac:ai->a6->Prop}:q.dm C b ac->(∀hA aE,ac hA aE->cj q br hA aE)->cj q br C b
section
variable {q:af P}
def cj.next(g:C.status=.running)(i:∀t,q.rely b t->∃a aE V,ao P q.b3 C t.a=.go a aE.a V/\kH t aE V/\cj q br a aE):cj q br C b:=by
 classical
 have d:∀t,∃ba:ai×a6×Array aO,q.rely b t->ao P q.b3 C t.a=.go ba.1 ba.2.1.a ba.2.2/\kH t ba.2.1 ba.2.2/\cj q br ba.1 ba.2.1:=by
  intro t;by_cases e:q.rely b t
  .obtain⟨a,aE,V,c8⟩:=i t e;exact⟨(a,aE,V),λ_=>c8⟩
  exact⟨(C,t,#[]),λf=>absurd f e⟩
 refine .step (λt=>(Classical.choose (d t)).1) (λt=>(Classical.choose (d t)).2.1) (λt=>(Classical.choose (d t)).2.2) g N N ?_;grind
def e9.of(m:bb k b)(o:bb ar aE)(p:aE.a=b.a)(g:dh k b ar aE):e9 b aE:=by
 have u:∀a f i,aE.D a f=h i->b.a.cell? ⟨a,f,n⟩=h i:=λa f i j=>by rw[<-p];exact o.mem a f i j
 have r:∀a f i,b.a.cell? ⟨a,f,n⟩=h i->a<b.a.heap.size:=by
  intro a f i j;rcases dY a b.a.heap.size with d|d
  .exact d
  simp[aI,AW d]at j
 refine⟨p,g.mem,λa e f=>?_,u,λa e=>?_⟩
 .rcases dY a b.a.heap.size with d|d
  .exact g.bA a d e f
  cases t:aE.D a f with
  |some i=>grind
  |none=>cases s:b.D a f with
   |none=>rfl
   |some i=>have:=r _ _ _ (m.mem _ _ _ s);omega
 rcases e with e|⟨L,q,e⟩
 .exact .inl (by rw[<-g.own];exact e)
 rcases g.bS L q a e with d|d
 .have:=o.lt L q a e;grind
 grind
def bb.rely(m:bb k b)(g:cX b aE):bb k aE:=by
 have s:fw k b k aE:=g.aT.ext;have X:∀u x,cC k b u x->cC k aE u x:=λu x w=>w.mono s m.len;refine⟨λj r u B=>g.mem j r u (by rw[<-g.D];exact B),by rw[g.s];exact m.len,?_,by rw[g.s];exact m.a4,?_,?_⟩
 .intro d D L aJ o;rw[g.s]at o;have e:=m.box d D L aJ o;have K:∀j∈L.aj,aE.a.heap[j]?=b.a.heap[j]?:=λj e=>g.a7 j (.inr ⟨L,b' o,e⟩);cases D with
  |cells E F=>
   obtain⟨j,z,f,i,p,q⟩:=e;subst f;exact⟨j,z,a,by grind,p.mono s m.len,λr=>by rw[g.D,q]⟩
  |x E O R A=>
   obtain⟨f,i⟩:=e;refine⟨by rw[g.D];exact f,?_⟩;rcases i with⟨i,p⟩|⟨j,cap,z,i,p,q,t⟩
   .exact .inl ⟨i,by rw[g.D];exact p⟩
   subst i;exact .inr ⟨j,cap,z,a,by grind,q,λr C=>by rw[g.D,t r C]⟩
  |K H=>
   obtain⟨y,f,i,p,q⟩:=e;refine⟨y,f,λj r W=>?_,p,λj I r=>by rw[g.D,q j I]⟩;grind
  |N=>trivial
  |loop V U w=>
   obtain⟨d,tmps,fn,J,f,i,p,q,t⟩:=e;subst f;exact⟨d,tmps,fn,J,a,by grind,p,λT=>(q T).mono s m.len,λr=>by rw[g.D,t]⟩
  |bn=>
   obtain⟨w,f,i,p⟩:=e;subst f;exact⟨w,a,by grind,λr=>by rw[g.D,p]⟩
  |q E O R A=>
   rcases e with e|⟨j,S,z,Q,f,i,p,q,t,M,N⟩
   .exact .inl e
   subst f;exact .inr ⟨j,S,z,Q,a,by grind,p,q,t,by rw[g.D];exact M,λr=>by rw[g.D,N]⟩
 .intro L o j e;rw[g.s]at o;exact eE (m.lt L o j e) g.size
 intro j e;rw[g.own]at e;rw[g.s];exact⟨eE (m.own j e).1 g.size,(m.own j e).2⟩
def kH.aQ(a:bb k b):kH b b #[]:=⟨⟨k,k,a,a,.refl _ _⟩,.nil⟩
def _root_.Go.Frame.U(b:aG)(a:Act)(todo:m Item):aG:={b with tmps:=a.tmps,todo:=todo,defers:=a.defers++b.defers,mode:=.run}
variable {i:aG}{x:Act}{f:m Item}{eY:Bool}
def JQ(a:aG)(x)(t):(a.U x t).eval=x.eval:=by funext b;cases b<;>rfl
def MJ:ao P eY (G (i.U x (.code .skip::f)) ah) p=.go (G (i.U x f) ah) p:=q0
def MF{id}:ao P eY (G (i.U x (.inBlock id::f)) ah) p=.go (G (i.U x f) ah) p:=q0
theorem pF{a b}:ao P eY (G (i.U x (.code (.seq a b)::f)) ah) p=.go (G (i.U x (.code a::.code b::f)) ah) p:=q0
def zx{t}{a b}{o}(e:x.eval t=.bool o):
  ao P eY (G (i.U x (.code (.cond t a b)::f)) ah) p=.go (G (i.U x (.code (if o then a else b)::f)) ah) p:=by
 have d:(i.U x (.code (.cond t a b)::f)).eval t=.bool o:=by rw[JQ];exact e
 simp[Frame.U]at d;simp[G,ao,stepG.exec,Frame.U,d]
def zw{id}:ao P eY (G (i.U x (.code (.block id t)::f)) ah) p=.go (G (i.U x (.code t::.inBlock id::f)) ah) p:=q0
def MH:ao P eY (G (i.U x (.code (.loop t)::f)) ah) p=.go (G (i.U x (.code t::.inLoop t::f)) ah) p:=q0
def MG:ao P eY (G (i.U x (.inLoop t::f)) ah) p=.go (G (i.U x (.code t::.inLoop t::f)) ah) p:=q0
def ME{id}{gn}(s:exitTo id f=h gn):ao P eY (G (i.U x (.code (.exit id)::f)) ah) p=.go (G (i.U x gn) ah) p:=F0
def zz{id}:ao P eY (G (i.U x (.code (.region id aR v)::f)) ah) p=.go (G (i.U x (.inRegion aR (aA aR.size)::f)) ah) p:=q0
def Eu{id}:ao P eY (G (i.U x (.code (.region id aR l)::f)) ah) p =
  .go (G (i.U x (.inRegion aR (Region.schedule (P.follows .mixedOrders) aR (p.tape p.drawn (.order i.fn id)))::f)) ah) {p with drawn:=p.drawn+1}:=by simp[G,ao,stepG.exec,Frame.U,choose,Sem.run,Question.forced,Question.cut]
def wh:ao P eY (G (i.U x (.inRegion aR []::f)) ah) p=.go (G (i.U x f) ah) p:=q0
def Ev(s:i.roundOf=n):ao P eY (G (i.U x (.code .ret::f)) ah) p=.go (G {i.U x (.code .ret::f)with mode:=.returning} ah) p:=F0
def Et(s:i.roundOf=n):ao P eY (G (i.U x []) ah) p=.go (G {i.U x []with mode:=.returning} ah) p:=F0
def qs(aR)(e)(bq)(aa):
  (i.U x (.inRegion aR (e::bq)::f)).finish aa=i.U (x.put ((aR[e]?).bind (·.dst)) aa) (.inRegion aR bq::f):=by cases a:(aR[e]?).bind (·.dst)<;>simp[Frame.finish,Frame.U,Act.put,a]
def aca{bq}(a:aR[e]?=h r)(d:aP r (yielded aR x.tmps)=v):
  ao P eY (G (i.U x (.inRegion aR (e::bq)::f)) ah) p=.go (G (i.U (x.put r.dst J) (.inRegion aR bq::f)) ah) p:=by have b:=qs (i:=i) (x:=x) (f:=f) aR e bq J;rw[a]at b;simp[n5]at b;rw[<-b];simp[G,ao,stepG.exec,Frame.U,a,d]
theorem ya{a:ae->X}{t}(g:r.op=.defer t){e}(b:(ab a r).run P p=.ok e bi):∃d,e=.defer d:=by
 simp[ab,g,cL]at b;cases f:(resolve a t r.type).run P p with
 |ok d w2=>rw[f]at b;simp at b;grind
 |halt i w2=>simp_all
def zy{a:m Nat}(b:aR[e]?=h r)(j:aP r (yielded aR x.tmps)=l)(k:∀g,r.op≠.defer g):
  ao P eY (G (i.U x (.inRegion aR (e::a)::f)) ah) p=stepG.apply P l (i.U x (.inRegion aR (e::a)::f)) ah n (ab x.eval r) p:=by have d:=JQ i x (.inRegion aR (e::a)::f);simp[Frame.U]at d;simp[G,ao,stepG.exec,stepG.oper,Frame.oper?,Frame.U,b,j,d];grind
theorem acg{bq}(a:aR[e]?=h r)(g:aP r (yielded aR x.tmps)=l)(k:i.kind≠.early)(j:(ab x.eval r).run P p=.ok (.value aa) bi):
  ao P eY (G (i.U x (.inRegion aR (e::bq)::f)) ah) p=.go (G (i.U (x.put r.dst aa) (.inRegion aR bq::f)) ah) bi (listed P i.fn x r p):=by have b:=qs (i:=i) (x:=x) (f:=f) aR e bq aa;rw[a]at b;simp[n5]at b;have d:(i.kind==CallKind.early)=v:=N;rw[zy a g (λm o=>by grind[ya]),<-b];simp[stepG.apply,j,G,Frame.U,d,GStep.after,listed]
theorem MI{bq}(a:aR[e]?=h r)(g:aP r (yielded aR x.tmps)=l)(k:i.kind≠.early)(j:(ab x.eval r).run P p=.ok .skip bi):
  ao P eY (G (i.U x (.inRegion aR (e::bq)::f)) ah) p=.go (G (i.U (x.put r.dst J) (.inRegion aR bq::f)) ah) bi (listed P i.fn x r p):=by have b:=qs (i:=i) (x:=x) (f:=f) aR e bq J;rw[a]at b;simp[n5]at b;have d:(i.kind==CallKind.early)=v:=N;rw[zy a g (λm o=>by grind[ya]),<-b];simp[stepG.apply,j,G,Frame.U,d,GStep.after,listed]
def tP{bq}{b}{args}(a:aR[e]?=h r)(g:aP r (yielded aR x.tmps)=l)(k:i.kind≠.early)(j:(ab x.eval r).run P p=.ok (.enter b args) bi):
  ao P eY (G (i.U x (.inRegion aR (e::bq)::f)) ah) p=.go (G (Frame.enter P b args .normal) (i.U x (.inRegion aR (e::bq)::f)::ah)) bi (listed P i.fn x r p):=by have d:(i.kind==CallKind.early)=v:=N;rw[zy a g (λm o=>by grind[ya])];simp[stepG.apply,j,G,Frame.U,d,GStep.after,listed]
structure mg(P:aD)(al:a0)(hK:aG)(aa:X)(b:a6):Prop where
 je:hK.fn=al
 mode:hK.mode=.returning
 defers:hK.defers=[]
 kind:hK.kind=.normal
 fn:∃fn,P.funcs[hK.fn]?=h fn/\∀p,(∀i r bA,b.D i r=h bA->p.cell? ⟨i,r,n⟩=h bA)->(results fn hK.tmps).run P p=.ok aa p/\∀ap∈(results fn hK.tmps).events P p #[],∃i r bA,ap=⟨.cell ⟨i,r,n⟩,v,v⟩/\b.D i r=h bA
def mg.mono{f}{hK}(o:mg P f hK aa b)(r:∀e g i,b.D e g=h i->aE.D e g=h i):mg P f hK aa aE:=by obtain⟨a,d,m,j,fn,k,q⟩:=o;refine⟨a,d,m,j,fn,k,λs p=>?_⟩;grind
def dv.seen{b}{V}{fn}(e:dv b V):dv b (seen P fn V):=λd a=>e d (Go.Conc.mem_seen a)
def ab'{k}{C t}(f:mg P k C aa b)(p)(m:∀a e g,b.D a e=h g->p.cell? ⟨a,e,n⟩=h g):∃d,ao P eY (G C (t::ah)) p=.go (G (t.finish aa) ah) p d/\∀i∈d,∃a e g,i=⟨.cell ⟨a,e,n⟩,v,v⟩/\b.D a e=h g:=by obtain⟨fn,o,j⟩:=f.fn;obtain⟨s,r⟩:=j p m;refine⟨seen P C.fn ((results fn C.tmps).events P p #[]),?_,λi q=>r i (Go.Conc.mem_seen q)⟩;simp[G,ao,unwind,doReturn,f.mode,f.defers,f.kind,o,s,GStep.after]
end
end
structure bY(F:Nat)(k:m aq)(b:a6)(I:bL)(x:Act):Prop where
 size:x.tmps.size=F
 defers:∃nH,ji k b x.defers nH
 aL:∀o,bx k b (x.tmps.getD o J) (look I o)
def bY.mono{F}{k ar}{b aE}{I}{x}(f:dh k b ar aE)(e:c b.s=c k)(a:bY F k b I x):bY F ar aE I x:=
 ⟨a.size,a.defers.imp λ_ d=>d.mono f.ext,λg=>(a.aL g).mono f.ext e⟩
def bY.rely{x}(e:cX b aE)(a:bb k b)(d:bY F k b I x):bY F k aE I x:=d.mono e.aT a.len
def bY.put{F}{k}{b}{I}{x}(a:bY F k b I x){O}(e:O<F){aa}{E}(j:bx k b aa E):bY F k b ((O,E)::I) (x.put (h O) aa):=by
 refine⟨by simp[Act.put,a.size],a.defers,λd=>?_⟩;simp[Act.put,look];by_cases f:O=d
 .subst f;rw[show ad O O=l from sM O];have g:O<x.tmps.size:=by rw[a.size];exact e
  simp[hF,uQ g,h9,cond];exact j
 have:ad O d=v:=um;rw[this];have i:=a.aL d;simp[hF]at i⊢;grind
def iO(g a:bL):Prop:=∀b d f e,bx b d f (look g e)->bx b d f (look a e)
def bY.le{dE}{x}(d:iO I dE)(a:bY F k b I x):bY F k b dE x:=
 ⟨a.size,a.defers,λe=>d _ _ _ _ (a.aL e)⟩
abbrev fD:=Exit->bL->m aq->Prop
def kO(g:af P)(f:ai->a6->Prop)(i:aG)(k:m Item)(a:m aG):Exit->Act->a6->Prop
 |.normal,b,d=>cj g f (G (i.U b k) a) d
 |.exit id,b,d=>∀pre,(∀e,exitTo id (pre++e)=exitTo id e)->cj g f (G (i.U b (.code (.exit id)::(pre++k))) a) d
 |.ret,b,d=>∀pre,cj g f (G (i.U b (.code .ret::pre)) a) d
 |.panic j,b,d=>∀o,cj g f (G {i.U b o with mode:=.panicking j} a) d
 |_,_,_=>False
section
variable {q:af P}{i:aG}{f:m Item}{x:Act}
def kO.cons{g}(o:∀id a,exitTo id (g::a)=exitTo id a){e}(m:e≠.normal)(d:kO q br i f ah e x b):kO q br i (g::f) ah e x b:=by
 cases e with
 |normal=>grind
 |exit id=>
  intro pre k;have:=d (pre++[g]) (λa=>by grind);grind
 |ret=>exact d
 |panic j=>exact d
 |goto p=>exact d
 |outgrown=>exact d
def cj.ctl{a}(f:bb k b)(j:C.status=.running)(i:∀g,ao P q.b3 C g=.go a g #[])(m:∀d,cX b d->cj q br a d):cj q br C b:=
 .next j λd e=>⟨a,d,#[],i d.a,.aQ (f.rely (q.bJ e)),m d (q.bJ e)⟩
def uV{j}{u t}(s:bb k b)(m:mg P j u aa b)(o:∀d,cX b d->cj q br (G (t.finish aa) ah) d):cj q br (G u (t::ah)) b:=by refine .next a λd w=>?_;have e:=q.bJ w;have g:=s.rely e;obtain⟨f,p,y⟩:=ab' (eY:=q.b3) (t:=t) (ah:=ah) m d.a e.mem;refine⟨_,d,f,p,⟨⟨k,k,g,g,.refl _ _⟩,λi r=>?_⟩,o d e⟩;obtain⟨A,B,z,rfl,x⟩:=y i r;exact⟨a,a,.inr (.inr ⟨a,z,by rw[e.D];exact x⟩)⟩
def xt(k:Nat->Act->a6->Prop)(y:∀j x b,k j x b->∃o,bb o b/\∀g,cX b g->k j x g)(round:∀j x b,k j x b->(∀d e m,m<j->k m d e->cj q br (G (i.U d (.inLoop t::f)) ah) e)->cj q br (G (i.U x (.code t::.inLoop t::f)) ah) b)(B:k j x b):
  cj q br (G (i.U x (.code (.loop t)::f)) ah) b:=by
 have key:∀j x b,k j x b->cj q br (G (i.U x (.inLoop t::f)) ah) b:=by
  intro j;induction j using Nat.strongRecOn with
  |_ j A=>
   intro x b w;obtain⟨o,r,s⟩:=y j x b w;exact .ctl r a (λC=>MG) λg u=>round j x g (s g u) λd e m z p=>A m z d e p
 obtain⟨o,r,s⟩:=y j x b B;exact .ctl r a (λC=>MH) λg u=>round j x g (s g u) λd e m _ p=>key m d e p
end
def b1(p:af P)(k:Nat)(u:Code)(aM:fD)(t:bL)(i:m aq):Prop:=
 ∀g q,bY k i g t q->bb i g->∀j s f (o:ai->a6->Prop),j.kind≠.early ->
  (∀r d a b e,aM r d a->bY k a b d e->bb a b->dh i g a b->kO p o j s f r e b)->cj p o (G (j.U q (.code u::s)) f) g
def n1(a:m an):m Nat->m an->Prop
 |[],[]=>True
 |d::idx,e::b=>a.toArray[d]?=h e/\n1 a idx b
 |_,_=>False
def fm(r:af P)(p:Nat)(d e:m an)(aM:bL->m aq->Prop)(u:bL)(k:m aq):Prop:=
 ∀j s,bY p k j u s->bb k j->∀(o:aG) t i (q:ai->a6->Prop) idx,o.kind≠.early->n1 d idx e ->
  (∀f a b g,aM f a->bY p a b f g->bb a b->dh k j a b->cj r q (G (o.U g t) i) b)->cj r q (G (o.U s (.inRegion d.toArray idx::t)) i) j
section rules
variable {q:af P}{aM:fD}
def b1.mono{o}(x:b1 q F t aM I k)(y:∀a I k,aM a I k->o a I k):b1 q F t o I k:=
 λb r u j s A f p i g=>x b r u j s A f p i λa d ar aE e B z w m=>g a d ar aE e (y _ _ _ B) z w m
def b1.le{t}{dE}(o:b1 q F t aM dE k)(f:iO I dE):b1 q F t aM I k:=
 λr i m e j p a g d b=>o r i (m.le f) e j p a g d b
theorem b1.skip(m:aM .normal I k):b1 q F .skip aM I k:=λs e i d p r g o _ f=>
 .ctl d a (λ_=>MJ) λj b=>f .normal I k j e m (i.rely b d) (d.rely b) b.aT
def b1.ret(g:aM .ret I k):b1 q F .ret aM I k:=λj b f a o i e m _ d=>d .ret I k j b g f a (.refl _ _) i
theorem b1.exit{id}(g:aM (.exit id) I k):b1 q F (.exit id) aM I k:=λi b f a m o e j _ d=>by have:=d (.exit id) I k i b g f a (.refl _ _) [] bk;grind
def wt(next:bL->m aq->Prop)(aM:fD):fD
 |.normal,a,b=>next a b
 |d,a,b=>aM d a b
theorem b1.seq{M y}(S:b1 q F M (wt (b1 q F y aM) aM) I k):b1 q F (.seq M y) aM I k:=by
 intro V Q T d A J e z g f;refine .ctl d a (λ_=>pF) λU b=>?_;refine S U Q (T.rely b d) (d.rely b) A (.code y::J) e z g ?_;intro p N O u m K E C x;have B:=b.aT.trans x;cases p with
 |normal=>exact K u m E C A J e z g λp R j w o t r s i=>f p R j w o t r s (B.trans i)
 |_=>exact kO.cons (λ_ _=>rfl) D (f _ _ _ _ _ K E C B)
theorem b1.cond{t}{M N}{o}{u}(T:t=.tmp u)(B:look I u=ay (.bool o))(S:o=l->b1 q F M aM I k)(O:o=v->b1 q F N aM I k):b1 q F (.cond t M N) aM I k:=by
 intro V p y f x D j w m A;have s:=y.aL u;rw[B]at s;have z:p.eval t=.bool o:=by subst T;generalize z:p.tmps.getD u J=W at s;simp[bx,eB,cC]at s;cases s;exact z
 refine .ctl f a (λ_=>zx z) λC e=>?_;have K:∀r g b d i,aM r g b->bY F b d g i->bb b d->dh k C b d->kO q w x D j r i d:=λr g b d i U R Q E=>A r g b d i U R Q (e.aT.trans E);cases o
 .exact O a C p (y.rely e f) (f.rely e) x D j w m K
 exact S a C p (y.rely e f) (f.rely e) x D j w m K
def u0(id:Nat)(aM:fD):fD
 |.exit a,b,d=>if a=id then aM .normal b d else aM (.exit a) b d
 |e,b,d=>aM e b d
theorem b1.block{id}(w:b1 q F t (u0 id aM) I k):b1 q F (.block id t) aM I k:=by
 intro A p x e r f g o i lX;refine .ctl e a (λ_=>zw) λy d=>?_;refine w y p (x.rely d e) (e.rely d) r (.inBlock id::f) g o i ?_;intro ap dE ar j fS bm C al m;have O:=d.aT.trans m;cases ap with
 |normal=>
  exact PM
 |exit b=>
  simp[u0]at bm;split at bm
  .exact Ry
  .rename_i u
   intro pre vw;have:=lX (.exit b) dE ar j fS bm C al O (pre++[.inBlock id]) (λgn=>by
    rw[k_,vw];have:(id==b)=v:=N
    simp[exitTo,this])
   grind
 |ret=>exact lX _ _ _ _ _ bm C al O
 |panic s=>exact lX _ _ _ _ _ bm C al O
 |goto z=>exact lX _ _ _ _ _ bm C al O
 |outgrown=>exact lX _ _ _ _ _ bm C al O
def b1.loop{br:Type}(w:br->Prop)(g:br->bL)(b:br->m aq)(y:br->Nat)(e)(ae:w e)(Y:iO I (g e))(V:b e=k)(round:∀e,w e->b1 q F t (wt (λz A=>∃d,w d/\y d<y e/\iO z (g d)/\A=b d) aM) (g e) (b e)):b1 q F (.loop t) aM I k:=by
 intro ab ag Z N T W E br M K;subst V;refine xt (λj f aE=>∃d,w d/\bY F (b d) aE (g d) f/\bb (b d) aE/\dh (b e) ab (b d) aE/\y d=j) ?_ ?_ ⟨e,ae,Z.le Y,N,.refl _ _,a⟩
 .rintro j f aE ⟨d,u,r,C,x,J⟩;exact⟨b d,C,λai o=>⟨d,u,r.rely o C,C.rely o,x.trans o.aT,J⟩⟩
 rintro j f aE ⟨d,u,r,C,x,rfl⟩ aa;refine round d u aE f r C T (.inLoop t::W) E br M ?_;intro J ah S O B Q p s i;cases J with
 |normal=>
  obtain⟨R,af,X,U,rfl⟩:=Q;exact aa B O (y R) X ⟨R,af,p.le U,s,x.trans i,a⟩
 |_=>exact kO.cons (λ_ _=>rfl) D (K _ _ _ _ _ Q p s (x.trans i))
end rules
def bN.cL{ah}(d:bN k b z ah):c z=c ah:=by
 induction z generalizing ah with
 |nil=>cases ah<;>simp_all[bN]
 |cons f z a=>
  cases ah with
  |nil=>simp[bN]at d
  |cons e ah=>simp[a d.2]
def cC.cell{k}{b}{aa}{f}(a:cC k b aa f):dT aa=l:=by
 cases f with
 |c p=>exact Rd.cell a
 |ptr e g=>obtain⟨_,_,_,_,_,rfl⟩:=a;rfl
 |x e j m i=>exact Rd.cell a.1
 |aY e=>obtain⟨_,_,_,_,d⟩:=a;exact d
 |O e o=>obtain⟨_,d,_⟩:=a;exact d.cell
 |any=>exact a
theorem bN.get{ah}(g:bN k b z ah){x}(d:ah[u]?=h x):∃e,z[u]?=h e/\cC k b e x:=by
 induction z generalizing ah u with
 |nil=>cases ah<;>simp_all[bN]
 |cons e z f=>
  cases ah with
  |nil=>grind
  |cons i ah=>
   cases u with
   |zero=>simp at d;subst d;exact⟨e,a,g.1⟩
   |succ u=>simp at d;obtain⟨o,j,m⟩:=f g.2 d;grind
def bN.cell{k}{b}{z}{ah}(e:bN k b z ah):∀g∈z,g.oneCell'=l:=by
 induction z generalizing ah with
 |nil=>simp
 |cons g z d=>
  cases ah with
  |nil=>simp[bN]at e
  |cons i ah=>
   intro f a;rcases eT.1 a with rfl|a
   .have:=cC.cell e.1;cases f<;>simp_all[dT,Value.oneCell']
   exact d e.2 f a
def bN.append{i}{ah a}(e:bN k b z ah)(f:bN k b i a):bN k b (z++i) (ah++a):=by
 induction z generalizing ah with
 |nil=>cases ah<;>simp_all[bN]
 |cons j z d=>
  cases ah with
  |nil=>simp[bN]at e
  |cons g ah=>exact⟨e.1,d e.2⟩
def bN.take{k}{b}{z}{ah}(d:bN k b z ah)(f):bN k b (z.take f) (ah.take f):=by
 induction z generalizing ah f with
 |nil=>cases ah<;>simp_all[bN]
 |cons g z a=>
  cases ah with
  |nil=>simp[bN]at d
  |cons e ah=>cases f with
   |zero=>simp[bN]
   |succ f=>exact⟨d.1,a d.2 f⟩
def bN.drop{k}{b}{z}{ah}(d:bN k b z ah)(f):bN k b (z.drop f) (ah.drop f):=by
 induction z generalizing ah f with
 |nil=>cases ah<;>simp_all[bN]
 |cons g z a=>
  cases ah with
  |nil=>simp[bN]at d
  |cons e ah=>cases f with
   |zero=>exact d
   |succ f=>simpa using a d.2 f
theorem bb.block(a:bb k b){r}(d:b.D i r=h aa):i<b.a.heap.size:=by
 have:=a.mem i r aa d;rcases dY i b.a.heap.size with a|a
 .exact a
 simp[aI,AW a]at this
def bb.same(f:bb k b)(u:bi.heap=b.a.heap):bb k {b with a:=bi}:=by
 have M:∀j,bi.cell? j=b.a.cell? j:=λj=>by simp[aI,u]
 have S:∀p j,cC k b p j->cC k {b with a:=bi} p j:=λp j o=>by cases j<;>exact o
 have x:∀z d,bN k b z d->bN k {b with a:=bi} z d:=by
  intro z;induction z with
  |nil=>intro d o;cases d<;>simp_all[bN]
  |cons p z A=>intro d o;cases d with
   |nil=>simp[bN]at o
   |cons j d=>exact⟨S _ _ o.1,A _ o.2⟩
 refine⟨λe D p y=>by rw[M];exact f.mem e D p y,f.len,?_,f.a4,λL x e i=>by show e<bi.heap.size;rw[u];exact f.lt L x e i,λe i=>⟨by show e<bi.heap.size;rw[u];exact(f.own e i).1,(f.own e i).2⟩⟩;intro B s L aJ r;have:=f.box B s L aJ r;cases s with
 |cells C E=>
  obtain⟨e,z,a,g,m,q⟩:=this;exact⟨e,z,a,by grind,x _ _ m,q⟩
 |x C K N w=>
  obtain⟨a,g⟩:=this;refine⟨a,?_⟩;grind
 |K H=>
  obtain⟨t,a,g,m,q⟩:=this;exact⟨t,a,λe D i=>by grind,m,q⟩
 |N=>trivial
 |loop U T o=>
  obtain⟨B,tmps,fn,F,a,g,m,q,J⟩:=this;exact⟨B,tmps,fn,F,a,by grind,m,λR=>bx.mono (b:=b) (ar:=k) (aE:={b with a:=bi}) ⟨λ_ _ _ f=>f,λ_ s L f I=>⟨s,L,f,I,.refl _ _⟩⟩ f.len (q R),J⟩
 |bn=>
  obtain⟨o,a,g,m⟩:=this;exact⟨o,a,by grind,m⟩
 |q C K N w=>
  rcases this with a|⟨e,Q,z,O,a,g,m⟩
  .exact .inl a
  exact .inr ⟨e,Q,z,O,a,by grind,m⟩
def cO.same(o:bi.heap=b.a.heap)(e:bi.os=b.a.os)(j:bi.tape=b.a.tape)(m:bi.output=b.a.output):cO k b k {b with a:=bi}:=
 ⟨by grind,λi _ _=>by grind,λ_ _ _ a=>a,λ_ _ _ _=>rfl,λL a i d=>.inr ⟨L,a,d⟩,λ_ f L a g=>⟨f,L,a,g,.refl _ _⟩,e,j,m,rfl⟩
def eA.cc{r}{L}(p:fw k b ar aE)(q:c b.s=c k)(i:∀f∈L.aj,aE.a.heap[f]?=b.a.heap[f]?/\∀j,aE.D f j=b.D f j)(o:eA k b r L):eA ar aE r L:=by
 cases r with
 |cells y B=>
  obtain⟨f,z,d,e,g,m⟩:=o;subst d;obtain⟨k1,t⟩:=i f D;exact⟨f,z,a,by grind,g.mono p q,λj=>by grind⟩
 |x y F I u=>
  obtain⟨d,e⟩:=o;refine⟨d.mono p.mem,?_⟩;rcases e with⟨e,g⟩|⟨f,cap,z,e,g,m,w⟩
  .exact .inl ⟨e,g.mono p.mem⟩
  grind
 |K H=>
  obtain⟨s,d,e,g,m⟩:=o;refine⟨s,d,λf j Q=>?_,g,λf R j=>by grind⟩;grind
 |N=>trivial
 |loop O N x=>
  obtain⟨A,tmps,fn,C,d,e,g,m,w⟩:=o;subst d;obtain⟨k1,t⟩:=i A D;exact⟨A,tmps,fn,C,a,by grind,g,λM=>(m M).mono p q,λj=>by grind⟩
 |bn=>
  obtain⟨x,d,e,g⟩:=o;subst d;obtain⟨k1,t⟩:=i x D;exact⟨x,a,by grind,λj=>by grind⟩
 |q y F I u=>
  rcases o with d|⟨f,K,z,J,d,e,g,m,w,E,S⟩
  .exact .inl d
  subst d;obtain⟨k1,t⟩:=i f D;exact .inr ⟨f,K,z,J,a,by grind,g,m,w,E.mono p.mem,λj=>by grind⟩
def a6.bW(a:a6)(b:ak)(z:m X):a6:=
 {s:=a.s++[⟨.pointer (h ⟨a.a.heap.size,0,n⟩),[a.a.heap.size]⟩],D:=a.D,a:=a.a.alloc (.cells z.toArray b),own:=a.own}
theorem i7(a:au)(r)(b:i<a.heap.size):(a.alloc r).heap[i]?=a.heap[i]?:=by show(a.heap.push r)[i]?=a.heap[i]?;grind
theorem lY(a:au)(r):(a.alloc r).heap[a.heap.size]?=h r:=by show(a.heap.push r)[a.heap.size]?=h r;simp
def cO.bW{k}(b)(W)(z)(g):cO k b (k++[g]) (b.bW W z):=by
 refine⟨by simp[a6.bW],?_,λ_ _ _ m=>m,λ_ _ _ _=>rfl,?_,?_,a,a,a,a⟩
 .intro i cW _;exact i7 _ _ cW
 .intro L e i cW;simp[a6.bW,e2,fU]at e;grind
 intro f d L j e;have o:f<c b.s:=(cP.1 e).1;have p:f<c k:=(cP.1 j).1;exact⟨d,L,by grind,by simp[a6.bW];grind,.refl _ _⟩
def bb.bW{k}{b}(g:bb k b){W}{z}{ah}(B:bN k b z ah):bb (k++[.cells W ah]) (b.bW W z):=by
 have u:=cO.bW (k:=k) b W z (.cells W ah);have A:(b.bW W z).a.heap.size=b.a.heap.size+1:=by simp[a6.bW]
 refine⟨?_,by simp[a6.bW,g.len],?_,?_,?_,?_⟩
 .intro i r aa j;have f:=g.block j;have:=g.mem i r aa j;rw[<-this];simp[aI,a6.bW];grind[i7]
 .intro d y L aJ e;rcases Nat.lt_trichotomy d (c k) with x|rfl|C
  .rw[jm x]at aJ;simp[a6.bW]at e;rw[jm (by rw[g.len];exact x)]at e;refine(g.box d y L aJ e).cc u.ext g.len λi f=>⟨?_,λ_=>rfl⟩
   have:=g.lt L (b' e) i f;exact i7 _ _ this
  .simp at aJ;subst aJ;simp[a6.bW]at e;rw[hx (by rw[g.len];grind)]at e;simp[g.len]at e;subst e;refine⟨b.a.heap.size,z,a,lY _ _,B.mono u.ext g.len,λr=>?_⟩;cases j:b.D b.a.heap.size r with
   |none=>exact j
   |some aa=>have:=g.block j;omega
  grind
 .intro d t L p e m i f o;simp[a6.bW]at e m;have w:∀d L,(b.s++[⟨.pointer (h ⟨b.a.heap.size,0,n⟩),[b.a.heap.size]⟩])[d]?=h L->(b.s[d]?=h L)∨(d=c b.s/\L.aj=[b.a.heap.size]):=N;rcases w d L e with q|⟨rfl,q⟩<;>rcases w t p m with s|⟨rfl,s⟩
  .exact g.a4 d t L p q s i f o
  .have:=g.lt L (b' q) i f;grind
  .have:=g.lt p (b' s) i o;grind
  rfl
 .intro L e i f;rw[A];simp[a6.bW,e2,fU]at e;rcases e with e|rfl
  .have:=g.lt L e i f;omega
  grind
 intro i f;obtain⟨E,D⟩:=g.own i f;refine⟨by grind,λL e=>?_⟩;simp[a6.bW,e2,fU]at e;grind
def bb.cY(d:bb k b){cl}(p:b.a.heap.size<=bi.heap.size)(g:∀i,i<b.a.heap.size->bi.heap[i]?=b.a.heap[i]?)(q:∀i,i<b.a.heap.size->∀r,cl i r=b.D i r)(y:∀i,b.a.heap.size<=i->∀r aa,cl i r=h aa->bi.cell? ⟨i,r,n⟩=h aa)(s:bi.os=b.a.os)(w:bi.tape=b.a.tape)(t:bi.output=b.a.output):bb k ⟨b.s,cl,bi,b.own⟩/\cO k b k ⟨b.s,cl,bi,b.own⟩:=by
 have m:cO k b k ⟨b.s,cl,bi,b.own⟩:=
  ⟨p,λi a _=>g i a,λi r aa e=>by rw[<-e];exact q i (d.block e) r,λi a _ r=>q i a r,λL d i a=>.inr ⟨L,d,a⟩,λ_ o L d u=>⟨o,L,d,u,.refl _ _⟩,s,w,t,rfl⟩
 refine⟨⟨?_,d.len,?_,d.a4,λL f i a=>eE (d.lt L f i a) p,λi a=>⟨eE (d.own i a).1 p,(d.own i a).2⟩⟩,m⟩
 .intro i r aa e;rcases dY i b.a.heap.size with a|a
  .have j:b.D i r=h aa:=N;rw[<-d.mem i r aa j];simp[aI];grind
  grind
 intro x o L aJ f;exact(d.box x o L aJ f).cc m.ext d.len λi a=>⟨g i (d.lt L (b' f) i a),λr=>q i (d.lt L (b' f) i a) r⟩
def bb.write(j:bb k b){L}{ah g}{q}(aJ:k[d]?=h (.cells W ah))(p:b.s[d]?=h L)(x:L.aj=[i])(B:bN k b q g):bb (k.set d (.cells W g)) {b with a:=b.a.setRow i q.toArray}/\cO k b (k.set d (.cells W g)) {b with a:=b.a.setRow i q.toArray}:=by
 have w:d<c k:=(cP.1 aJ).1;obtain⟨s,z,t,u,E,A⟩:=j.box d _ L aJ p;subst t;simp at x;subst x;have o:cO k b (k.set d (.cells W g)) {b with a:=b.a.setRow s q.toArray}:=by
  refine⟨by simp,?_,λ_ _ _ j=>j,λ_ _ _ _=>rfl,λL j i f=>.inr ⟨L,j,f⟩,?_,a,a,a,a⟩
  .intro i f ju;exact setRow_other _ _ _ _ (λap=>ju _ (b' p) An)
  intro m bU cw e lW;by_cases ap:d=m
  .subst ap;rw[aJ]at e;cases e;exact⟨_,cw,by rw[ix w],lW,by simp[fQ]⟩
  exact Fv
 refine⟨⟨?_,by simp[j.len],?_,j.a4,λL p i f=>by simpa using j.lt L p i f,λi f=>by simpa using j.own i f⟩,o⟩
 .intro i r aa Dh;have C:i≠s:=λap=>by grind
  rw[<-j.mem i r aa Dh];exact QM
 intro m bU cw e lW;by_cases ap:d=m
 .subst ap;rw[ix w]at e;cases e;rw[p]at lW;cases lW;exact⟨s,q,a,setRow_heap _ _ _ _ _ _ u,B.mono o.ext j.len,A⟩
 rw[kJ ap]at e;refine(j.box m bU cw e lW).cc o.ext j.len λi f=>⟨setRow_other _ _ _ _ λy=>?_,λ_=>rfl⟩
 subst y;exact ap (j.a4 d m _ cw p lW i D f)
def AH(b:m aq)(d:a6):Next->y->Prop
 |.value e,a=>bx b d e a
 |.skip,a=>a=.any
 |_,_=>False
def a2(P:aD)(j:an)(g:ae->y)(f:m aq)(o:y)(b:m aq):Prop:=
 ∀e d,bb f e->(∀k,bx f e (d k) (g k))->∃i a,(ab d j).run P e.a=.ok i a.a/\AH b a i o/\bb b a/\cO f e b a/\dv e ((ab d j).events P e.a #[])
def a2.dr{f}(j:∀b a,bb k b->(∀g,bx k b (a g) (η g))->∃aa,(ab a r).run P b.a=.ok (.value aa) b.a/\bx k b aa f/\dv b ((ab a r).events P b.a #[])):a2 P r η k f k:=
 λb a d e=>let ⟨aa,c8,dG,i⟩:=j b a d e;⟨.value aa,b,c8,dG,d,.refl _ _,i⟩
def a2.aQ{f}(j:∀b a,bb k b->(∀g,bx k b (a g) (η g))->∃aa,(ab a r).run P b.a=.ok (.value aa) b.a/\bx k b aa f/\(ab a r).events P b.a #[]=#[]):a2 P r η k f k:=
 λb a d e=>let ⟨aa,c8,dG,i⟩:=j b a d e;⟨.value aa,b,c8,dG,d,.refl _ _,by rw[i];exact .nil⟩
def vA:IntKind->Int->Bool
 |.i64,.ofNat a=>ax a 9223372036854775807
 |.i64,.negSucc a=>ax a 9223372036854775807
 |.u8,.ofNat a=>ax a 255
 |.i32,.ofNat a=>ax a 2147483647
 |.i32,.negSucc a=>ax a 2147483647
 |.u64,.ofNat a=>ax a 18446744073709551615
 |.u32,.ofNat a=>ax a 4294967295
 |_,_=>v
def ZS{f}{j}(a:vA f j=l):a7 f j:=by cases f<;>cases j<;>simp only[vA,a7]at a⊢<;>first|(cases a;done)|(have:=fz a;grind)
def k':X->Option M
 |.int a b=>cond (vA a b) (h (.int a b)) n
 |.bool e=>h (.bool e)
 |.string d=>cond (ax d.size 9223372036854775807) (h (.T d.data.toList)) n
 |.slice n 0 0=>h (.B l 0 0 (λ_=>[]))
 |.pointer n=>h .bp
 |.nilIface=>h .bD
 |.nilFunc=>h .dq
 |.map f=>h (.val (.map f))
 |_=>n
theorem Rd.dI{o}{f}{a}:Rd bB (.slice a 0 0) (.B o f 0 V):=
 Rd.B 0 0 (λ_ _=>J) (bC _) w bk w w w w
def Rd.fr{bB}{aa}{t}(a:k' aa=h t):Rd bB aa t:=by
 unfold AM.k' at a;split at a<;>first
  |(rename_i d e;cases b:vA d e<;>rw[b]at a<;>cases a;exact .int (ZS b))
  |(rename_i f;cases b:ax f.size 9223372036854775807<;>rw[b]at a<;>cases a;exact .T rfl (by rw[nb];exact fz b))
  |(cases a;done)
  |(cases a;exact .bool)
  |(cases a;exact Rd.dI)
  |(cases a;exact .bp)
  |(cases a;exact .bD)
  |(cases a;exact .dq)
  |(cases a;exact .val rfl)
def TP:Option M->y
 |some a=>ay a
 |none=>.any
def bF(a:bL):ae->y
 |.tmp d=>look a d
 |.const e=>TP (k' e)
 |.func b=>ay (.fn (.func b) [] [])
 |.global _=>.any
theorem eH{e}(f:bY F k b I e)(d):bx k b (e.eval d) (bF I d):=by
 cases d with
 |tmp j=>exact f.aL j
 |const m=>
  simp[bF,Act.eval];cases i:k' m with
  |none=>trivial
  |some o=>exact Rd.fr i
 |func g=>
  exact Rd.fn [] [] a a (λ_=>J) (λ_=>J) D D D D
 |global g=>trivial
def gh:Option Nat->y->bL->bL
 |some b,d,a=>(b,d)::a
 |none,_,a=>a
def ry{o:af P}{j:aG}{f}{i}{bq}(z:j.kind≠.early)(t:aR[e]?=h r)(x:aP r (yielded aR i.tmps)=l)(s:∀g,cX b g->∃k d m,(ab i.eval r).run P g.a=.ok k d.a/\(k=.value m∨(k=.skip/\m=J))/\kH g d ((ab i.eval r).events P g.a #[])/\cj o br (G (j.U (i.put r.dst m) (.inRegion aR bq::f)) ah) d):
  cj o br (G (j.U i (.inRegion aR (e::bq)::f)) ah) b:=by refine .next a λg u=>?_;obtain⟨k,d,m,y,w,p,q⟩:=s g (o.bJ u);refine⟨_,d,Go.Conc.listed P j.fn i r g.a,?_,⟨p.1,p.2.seen⟩,q⟩;grind[acg,MI]
theorem a2.move{a:ae}(d:r.op=.move a):a2 P r η k (η a) k:=
 .aQ λf b _ e=>⟨b a,by simp[ab,d,pure],e a,by simp[ab,d]⟩
theorem a2.assign{a:ae}(d:r.op=.assign a):a2 P r η k (η a) k:=
 .aQ λf b _ e=>⟨b a,by simp[ab,d,pure],e a,by simp[ab,d]⟩
def b8{t}(a:bx k b aa (ay t)):Rd b.D aa t:=a
def a2.pick{t e i}(g:r.op=.pick t e i){o}(m:η t=ay (.bool o)):
  a2 P r η k (match o with|true=>η e|false=>η i) k:=by
 refine .aQ λp a _ j=>?_;have b:=j t;rw[m]at b;have d:=b8 b;generalize f:a t=q at d;cases d;cases o
 .exact⟨a i,by simp[ab,g,f,asBool],j i,by simp[ab,g,f,asBool]⟩
 exact⟨a e,by simp[ab,g,f,asBool],j e,by simp[ab,g,f,asBool]⟩
def vB(e:BinOp)(d:IntKind)(a b:Int):Option (M×m Prop):=
 match e with
 |.add=>h (.int d (a+b),[a7 d (a+b)])
 |.sub=>h (.int d (a-b),[a7 d (a-b)])
 |.mul=>h (.int d (a*b),[a7 d (a*b)])
 |.quo=>h (.int d (a / b),[0<=a,0<b])
 |.rem=>h (.int d (a % b),[0<=a,0<b])
 |.eql=>h (.bool (a==b),[])
 |.neq=>h (.bool (a != b),[])
 |.lss=>h (.bool (decide (a<b)),[])
 |.leq=>h (.bool (decide (a<=b)),[])
 |.gtr=>h (.bool (decide (b<a)),[])
 |.geq=>h (.bool (decide (b<=a)),[])
 |_=>n
def wl(d:BinOp)(a b:m UInt8):Option (M×m Prop):=
 match d with
 |.add=>h (.T (a++b),[c a+c b<=9223372036854775807])
 |.eql=>h (.bool (a==b),[])
 |.neq=>h (.bool (!(a==b)),[])
 |.lss=>h (.bool (aS a b),[])
 |.leq=>h (.bool (aS a b||a==b),[])
 |.gtr=>h (.bool (!(aS a b||a==b)),[])
 |.geq=>h (.bool (!(aS a b)),[])
 |_=>n
@[simp] def U:m Prop->Prop
 |[]=>True
 |[a]=>a
 |a::b::d=>a/\U (b::d)
def U.cons{b:Prop}{a}:U (b::a)↔b/\U a:=by cases a<;>simp
theorem sf{f}{j}(a:a7 f j):f.wrap j=j:=by cases f<;>simp only[a7,IntKind.wrap,IntKind.bits,IntKind.signed]at a⊢<;>simp<;>(try split)<;>omega
def abX{f}{d a}{t}(e:vB op f d a=h (t,cq))(b:U cq)(u:a7 f d)(r:a7 f a)(o)(bB):
  ∃m,(binOp op o (.int f d) (.int f a)).run P p=.ok m p/\Rd bB m t:=by
 cases op<;>simp[vB,e_,lL,reduceCtorEq]at e
 case add=>obtain⟨rfl,rfl⟩:=e;exact⟨_,by simp only[binOp,d',hG,dn,Op.intArith,sf b];rfl,.int b⟩
 case sub=>obtain⟨rfl,rfl⟩:=e;exact⟨_,by simp only[binOp,d',hG,dn,Op.intArith,sf b];rfl,.int b⟩
 case mul=>obtain⟨rfl,rfl⟩:=e;exact⟨_,by simp only[binOp,d',hG,dn,Op.intArith,sf b];rfl,.int b⟩
 case quo=>
  obtain⟨rfl,rfl⟩:=e;obtain⟨i,g⟩:=b;replace g:0<a:=g;have k:d.tdiv a=d / a:=Int.tdiv_eq_ediv_of_nonneg i;have j:a7 f (d / a):=by have q:0<=d / a:=Int.ediv_nonneg i w;have s:d / a<=d:=Int.ediv_le_self _ i;cases f<;>simp only[a7]at u⊢<;>omega
  exact⟨_,by simp only[binOp,d',hG,dn,Op.intDiv,show a≠0 by omega,k,sf j];rfl,.int j⟩
 case rem=>
  obtain⟨rfl,rfl⟩:=e;obtain⟨i,g⟩:=b;replace g:0<a:=g;have k:d.tmod a=d % a:=Int.tmod_eq_emod_of_nonneg i;have j:a7 f (d % a):=by have q:0<=d % a:=sG _ w;have s:d % a<a:=sC _ g;cases f<;>simp only[a7]at r⊢<;>omega
  exact⟨_,by simp only[binOp,d',hG,dn,Op.intDiv,show a≠0 by omega,k];rfl,.int j⟩
 all_goals (obtain⟨rfl,rfl⟩:=e;exact⟨_,by simp only[binOp,d',hG,dn,Op.intCmp,gt_iff_lt,ge_iff_le];rfl,.bool⟩)
def abY{E bv}{b i}{t}(a:wl op b i=h (t,cq))(cy:U cq)(j:E.data.toList=b)(g:bv.data.toList=i)(o)(bB):
  ∃d,(binOp op o (.string E) (.string bv)).run P p=.ok d p/\Rd bB d t:=by
 subst j g;cases op<;>simp only[wl,e_,lL,reduceCtorEq]at a
 case add=>
  obtain⟨rfl,rfl⟩:=a;have e:¬((E.size+bv.size:Nat):Int)>IntKind.i64.max:=OI;refine⟨_,by simp only[binOp,Op.stringOp,e,dn];rfl,.T D (by simpa using cy)⟩
 all_goals (obtain⟨rfl,rfl⟩:=a;exact⟨_,by simp only[binOp,Op.stringOp,ByteArray.toList_eq];rfl,.bool⟩)
def Wc{f}{a bv}{t}(s:vB op f a bv=h (t,cq))(cy:U cq)(o):
  (binOp op o (.int f a) (.int f bv)).events P p #[]=#[]:=by
 cases op<;>simp[vB,e_,lL,reduceCtorEq]at s
 case quo=>
  exact OW
 case rem=>
  exact OW
 all_goals (simp only[binOp,d',hG,dn,Op.intCmp,Op.intArith];rfl)
def Yp{E bv}{a i}{t}(b:wl op a i=h (t,cq))(cy:U cq)(g:E.data.toList=a)(e:bv.data.toList=i)(o):
  (binOp op o (.string E) (.string bv)).events P p #[]=#[]:=by
 subst g e;cases op<;>simp[wl,e_,lL,reduceCtorEq]at b
 case add=>
  obtain⟨rfl,rfl⟩:=b;have d:¬((E.size+bv.size:Nat):Int)>IntKind.i64.max:=OI;simp only[binOp,Op.stringOp,d,dn];rfl
 all_goals (simp only[binOp,Op.stringOp];rfl)
def tj:IntKind->IntKind->Bool
 |.i8,.i8|.i16,.i16|.i32,.i32|.i64,.i64|.u8,.u8|.u16,.u16|.u32,.u32|.u64,.u64=>l
 |_,_=>v
def Dq{f a}(b:tj f a=l):f=a:=by cases f<;>cases a<;>first|rfl|(cases b;done)
def xy(a:BinOp):M->M->Option (M×m Prop)
 |.int d g,.int b i=>cond (tj d b) (vB a d g i) n
 |.T e,.T f=>wl a e f
 |_,_=>n
def qo(op)(o)(e g)(f a)(j d)(b):(eqGuard op o e g (.int f j) (.int a d)).run P b=.ok () b:=Ap
def IP(op)(o)(d e)(b i)(a):(eqGuard op o d e (.string b) (.string i)).run P a=.ok () a:=Ap
def yj(op)(o)(e g)(f a)(j b)(d)(V):(eqGuard op o e g (.int f j) (.int a b)).events P d V=V:=Ap
def Vn(op)(o)(d e)(a i)(b)(V):(eqGuard op o d e (.string a) (.string i)).events P b V=V:=Ap
theorem a2.binOp{y z:ae}(w:r.op=.binOp op o y z ty){E i t}(N:η y=ay E)(A:η z=ay i)(e:xy op E i=h (t,cq))(d:U cq):a2 P r η k (ay t) k:=by
 refine .aQ λx q _ I=>?_;have a:=I y;have b:=I z;rw[N]at a;rw[A]at b;replace a:=b8 a;replace b:=b8 b;generalize s:q y=O at a;generalize u:q z=Q at b;cases a<;>cases b<;>simp[xy,reduceCtorEq]at e
 case int.int f j ju gn DN Zw=>
  cases g:tj f gn<;>simp[g,cond,reduceCtorEq]at e
  cases Dq g;obtain⟨D,B,C⟩:=abX (P:=P) (p:=x.a) e d ju Zw o x.D;exact⟨D,by simp[ab,w,cL,s,u,qo,c',B,d_],C,by simp[ab,w,s,u,qo,yj,Wc e d]⟩
 case T.T=>
  rename_i T S J K R M m F;obtain⟨D,B,C⟩:=abY (P:=P) (p:=x.a) e d J m o x.D;exact⟨D,by simp[ab,w,cL,s,u,IP,c',B,d_],C,by simp[ab,w,s,u,IP,Vn,Yp e d J m]⟩
def zW(a:UnOp):M->Option M
 |.bool b=>match a with|.not=>h (.bool (!b))|_=>n
 |_=>n
theorem a2.unOp{op}{b:ae}(i:r.op=.unOp op o b){f t}(j:η b=ay f)(d:zW op f=h t):a2 P r η k (ay t) k:=by
 refine .aQ λq e _ m=>?_;have a:=m b;rw[j]at a;replace a:=b8 a;generalize g:e b=p at a;cases a<;>simp[zW,reduceCtorEq]at d
 cases op<;>simp[reduceCtorEq,e_]at d
 subst d;exact⟨_,by simp[ab,i,g,Op.unary,cL,d_,c'],Rd.bool,by simp[ab,i,g,Op.unary]⟩
theorem e1.get{ag}(g:e1 k b z ag){i}(d:ag[u]?=h i):∃e,z[u]?=h e/\eB k b e i:=by
 induction z generalizing ag u with
 |nil=>cases ag<;>simp_all[e1]
 |cons e z f=>
  cases ag with
  |nil=>grind
  |cons m j=>
   cases u with
   |zero=>simp at d;subst d;exact⟨e,a,g.1⟩
   |succ u=>simp at d;obtain⟨p,x,o⟩:=f g.2 d;grind
theorem a2.extract{P}{r}{b:ae->y}{k}{d}{u}(p:r.op=.extract d u){ag}{e}(j:b d=.S ag)(i:ag[u]?=h e):a2 P r b k (.n e) k:=by refine .aQ λw t _ o=>?_;have a:=o d;rw[j]at a;obtain⟨z,m,q⟩:=a;obtain⟨s,f,g⟩:=q.get i;refine⟨s,?_,g,?_⟩<;>simp[ab,p,m,Instr.extract,f]
def pA(a b:Nat):aO:=⟨.cell ⟨a,b,n⟩,v,v⟩
def ua(a b:Nat):aO:=⟨.cell ⟨a,b,n⟩,l,v⟩
theorem g6(i r j):(⟨i,r,n⟩:Addr).add j=⟨i,r+j,n⟩:=by unfold Addr.add;split<;>simp_all
section
def CE{r}(a:p.cell? ⟨i,r,n⟩=h aa)(V):(load ⟨i,r,n⟩).events P p V=V.push (pA i r):=by rw[events_load,a];rfl
def Jl{p}{i r}:∀g e a b,(∀d,d<g->∃m,p.cell? ⟨i,r+(e+d),n⟩=h m) ->
    ∀f∈(loadCellsFrom ⟨i,r,n⟩ e g a).events P p b,f∈b∨∃d,d<e+g/\f=pA i (r+d)
  |0,e,a,b,_=>λf j=>.inl (by simpa[loadCellsFrom]using j)
  |g+1,e,a,b,o=>λf j=>by
    obtain⟨m,k⟩:=o 0 w;simp[kk]at k;simp[loadCellsFrom,aC,g6,run_load,k,aF,CE k]at j;rcases Jl g (e+1) (a.push m) _ (λd q=>by grind) f j with s|⟨d,q,rfl⟩
    · grind
    grind
def Jk{r}{V}(f:∀a,a<j->∃e,p.cell? ⟨i,r+a,n⟩=h e):∀b∈(loadCells ⟨i,r,n⟩ j).events P p V,b∈V∨∃a,a<j/\b=pA i (r+a):=by intro b d;have:=Jl (P:=P) j 0 #[] V N b d;grind
def np{i r}{o}:∀z a f d b,d.heap[i]?=h (.cells f o (0,0))->r+a+c z<=f.size->(∀e∈z,e.oneCell'=l) ->
    ∀j∈(storeCells ⟨i,r,n⟩ z a).events P d b,j∈b∨∃m,a<=m/\m<a+c z/\j=ua i (r+m)
  |[],_,_,_,_,_,_,_=>λj k=>.inl (by simpa[storeCells]using k)
  |e::g,a,f,d,b,C,x,p=>λj k=>by
    have bp:r+a<f.size:=N;have q:d.cell? ⟨i,r+a,n⟩=h f[r+a]:=OA;have s:d.frozen? ⟨i,r+a,n⟩=v:=by simp[World.frozen?,C]
    have t:(store (⟨i,r+a,n⟩:Addr) e).run P d=.ok () (d.setRow i (f.setIfInBounds (r+a) e)):=Ol;have u:(store (⟨i,r+a,n⟩:Addr) e).events P d b=b.push (ua i (r+a)):=by rw[events_store P d b _ e _ (p e D),q];simp[s,kh,dn];rfl
    simp[storeCells,aC,g6,t,u,aF]at k;rcases np g (a+1) (f.setIfInBounds (r+a) e) _ _ (setRow_heap _ _ _ _ _ _ C) N (λw B=>p w N) j k with y|⟨m,E,A,rfl⟩
    · grind
    grind
def dA(P:aD)(b:Sem α):Prop:=∀d a,b.events P d a=a
def dA.bind{e:Type}{A}{f:α->Sem e}(i:dA P A)(j:∀d,dA P (f d)):dA P (A >>= f):=by
  intro g a;rw[aC,i g a];cases A.run P g with
  |ok d b=>exact j d b a
  |halt k b=>rfl
def dA.pure{a:Type}{b}:dA P (Pure.pure b:Sem a):=λ_ _=>rfl
def dA.stuck{a:Type}{b}:dA P (Go.stuck b:Sem a):=λ_ _=>rfl
def dA.unsupported{a:Type}{b}:dA P (Go.unsupported b:Sem a):=λ_ _=>rfl
def dA.sizeOf{o}:dA P (sizeOf o):=λ_ _=>events_sizeOf ..
def dA.underlying{o}:dA P (underlying o):=λ_ _=>events_underlying ..
def dA.zeroValue{o}:dA P (zeroValue o):=λ_ _=>events_zeroValue ..
def dA.newObj{r}:dA P (newObj r):=λ_ _=>rfl
def dA.newRow{o}{t}:dA P (newRow o t):=.bind .newObj λ_=>.pure
def dA.hn{a e:Type}{f:a->Sem e}(g:∀b,dA P (f b)):∀d:m a,dA P (d.mapM f)
  |[]=>by rw[List.mapM_nil];exact .pure
  |b::d=>by rw[o5];exact .bind (g b) λ_=>.bind (dA.hn g d) λ_=>.pure
def dA.map{b d:Type}{e:b->d}{A}(f:dA P A):dA P (Functor.map e A):=λg a=>by rw[Sem.events_map];exact f g a
def dA.js{a:Type}{b:α->Sem a}(e:∀d,dA P (b d))(f:Array α):dA P (f.mapM b):=by rw[xk];exact .map (.hn e _)
def dA.g8{b d:Type}{g:b->d->Sem (ForInStep d)}(i:∀e a,dA P (g e a)):∀(f:m b) a,dA P (forIn f a g)
  |[],a=>by rw[List.forIn_nil];exact .pure
  |e::f,a=>by
    rw[List.forIn_cons];refine .bind (i e a) λj=>?_;cases j with
    |done a=>exact .pure
    |yield a=>exact dA.g8 i f a
theorem dA.build{o}{parts}:dA P (Instr.build o parts):=by
  unfold Instr.build;refine .bind .zeroValue λe=>.bind .underlying λa=>?_;cases a<;>first
    |exact .stuck
    | (refine .bind (.js (λ_=>.bind .sizeOf λ_=>.pure) _) λb=>?_
       split
       · exact .pure
       · exact .stuck)
    | (refine .bind .sizeOf λd=>?_
       split
       · exact .pure
       · exact .stuck)
theorem dA.buildSlice{o}{j}{parts}:dA P (Instr.buildSlice o j parts):=by
  unfold Instr.buildSlice;refine .bind .underlying λg=>?_;cases g<;>first
    |exact .stuck
    | (refine .bind .sizeOf λd=>?_
       dsimp only
       have a:∀elem (zero:Array X),dA P (match Instr.fill (λi=>h (i*d,d)) (Array.map (λk=>zero[k % zero.size]!) (Array.range (j*d))) parts.toList with
          |some cells=>do
            let f<-Go.newRow elem cells
            Pure.pure (Value.slice (h f) j j)
          |_=>Go.stuck "buildSlice: a part of the wrong size"):=by
         intro elem zero;split
         · exact .bind .newRow λ_=>.pure
         · exact .stuck
       by_cases e:j*d=0
       · simp only[e,dw]
         rw[e]at a;split
         · grind
         · exact .bind .pure λb=>a _ b
       · simp only[e,dn]
         split
         · exact .bind .unsupported λ_=>.bind .zeroValue λb=>.bind .pure λb=>a _ b
         · exact .bind .zeroValue λb=>.bind .pure λb=>a _ b)
def qp{r}{L}(a:L∈b.s)(d:i∈L.aj):ia b (pA i r):=⟨rfl,rfl,.inr (.inl ⟨⟨L,a,d⟩,λe=>by cases e⟩)⟩
def IS{r}(a:b.D i r=h aa):ia b (pA i r):=⟨rfl,rfl,.inr (.inr ⟨rfl,aa,a⟩)⟩
theorem oi{r}{L}(d:L∈b.s)(e:i∈L.aj)(a:b.D i r=n):ia b (ua i r):=⟨rfl,rfl,.inr (.inl ⟨⟨L,d,e⟩,λ_=>a⟩)⟩
end
structure cr where
 size:Nat
 bytes:Nat
 agg:Bool
 desc:TypeDesc
 zero:m M
 eq:m TypeDesc:=[]
def rL:TypeDesc->X->X->Option Bool
 |.int _,.int e a,.int d b=>if e=d then h (a==b)else n
 |.string,.string a,.string b=>h (a.toList==b.toList)
 |.bool,.bool a,.bool b=>h (a==b)
 |_,_,_=>n
def nm:m TypeDesc->m X->m X->Option Bool
 |[],[],[]=>h l
 |f::a,g::z,i::b=>match rL f g i with
  |some d=>match nm a z b with
   |some e=>h (d&&e)
   |none=>n
  |none=>n
 |_,_,_=>n
def vC:TypeDesc->Bool
 |.struct _|.array _ _=>l
 |_=>v
structure eL(P:aD)(o:ak)(e:cr):Prop where
 et:P.underlying o=h e.desc
 agg:vC e.desc=e.agg
 cK:∃inf eJ,P.info? o=h inf/\inf.size=e.size/\inf.bytes=e.bytes/\inf.zero=h eJ/\eJ.cells.toList.map k'=e.zero.map h/\(∃ah,eJ=if e.agg then .agg ah else eJ)/\c e.zero=e.size
 iI:e.eq≠[]->P.eqGuardType P.depth o=v/\∀(p:au) (z ws:m X) (i:Bool),nm e.eq z ws=h i->(Op.equal o (.agg z.toArray) (.agg ws.toArray)).run P p=.ok i p/\∀V,(Op.equal o (.agg z.toArray) (.agg ws.toArray)).events P p V=V
def bX:m (Nat×cr)->Nat->Option cr
 |[],_=>n
 |(d,b)::e,a=>cond (ad d a) (h b) (bX e a)
def bZ(P:aD)(d:m (Nat×cr)):Prop:=∀b a,bX d b=h a->eL P b a
section
variable {e:cr}
def eL.run_underlying(a:eL P o e):(underlying o).run P p=.ok e.desc p:=by simp[underlying,a.et]
def eL.eu(a:eL P o e):(isAgg o).run P p=.ok e.agg p:=by have:=a.agg;unfold Go.isAgg;rw[cL,a.run_underlying];cases b:e.desc<;>rw[b]at this<;>simp[vC]at this<;>simp[this]
def eL.bb(d:eL P o e):(sizeOf o).run P p=.ok e.size p:=by obtain⟨f,g,a,b,_⟩:=d.cK;simp[sizeOf,typeInfo,a,b]
def uy{k}{b}:∀{z:m X}{a:m M},z.map k'=a.map h->bN k b z (a.map R.c)
 |[],[],_=>trivial
 |[],_::_,d=>by grind
 |_::_,[],d=>by grind
 |f::z,e::a,d=>by simp[kj,List.cons.injEq]at d;exact⟨Rd.fr d.1,uy d.2⟩
def eL.hL(i:eL P o e)(k)(b):∃a,(zeroValue o).run P p=.ok a p/\bN k b a.cells.toList (e.zero.map R.c):=by obtain⟨m,a,d,j,q,g,f,_⟩:=i.cK;exact⟨a,by simp[zeroValue,typeInfo,d,g],uy f⟩
end
def mt:y->Option (m R)
 |.n (.Q b)=>h [b]
 |.n (.agg a)=>h a
 |_=>n
theorem u_{d}{ah}(a:mt d=h ah)(e:bx k b aa d):bN k b aa.cells.toList ah:=by
 cases d with
 |n g=>
  cases g with
  |Q j=>
   cases a;have:=cC.cell e;cases aa<;>first|exact⟨e,B⟩|cases this
  |agg m=>
   cases a;obtain⟨z,rfl,f⟩:=e;simpa[Value.cells]using f
 |S i=>cases a
 |any=>cases a
def a2.newVar{P}{r}{f:ae->y}{k}{W}{ah}(q:∀b d,bb k b->(∀o,bx k b (d o) (f o))->∃g:X,(ab d r).run P b.a=((do pure (.value (.pointer (h (<-newVar W g))))):Sem Next).run P b.a/\bN k b g.cells.toList ah/\(ab d r).events P b.a #[]=#[]):
  a2 P r f k (aH (c k) 0) (k++[.cells W ah]):=by
 intro b d e m;obtain⟨g,i,j,p⟩:=q b d e m;refine⟨.value (.pointer (h ⟨b.a.heap.size,0,n⟩)),b.bW W g.cells.toList,?_,?_,e.bW j,.bW b W _ _,by rw[p];exact .nil⟩
 .rw[i];simp[Go.newVar,newRow,a6.bW]
 refine⟨by simp,⟨.pointer (h ⟨b.a.heap.size,0,n⟩),[b.a.heap.size]⟩,b.a.heap.size,?_,a,a⟩;simp[a6.bW,<-e.len]
theorem a2.alloc{P}{ac}(aZ:bZ P ac){r}{b:ae->y}{k}{W}(f:r.op=.alloc W){e}(a:bX ac W=h e):
  a2 P r b k (aH (c k) 0) (k++[.cells W (e.zero.map R.c)]):=by refine .newVar λg m _ _=>?_;obtain⟨j,d,i⟩:=(aZ W e a).hL (p:=g.a) k g;exact⟨j,by simp[ab,f,Instr.alloc,d],i,by simp[ab,f,Instr.alloc,d,Go.newVar,newRow]⟩
theorem a2.box{P}{r}{a:ae->y}{k}{W}{b}(e:r.op=.box W b){ah}(f:mt (a b)=h ah):
  a2 P r a k (aH (c k) 0) (k++[.cells W ah]):=
 .newVar λi d _ g=>⟨d b,by simp[ab,e,Instr.box],u_ f (g b),by simp[ab,e,Instr.box,Go.newVar,newRow]⟩
def m0{a:Type}:Nat->m a->Option (m a)
 |0,_=>h []
 |d+1,f::b=>match m0 d b with|some e=>h (f::e)|none=>n
 |_+1,[]=>n
def tZ{g:Type}:∀{b:Nat}{e d:m g},m0 b e=h d->d=e.take b/\c d=b
 |0,e,d,a=>by cases a;simp
 |b+1,[],d,a=>by simp[m0]at a
 |b+1,p::f,d,a=>by
  simp[m0]at a;cases i:m0 b f with
  |none=>grind
  |some o=>
   simp[i]at a;subst a;obtain⟨j,k⟩:=tZ i;grind
def db{a:Type}:Nat->m a->Option a
 |_,[]=>n
 |0,e::_=>h e
 |d+1,_::b=>db d b
theorem er{b:Type}:∀{j:Nat}{d:m b}{e:b},db j d=h e->d[j]?=h e
 |_,[],_,a=>by simp[db]at a
 |0,e::_,_,a=>by simpa[db]using a
 |j+1,_::f,_,a=>by simpa using er (j:=j) (d:=f) a
def gf{a:Type}:Nat->m a->m a
 |0,d=>d
 |_+1,[]=>[]
 |e+1,_::b=>gf e b
def rK{d:Type}:∀a(e:m d),gf a e=e.drop a
 |0,_=>by simp[gf]
 |_+1,[]=>by simp[gf]
 |a+1,_::b=>by simp[gf,rK a b]
def ht(b:cr)(a:m R):Option E1:=
 match b.agg with
 |true=>match m0 b.size a with|some e=>h (.agg e)|none=>n
 |false=>match db 0 a with|some d=>h (.Q d)|none=>n
def tL{e}(r:eL P o e){ah}{ap}(D:∀m d,z[m]?=h d->b.a.cell? ⟨i,off+m,n⟩=h d)(q:bN k b z ah)(g:ht e ah=h ap):
  ∃d,(loadVar o ⟨i,off,n⟩).run P b.a=.ok d b.a/\eB k b d ap:=by
 simp[loadVar,cL,r.eu,c'];cases t:e.agg<;>simp[ht,t]at g
 .cases f:db 0 ah with
  |none=>grind
  |some y=>
   simp[f]at g;subst g;obtain⟨d,A,s⟩:=q.get (er f);refine⟨d,?_,s⟩;grind[run_load]
 cases f:m0 e.size ah with
 |none=>grind
 |some B=>
  simp[f]at g;subst g;obtain⟨x,u⟩:=tZ f;have j:=q.take e.size;rw[<-x]at j;have w:c (z.take e.size)=e.size:=by rw[j.cL,u]
  have p:=run_loadCells_list (P:=P) b.a ⟨i,off,n⟩ (z.take e.size) (λm d C=>by grind[g6]);rw[w]at p;refine⟨.agg (z.take e.size).toArray,?_,z.take e.size,a,j⟩;simp[r.bb,p]
def pc{e}(s:eL P o e)(t:∀d,d<j->∃k,p.cell? ⟨i,off+d,n⟩=h k)(g:(if e.agg then e.size else 1)<=j):
  ∀f∈(loadVar o ⟨i,off,n⟩).events P p #[],∃d,d<j/\f=pA i (off+d):=by
 intro f b;simp only[loadVar,aC,s.eu,aF,events_isAgg]at b;cases q:e.agg
 .rw[q]at g b;obtain⟨k,r⟩:=t 0 N;simp[kk]at r;simp only[kh,dn,CE r]at b;rcases Array.mem_push.1 b with u|rfl
  .grind
  exact⟨0,by grind,a⟩
 rw[q]at g b;simp[dw]at g;simp[dw,aC,s.bb,aF,events_sizeOf]at b;have key:∀f∈(loadCells ⟨i,off,n⟩ e.size).events P p #[],∃d,d<j/\f=pA i (off+d):=by
  intro f b;rcases Jk (P:=P) (λd x=>t d w) f b with u|⟨d,x,rfl⟩
  .grind
  grind
 apply key;generalize(loadCells ⟨i,off,n⟩ e.size).run P p=y at b;cases y with
 |ok k m=>simpa using b
 |halt z m=>simpa using b
theorem se{e}{ah}{f}(a:ht e ah=h f):(if e.agg then e.size else 1)<=c ah:=by
 unfold ht at a;cases b:e.agg<;>rw[b]at a
 .cases ah with
  |nil=>simp[db]at a
  |cons g ah=>simp
 simp only at a;cases d:m0 e.size ah with
 |none=>grind
 |some k=>
  obtain⟨i,j⟩:=tZ d;grind
theorem a2.hg{ac}(aZ:bZ P ac){w:ae}(C:r.op=.load o w){ah}{e}{ap}(O:η w=aH d off)(aJ:k[d]?=h (.cells W ah))(p:bX ac o=h e)(F:ht e (gf off ah)=h ap):a2 P r η k (.n ap) k:=by
 refine .dr λb x q s=>?_
 have m:=s w;rw[O]at m;obtain⟨_,L,i,J,y,I⟩:=m;obtain⟨u,z,rfl,E,A,_⟩:=q.box d _ L aJ J;simp at y;subst y;rw[rK]at F;obtain⟨K,B,N⟩:=tL (b:=b) (k:=k) (P:=P) (aZ o e p) (i:=u) (off:=off) (z:=z.drop off) (ah:=ah.drop off) (ap:=ap) (λt K f=>by
  simp[aI,E]
  grind) (A.drop off) F
 refine⟨K,by simp[ab,C,I,Instr.loadAt,Instr.sureAddr,B],N,λg a=>?_⟩;have M:g∈(loadVar o ⟨u,off,n⟩).events P b.a #[]:=by
  have ap:ab x r=(do pure (.value (<-loadVar o ⟨u,off,n⟩))):=by simp[ab,C,I,Instr.loadAt,Instr.sureAddr]
  rw[ap]at a;simpa[B]using a
 have Q:c (z.drop off)=c (ah.drop off):=(A.drop off).cL;obtain⟨t,f,rfl⟩:=pc (aZ o e p) (j:=c (z.drop off)) (λt f=>by refine⟨(z.drop off)[t],?_⟩;simp only[aI,E];simp at f⊢<;>omega) (by grind[se]) g M;exact qp (b' J) D
theorem a2.hh{ac}(aZ:bZ P ac){B:ae}(I:r.op=.load o B){ah}{e}{ap}(W:η B=ay (.R ah))(w:bX ac o=h e)(O:ht e (ah.map R.c)=h ap):a2 P r η k (.n ap) k:=by
 refine .dr λb x u C=>?_;have s:=C B;rw[W]at s;have t:=b8 s;generalize F:x B=X at t;cases t;rename_i i off A p J;have V:∀j g,(∀d y,g[d]?=h y->Rd b.D (A (j+d)) y)->bN k b ((aA (c g)).map λd=>A (j+d)) (g.map R.c):=by
  intro j g;induction g generalizing j with
  |nil=>intro _;trivial
  |cons S g D=>
   intro M;rw[fe,w_];refine⟨M 0 S a,?_⟩;have:=D (j+1) (λd y f=>by have:=M (d+1) y N;grind);grind[Function.comp_def]
 obtain⟨Q,K,U⟩:=tL (b:=b) (k:=k) (P:=P) (aZ o e w) (i:=i) (off:=off) (z:=(aA (c ah)).map λd=>A (0+d)) (ah:=ah.map R.c) (ap:=ap) (λd Q f=>by
  simp[nd,cZ]at f;by_cases E:d<c ah
  .simp[E]at f;subst f;exact u.mem _ _ _ (p d ah[d] (bJ E))
  grind) (V 0 ah N) O
 refine⟨Q,by simp[ab,I,F,Instr.loadAt,Instr.sureAddr,K],U,λq m=>?_⟩;have T:q∈(loadVar o ⟨i,off,n⟩).events P b.a #[]:=by
  have ap:ab x r=(do pure (.value (<-loadVar o ⟨i,off,n⟩))):=by simp[ab,I,F,Instr.loadAt,Instr.sureAddr]
  rw[ap]at m;simpa[K]using m
 obtain⟨d,f,rfl⟩:=pc (aZ o e w) (j:=c ah) (λd f=>⟨A d,u.mem _ _ _ (p d ah[d] (bJ f))⟩) (by have:=se O;grind) q T;exact IS (p d ah[d] (bJ f))
def jb{d:Type}:Nat->m d->m d->Option (m d)
 |0,[],i=>h i
 |0,j::b,_::a=>match jb 0 b a with|some e=>h (j::e)|none=>n
 |g+1,b,f::a=>match jb g b a with|some e=>h (f::e)|none=>n
 |_,_,[]=>n
def EE{g:Type}:∀{a:Nat}{new f e:m g},jb a new f=h e->a+c new<=c f/\e=f.take a++new++f.drop (a+c new)
 |0,[],f,e,s=>by cases f<;>cases s<;>simp
 |0,o::b,k::d,e,s=>by
  simp[jb]at s;cases x:jb 0 b d with
  |none=>grind
  |some p=>
   exact Pz
 |0,o::b,[],e,s=>by simp[jb]at s
 |j+1,b,k::d,e,s=>by
  simp[jb]at s;cases x:jb j b d with
  |none=>grind
  |some p=>
   exact Pz
 |j+1,b,[],e,s=>by simp[jb]at s
def bN.fi{new}{ah a f}(g:AM.jb off a ah=h f)(d:bN k b z ah)(e:bN k b new a):
  off+c new<=c z/\bN k b (z.take off++new++z.drop (off+c new)) f:=by obtain⟨k1,rfl⟩:=EE g;rw[e.cL,d.cL];refine⟨k1,((d.take off).append e).append (by have:=d.drop (off+c a);exact this)⟩
theorem a2.store{ac}(aZ:bZ P ac){x g:ae}(I:r.op=.store o x g){ah new i}{e}(O:η x=aH d off)(aJ:k[d]?=h (.cells W ah))(q:bX ac o=h e)(y:mt (η g)=h new)(s:c new=e.size)(M:jb off new ah=h i):
  a2 P r η k .any (k.set d (.cells W i)):=by
 intro w f p t;have m:=t x;rw[O]at m;obtain⟨_,L,Y,B,F,K⟩:=m;obtain⟨u,z,rfl,J,T,R⟩:=p.box d _ L aJ B;simp at F;subst F;have j:=u_ y (t g);obtain⟨k1,V⟩:=bN.fi M T j;obtain⟨w1,w2⟩:=p.write aJ B rfl V;refine⟨.skip,_,?_,a,w1,w2,?_⟩
 rotate_left
 .intro IQ b;have A:(f g).cells.size=e.size:=by rw[<-s,<-j.cL,nb]
  have Q:ab f r=(do storeVar o ⟨u,off,n⟩ (f g);pure .skip):=by simp[ab,I,K,Instr.storeAt,Instr.sureAddr]
  rw[Q]at b;have S:IQ∈(storeCells ⟨u,off,n⟩ (f g).cells.toList).events P w.a #[]:=by
   simp[storeVar,aC,(aZ o e q).bb,A,aF,events_sizeOf,d',hG,dn,cL,c',Sem.events_pure]at b;generalize(storeCells ⟨u,off,n⟩ (f g).cells.toList).run P w.a=U at b;cases U with
   |ok aa C=>simpa using b
   |halt x C=>simpa using b
  rcases np (f g).cells.toList 0 z.toArray w.a #[] J N j.cell IQ S with X|⟨Z,_,_,rfl⟩
  .grind
  exact oi (b' B) D (R _)
 have E:=run_storeCells_at P u off W (f g).cells.toList 0 z.toArray w.a J N (j.cell);have A:(f g).cells.size=e.size:=by rw[<-s,<-j.cL,nb]
 simp[kk]at E;simp[ab,I,K,Instr.storeAt,Instr.sureAddr,storeVar,(aZ o e q).bb,A,E]
def lm(d:m (Nat×cr))(i:ak)(f:Nat):Option (Nat×cr):=
 match bX d i with
 |some g=>match g.desc with
  |.struct b=>match db f b.toList with
   |some a=>match bX d a.type with
    |some e=>cond (ad e.size 0) n (h (a.offset,e))
    |none=>n
   |none=>n
  |_=>n
 |none=>n
def CY{ac}(aZ:bZ P ac){j}{u}(d:lm ac o j=h (off,u)):
  ∃f g b,bX ac o=h f/\f.desc=.struct g/\g[j]?=h b/\b.offset=off/\bX ac b.type=h u/\u.size≠0/\eL P o f/\eL P b.type u:=by
 unfold lm at d;split at d
 .rename_i f bp;split at d
  .rename_i g i;split at d
   .rename_i b e;split at d
    .rename_i k t;cases m:ad k.size 0<;>simp[m]at d
     obtain⟨rfl,rfl⟩:=d;refine⟨f,g,b,bp,i,by simpa using er e,a,t,?_,aZ _ _ bp,aZ _ _ t⟩;intro p;simp_all
    grind
   grind
  grind
 grind
def zr{ac}(aZ:bZ P ac){a}{u}(k:lm ac o a=h (off,u))(i r)(p):
  (Instr.fieldAt o (.pointer (h ⟨i,r,n⟩)) a).run P p=.ok (.pointer (h ⟨i,r+off,n⟩)) p:=by obtain⟨q,w,g,s,f,m,j,t,b,e,d⟩:=CY aZ k;simp[Instr.fieldAt,e.run_underlying,f,m,Instr.sureAddr,fieldPlace,d.bb,b,g6,j]
def yk{ac}(aZ:bZ P ac){a}{u}(k:lm ac o a=h (off,u))(i r)(p)(V):
  (Instr.fieldAt o (.pointer (h ⟨i,r,n⟩)) a).events P p V=V:=by obtain⟨m,w,g,s,f,j,q,t,b,e,d⟩:=CY aZ k;simp[Instr.fieldAt,e.run_underlying,f,j,Instr.sureAddr,fieldPlace,d.bb,b]
def a2.g3{ac}(aZ:bZ P ac){i:ae}{q}(s:r.op=.fieldAddr o i q){f}{u}(y:η i=aH d off)(m:lm ac o q=h (f,u)):a2 P r η k (aH d (off+f)) k:=by refine .aQ λA z x g=>?_;have b:=g i;rw[y]at b;obtain⟨e,L,j,w,t,p⟩:=b;exact⟨.pointer (h ⟨j,off+f,n⟩),by simp[ab,s,p,zr aZ m],⟨e,L,j,w,t,a⟩,by simp[ab,s,p,yk aZ m]⟩
theorem a2.g7{ac}(aZ:bZ P ac){d:ae}{q}(s:r.op=.fieldAddr o d q){ah}{f}{u}(A:η d=ay (.R ah))(p:lm ac o q=h (f,u)):a2 P r η k (ay (.R (gf f ah))) k:=by refine .aQ λC i y g=>?_;have a:=g d;rw[A]at a;have b:=b8 a;generalize j:i d=B at b;cases b;rename_i m r x z t;refine⟨.pointer (h ⟨m,r+f,n⟩),by simp[ab,s,j,zr aZ p],?_,by simp[ab,s,j,yk aZ p]⟩;rw[rK];refine Rd.R m (r+f) (λu=>x (f+u)) (λu w e=>N) (λu w e=>?_);grind
def Su{e}(j:eL P o e){ah}(q:bN k b z ah){i}(d:ht e (gf off ah)=h i)(p):
  ∃f,(part o z.toArray off).run P p=.ok f p/\eB k b f i/\∀a,(part o z.toArray off).events P p a=a:=by
 simp[part,cL,j.eu,c',aC,aF,events_isAgg];rw[rK]at d;cases s:e.agg<;>simp[ht,s]at d
 .cases t:db 0 (ah.drop off)with
  |none=>grind
  |some w=>
   simp[t]at d;subst d;obtain⟨f,m,r⟩:=(q.drop off).get (er t);simp at m;refine⟨f,?_,r,λa=>?_⟩<;>simp[m]
 cases t:m0 e.size (ah.drop off)with
 |none=>grind
 |some y=>
  simp[t]at d;subst d;obtain⟨u,x⟩:=tZ t;have g:=(q.drop off).take e.size;rw[<-u]at g;refine⟨.agg (z.toArray.extract off (off+e.size)),by simp[j.bb],⟨(z.drop off).take e.size,?_,g⟩,λa=>by simp⟩;simp
theorem a2.field{P}{ac}(aZ:bZ P ac){r}{d:ae->y}{k}{o}{g}{j}(p:r.op=.field o g j){ah}{f}{u}{i}(M:d g=.n (.agg ah))(F:lm ac o j=h (f,u))(J:ht u (gf f ah)=h i):a2 P r d k (.n i) k:=by refine .aQ λK O E e=>?_;have a:=e g;rw[M]at a;obtain⟨z,q,A⟩:=a;obtain⟨Q,D,C,a,b,t,s,S,R,m,I⟩:=CY aZ F;obtain⟨N,B,w,x⟩:=Su I A J K.a;exact⟨N,by simp[ab,p,q,Instr.field,m.run_underlying,b,t,asAgg,s,B],w,by simp[ab,p,q,Instr.field,m.run_underlying,b,t,asAgg,s,x]⟩
theorem a2.hs{b:ae}(i:r.op=.nilCheck b)(m:η b=aH d off):a2 P r η k (aH d off) k:=by refine .aQ λu f o e=>?_;have a:=e b;rw[m]at a;have j:=a;obtain⟨p,L,q,t,s,g⟩:=a;exact⟨f b,by simp[ab,i,g],j,by simp[ab,i,g]⟩
theorem a2.hv{d:ae}(i:r.op=.nilCheck d){ah}(j:η d=ay (.R ah)):a2 P r η k (ay (.R ah)) k:=by refine .aQ λp f m e=>?_;have a:=e d;rw[j]at a;have b:=b8 a;generalize g:f d=o at b;cases b;exact⟨_,by simp[ab,i,g];rfl,by grind,by simp[ab,i,g]⟩
def Zc(new):∀d a(b:Array X),a+d+c new<=b.size ->
  ((new.zipIdx d).foldl (λb (f:X×Nat)=>b.setIfInBounds (a+f.2) f.1) b).toList=b.toList.take (a+d)++new++b.toList.drop (a+d+c new):=by
 induction new with
 |nil=>simp
 |cons g z e=>
  intro d a b i;simp[List.zipIdx_cons,hS];rw[e (d+1) a _ N];have:=list_seg_step b.toList (a+d) g z N;simpa[Array.toList_setIfInBounds,Nat.add_assoc]using this
def rN(place:Nat->Option (Nat×Nat)):m (Nat×m R)->m R->Option (m R)
 |[],a=>h a
 |(e,new)::b,a=>match place e with
  |some (d,size)=>match ad (c new) size with
   |true=>match jb d new a with
    |some f=>rN place b f
    |none=>n
   |false=>n
  |none=>n
def yv{k}{b}{place v6:Nat->Option (Nat×Nat)}(A:∀x f,place x=h f->v6 x=h f):∀{parts:m (Nat×m R)}{zY:m (Nat×X)}{ah ba:m R}{z:Array X},
  rN place parts ah=h ba->zY.map (·.1)=parts.map (·.1)->(∀(s:Nat) f o,parts[s]?=h f->zY[s]?=h o->bN k b o.2.cells.toList f.2)->bN k b z.toList ah ->
  ∃r,Instr.fill v6 z zY=h r/\bN k b r.toList ba
 |[],[],ah,ba,z,e,_,_,p=>by cases e;exact⟨z,a,p⟩
 |[],_::_,ah,ba,z,e,j,_,p=>by grind
 |_::_,[],ah,ba,z,e,j,_,p=>by grind
 |(x,new)::i,(w,t)::g,ah,ba,z,e,j,q,p=>by
  simp[kj,List.cons.injEq]at j;obtain⟨rfl,j⟩:=j;simp[rN]at e;cases y:place w with
  |none=>grind
  |some f=>
   obtain⟨d,size⟩:=f;simp[y]at e;cases C:ad (c new) size with
   |false=>grind
   |true=>
    simp[C]at e;cases D:jb d new ah with
    |none=>grind
    |some o=>
     simp[D]at e;have u:=q 0 (w,new) (w,t) a a;simp only at u;have Q:=u.cL;have J:c new=size:=dp C;obtain⟨k1,O⟩:=bN.fi D p u;have M:=Zc t.cells.toList 0 d z N;have F:t.cells.size=size:=N;have K:d+size<=z.size:=N;obtain⟨r,I,B⟩:=yv (k:=k) (b:=b) A (parts:=i) (zY:=g) (ah:=o) (ba:=ba)
      (z:=t.cells.zipIdx.foldl (λah (E:X×Nat)=>ah.setIfInBounds (d+E.2) E.1) z) e j (λs f o I B=>q (s+1) f o N N) (by grind[Array.toList_zipIdx])
     refine⟨r,?_,B⟩;simp[Instr.fill,A _ _ y,F,d',hG,o2,Bool.false_or,bz];grind
def tB(b:m (Nat×cr)):m Field->Option (m (Nat×Nat))
 |[]=>h []
 |d::a=>match bX b d.type with
  |some e=>match tB b a with
   |some f=>h ((d.offset,e.size)::f)
   |none=>n
  |none=>n
def LS{P}{ac}(aZ:bZ P ac):∀{b:m Field}{e:m (Nat×Nat)},tB ac b=h e->b.mapM (λd=>(P.info? d.type).map λk=>(d.offset,k.size))=h e
 |[],e,a=>by cases a;simp
 |d::b,e,a=>by
  simp[tB]at a;cases g:bX ac d.type with
  |none=>grind
  |some p=>
   cases f:tB ac b with
   |none=>grind
   |some q=>
    simp[g,f]at a;subst a;obtain⟨o,r,j,i,_⟩:=(aZ _ _ g).cK;simp[o5,j,i,LS aZ f]
def py(a:ae->y):m (Nat×ae)->Option (m (Nat×m R))
 |[]=>h []
 |(d,g)::f=>match mt (a g)with
  |some b=>match py a f with
   |some e=>h ((d,b)::e)
   |none=>n
  |none=>n
def zd{k}{b}{d:ae->X}{a:ae->y}(t:∀s,bx k b (d s) (a s)):∀{j:m (Nat×ae)}{f:m (Nat×m R)},py a j=h f ->
  (j.map λ(i,g)=>(i,d g)).map (·.1)=f.map (·.1)/\∀(p:Nat) q r,f[p]?=h q->(j.map λ(i,g)=>(i,d g))[p]?=h r->bN k b r.2.cells.toList q.2
 |[],f,e=>by cases e;simp
 |(i,g)::z,f,e=>by
  simp[py]at e;cases u:mt (a g)with
  |none=>grind
  |some w=>
   cases o:py a z with
   |none=>grind
   |some x=>
    simp[u,o]at e;subst e;obtain⟨B,A⟩:=zd t o;grind[u_]
def xC(f:m (Nat×cr))(e:ae->y)(j:ak)(parts:m (Nat×ae)):Option (m R):=
 match bX f j with
 |some g=>match g.desc with
  |.struct a=>match tB f a.toList with
   |some b=>match py e parts with
    |some d=>rN (λi=>db i b) d (g.zero.map R.c)
    |none=>n
   |none=>n
  |_=>n
 |none=>n
theorem a2.build{P}{ac}(aZ:bZ P ac){r}{d:ae->y}{k}{o}{parts}(z:r.op=.build o parts){ah}(e:xC ac d o parts.toList=h ah):a2 P r d k (.n (.agg ah)) k:=by
 refine .aQ λb s B m=>?_;unfold xC at e;cases a:bX ac o with
 |none=>grind
 |some i=>
  simp[a]at e;cases x:i.desc with
  |struct j=>
   simp[x]at e;cases w:tB ac j.toList with
   |none=>grind
   |some q=>
    simp[w]at e;cases u:py d parts.toList with
    |none=>grind
    |some J=>
     simp[u]at e;obtain⟨S,V,I,T,M,E,K,U,Q⟩:=(aZ o i a).cK;obtain⟨D,p⟩:=zd (k:=k) (b:=b) m u;obtain⟨f,N,F⟩:=yv (k:=k) (b:=b) (v6:=λA=>q.toArray[A]?) (λA R C=>by grind[er]) e D p (uy K);have g:P.built o (parts.map λ(i,O)=>(i,s O)).toList=h f:=by unfold Program.built;have t:=(aZ o i a).et;rw[x]at t;simp[I,t,E,LS aZ w];simpa using N
     refine⟨.agg f,?_,⟨f.toList,by simp,F⟩,?_⟩
     .simp only[ab,z,cL,run_build b.a o _ f g,c',d_]
     simp[ab,z,aC,run_build b.a o _ f g,aF,Sem.events_pure];exact dA.build b.a #[]
  |_=>grind
theorem ZP{f}(a:e<j)(d:u<f):e*f+u<j*f:=by have b:(e+1)*f<=j*f:=hf f w;grind
theorem ZO{f}(a:u<f):(e*f+u) / f=e:=by grind[Nat.mul_comm,Nat.mul_add_div,Nat.div_eq_of_lt]
theorem ZQ{f}(a:u<f):(e*f+u) % f=u:=by rw[xg,Nat.mul_add_mod,Nat.mod_eq_of_lt a]
def e0.nil{f}:e0 bB f 0 V []:=⟨by simp,by omega,by omega⟩
def ck(b:Nat)(d e:Nat->m M):Nat->m M:=λa=>if a<b then d a else e (a-b)
def e0.append{f}{b:Nat->m M}{i}(g:e0 bB f j V z)(p:e0 bB f A b i):e0 bB f (j+A) (ck j V b) (z++i):=by
 refine⟨by simp[g.len,p.len,jL],λe r=>?_,λe r k s a=>?_⟩
 .simp only[ck];split
  .rename_i o;exact g.bF e o
  exact p.bF _ w
 simp[ck]at a;split at a
 .rename_i o;obtain⟨t,q,d⟩:=g.rd e o k s a;grind
 rename_i x;obtain⟨t,q,d⟩:=p.rd _ w k s a;refine⟨t,?_,d⟩;have u:e*f+k=c z+((e-j)*f+k):=by rw[g.len,<-Nat.add_assoc,<-jL,A2 w]
 grind
def e0.cell{bB}{f j}{d:Nat->m M}{z}(i:e0 bB f j d z):∀g∈z,g.oneCell'=l:=by intro g p;obtain⟨a,q,rfl⟩:=hd p;rw[i.len]at q;have o:0<f:=N;have e:a / f<j:=sz N;have s:a % f<f:=p7 _ o;have t:=i.bF _ e;obtain⟨g,b,k⟩:=i.rd (a / f) e (a % f) ((d (a / f))[a % f]'w) (bJ w);have r:a / f*f+a % f=a:=uJ a f;rw[r]at b;rw[bJ N]at b;simp at b;rw[b];have:=Rd.cell k;cases g<;>simp_all[dT,Value.oneCell']
def Rd.b0{o}{f}(D:Rd bB aa (.B o f j V)):
  ∃k b z,aa=.slice k j b/\j<=b/\b<=9223372036854775807/\(o=l->b=j)/\e0 bB f j V z/\∀e u,z[e]?=h u->∃m d,k=h ⟨m,d,n⟩/\bB m (d+e)=h u:=by
 cases D with
 |@B k _ b _ _ _ m d A x r t i q s F=>
  refine⟨k,b,(aA (j*f)).map λe=>A (e / f) (e % f),a,x,r,t,⟨by simp,i,?_⟩,?_⟩
  .grind [ZP,ZO,ZQ]
  intro e u p;simp[nd]at p;by_cases y:e<j*f
  .simp[y]at p;subst p;have C:0<f:=N;have g:e / f<j:=sz N;have E:e % f<f:=p7 _ C;have I:=i _ g;have:=s (e / f) g (e % f) ((V (e / f))[e % f]'w) (bJ w);refine⟨m,d,q (Nat.lt_of_le_of_lt (g5 _) g),?_⟩;grind[Nat.div_add_mod']
  grind
def Rd.en{f}(k:e0 bB f j V z){x}{cap}{o}(u:0<j->x=h ⟨i,off,n⟩)(t:j<=cap)(q:cap<=9223372036854775807)(w:o=l->cap=j)(y:∀r s,z[r]?=h s->bB i (off+r)=h s):Rd bB (.slice x j cap) (.B o f j V):=by
 refine .B i off (λd e=>(z[d*f+e]?).getD J) t q w k.bF u (λd a e g b=>?_) (λd a e g b=>?_)
 .obtain⟨aa,m,p⟩:=k.rd d a e g b;grind
 obtain⟨aa,m,p⟩:=k.rd d a e g b;grind
def oJ(A:bb k b){o}{f}(u:Rd b.D aa (.B o f j V)):
  ∃z,e0 b.D f j V z/\(Builtin.firstCells f j aa).run P b.a=.ok z.toArray b.a/\Builtin.lenOf aa=pure j:=by
 obtain⟨r,m,z,rfl,B,E,D,q,p⟩:=u.b0;refine⟨z,q,?_,a⟩;have w:c z=j*f:=q.len;cases r with
 |none=>
  have:z=[]:=by
   cases z with
   |nil=>rfl
   |cons i C=>obtain⟨s,d,g,_⟩:=p 0 i rfl;cases g
  subst this;rfl
 |some e=>
  simp[Builtin.firstCells];rw[<-w];refine run_loadCells_list b.a e z λx i t=>?_;obtain⟨s,d,g,y⟩:=p x i t;cases g;rw[g6];exact A.mem _ _ _ y
def a2.jc{ac}(aZ:bZ P ac){w y:ae}(s:r.op=.index o w y){d}{u}{f}{e}(bp:bX ac o=h e)(al:e.desc=.string)(I:η w=ay (.T d))(F:η y=ay (.int f u))(Kq:u=A)(D:A<c d):a2 P r η k (ay (.int .u8 (d[A]).toNat)) k:=by
 refine .aQ λb t z q=>?_;have g:=q w;have j:=q y;rw[I]at g;rw[F]at j;replace g:=b8 g;replace j:=b8 j;generalize x:t w=J at g;generalize O:t y=K at j;cases g with
 |@T a _ E B=>
 cases j;subst E;have C:a[A]?=h (a.data.toList[A]):=by have m:A<a.size:=ds;rw[getElem?_pos a A m];congr 1
 refine⟨.int .u8 (a.data.toList[A]).toNat,?_,Rd.int ?_,?_⟩
 rotate_left 2
 .exact RC
 .exact RC
 have:=(a.data.toList[A]).toNat_lt;exact nS
def a2.indexAddr{ac}(aZ:bZ P ac){t x:ae}(T:r.op=.indexAddr o t x){e a5}(E:bX ac o=h e)(R:e.desc=.slice W)(Q:bX ac W=h a5){eQ}{u}{f}(y:∀q O,bx k q O (η t)->Rd q.D O (.B eQ a5.size j V))(M:η x=ay (.int f u))(F:u=A)(B:A<j):
  a2 P r η k (ay (.R (V A))) k:=by
 refine .aQ λq s X i=>?_;have d:=y q _ (i t);have a:=i x;rw[M]at a;replace a:=b8 a;generalize af:s t=ah at d;generalize ag:s x=ai at a;cases a;cases d with
 |@B ak _ K _ _ _ J b S al U Z Y D g m=>
 have aa:0<j:=w;have N:=(aZ o e E).run_underlying (p:=q.a);rw[R]at N;refine⟨.pointer (h ⟨J,b+A*a5.size,n⟩),?_,Rd.R J (b+A*a5.size) (S A) (λI z C=>g A B I z C) (λI z C=>m A B I z C),?_⟩<;>
 simp[ab,T,af,ag,Instr.indexAt,asIntOf,N,F,D aa,(aZ W a5 Q).bb,g6,B]
def a2.jh{ac}(aZ:bZ P ac){g:ae}(u:r.op=.call {callee:=.builtin .len,args:=#[g],argTypes:=dt})(A:dt[0]?=h o){e}(b:bX ac o=h e)(t:e.desc=.slice W){eQ}{f}(B:∀a q,bx k a q (η g)->Rd a.D q (.B eQ f j V)):a2 P r η k (ay (.int .i64 j)) k:=by
 refine .aQ λa C x d=>?_;obtain⟨D,i,z,y,E,w,_⟩:=(B a _ (d g)).b0;have m:=(aZ o e b).run_underlying (p:=a.a);rw[t]at m;have s:dt[0]?=h o:=A;refine⟨.int .i64 j,?_,Rd.int nS,?_⟩<;>
 simp[ab,u,resolve,invoke,builtin,Builtin.len_,y,m,goInt,s]
theorem a2.ji{ac}(aZ:bZ P ac){b:ae}(w:r.op=.call {callee:=.builtin .len,args:=#[b],argTypes:=dt})(A:dt[0]?=h o){e}(f:bX ac o=h e)(u:e.desc=.string){d}(B:η b=ay (.T d)):a2 P r η k (ay (.int .i64 (c d))) k:=by
 refine .aQ λC j x g=>?_;have a:=g b;rw[B]at a;replace a:=b8 a;generalize q:j b=D at a;cases a with
 |@T i _ z y=>
 have m:=(aZ o e f).run_underlying (p:=C.a);rw[u]at m;have s:dt[0]?=h o:=A;have t:i.size=c d:=by rw[<-z];simp
 refine⟨.int .i64 (c d),?_,Rd.int nS,?_⟩<;>
 simp[ab,w,resolve,invoke,builtin,Builtin.len_,q,m,goInt,s,t]
def a6.newRow(a:a6)(e:ak)(z:m X):a6:=
 {s:=a.s,D:=λb d=>if b=a.a.heap.size then z[d]? else a.D b d,a:=a.a.alloc (.cells z.toArray e),own:=a.own}
def bb.newRow{k}{b}(g:bb k b)(W)(z):bb k (b.newRow W z)/\cO k b k (b.newRow W z):=by
 refine g.cY D (λf d=>i7 _ _ d) (λf d j=>by grind) (λf d j m e=>?_) a a a;by_cases i:f=b.a.heap.size
 .simp_all
 simp[i,dn]at e;have:=g.block e;omega
def Lb(d:a6)(W)(z):∀a b,z[a]?=h b->(d.newRow W z).D d.a.heap.size (0+a)=h b:=by intro a b e;simpa[a6.newRow]using e
def h':m R->Option (m M)
 |[]=>h []
 |.c e::d=>match h' d with|some b=>h (e::b)|none=>n
 |.x _ f g a::d=>match h' d with|some b=>h (.B v f g a::b)|none=>n
 |_::_=>n
def rI{k}{b}:∀{i:m R}{f:m M}{z:m X},h' i=h f->bN k b z i->bN k b z (f.map R.c)
 |[],f,z,a,e=>by cases a;exact e
 |_::_,_,[],_,e=>e.elim
 |.c r::d,f,j::z,a,e=>by
  simp[h']at a;cases g:h' d with
  |none=>grind
  |some q=>simp[g]at a;subst a;exact⟨e.1,rI g e.2⟩
 |.x o s t p::d,f,j::z,a,e=>by
  simp[h']at a;cases g:h' d with
  |none=>grind
  |some q=>simp[g]at a;subst a;exact⟨e.1.1,rI g e.2⟩
 |.ptr o u::d,f,j::z,a,e=>by simp[h']at a
 |.aY o::d,f,j::z,a,e=>by simp[h']at a
 |.O o w::d,f,j::z,a,e=>by simp[h']at a
 |.any::d,f,j::z,a,e=>by simp[h']at a
def rG{a:Type}(b:Nat):Nat->m a->Option (m (m a))
 |0,[]=>h []
 |0,_::_=>n
 |f+1,d=>match m0 b d with
  |some e=>match rG b f (gf b d)with
   |some g=>h (e::g)
   |none=>n
  |none=>n
def bN.e0:∀{z:m X}{a:m M},bN k b z (a.map R.c)->∀(u:Nat)d,a[u]?=h d->∃e,z[u]?=h e/\Rd b.D e d:=by intro z a i u d j;obtain⟨e,f,g⟩:=i.get (u:=u) (x:=.c d) N;exact⟨e,f,g⟩
def B7{bB}{f}:∀{j:Nat}{b:m M}{d:m (m M)}{z:m X},rG f j b=h d->c z=c b->(∀(k:Nat)e,b[k]?=h e->∃p,z[k]?=h p/\Rd bB p e)->c d=j/\e0 bB f j (λi=>d.getD i []) z
 |0,[],d,z,g,o,r=>by cases g;simp at o;subst o;exact⟨a,.nil⟩
 |0,_::_,d,z,g,o,r=>by cases g
 |j+1,b,d,z,g,o,r=>by
  simp[rG]at g;cases u:m0 f b with
  |none=>grind
  |some e=>
   simp[u]at g;cases q:rG f j (gf f b)with
   |none=>grind
   |some w=>
    simp[q]at g;subst g;obtain⟨D,t⟩:=tZ u;rw[rK]at q;obtain⟨E,B⟩:=B7 (z:=z.drop f) q N (λk e C=>by
     obtain⟨p,D,t⟩:=r (f+k) e N
     exact⟨p,by grind,t⟩)
    refine⟨by grind,?_⟩;have A:f<=c b:=N;have s:e0 bB f 1 (λ_=>e) (z.take f):=by refine⟨by grind,by grind,λi y k F C=>?_⟩;grind
    have:=s.append B;rw[Nat.add_comm 1 j]at this;have x:ck 1 (λ_=>e) (λi=>w.getD i [])=λi=>(e::w).getD i []:=by funext i;cases i<;>simp[ck]
    rw[x]at this;simpa using this
def rZ(i:m (Nat×cr))(g:ae->y)(q:ak)(e:Nat)(parts:m (Nat×ae)):Option (Nat×m (m M)):=
 match bX i q with
 |some k=>match k.desc with
  |.slice j=>match bX i j with
   |some a=>match ad a.size 0 with
    |true=>n
    |false=>match ax (e*a.size) 16777216 with
     |true=>match py g parts with
      |some f=>match rN (λo=>h (o*a.size,a.size)) f (aV (e*a.size) R.any)with
       |some b=>match h' b with
        |some p=>match rG a.size e p with
         |some d=>h (a.size,d)
         |none=>n
        |none=>n
       |none=>n
      |none=>n
     |false=>n
   |none=>n
  |_=>n
 |none=>n
theorem a2.buildSlice{P}{ac}(aZ:bZ P ac){r}{A:ae->y}{k}{o}{j}{parts}(s:r.op=.buildSlice o j parts){f}{V}(e:rZ ac A o j parts.toList=h (f,V)):a2 P r A k (ay (.B l f j λx=>V.getD x [])) k:=by
 intro b t Q T;unfold rZ at e;cases C:bX ac o with
 |none=>grind
 |some x=>
  simp[C]at e;cases ai:x.desc with
  |slice u=>
   simp[ai]at e;cases F:bX ac u with
   |none=>grind
   |some d=>
    simp[F]at e;cases U:ad d.size 0 with
    |true=>grind
    |false=>
     simp[U]at e;cases G:ax (j*d.size) 16777216 with
     |false=>grind
     |true=>
      simp[G]at e;cases aB:py A parts.toList with
      |none=>grind
      |some aa=>
       simp[aB]at e;cases az:rN (λf=>h (f*d.size,d.size)) aa (aV (j*d.size) R.any)with
       |none=>grind
       |some J=>
        simp[az]at e;cases H:h' J with
        |none=>grind
        |some aI=>
         simp[H]at e;cases ah:rG d.size j aI with
         |none=>grind
         |some ao=>
          simp only[ah,e_,lL]at e;obtain⟨rfl,rfl⟩:=e;have aS:d.size≠0:=λan=>by simp_all
          have aR:=fz G;obtain⟨aw,q,N5,aN,aO,a,br,aP,aQ⟩:=(aZ u d F).cK;have au:q.cells.size=d.size:=Ov;have ar:∀g∈q.cells.toList,dT g=l:=by intro g L;have al:k' g∈q.cells.toList.map k':=g4.2 ⟨g,L,rfl⟩;rw[br]at al;obtain⟨aT,_,O⟩:=g4.1 al;exact(Rd.fr (bB:=b.D) O.symm).cell
          have aL:∀aH,(∀g∈(aA aH).map (λE=>q.cells[E % q.cells.size]!),dT g=l):=by grind[Nat.mod_lt]
          have aC:∀z:m X,(∀g∈z,dT g=l)->bN k b z (aV (c z) R.any):=by
           intro z;induction z with
           |nil=>intro _;trivial
           |cons g z W=>intro L;exact⟨L g D,W λaJ av=>L aJ N⟩
          obtain⟨Y,Z⟩:=zd (k:=k) (b:=b) T aB;have aE:bN k b ((Array.range (j*d.size)).map (λE=>q.cells[E % q.cells.size]!)).toList (aV (j*d.size) R.any):=by have:=aC _ (aL (j*d.size));simpa using this
          obtain⟨B,aK,af⟩:=yv (k:=k) (b:=b) (v6:=λf=>h (f*d.size,d.size)) (λf aU S=>S) az Y Z aE;have nO:=rI H af;obtain⟨aG,I⟩:=B7 (bB:=b.D) (z:=B.toList) ah (by simpa using nO.cL) nO.e0;obtain⟨M,ak⟩:=Q.newRow u B.toList;refine⟨.value (.slice (h ⟨b.a.heap.size,0,n⟩) j j),b.newRow u B.toList,?_,?_,M,ak,?_⟩
          rotate_left 2
          .have an:(ab t r).events P b.a #[]=#[]:=RU;rw[an];exact .nil
          .have av:=(aZ o x C).run_underlying (p:=b.a);rw[ai]at av;have aD:(zeroValue u).run P b.a=.ok q b.a:=Oy;have K:Instr.fill (λf=>h (f*d.size,d.size)) ((Array.range (j*d.size)).map (λE=>q.cells[E % q.cells.size]!)) (parts.map λ(x,ag)=>(x,t ag)).toList=h B:=bw;by_cases aF:j*d.size=0
           .have aM:j=0:=by grind[Nat.mul_eq_zero]
            subst aM;have aq:Array.range 0=#[]:=rfl;simp[aq]at K;simp[ab,s,Instr.buildSlice,av,(aZ u d F).bb,aq,K,Go.newRow,a6.newRow]
           rw[show ab t r=(do pure (.value (<-Instr.buildSlice o j (parts.map λ(x,ag)=>(x,t ag))))) by simp[ab,s]];simp only[Instr.buildSlice,cL,av,c',(aZ u d F).bb,aF,dn,aD,show¬j*d.size>2 ^ 24 by omega,sJ,K,d_];simp[Go.newRow,a6.newRow]
          refine Rd.en (I.mono ak.mem) (i:=b.a.heap.size) (off:=0) bk (bC _) ?_ bk (Lb b u B.toList);have:j<=j*d.size:=uG j w;omega
  |_=>grind
def fw.trans{k aU a}{b i b6}(j:fw k b aU i)(m:fw aU i a b6):fw k b a b6:=by refine⟨λy z A s=>m.mem _ _ _ (j.mem _ _ _ s),λo p L aJ g=>?_⟩;obtain⟨w,d,e,f,u⟩:=j.box o p L aJ g;obtain⟨x,t,k1,q,r⟩:=m.box o w d e f;exact⟨x,t,k1,q,u.trans r⟩
def rO{a:m α}{d b:α}{e}(f:(a++[d])[e]?=h b):a[e]?=h b∨(e=c a/\b=d):=N
def bb.bY{j}(e:bb k j)(f:cO k b k j)(M:j.s=b.s)(q:bb k b){bU}{L}(aJ:eA (k++[bU]) {j with s:=j.s++[L]} bU L)(D:∀i∈L.aj,b.a.heap.size<=i/\i<j.a.heap.size):bb (k++[bU]) {j with s:=j.s++[L]}/\cO k b (k++[bU]) {j with s:=j.s++[L]}:=by
 have t:fw k j (k++[bU]) {j with s:=j.s++[L]}:=by refine⟨λ_ _ _ I=>I,λy p g m d=>?_⟩;have x:=(cP.1 d).1;have K:=(cP.1 m).1;exact⟨p,g,by grind,by grind,.refl _ _⟩
 have B:=f.ext.trans t;refine⟨⟨e.mem,by simp[e.len],?_,?_,?_,?_⟩,⟨f.size,f.a7,f.mem,f.bA,?_,B.box,f.os,f.tape,f.output,f.own⟩⟩
 .intro y p g m d;rcases rO m with F|⟨rfl,rfl⟩
  .have x:y<c j.s:=by rw[e.len];grind
   rw[jm x]at d;exact(e.box y p g F d).cc t e.len λ_ _=>⟨a,λ_=>rfl⟩
  rcases rO d with A|⟨_,rfl⟩
  .have:=(cP.1 A).1;rw[e.len]at this;omega
  grind
 .intro y C r s A u i cW o;rcases rO A with k1|⟨rfl,rfl⟩<;>rcases rO u with J|⟨rfl,rfl⟩
  .exact e.a4 y C r s k1 J i cW o
  .have kI:=D i o;have z:=q.lt r N i cW;omega
  .have kI:=D i cW;have z:=q.lt s N i o;omega
  simp
 .intro g d i cW;simp[e2,fU]at d;rcases d with d|rfl
  .exact e.lt g d i cW
  grind
 .intro i cW;refine⟨(e.own i cW).1,λg d w=>?_⟩;simp[e2,fU]at d;rcases d with d|rfl
  .exact(e.own i cW).2 g d w
  have E:=f.own;simp only at cW;rw[E]at cW;have:=(q.own i cW).1;grind
 grind
def bb.b5{cl}(m:bb k b){E ed}{L cw}(V:k[d]?=h E)(I:b.s[d]?=h L)(y:fQ E L ed cw)(U:b.a.heap.size<=bi.heap.size)(S:∀e,e<b.a.heap.size->e∉L.aj->bi.heap[e]?=b.a.heap[e]?)(W:∀e,e<b.a.heap.size->e∉L.aj->∀r,cl e r=b.D e r)(F:∀e r u,b.D e r=h u->cl e r=h u)(O:∀e r u,cl e r=h u->bi.cell? ⟨e,r,n⟩=h u)(Z:∀e∈cw.aj,(e∈L.aj∨b.a.heap.size<=e)/\e<bi.heap.size)(D:bi.os=b.a.os)(R:bi.tape=b.a.tape)(M:bi.output=b.a.output)(aJ:eA (k.set d ed) ⟨b.s.set d cw,cl,bi,b.own⟩ ed cw):bb (k.set d ed) ⟨b.s.set d cw,cl,bi,b.own⟩/\cO k b (k.set d ed) ⟨b.s.set d cw,cl,bi,b.own⟩:=by
 have X:=(cP.1 V).1;have Y:=(cP.1 I).1;have x:∀f g,(b.s.set d cw)[f]?=h g->(f=d/\g=cw)∨(f≠d/\b.s[f]?=h g):=N;have s:fw k b (k.set d ed) ⟨b.s.set d cw,cl,bi,b.own⟩:=by
  refine⟨F,λf g w q z=>?_⟩;by_cases B:d=f
  .grind
  exact⟨g,w,by grind,by grind,.refl _ _⟩
 have J:∀f g,f≠d->b.s[f]?=h g->∀e∈g.aj,e<b.a.heap.size/\e∉L.aj:=by intro f g p q e i;exact⟨m.lt g (b' q) e i,λT=>p (m.a4 f d g L q I e i T)⟩
 refine⟨⟨O,by simp[m.len],?_,?_,?_,?_⟩,⟨U,?_,F,?_,?_,s.box,D,R,M,a⟩⟩
 .intro f g w q z;rcases x f w z with⟨rfl,rfl⟩|⟨p,z⟩
  .grind
  rw[kJ (λB=>p B.symm)]at q;refine(m.box f g w q z).cc s m.len λe i=>?_;grind
 .intro f K g o q C e i t;rcases x f g q with⟨rfl,rfl⟩|⟨p,A⟩<;>rcases x K o C with⟨rfl,rfl⟩|⟨j,Q⟩
  .rfl
  .grind
  .grind
  exact m.a4 f K g o A Q e i t
 .intro g q e i;obtain⟨f,p,rfl⟩:=hd q;rcases x f _ (bJ p)with⟨rfl,B⟩|⟨j,C⟩
  .grind
  grind
 .intro e i;obtain⟨H,G⟩:=m.own e i;grind
 .grind
 .grind
 grind
def Lc{a old bytes}(d:old<a)(b:a*bytes<=140737488355328):¬Builtin.nextslicecap a old*bytes>2 ^ 48:=by have:=growslice_fits d b;omega
section
variable {ac:m (Nat×cr)}(aZ:bZ P ac){t2:ak}{e O a5:cr}
def zq(d:eL P o e)(A:e.desc=.slice W)(w:eL P t2 O)(u:O.desc=.slice W)(B:eL P W a5)(D:bb k b){x}{cap}(t:j<=cap){r}{f}{a:Nat->m M}(q:Rd b.D r (.B f a5.size 0 a)):
  (Builtin.append_ #[o,t2] ty #[.slice x j cap,r]).run P b.a=.ok (.slice x j cap) b.a:=by obtain⟨F,E,C,J⟩:=oJ (P:=P) D q;have i:=d.run_underlying (p:=b.a);have g:=w.run_underlying (p:=b.a);rw[A]at i;rw[u]at g;obtain⟨s,I,z,rfl,_⟩:=q.b0;have y:=jJ (by simpa using E.len);subst y;cases x<;>simp[Builtin.append_,i,g,B.bb,Builtin.lenOf,t,C,storeCells]
def wa(B:eL P o e)(af:e.desc=.slice W)(aw:eL P t2 O)(av:O.desc=.slice W)(L:eL P W a5)(al:bb k b){r}{cap}{ak E}{f:Nat->m M}{i}(C:Rd b.D (.slice r j cap) (.B ak a5.size j V))(D:Rd b.D i (.B E a5.size A f))(ah:cap<j+A)(I:(j+A)*a5.bytes<=140737488355328)(y:a5.bytes≠0):
  ∃z q d,e0 b.D a5.size (j+A) (ck j V f) z/\j+A<=d/\d<=9223372036854775807/\c (z++q)=d*a5.size /\
   (Builtin.append_ #[o,t2] ty #[.slice r j cap,i]).run P b.a=.ok (.slice (h ⟨b.a.heap.size,0,n⟩) (j+A) d) (b.a.drew.alloc (.cells (z++q).toArray W)):=by
 have ab:bb k {b with a:=b.a.drew}:=al.same rfl;obtain⟨t,K,u,ar⟩:=oJ (P:=P) ab (aa:=i) D;obtain⟨s,Y,x,U⟩:=oJ (P:=P) ab (aa:=.slice r j cap) C;have Q:=B.run_underlying (p:=b.a);have S:=aw.run_underlying (p:=b.a);rw[af]at Q;rw[av]at S;obtain⟨Z,F,J,ay,az,ai,ag,aB,aC⟩:=L.cK;have T:=e3 (uG _ (Nat.pos_of_ne_zero y)) I;have H:F.cells.size=a5.size:=by have:=eF List.length ag;grind
 refine⟨s++t,(Builtin.zeroCells F.cells (grownCap b.a (j+A) cap W-(j+A))).toList,grownCap b.a (j+A) cap W,Y.append K,grownCap_ge _ _ _ _,?_,?_,?_⟩
 .have:=grownCap_le_maxLen b.a (j+A) cap W (by unfold maxLen;omega);unfold maxLen at this;omega
 .have aM:=grownCap_ge b.a (j+A) cap W;simp[c9,Y.len,K.len,nb,size_zeroCells,H,<-jL];grind
 .have aD:=Lc ah I;have au:¬Builtin.nextslicecap (j+A) cap*Z.bytes>2 ^ 48:=N;have aq:¬j+A<=cap:=w;have R:¬((j+A:Nat):Int)>IntKind.i64.max:=bw;have G:∀g,(typeInfo W).run P g=.ok Z g:=λg=>by simp[typeInfo,J]
  have ae:∀g,(zeroValue W).run P g=.ok F g:=λg=>by simp[zeroValue,typeInfo,J,ai]
  have ao:(Builtin.lenOf i).run P b.a=.ok A b.a:=by rw[ar];rfl
  replace u:(Builtin.firstCells a5.size A i).run P b.a.drew=.ok t.toArray b.a.drew:=u;replace x:(Builtin.firstCells a5.size j (.slice r j cap)).run P b.a.drew=.ok s.toArray b.a.drew:=x
  unfold Builtin.append_;simp only[kg,ml,n8,cL,Q,S,c',L.bb,d_,kh,dn,ao,aq,
   R,false_and,G,au,run_choose,Question.forced,run_askRoom,sJ,World.drew_eq,x,u,iC,dw,ae]
  simp[Go.newRow,grownCap];have an:∀a:Array X,(s++t).toArray++a=(s++(t++a.toList)).toArray:=λa=>by grind
  rw[an];rfl
def Em(f:eL P o e)(I:e.desc=.slice W)(F:eL P t2 O)(E:O.desc=.slice W)(J:eL P W a5)(B:bb k b){cap}{x}{t}(K:b.a.heap[i]?=h (.cells t.toArray x (0,0)))(D:c t=cap*a5.size){q}{a:Nat->m M}{r}(y:Rd b.D r (.B q a5.size A a))(w:j+A<=cap):
  ∃d,e0 b.D a5.size A a d/\(Builtin.append_ #[o,t2] ty #[.slice (h ⟨i,0,n⟩) j cap,r]).run P b.a=.ok (.slice (h ⟨i,0,n⟩) (j+A) cap) (b.a.setRow i (t.take (j*a5.size)++d++t.drop (j*a5.size+c d)).toArray):=by
 obtain⟨d,g,R,Q⟩:=oJ (P:=P) B y;have z:=f.run_underlying (p:=b.a);have s:=F.run_underlying (p:=b.a);rw[I]at z;rw[E]at s;have S:j*a5.size+c d<=c t:=by rw[g.len,D,<-jL];exact hf _ w
 have u:=run_storeCells_at P i (j*a5.size) x d 0 t.toArray b.a K N g.cell;simp[kk]at u;have C:(Builtin.lenOf r).run P b.a=.ok A b.a:=ds;refine⟨d,g,?_⟩;unfold Builtin.append_;simp[kg,ml,n8,cL,z,s,c',J.bb,d_,kh,dn,C,w,dw,iC,R,g6,cZ,u]
end
def DG{b:Sem α}{V}{a}(d:a∈b.events P p V):a∈V∨a∈b.events P p #[]:=by grind[Sem.events_acc]
def Mg(e:a6)(d:aO):Prop:=∃a b f,d=pA a b/\e.D a b=h f
def s7(J:bb k b){o}{f}(B:Rd b.D aa (.B o f j V))(F:p.heap=b.a.heap):
  ∀u∈(Builtin.firstCells f j aa).events P p #[],Mg b u:=by
 obtain⟨D,A,z,rfl,S,Q,O,C,I⟩:=B.b0;have M:=C.len;intro u i;cases D with
 |none=>simp[Builtin.firstCells]at i
 |some s=>
  simp[Builtin.firstCells]at i;have t:∀e,e<j*f->∃g d m,s=⟨g,d,n⟩/\b.D g (d+e)=h m:=by intro e q;obtain⟨g,d,y,r⟩:=I e (z[e]'w) (bJ w);grind
  by_cases K:j*f=0
  .rw[K]at i;simp[loadCells,loadCellsFrom]at i
  obtain⟨g,d,_,rfl,_⟩:=t 0 w;have R:∀e,e<j*f->∃aa,p.cell? ⟨g,d+e,n⟩=h aa:=by intro e q;obtain⟨N,E,m,x,r⟩:=t e q;cases x;have:=J.mem _ _ _ r;exact⟨m,by simp[aI,F]at this⊢;omega⟩
  rcases Jk (P:=P) R u i with B|⟨e,q,rfl⟩
  .grind
  obtain⟨N,E,m,x,r⟩:=t e q;cases x;exact⟨_,_,m,a,r⟩
theorem tF{a}(e:Mg b a):ia b a:=by obtain⟨f,g,i,rfl,d⟩:=e;exact IS d
section
variable {t2:ak}{e O a5:cr}
def yg(f:eL P o e)(E:e.desc=.slice W)(B:eL P t2 O)(A:O.desc=.slice W)(F:eL P W a5)(s:bb k b){q}{cap}(x:j<=cap){u}{i}{d:Nat->m M}(g:Rd b.D u (.B i a5.size 0 d)):
  dv b ((Builtin.append_ #[o,t2] ty #[.slice q j cap,u]).events P b.a #[]):=by obtain⟨N,K,I,R⟩:=oJ (P:=P) s g;have D:=s7 (P:=P) s g (p:=b.a) a;have t:=f.run_underlying (p:=b.a);have r:=B.run_underlying (p:=b.a);rw[E]at t;rw[A]at r;obtain⟨w,Q,z,rfl,_⟩:=g.b0;have C:=jJ (by simpa using K.len);subst C;intro y J;refine tF (D y ?_);cases q<;>simpa[Builtin.append_,t,r,F.bb,Builtin.lenOf,x,I,storeCells]using J
def vi(B:eL P o e)(ak:e.desc=.slice W)(G:eL P t2 O)(y:O.desc=.slice W)(K:eL P W a5)(u:bb k b){q}{cap}{C D}{s:Nat->m M}{d}(T:Rd b.D (.slice q j cap) (.B C a5.size j V))(S:Rd b.D d (.B D a5.size A s))(al:cap<j+A)(J:(j+A)*a5.bytes<=140737488355328)(ah:a5.bytes≠0):
  dv b ((Builtin.append_ #[o,t2] ty #[.slice q j cap,d]).events P b.a #[]):=by
 have I:bb k {b with a:=b.a.drew}:=u.same rfl;obtain⟨az,aq,t,U⟩:=oJ (P:=P) I (aa:=d) S;obtain⟨av,X,x,ab⟩:=oJ (P:=P) I (aa:=.slice q j cap) T;have Y:=s7 (P:=P) u S (p:=b.a.drew) a;have aJ:=s7 (P:=P) u T (p:=b.a.drew) a;have Q:=B.run_underlying (p:=b.a);have af:=G.run_underlying (p:=b.a);rw[ak]at Q;rw[y]at af;obtain⟨z,aB,aM,aD,aE,F,aG,aH,aI⟩:=K.cK;have Z:=e3 (uG _ (Nat.pos_of_ne_zero ah)) J;have ae:=Lc al J;have R:¬Builtin.nextslicecap (j+A) cap*z.bytes>2 ^ 48:=N;have aw:¬j+A<=cap:=w;have H:¬((j+A:Nat):Int)>IntKind.i64.max:=bw;have ai:∀g,(typeInfo W).run P g=.ok z g:=λg=>by simp[typeInfo,aM]
 have L:∀g,(zeroValue W).run P g=.ok aB g:=λg=>by simp[zeroValue,typeInfo,aM,F]
 have an:(Builtin.lenOf d).run P b.a=.ok A b.a:=by rw[U];rfl
 have ar:(Builtin.lenOf d).events P b.a #[]=#[]:=by rw[U];rfl
 replace t:(Builtin.firstCells a5.size A d).run P b.a.drew=.ok az.toArray b.a.drew:=t;replace x:(Builtin.firstCells a5.size j (.slice q j cap)).run P b.a.drew=.ok av.toArray b.a.drew:=x
 intro r i;unfold Builtin.append_ at i;simp only[kg,ml,n8,aC,cL,Q,af,c',aF,K.bb,d_,kh,dn,an,ar,aw,
  H,false_and,ai,R,run_choose,Question.forced,run_askRoom,sJ,Sem.events_ite,World.drew_eq,x,t,iC,dw,L,events_underlying,events_sizeOf,events_typeInfo,events_choose,events_zeroValue,Sem.events_pure]at i
 have ag:∀(d:Nat) (p:au) (r:aO),r∈(askRoom d).events P p #[]->r=⟨.mark .noRoom,v,l⟩:=by intro d p r ao;unfold askRoom at ao;simp_all
 rw[dA.newRow (P:=P)]at i;generalize(Go.newRow W _).run P b.a.drew=ay at i;have f:r∈(Builtin.firstCells a5.size A d).events P b.a.drew ((Builtin.firstCells a5.size j (.slice q j cap)).events P b.a.drew ((askRoom ((Question.appendCap (j+A) cap W).cut (b.a.tape b.a.drawn (Question.appendCap (j+A) cap W))*z.bytes)).events P b.a.drew #[])):=by
  cases ay with
  |ok aa E=>simpa using i
  |halt aa E=>simpa using i
 rcases DG f with f|f
 .rcases DG f with f|f
  .rw[ag _ _ _ f];exact .inl a
  grind[tF]
 grind[tF]
def Cx(g:eL P o e)(z:e.desc=.slice W)(K:eL P t2 O)(J:O.desc=.slice W)(B:eL P W a5)(G:bb k b){cap}{R}{d}(y:b.a.heap[i]?=h (.cells d.toArray R (0,0)))(I:c d=cap*a5.size){sd}{dK:Nat->m M}{E}(s:Rd b.D E (.B sd a5.size A dK))(x:j+A<=cap){L}(Y:L∈b.s)(U:i∈L.aj)(ab:∀w,j*a5.size<=w->b.D i w=n):
  dv b ((Builtin.append_ #[o,t2] ty #[.slice (h ⟨i,0,n⟩) j cap,E]).events P b.a #[]):=by
 obtain⟨f,q,aM,Q⟩:=oJ (P:=P) G s;have T:=s7 (P:=P) G s (p:=b.a) a;have H:=g.run_underlying (p:=b.a);have t:=K.run_underlying (p:=b.a);rw[z]at H;rw[J]at t;have S:j*a5.size+c f<=c d:=by rw[q.len,I,<-jL];exact hf _ x
 have u:=run_storeCells_at P i (j*a5.size) R f 0 d.toArray b.a y N q.cell;simp[kk]at u;have D:(Builtin.lenOf E).run P b.a=.ok A b.a:=ds;have F:(Builtin.lenOf E).events P b.a #[]=#[]:=ds
 intro C r;unfold Builtin.append_ at r;simp[kg,ml,n8,aC,cL,H,t,aF,B.bb,d_,kh,dn,D,F,x,dw,iC,aM,g6,cZ,u,
  sJ,Sem.events_ite,events_underlying,events_sizeOf,Sem.events_pure]at r
 rcases np f 0 d.toArray b.a _ y N q.cell C r with Z|⟨aa,X,V,rfl⟩
 .grind [tF]
 grind[oi]
end
structure j_(P:aD)(r:an)(E bv:ae)(W:ak)(a5:cr):Prop where
 op:∃o t2 e O,r.op=.call {callee:=.builtin .append,args:=#[E,bv],argTypes:=#[o,t2]}/\eL P o e/\e.desc=.slice W/\eL P t2 O/\O.desc=.slice W
 elem:eL P W a5
 bytes:a5.bytes≠0
 size:a5.size≠0
def a6.dD(a:a6)(g:ak)(z b:m X)(d:m Loc):a6:=
 {s:=d,D:=λe f=>if e=a.a.heap.size then z[f]? else a.D e f,a:=a.a.drew.alloc (.cells (z++b).toArray g),own:=a.own}
def Kh(j:bb k b)(W)(z a:m X):∀d e g,(if d=b.a.heap.size then z[e]? else b.D d e)=h g->(b.a.drew.alloc (.cells (z++a).toArray W)).cell? ⟨d,e,n⟩=h g:=by
 intro d e g f;by_cases i:d=b.a.heap.size
 .subst i;simp[dw]at f;unfold aI;have:(b.a.drew.alloc (.cells (z++a).toArray W)).heap[b.a.heap.size]?=h (.cells (z++a).toArray W):=lY b.a.drew _;grind
 simp[i,dn]at f;have o:=j.block f;rw[<-j.mem d e g f];unfold aI;have:(b.a.drew.alloc (.cells (z++a).toArray W)).heap[d]?=b.a.heap[d]?:=i7 b.a.drew _ o;grind
def Ki(g:bb k b)(z:m X):∀a d e,b.D a d=h e->(if a=b.a.heap.size then z[d]? else b.D a d)=h e:=by intro a d e f;have:=g.block f;grind
theorem i4{A}(a:dv b (A.events P b.a #[])):dv b ((do pure (.value (<-A)):Sem Next).events P b.a #[]):=ds
theorem ll{d e:ae}{b:ak}(s:r.op=.call {callee:=.builtin .append,args:=#[d,e],argTypes:=#[o,b]})(a:ae->X):
  ab a r=(do pure (.value (<-Builtin.append_ #[o,b] r.type #[a d,a e]))):=Sf
def Rd.ei{o}{f}(q:Rd bB aa (.B o f j V)):Rd bB aa (.B v f j V):=by
 cases q with
 |B m a p k d r e b g i=>exact .B m a p k d D e b g i
def Rd.cA{o}{f}{dK:Nat->m M}(z:∀b,b<j->V b=dK b)(x:Rd bB aa (.B o f j V)):Rd bB aa (.B o f j dK):=by
 cases x with
 |B u d w t i r y g p q=>exact .B u d w t i r (λb a=>by grind) g (λb a s e k=>p b a s e N) (λb a s e k=>q b a s e N)
def Rd.fS{f gn}(a:f=gn∨j=0)(d:Rd bB aa (.B l f j V)):Rd bB aa (.B l gn j V):=by
 rcases a with rfl|rfl
 .exact d
 obtain⟨e,b,z,i,k,g,m,_⟩:=d.b0;grind[Rd.dI]
def tE{f}{L}(aJ:k[d]?=h (.x W f j V))(o:b.s[d]?=h L)(e:eA k b (.x W f j V) L):cC k b L.v (.x d f j V):=by refine⟨e.1,(cP.1 aJ).1,λp i m a g=>?_⟩;grind
def a2.fZ{X Y:ae}{e:cr}(s:j_ P r X Y W e){aa:Nat}{U:Bool}{dK:Nat->m M}(ao:η X=ay (.B l aa j V))(Q:aa=e.size∨j=0)(an:∀d J,bx k d J (η Y)->Rd d.D J (.B U e.size A dK))(f:(j+A)*e.bytes<=140737488355328)(ar:j=0∨0<A):
  a2 P r η k (.n (.Q (.x (c k) e.size (j+A) (ck j V dK)))) (k++[.x W e.size (j+A) (ck j V dK)]):=by
 intro d aw bQ E;obtain⟨aD,av,au,aB,t,g,G,I,F⟩:=s.op;have B:=E X;rw[ao]at B;have p:=Rd.fS Q (b8 B);have o:=an d _ (E Y);obtain⟨x,b,z,aq,ab,aM,ai,az,C⟩:=p.b0;have H:b=j:=ai a;subst H;rw[ll t];rw[aq]at p⊢;by_cases ak:A=0
 .subst ak;have T:=zq (P:=P) (ty:=r.type) g G I F s.elem bQ (x:=x) ab o;simp only[kk];have p:=Rd.cA (dK:=ck b V dK) (λau g=>by grind) p;have aJ:eA (k++[.x W e.size b (ck b V dK)]) {d with s:=d.s++[⟨.slice x b b,[]⟩]} (.x W e.size b (ck b V dK)) ⟨.slice x b b,[]⟩:=⟨p.ei,.inl ⟨⟨rfl,by omega⟩,p⟩⟩
  obtain⟨O,N⟩:=bQ.bY (.refl _ _) rfl bQ aJ D;refine⟨.value (.slice x b b),_,?_,?_,O,N,i4 (yg g G I F s.elem bQ ab o)⟩
  .simp[T]
  exact tE D uk aJ
 have Z:b<b+A:=w;obtain⟨q,R,u,y,ag,L,af,T⟩:=wa (P:=P) (ty:=r.type) g G I F s.elem bQ p o Z f s.bytes;have K:bb k (d.dD W q R d.s)/\cO k d k (d.dD W q R d.s):=
  bQ.cY D (λi f=>i7 d.a.drew _ f) (λi f r=>by grind)
   (λi f r J C=>Kh bQ W q R i r J C) a a a
 have ah:Rd (d.dD W q R d.s).D (.slice (h ⟨d.a.heap.size,0,n⟩) (b+A) u) (.B v e.size (b+A) (ck b V dK)):=
  Rd.en (y.mono K.2.mem) (i:=d.a.heap.size) (off:=0) bk ag L D (λaC aE al=>by simpa[a6.dD]using al)
 have aJ:eA (k++[.x W e.size (b+A) (ck b V dK)]) {(d.dD W q R d.s)with s:=(d.dD W q R d.s).s++[⟨.slice (h ⟨d.a.heap.size,0,n⟩) (b+A) u,[d.a.heap.size]⟩]} (.x W e.size (b+A) (ck b V dK)) ⟨.slice (h ⟨d.a.heap.size,0,n⟩) (b+A) u,[d.a.heap.size]⟩:=by
  refine⟨ah,.inr ⟨d.a.heap.size,u,q++R,a,lY d.a.drew _,af,λr t=>?_⟩⟩;have S:c q<=r:=by rw[y.len];exact t
  simp[a6.dD,w' S]
 obtain⟨O,N⟩:=K.1.bY K.2 rfl bQ aJ (λi f=>by simp at f;subst f;refine⟨bC _,?_⟩;simp[a6.dD]);refine⟨.value (.slice (h ⟨d.a.heap.size,0,n⟩) (b+A) u),_,?_,?_,O,N,i4 (vi g G I F s.elem bQ p o Z f s.bytes)⟩
 .simp[T];rfl
 exact tE D (by simp[a6.dD,<-bQ.len]) aJ
def a2.ic{aS aT:ae}{a5}(B:j_ P r aS aT W a5){aR}{g:Nat->m M}(aP:η aS=.n (.Q (.x d a5.size j V)))(s:k[d]?=h (.x W a5.size j V))(aQ:∀o S,bx k o S (η aT)->Rd o.D S (.B aR a5.size A g))(p:(j+A)*a5.bytes<=140737488355328):
  a2 P r η k (.n (.Q (.x d a5.size (j+A) (ck j V g)))) (k.set d (.x W a5.size (j+A) (ck j V g))):=by
 intro o bg b ao;obtain⟨bl,bf,aq,bh,u,q,Z,G,y⟩:=B.op;have aL:d<c k:=(cP.1 s).1;have ab:=ao aS;rw[aP]at ab;obtain⟨av,_,af⟩:=ab;obtain⟨L,J,bd⟩:=(af _ _ _ _ s).2 rfl;have t:=aQ o _ (ao aT);have aK:d<c o.s:=(cP.1 J).1;have H:=b.box d _ L s J;obtain⟨x,e,z,Q,aM,ai,bc,ag,bb⟩:=av.b0;rw[ll u,Q];rw[Q]at av;have aw:L.v=.slice x j e:=N;by_cases aG:A=0
 .subst aG;have au:=zq (P:=P) (ty:=r.type) q Z G y B.elem b (x:=x) aM t;simp only[kk];have ah:∀aq,aq<j->V aq=ck j V g aq:=λaq q=>by simp[ck,q]
  have O:eA (k.set d (.x W a5.size j (ck j V g))) ⟨o.s.set d L,o.D,o.a,o.own⟩ (.x W a5.size j (ck j V g)) L:=by
   refine⟨H.1.cA ah,?_⟩;rcases H.2 with⟨F,aH⟩|F
   .exact .inl ⟨F,aH.cA ah⟩
   grind
  have E:=b.b5 (cl:=o.D) (bi:=o.a) (ed:=.x W a5.size j (ck j V g)) (cw:=L) s J ⟨λ_=>rfl,bC _⟩ (bC _) (λ_ _ _=>rfl) (λ_ _ _ _=>rfl) (λ_ _ _ B=>B) b.mem
   (λi p=>⟨.inl p,b.lt L (b' J) i p⟩) a a a O
  refine⟨.value (.slice x j e),_,?_,?_,E.1,E.2,i4 (yg q Z G y B.elem b aM t)⟩
  .simp[au]
  rw[<-aw];exact tE (W:=W) N N O
 .have I:¬(j+A=j):=w;by_cases az:j+A<=e
  .rcases H.2 with⟨a0,aU⟩|⟨i,aF,f,rfl,hw,aD,br⟩
   .rw[aw]at aU;obtain⟨_,_,_,ay,_,_,a8,_⟩:=aU.b0;grind
   .simp only at aw;cases aw;obtain⟨C,K,au⟩:=Em (P:=P) (ty:=r.type) q Z G y B.elem b hw aD t az;have a6:c C=A*a5.size:=K.len;have aJ:i<o.a.heap.size:=(jl.1 hw).1;let cl:Mem:=λR r=>if R=i/\j*a5.size<=r/\r<(j+A)*a5.size then C[r-j*a5.size]? else o.D R r;have a1:c f=e*a5.size:=aD;have a7:(j+A)*a5.size=j*a5.size+A*a5.size:=jL _ _ _;have a4:(j+A)*a5.size<=e*a5.size:=hf _ az;have aY:∀R r S,o.D R r=h S->cl R r=h S:=N;have aO:∀aB aC,C[aB]?=h aC->cl i (j*a5.size+aB)=h aC:=N;have aE:Rd cl (.slice (h ⟨i,0,n⟩) (j+A) e) (.B v a5.size (j+A) (ck j V g)):=by refine Rd.en (z:=z++C) ((ag.append K).mono aY) (i:=i) (off:=0) bk az ai D (λaB aC aN=>?_);have a9:c z=j*a5.size:=ag.len;grind
    have E:=b.b5 (cl:=cl) (bi:=o.a.setRow i (f.take (j*a5.size)++C++f.drop (j*a5.size+c C)).toArray) (ed:=.x W a5.size (j+A) (ck j V g)) (cw:=⟨.slice (h ⟨i,0,n⟩) (j+A) e,[i]⟩) s J
     ⟨λay=>absurd ay I,by omega⟩ D (λR _ aa=>setRow_other _ _ _ _ N) (λR _ aa r=>by grind) aY ?_ (λR aa=>by simp at aa;exact bw) a a a ?_
    .refine⟨.value (.slice (h ⟨i,0,n⟩) (j+A) e),_,?_,?_,E.1,E.2,i4 (Cx q Z G y B.elem b hw aD t az (b' J) D br)⟩
     .simp[au]
     exact tE (L:=⟨.slice (h ⟨i,0,n⟩) (j+A) e,[i]⟩) (W:=W) N N (E.1.box d _ _ N N)
    .intro R r S Y;by_cases aa:R=i
     .subst aa;have a':∀a_,(o.a.setRow R (f.take (j*a5.size)++C++f.drop (j*a5.size+c C)).toArray).cell? ⟨R,a_,n⟩=(f.take (j*a5.size)++C++f.drop (j*a5.size+c C))[a_]?:=by grind[cell_setRow_same]
      rw[a'];simp only[cl]at Y;have a3:c (f.take (j*a5.size))=j*a5.size:=by rw[List.length_take];omega
      split at Y
      .grind
      rename_i ba;have F:=b.mem R r S Y;have u:r<j*a5.size:=N;rw[k_,jm w,iA,bo u];simp only[aI,hw]at F;grind
     simp only[cl]at Y;rw[bj w]at Y;rw[<-b.mem R r S Y];exact QM
    refine⟨aE,.inr ⟨i,e,_,a,setRow_heap _ _ _ _ _ _ hw,N,λr u=>?_⟩⟩;grind
  .have ak:e<j+A:=w;obtain⟨T,X,ar,aX,al,an,U,au⟩:=wa (P:=P) (ty:=r.type) q Z G y B.elem b av t ak p B.bytes;have aZ:∀i∈L.aj,i<o.a.heap.size:=b.lt L (b' J);have aE:Rd (λi r=>if i=o.a.heap.size then T[r]? else o.D i r) (.slice (h ⟨o.a.heap.size,0,n⟩) (j+A) ar) (.B v a5.size (j+A) (ck j V g)):=
    Rd.en (aX.mono (Ki b T)) (i:=o.a.heap.size) (off:=0) bk al an D (λaB aC aN=>by grind)
   have E:=b.b5 (cl:=λi r=>if i=o.a.heap.size then T[r]? else o.D i r) (bi:=o.a.drew.alloc (.cells (T++X).toArray W)) (ed:=.x W a5.size (j+A) (ck j V g)) (cw:=⟨.slice (h ⟨o.a.heap.size,0,n⟩) (j+A) ar,[o.a.heap.size]⟩) s J
    ⟨λay=>absurd ay I,by omega⟩ D (λi p _=>i7 o.a.drew _ p) (λi p _ r=>by grind) (Ki b T) (Kh b W T X) (λi p=>by
     simp at p;exact bw) a a a ⟨aE,.inr ⟨o.a.heap.size,ar,T++X,a,lY o.a.drew _,U,λr u=>by
      have s:c T<=r:=by rw[aX.len];exact u
      grind⟩⟩
   refine⟨.value (.slice (h ⟨o.a.heap.size,0,n⟩) (j+A) ar),_,?_,?_,E.1,E.2,i4 (vi q Z G y B.elem b av t ak p B.bytes)⟩
   .simp[au]
   exact tE (L:=⟨.slice (h ⟨o.a.heap.size,0,n⟩) (j+A) ar,[o.a.heap.size]⟩) (W:=W) N N (E.1.box d _ _ N N)
def dy{a:Type}:m Nat->m a->Option (m a)
  |[],_=>h []
  |e::b,d=>match db e d with
    |some g=>match dy b d with
      |some f=>h (g::f)
      |none=>n
    |none=>n
def lo{d:Type}:∀a (e:m d),db a e=e[a]?
  |_,[]=>by simp[db]
  |0,f::_=>by simp[db]
  |a+1,_::b=>by simpa[db]using lo a b
def l8{i:Type}:∀{a:m Nat} {b e:m i},dy a b=h e->c e=c a/\∀(k f:Nat),a[k]?=h f->∃g,e[k]?=h g/\b[f]?=h g
  |[],b,e,d=>by cases d;simp
  |f::a,b,e,d=>by
    simp[dy]at d;cases o:db f b with
    |none=>grind
    |some g=>
      cases j:dy a b with
      |none=>grind
      |some r=>
        simp[o,j]at d;subst d;obtain⟨p,q⟩:=l8 j;grind[er]
def we{i o:Type}:∀{a:m Nat} {d g:m i} {kS:m o},dy a d=h g->c kS=c d->∃b,dy a kS=h b
  |[],d,g,kS,_,_=>⟨[],rfl⟩
  |f::a,d,g,kS,r,j=>by
    simp[dy]at r;cases q:db f d with
    |none=>grind
    |some t=>
      cases p:dy a d with
      |none=>grind
      |some s=>
        obtain⟨b,k⟩:=we (kS:=kS) p j;have e:f<c kS:=by rw[j];exact(cP.1 (er q)).1
        exact⟨kS[f]::b,by simp[dy,lo,e,k]⟩
def kB(a:m Nat):R->R
  |.ptr d i=>match db d a with|some b=>.ptr b i|none=>.any
  |.x d b f e=>match db d a with|some g=>.x g b f e|none=>.c (.B v b f e)
  |.aY d=>match db d a with|some b=>.aY b|none=>.any
  |.O d j=>match db d a with|some b=>.O b j|none=>.any
  |.c k=>.c k
  |.any=>.any
def qP(a:m Nat):m R->m R
  |[]=>[]
  |b::d=>kB a b::qP a d
def pB(a:m Nat):E1->E1
  |.Q d=>.Q (kB a d)
  |.agg b=>.agg (qP a b)
def tG(a:m Nat):m E1->m E1
  |[]=>[]
  |b::d=>pB a b::tG a d
def fk(a:m Nat):y->y
  |.n d=>.n (pB a d)
  |.S b=>.S (tG a b)
  |.any=>.any
def gr(a:m Nat):m y->m y
  |[]=>[]
  |b::d=>fk a b::gr a d
def D5:R->Bool
  |.c _|.any=>l
  |_=>v
def zh:m R->Bool
  |[]=>l
  |a::b=>match D5 a with|true=>zh b|false=>v
def v7:aq->Bool
  |.cells _ a=>zh a
  |.loop ..=>v
  |_=>l
def ew:m aq->Bool
  |[]=>l
  |a::b=>match v7 a with|true=>ew b|false=>v
def v8:∀{e:m aq},ew e=l->∀a∈e,v7 a=l
  |[],_,a,aJ=>by grind
  |f::g,b,a,aJ=>by
    simp[ew]at b;cases d:v7 f with
    |false=>grind
    |true=>
      simp[d]at b;rcases eT.1 aJ with rfl|aJ
      · exact d
      · exact v8 b a aJ
def bN.plain{k ar}{b aE}(j:aE.D=b.D):∀{z:m X} {a:m R},zh a=l->bN k b z a->bN ar aE z a
  |[],[],_,_=>trivial
  |[],_::_,_,d=>d.elim
  |_::_,[],_,d=>d.elim
  |o::z,f::i,e,d=>by
    simp[zh]at e;cases g:D5 f with
    |false=>grind
    |true=>
      simp[g]at e;refine⟨?_,bN.plain j e d.2⟩;cases f with
      |c p=>have:=d.1;simp[cC]at this⊢;grind
      |any=>exact d.1
      |_=>simp[D5]at g
def eA.plain{k ar}{b aE}(d:aE.D=b.D)(f:aE.a=b.a){e}{L}(m:v7 e=l)(a:eA k b e L):eA ar aE e L:=by
  cases e with
  |cells j p=>
    obtain⟨o,z,i,r,q,x⟩:=a;exact⟨o,z,i,by grind,q.plain d m,λy=>by simp_all⟩
  |x j s t g=>simp[eA,d,f]at a⊢;exact a
  |K H=>simp[eA,d,f]at a⊢;exact a
  |N=>trivial
  |loop w u A=>simp[v7]at m
  |bn=>simp[eA,d,f]at a⊢;exact a
  |q j s t g=>simp[eA,d,f]at a⊢;exact a
def en:Nat->m Nat->Bool
  |_,[]=>v
  |a,d::b=>match ad a d with|true=>l|false=>en a b
def fi:m Nat->Bool
  |[]=>l
  |b::a=>match en b a with|true=>v|false=>fi a
theorem vN:∀{a:Nat} {d:m Nat},a∈d->en a d=l
  |a,[],b=>by grind
  |a,e::g,b=>by
    simp[en];cases f:ad a e with
    |true=>rfl
    |false=>
      rcases eT.1 b with rfl|b
      · grind[Nat.beq_refl]
      · exact vN b
def Lh:∀{g:m Nat},fi g=l->∀(b d e:Nat),g[b]?=h e->g[d]?=h e->b=d
  |[],_,b,d,e,a,_=>by grind
  |o::k,f,b,d,e,a,i=>by
    simp[fi]at f;cases p:en o k with
    |true=>grind
    |false=>
      simp[p]at f;have r:∀j,k[j]?=h o->False:=λj q=>by have:=vN (b' q);grind
      cases b with
      |zero=>
        grind
      |succ b=>
        cases d with
        |zero=>
          grind
        |succ d=>
          simp at a i;rw[Lh f b d e a i]
def l0(a:Nat):R->Bool
  |.ptr d _|.x d _ _ _|.aY d|.O d _=>ax (d+1) a
  |_=>l
def lr(a:Nat):m R->Bool
  |[]=>l
  |b::d=>match l0 a b with|true=>lr a d|false=>v
def pn(b:Nat):E1->Bool
  |.Q d=>l0 b d
  |.agg a=>lr b a
def ow(a:Nat):m E1->Bool
  |[]=>l
  |b::d=>match pn a b with|true=>ow a d|false=>v
def hX(b:Nat):y->Bool
  |.n d=>pn b d
  |.S a=>ow b a
  |.any=>l
def ho(a:Nat):m y->Bool
  |[]=>l
  |b::d=>match hX a b with|true=>ho a d|false=>v
section sub
variable {lG:m Loc}
def cC.sub(K:dy aX k=h ar)(Q:dy aX b.s=h lG){m}(O:cC k b aa (kB aX m))(o:l0 (c aX) m=l):cC ar {b with s:=lG} aa m:=by
  obtain⟨T,q⟩:=l8 K;obtain⟨M,p⟩:=l8 Q;cases m with
  |c s=>exact O
  |any=>exact O
  |ptr f R=>
    have a:f<c aX:=fz o;simp[kB,lo,bJ a]at O;obtain⟨d,L,D,e,g,y⟩:=O;obtain⟨s,r,z⟩:=q f _ (bJ a);obtain⟨A,j,i⟩:=p f _ (bJ a);rw[i]at e;cases e;exact⟨λt x=>d t N,L,D,j,g,y⟩
  |x f E I u=>
    have a:f<c aX:=fz o;simp[kB,lo,bJ a]at O;obtain⟨d,e,g⟩:=O;obtain⟨s,r,z⟩:=q f _ (bJ a);obtain⟨A,j,i⟩:=p f _ (bJ a);refine⟨d,by grind,λC F J B x=>?_⟩;grind
  |aY f=>
    have a:f<c aX:=fz o;simp[kB,lo,bJ a]at O;obtain⟨d,L,e,g,y⟩:=O;obtain⟨s,r,z⟩:=q f _ (bJ a);obtain⟨A,j,i⟩:=p f _ (bJ a);rw[i]at e;cases e;exact⟨λt x=>d t N,L,j,g,y⟩
  |O f S=>
    have a:f<c aX:=fz o;simp[kB,lo,bJ a]at O;obtain⟨w,d,e,g⟩:=O;obtain⟨s,r,z⟩:=q f _ (bJ a);obtain⟨A,j,i⟩:=p f _ (bJ a);refine⟨w,d,(cP.1 r).1,λC E I u x=>?_⟩;grind
def cC.cO{fl}{b6}(J:b6.D=b.D)(t:∀(r:Nat) s,k[r]?=h s->∃f,aX[r]?=h f/\fl[f]?=h s)(C:∀(r:Nat) L,b.s[r]?=h L->∃f,aX[r]?=h f/\b6.s[f]?=h L)(O:c b.s=c k){u}(m:cC k b aa u):cC fl b6 aa (kB aX u):=by
  cases u with
  |c R=>simp[kB,cC,J];exact m
  |any=>exact m
  |ptr d M=>
    obtain⟨e,L,E,a,q,B⟩:=m;obtain⟨f,k1,w⟩:=C d L a;have g:d<c k:=N;obtain⟨i,o,I⟩:=t d _ (bJ g);rw[k1]at o;cases o;simp[kB,lo,k1];refine⟨λs A=>?_,L,E,w,q,B⟩;grind
  |x d f K F=>
    obtain⟨e,a,q⟩:=m;obtain⟨k1,y,j⟩:=t d _ (bJ a);simp[kB,lo,y];refine⟨by grind,(cP.1 j).1,λD i z p A=>?_⟩;grind
  |aY d=>
    obtain⟨e,L,a,q,B⟩:=m;obtain⟨f,k1,w⟩:=C d L a;have g:d<c k:=N;obtain⟨i,o,I⟩:=t d _ (bJ g);rw[k1]at o;cases o;simp[kB,lo,k1];refine⟨λs A=>?_,L,w,q,B⟩;grind
  |O d Q=>
    obtain⟨x,e,a,q⟩:=m;obtain⟨k1,y,j⟩:=t d _ (bJ a);simp[kB,lo,y];refine⟨x,e,(cP.1 j).1,λD i z p A=>?_⟩;grind
def bN.sub(e:dy aX k=h ar)(f:dy aX b.s=h lG):∀{z:m X} {a:m R},bN k b z (qP aX a)->lr (c aX) a=l->bN ar {b with s:=lG} z a
  |[],[],_,_=>trivial
  |[],_::_,d,_=>d.elim
  |_::_,[],d,_=>d.elim
  |o::z,i::j,d,O=>by
    simp[lr]at O;cases g:l0 (c aX) i with
    |false=>grind
    |true=>simp[g]at O;exact⟨d.1.sub e f g,bN.sub e f d.2 O⟩
def eB.sub(f:dy aX k=h ar)(g:dy aX b.s=h lG){aa}{a}(i:eB k b aa (pB aX a))(O:pn (c aX) a=l):eB ar {b with s:=lG} aa a:=by
  cases a with
  |Q m=>exact cC.sub f g i O
  |agg j=>obtain⟨z,d,e⟩:=i;exact⟨z,d,e.sub f g O⟩
def e1.sub(e:dy aX k=h ar)(f:dy aX b.s=h lG):∀{z:m X} {a:m E1},e1 k b z (tG aX a)->ow (c aX) a=l->e1 ar {b with s:=lG} z a
  |[],[],_,_=>trivial
  |[],_::_,d,_=>d.elim
  |_::_,[],d,_=>d.elim
  |o::z,i::j,d,O=>by
    simp[ow]at O;cases g:pn (c aX) i with
    |false=>grind
    |true=>simp[g]at O;exact⟨d.1.sub e f g,e1.sub e f d.2 O⟩
def bx.sub(e:dy aX k=h ar)(f:dy aX b.s=h lG){aa}{O}(i:bx k b aa (fk aX O))(g:hX (c aX) O=l):bx ar {b with s:=lG} aa O:=by
  cases O with
  |n m=>exact eB.sub e f i g
  |S j=>obtain⟨z,a,d⟩:=i;exact⟨z,a,d.sub e f g⟩
  |any=>trivial
def b5.sub(e:dy aX k=h ar)(f:dy aX b.s=h lG):∀{z:m X} {a:m y},b5 k b z (gr aX a)->ho (c aX) a=l->b5 ar {b with s:=lG} z a
  |[],[],_,_=>trivial
  |[],_::_,d,_=>d.elim
  |_::_,[],d,_=>d.elim
  |o::z,i::j,d,O=>by
    simp[ho]at O;cases g:hX (c aX) i with
    |false=>grind
    |true=>simp[g]at O;exact⟨d.1.sub e f g,b5.sub e f d.2 O⟩
variable {fl:m aq}{b6:a6}
def bN.cO(p:b6.D=b.D)(o:∀(e:Nat) g,k[e]?=h g->∃f,aX[e]?=h f/\fl[f]?=h g)(j:∀(e:Nat) L,b.s[e]?=h L->∃f,aX[e]?=h f/\b6.s[f]?=h L)(i:c b.s=c k):
    ∀{z:m X} {d:m R},bN k b z d->bN fl b6 z (qP aX d)
  |[],[],_=>trivial
  |[],_::_,a=>a.elim
  |_::_,[],a=>a.elim
  |_::_,_::_,a=>⟨a.1.cO p o j i,bN.cO p o j i a.2⟩
def eB.cO(p:b6.D=b.D)(o:∀(a:Nat) (i:aq),k[a]?=h i->∃d,aX[a]?=h d/\fl[d]?=h i)(m:∀(a:Nat) (L:Loc),b.s[a]?=h L->∃d,aX[a]?=h d/\b6.s[d]?=h L)(j:c b.s=c k){aa}{g}(q:eB k b aa g):eB fl b6 aa (pB aX g):=by
  cases g with
  |Q s=>exact cC.cO p o m j q
  |agg r=>obtain⟨z,e,f⟩:=q;exact⟨z,e,f.cO p o m j⟩
def e1.cO(p:b6.D=b.D)(o:∀(d:Nat) g,k[d]?=h g->∃e,aX[d]?=h e/\fl[e]?=h g)(j:∀(d:Nat) (L:Loc),b.s[d]?=h L->∃e,aX[d]?=h e/\b6.s[e]?=h L)(i:c b.s=c k):
    ∀{z:m X} {f:m E1},e1 k b z f->e1 fl b6 z (tG aX f)
  |[],[],_=>trivial
  |[],_::_,a=>a.elim
  |_::_,[],a=>a.elim
  |_::_,_::_,a=>⟨a.1.cO p o j i,e1.cO p o j i a.2⟩
def bx.cO(p:b6.D=b.D)(o:∀(a:Nat) (i:aq),k[a]?=h i->∃d,aX[a]?=h d/\fl[d]?=h i)(m:∀(a:Nat) (L:Loc),b.s[a]?=h L->∃d,aX[a]?=h d/\b6.s[d]?=h L)(j:c b.s=c k){aa}{e}(q:bx k b aa e):bx fl b6 aa (fk aX e):=by
  cases e with
  |n s=>exact eB.cO p o m j q
  |S r=>obtain⟨z,f,g⟩:=q;exact⟨z,f,g.cO p o m j⟩
  |any=>trivial
end sub
def de.cp{a:Type}:Nat->a->m a->m a
  |_,_,[]=>[]
  |0,d,_::b=>d::b
  |e+1,d,f::b=>f::de.cp e d b
def de{a:Type}:m Nat->m a->m a->m a
  |[],new,old=>old++new
  |d::b,e::new,old=>de b new (de.cp d e old)
  |_::_,[],old=>old
theorem mT{b:Type}:∀d (a:b) (e:m b),de.cp d a e=e.set d a
  |_,_,[]=>by simp[de.cp]
  |0,a,_::f=>by simp[de.cp]
  |d+1,a,g::f=>by simp[de.cp,mT d a f]
def D_{f:Type}:∀{aX:m Nat} {new old:m f},fi aX=l->(∀a∈aX,a<c old)->c aX<=c new ->
    c (de aX new old)=c old+(c new-c aX)/\(∀(b a:Nat),aX[b]?=h a->(de aX new old)[a]?=new[b]?) /\
    (∀b,(de aX new old)[c old+b]?=new[c aX+b]?)/\(∀d,d<c old->d∉aX->(de aX new old)[d]?=old[d]?)
  |[],new,old,_,_,_=>by
    refine⟨by simp[de],by simp,λb=>?_,λd j _=>?_⟩
    · simp[de,gO,cZ]
      grind
    · simp[de,jm j]
  |a::aX,[],old,_,_,o=>by grind
  |a::aX,r::new,old,e,i,t=>by
    have s:=e;simp[fi]at e;cases k:en a aX with
    |true=>grind
    |false=>
      simp[k]at e;have p:a<c old:=i a D;have u:a∉aX:=λo=>by grind[vN]
      obtain⟨y,w,z,x⟩:=D_ (aX:=aX) (new:=new) (old:=old.set a r) e (λq g=>by grind) N;simp[de,mT];grind
def Y(k:af P)(i:a0)(args:m y)(g:m aq)(e:y)(b:m aq):Prop:=
  (∃fn,P.funcs[i]?=h fn/\(fn.name== "runtime.NumGoroutine")=v/\fn.body.isNone=v) /\
  ∀f (z:m X),b5 g f z args->bb g f->∀(j:ai->a6->Prop) d,
    (∀o p a,mg P i o p a->bx b a p e->bb b a->dh g f b a->cj k j (G o d) a)->cj k j (G (Frame.enter P i z.toArray .normal) d) f
def bl(o:af P)(j:a0)(args:m y)(i:m aq)(e:ι->y)(b:ι->m aq):Prop:=
  (∃fn,P.funcs[j]?=h fn/\(fn.name== "runtime.NumGoroutine")=v/\fn.body.isNone=v) /\
  ∀g (z:m X),b5 i g z args->bb i g->∀(k:ai->a6->Prop) d,
    (∀f p q a,mg P j p q a->bx (b f) a q (e f)->bb (b f) a->dh i g (b f) a->cj o k (G p d) a)->cj o k (G (Frame.enter P j z.toArray .normal) d) g
def Y.tocE{f:af P}{g}{args}{res}(i:Y f g args k res ar):bl (ι:=Unit) f g args k (λ_=>res) (λ_=>ar):=
  ⟨i.1,λm z e d j a b=>i.2 m z e d j a (b ())⟩
def bl.toY{f:af P}{g}{args}{res}(i:bl (ι:=Unit) f g args k (λ_=>res) (λ_=>ar)):Y f g args k res ar:=
  ⟨i.1,λm z e d j a b=>i.2 m z e d j a (λ_=>b)⟩
def oG(b:a6)(d:m Loc):Nat->Prop:=λa=>b.own a∨((∃L∈b.s,a∈L.aj)/\∀L∈d,a∉L.aj)
def gZ(a:Nat):Nat->m Nat
  |0=>[]
  |b+1=>a::gZ (a+1) b
def NO:∀d b a,(gZ b d)[a]?=if a<d then h (b+a)else n
  |0,b,a=>by simp[gZ]
  |d+1,b,0=>by simp[gZ]
  |d+1,b,a+1=>by simp[gZ,n8,NO d (b+1) a,Nat.add_lt_add_iff_right];grind
def frame{aU}{j}{A}(u:bb k b)(P:dy aX k=h dj)(aZ:dy aX b.s=h A)(Z:fi aX=l)(aB:ew aU=l)(D:bb aU j)(i:dh dj {b with s:=A,own:=oG b A} aU j)(X:c aX<=c aU){res}(aC:bx aU j aa res):
    ∃b6:a6,b6.a=j.a/\bx (de aX aU k) b6 aa (fk (aX++gZ (c k) (c aU-c aX)) res)/\bb (de aX aU k) b6/\dh k b (de aX aU k) b6/\b6.D=j.D/\b6.own=b.own/\∀L∈b6.s,L∈j.s∨(L∈b.s/\∀g∈L.aj,∀p∈A,g∉p.aj):=by
  have aQ:∀z∈aX,z<c k:=by intro z y;obtain⟨d,t,rfl⟩:=hd y;obtain⟨aF,_,a1⟩:=(l8 P).2 d _ (bJ t);grind
  have M:∀z∈aX,z<c b.s:=by rw[u.len];omega
  have H:c aX<=c j.s:=by rw[D.len];omega
  obtain⟨an,ao,S,aq⟩:=D_ (new:=aU) (old:=k) Z aQ X;obtain⟨T,ar,U,au⟩:=D_ (new:=j.s) (old:=b.s) Z M H;obtain⟨a0,av⟩:=l8 P;obtain⟨d1,d2⟩:=l8 aZ;let ak:=aX++gZ (c k) (c aU-c aX);have aR:∀d,d<c aU->∃z,ak[d]?=h z/\(de aX aU k)[z]?=aU[d]?/\(de aX j.s b.s)[z]?=j.s[d]?:=by
    intro d t;rcases dY d (c aX) with K|ai
    · refine⟨aX[d],?_,ao d _ (bJ K),ar d _ (bJ K)⟩
      grind
    · refine⟨c k+(d-c aX),?_,?_,?_⟩
      · simp[ak]
        rw[hx ai,NO,bo w]
      · rw[S];grind
      · rw[<-u.len,U];grind
  have I:∀f L,(de aX j.s b.s)[f]?=h L->(∃d,d<c aU/\j.s[d]?=h L/\(∀x,(de aX aU k)[f]?=h x->aU[d]?=h x)/\(∀z,aX[d]?=h z->z=f)/\(d≥c aX->f=c k+(d-c aX))) ∨
      (f<c k/\f∉aX/\b.s[f]?=h L/\(de aX aU k)[f]?=k[f]?):=by
    intro f L m;have aS:f<c (de aX j.s b.s):=(cP.1 m).1;rcases dY f (c k) with K|ai
    · by_cases C:f∈aX
      · obtain⟨d,t,rfl⟩:=hd C
        have y:=bJ t;grind
      · exact .inr ⟨K,C,by rw[<-au f (by rw[u.len];omega) C];exact m,aq f K C⟩
    · rw[T,D.len,u.len]at aS
      refine .inl ⟨c aX+(f-c k),by omega,?_,λx aJ=>?_,λz y=>?_,λ_=>by omega⟩
      · rw[<-U,u.len,A2 ai];exact m
      · rw[<-S,A2 ai];exact aJ
      grind
  have R:∀L∈A,L∈b.s:=by intro L m;obtain⟨d,t,rfl⟩:=hd m;have af:d<c aX:=N;obtain⟨aF,aM,Q⟩:=d2 d _ (bJ af);grind
  have s:∀f L,f∉aX->b.s[f]?=h L->∀g∈L.aj,g<b.a.heap.size/\∀p∈A,g∉p.aj:=by intro f L E m g o;refine⟨u.lt L (b' m) g o,λp q r=>?_⟩;obtain⟨d,t,rfl⟩:=hd q;have af:d<c aX:=N;obtain⟨aF,aM,Q⟩:=d2 d _ (bJ af);rw[bJ t]at aM;cases aM;have:=u.a4 f aX[d] L _ m Q g o r;grind
  have ab:∀g,g<b.a.heap.size->(∀L∈b.s,g∉L.aj)->∀L∈A,g∉L.aj:=λg _ ah L m=>ah L (R L m);have V:fw k b (de aX aU k) ⟨de aX j.s b.s,j.D,j.a,b.own⟩:=by
    refine⟨i.mem,λf x L aJ m=>?_⟩;have K:f<c k:=(cP.1 aJ).1;by_cases C:f∈aX
    · obtain⟨d,t,rfl⟩:=hd C
      have y:=bJ t;obtain⟨aF,aM,Q⟩:=av d _ y;obtain⟨a9,aG,ae⟩:=d2 d _ y;rw[aJ]at Q;cases Q;rw[m]at ae;cases ae;obtain⟨aP,p,a4,a5,a7⟩:=i.box d x L aM aG;grind
    · exact⟨x,L,by grind,by grind,.refl _ _⟩
  refine⟨⟨de aX j.s b.s,j.D,j.a,b.own⟩,a,?_,⟨D.mem,?_,?_,?_,?_,?_⟩,⟨i.size,?_,i.mem,?_,?_,V.box,i.os,i.tape,i.output,a⟩,a,a,?_⟩
  · refine bx.cO (b:=j) (b6:=⟨de aX j.s b.s,j.D,j.a,b.own⟩) (fl:=de aX aU k) (aX:=ak) a (λd x aJ=>?_) (λd L m=>?_) D.len aC
    · grind
    · obtain⟨z,k1,_,a2⟩:=aR d (by rw[<-D.len];grind)
      grind
  · simp only;rw[an,T,D.len,u.len]
  · intro f x L aJ m
    rcases I f L m with⟨d,t,B,F,_⟩|⟨E,C,q,aT⟩
    · exact eA.plain (k:=aU) (b:=j) (aE:=⟨de aX j.s b.s,j.D,j.a,b.own⟩) a a (v8 aB x (b' (F x aJ))) (D.box d x L (F x aJ) B)
    · rw[aT]at aJ
      refine(u.box f x L aJ q).cc V u.len λg o=>?_;obtain⟨al,ag⟩:=s f L C q g o;exact⟨i.a7 g (.inr ⟨⟨L,b' q,o⟩,ag⟩),i.bA g al ag⟩
  · intro f J L p m q g o r
    rcases I f L m with⟨d,t,B,_,aL,aN⟩|⟨E,C,e,_⟩<;>rcases I J p q with⟨aD,af,aH,_,aw,ay⟩|⟨aO,Y,G,_⟩
    · have a8:=D.a4 d aD L p B aH g o r
      grind
    · obtain⟨al,ag⟩:=s J p Y G g r
      rcases i.bS L (b' B) g o with ah|⟨O,W,aK⟩
      · grind
      grind
    · obtain⟨al,ag⟩:=s f L C e g o
      rcases i.bS p (b' aH) g r with ah|⟨O,W,aK⟩
      · grind
      grind
    · exact u.a4 f J L p e G g o r
  · intro L m g o
    obtain⟨f,E,rfl⟩:=hd m;rcases I f _ (bJ E)with⟨d,t,B,_⟩|⟨_,_,e,_⟩
    · exact D.lt _ (b' B) g o
    · have:=u.lt _ (b' e) g o
      have:=i.size;grind
  · intro g o
    refine⟨?_,λL m aI=>?_⟩
    · have:=(u.own g o).1
      have:=i.size;grind
    · obtain⟨f,E,rfl⟩:=hd m
      rcases I f _ (bJ E)with⟨d,t,B,_⟩|⟨_,_,e,_⟩
      · have az:j.own g:=by rw[i.own];exact .inl o
        exact(D.own g az).2 _ (b' B) aI
      · exact(u.own g o).2 _ (b' e) aI
  · intro g o
    exact i.a7 g (.inl o)
  · intro g o aY a3
    exact i.bA g o (ab g o aY) a3
  · intro L m g o
    obtain⟨f,E,rfl⟩:=hd m;rcases I f _ (bJ E)with⟨d,t,B,_⟩|⟨_,_,e,_⟩
    · rcases i.bS _ (b' B) g o with ah|⟨O,W,aK⟩
      · grind
      grind
    grind
  · intro L m
    obtain⟨f,E,rfl⟩:=hd m;rcases I f _ (bJ E)with⟨d,t,B,_⟩|⟨_,C,e,_⟩
    · grind
    grind
def g8:y->Option (a0×m M)
 |.n (.Q (.c (.fn (.func b) [] a)))=>h (b,a)
 |_=>n
theorem m_{k}{b}{d:ae->X}{a:ae->y}(e:∀g,bx k b (d g) (a g)):∀f:m ae,b5 k b (f.map d) (f.map a)
 |[]=>trivial
 |j::i=>⟨e j,m_ e i⟩
def b5.append{k}{b}:∀{z e:m X}{f a:m y},b5 k b z f->b5 k b e a->b5 k b (z++e) (f++a)
 |[],_,[],_,_,d=>d
 |[],_,_::_,_,d,_=>d.elim
 |_::_,_,[],_,d,_=>d.elim
 |_::_,_,_::_,_,d,g=>⟨d.1,b5.append d.2 g⟩
def B3:R->R
 |.x _ b d a=>.c (.B v b d a)
 |.c (.B _ b d a)=>.c (.B v b d a)
 |e=>e
def HW{d}(a:cC k b aa d):cC k b aa (B3 d):=by
 cases d with
 |x i g j e=>exact a.1
 |c f=>cases f<;>first|exact a|exact Rd.ei a
 |_=>exact a
def B5:m R->m R
 |[]=>[]
 |a::b=>B3 a::B5 b
def HY{k}{b}:∀{z:m X}{d:m R},bN k b z d->bN k b z (B5 d)
 |[],[],_=>trivial
 |[],_::_,a=>a.elim
 |_::_,[],a=>a.elim
 |_::_,_::_,a=>⟨HW a.1,HY a.2⟩
def B4:y->y
 |.n (.Q b)=>.n (.Q (B3 b))
 |.n (.agg a)=>.n (.agg (B5 a))
 |d=>d
def HX{a}(d:bx k b aa a):bx k b aa (B4 a):=by
 cases a with
 |n i=>cases i with
  |Q m=>exact HW d
  |agg g=>obtain⟨z,e,f⟩:=d;exact⟨z,e,HY f⟩
 |S j=>exact d
 |any=>trivial
def lc:m y->m y
 |[]=>[]
 |a::b=>B4 a::lc b
theorem u7{k}{b}:∀{z:m X}{d:m y},b5 k b z d->b5 k b z (lc d)
 |[],[],_=>trivial
 |[],_::_,a=>a.elim
 |_::_,[],a=>a.elim
 |_::_,_::_,a=>⟨HX a.1,u7 a.2⟩
def fg:m M->m y
 |[]=>[]
 |a::b=>ay a::fg b
theorem qj{k}{b}:∀{z:m X}{a:m M},(∀(f:Nat)d,a[f]?=h d->∃g,z[f]?=h g/\Rd b.D g d)->c z=c a->b5 k b z (fg a)
 |[],[],_,_=>trivial
 |[],_::_,_,e=>by grind
 |_::_,[],_,e=>by grind
 |g::z,d::a,e,p=>by obtain⟨q,i,j⟩:=e 0 d rfl;simp at i;subst i;exact⟨j,qj (λf d o=>by simpa using e (f+1) d N) N⟩
def Er{a b:m α}(g:dy aX a=h b):∀d∈b,d∈a:=by intro d f;obtain⟨k,e⟩:=l8 g;obtain⟨i,j,rfl⟩:=hd f;obtain⟨q,o,p⟩:=e i _ (bJ w);grind
def bb.sub{m}(g:bb k b)(E:dy aX k=h dj)(O:dy aX b.s=h m)(J:ew dj=l)(t:fi aX=l):
  bb dj {b with s:=m,own:=oG b m}/\e9 b {b with s:=m,own:=oG b m}:=by
 obtain⟨B,s⟩:=l8 E;obtain⟨d1,d2⟩:=l8 O;have y:∀L∈m,L∈b.s:=Er O;refine⟨⟨g.mem,by grind,?_,?_,?_,?_⟩,⟨a,λ_ _ _ D=>D,λ_ _ _=>rfl,g.mem,?_⟩⟩
 .intro u x L aJ d;have j:u<c aX:=N;obtain⟨R,A,K⟩:=s u _ (bJ j);obtain⟨M,p,w⟩:=d2 u _ (bJ j);rw[aJ]at A;cases A;simp only at d;rw[d]at p;cases p;exact eA.plain (k:=k) (b:=b) (aE:={b with s:=m,own:=oG b m}) rfl rfl (v8 J x (b' aJ)) (g.box _ x L K w)
 .intro u C L r d o i f q;simp only at d o;have j:u<c aX:=N;have F:C<c aX:=N;obtain⟨M,p,w⟩:=d2 u _ (bJ j);obtain⟨Q,z,I⟩:=d2 C _ (bJ F);rw[d]at p;cases p;rw[o]at z;cases z;have:=g.a4 _ _ L r w I i f q;exact Lh t u C aX[u] (bJ j) N
 .intro L d i f;exact g.lt _ (y L d) i f
 .rintro i (f|⟨⟨L,d,f⟩,e⟩)
  .exact⟨(g.own i f).1,λL d=>(g.own i f).2 L (y L d)⟩
  exact⟨g.lt L d i f,e⟩
 rintro i ((f|⟨⟨L,d,f⟩,_⟩)|⟨L,d,f⟩)
 .grind
 .grind
 grind
def e9.cT{aU}{t b6}{i}(u:bb k b)(j:bb aU t)(f:dh dj {b with s:=i,own:=oG b i} aU t)(r:b6.a=t.a)(o:b6.D=t.D)(w:b6.own=b.own)(q:∀L∈b6.s,L∈t.s∨(L∈b.s/\∀a∈L.aj,∀g∈i,a∉g.aj)):e9 t b6:=by
 refine⟨r,λa m p e=>by grind,λa _ m=>by rw[o],λa m p e=>by rw[o]at e;exact j.mem a m p e,?_⟩;rintro a (d|⟨L,x,d⟩)
 .left;rw[f.own];exact .inl N
 rcases q L x with e|⟨e,s⟩
 .grind
 left;rw[f.own];exact .inr ⟨⟨L,e,d⟩,s a d⟩
def Bf{u:af P}{i:aG}{f}{x}{bq}{V}(I:i.kind≠.early)(p:aR[e]?=h r)(N:aP r (yielded aR x.tmps)=l)(T:bb k b)(aD:∀A,(ab x.eval r).run P A=.ok (.enter V z.toArray) A)(R:∀A,(ab x.eval r).events P A #[]=#[])(ai:bl u V cS dj res aU)(aw:b5 k b z (gr aX cS))(aM:ho (c aX) cS=l)(w:dy aX k=h dj)(K:ew dj=l)(Z:∀d,ew (aU d)=l)(U:fi aX=l)(aq:∀d,c aX<=c (aU d))(E:∀d s aE,bx (de aX (aU d) k) aE s (fk (aX++gZ (c k) (c (aU d)-c aX)) (res d))->bb (de aX (aU d) k) aE->dh k b (de aX (aU d) k) aE->cj u br (G (i.U (x.put r.dst s) (.inRegion aR bq::f)) ah) aE):
  cj u br (G (i.U x (.inRegion aR (e::bq)::f)) ah) b:=by
 obtain⟨_,aB⟩:=ai;refine .next a λj an=>?_;have C:=u.bJ an;have o:=T.rely C;obtain⟨D,O⟩:=we (kS:=j.s) w o.len;obtain⟨y,ao⟩:=o.sub w O K U;have av:=aw.mono C.aT.ext T.len;have M:=(av.sub (b:=j) w O aM).mono (k:=dj) (b:={j with s:=D}) (ar:=dj) (aE:={j with s:=D,own:=oG j D}) ⟨λ_ _ _ E=>E,λaF Y L aJ F=>⟨Y,L,aJ,F,.refl _ _⟩⟩ y.len;refine⟨_,j,_,tP p N I (aD j.a),?_,.aP ao (aB _ z M y br _ λd au s ay J m g q=>?_)⟩
 .refine⟨⟨k,k,o,o,.refl _ _⟩,dv.seen ?_⟩;rw[R];exact .nil
 refine uV (ah:=ah) (t:=i.U x (.inRegion aR (e::bq)::f)) g J λaz Q=>?_;have X:=g.rely Q;have W:=q.trans Q.aT;obtain⟨S,ae,aa,al,H,ag,ak,aC⟩:=frame o w O U (Z d) X W (aq d) (m.mono Q.aT.ext g.len);refine .aP (e9.cT o X W ae ag ak aC) ?_;have B:=qs (i:=i) (x:=x) (f:=f) aR e bq s;rw[p]at B;simp[n5]at B;rw[B];exact E d s S aa al (C.aT.trans H)
def GK{i:af P}{j:aG}{f}{d}{bq}{aU}{o}{res}(F:j.kind≠.early)(m:aR[e]?=h r)(C:aP r (yielded aR d.tmps)=l)(E:bb k b)(t:∀g,(ab d.eval r).run P g=.ok (.enter o z.toArray) g)(s:∀g,(ab d.eval r).events P g #[]=#[])(B:Y i o cS dj res aU)(q:b5 k b z (gr aX cS))(x:ho (c aX) cS=l)(y:dy aX k=h dj)(D:ew dj=l)(u:ew aU=l)(I:fi aX=l)(A:c aX<=c aU)(w:∀p a,bx (de aX aU k) a p (fk (aX++gZ (c k) (c aU-c aX)) res)->bb (de aX aU k) a->dh k b (de aX aU k) a->cj i br (G (j.U (d.put r.dst p) (.inRegion aR bq::f)) ah) a):
  cj i br (G (j.U d (.inRegion aR (e::bq)::f)) ah) b:=
 Bf F m C E t s B.tocE q x y D (λ_=>u) I (λ_=>A) (λ_=>w)
theorem mR(b:r.op=.call {callee:=.value cQ,args:=ag,argTypes:=dt}){d}{fn}(g:P.funcs[d]?=h fn)(m:(fn.name== "runtime.NumGoroutine")=v)(k:fn.body.isNone=v){a:Act}{ah}(i:a.eval cQ=.func (.func d) #[] ah.toArray)(p):
  (ab a.eval r).run P p=.ok (.enter d (ag.toList.map a.eval++ah).toArray) p/\(ab a.eval r).events P p #[]=#[]:=by
 have j:(ag.map a.eval++ah.toArray)=(ag.toList.map a.eval++ah).toArray:=N;have f:fn.name≠ "runtime.NumGoroutine":=N;have e:fn.body≠n:=N;constructor
 .simp[ab,b,resolve,i,Deferred.ofValue,invoke,callFunc,g,f,e,j]
 simp[ab,b,resolve,i,Deferred.ofValue,invoke,callFunc,g,f,e]
def fm.eZ{A:af P}{aM:bL->m aq->Prop}(aw:∀k g j,bY F k g I j->aP r (yielded all.toArray j.tmps)=l)(t:r.op=.call {callee:=.value cQ,args:=ag,argTypes:=dt}){ab:a0}(x:g8 (bF I cQ)=h (ab,cap))(b:m Nat)(ak:bl A ab cS dj res aU)(aI:∀g z,b5 k g z (ag.toList.map (bF I)++fg cap)->b5 k g z (gr b cS))(y:ho (c b) cS=l)(ar:dy b k=h dj)(L:ew dj=l)(R:∀d,ew (aU d)=l)(V:fi b=l)(au:∀d,c b<=c (aU d))(D)(av:r.dst=D)(az:∀w,D=h w->w<F)(aH:∀d,fm A F all bq aM (gh D (fk (b++gZ (c k) (c (aU d)-c b)) (res d)) I) (de b (aU d) k)):fm A F all (r::bq) aM I k:=by
 subst av;intro g j o f aC X C aB idx p a Q;cases idx with
 |nil=>exact a.elim
 |cons aQ idx=>
 obtain⟨S,a⟩:=a;have al:=eH o cQ;unfold g8 at x;split at x
 case h_2=>cases x
 case h_1 vl u9 he=>
  cases x;rw[he]at al;have ah:=b8 al;generalize H:j.eval cQ=aF at ah;cases ah with
  |fn J e U s aE E aG K aL Y=>
   have M:J=[]:=jJ U;subst M;have aJ:b5 k g e (fg cap):=qj (λd aD T=>⟨E d,K d N,Y d aD T⟩) s;have aN:b5 k g (ag.toList.map j.eval++e) (gr b cS):=by exact aI _ _ ((m_ (eH o) ag.toList).append aJ)
   obtain⟨fn,an,ai,ae⟩:=ak.1;refine Bf p S (aw _ _ _ o) f (λaa=>(mR t an ai ae H aa).1) (λaa=>(mR t an ai ae H aa).2) ak aN y ar L R V au λd aR Z W q i=>?_;refine aH d Z _ ?_ q aC X C aB idx p a λG ao ay B aK f3 O u=>Q G ao ay B aK f3 O (i.trans u);cases aO:r.dst with
   |none=>exact o.mono i f.len
   |some w=>exact(o.mono i f.len).put (az w aO) W
def fm.gN{d:af P}{aM:bL->m aq->Prop}(B:∀k j g,bY F k j I g->aP r (yielded all.toArray g.tmps)=l)(f:r.op=.call {callee:=.value cQ,args:=ag,argTypes:=dt}){i}(A:g8 (bF I cQ)=h (i,cap))(aX)(w:bl d i cS dj res aU)(D:lc (ag.toList.map (bF I)++fg cap)=gr aX cS)(q:ho (c aX) cS=l)(s:dy aX k=h dj)(x:ew dj=l)(p:∀a,ew (aU a)=l)(e:fi aX=l)(t:∀a,c aX<=c (aU a))(b)(y:r.dst=b)(C:∀o,b=h o->o<F)(u:∀a,fm d F all bq aM (gh b (fk (aX++gZ (c k) (c (aU a)-c aX)) (res a)) I) (de aX (aU a) k)):fm d F all (r::bq) aM I k:=
 fm.eZ B f A aX w (λj z E=>by grind[u7]) q s x p e t b y C u
theorem fm.call{b:af P}{aM:bL->m aq->Prop}(z:∀k B f,bY F k B I f->aP r (yielded all.toArray f.tmps)=l)(e:r.op=.call {callee:=.value cQ,args:=ag,argTypes:=dt}){g}(y:g8 (bF I cQ)=h (g,cap))(aX){aU}{res}(t:Y b g cS dj res aU)(j:lc (ag.toList.map (bF I)++fg cap)=gr aX cS)(p:ho (c aX) cS=l)(q:dy aX k=h dj)(u:ew dj=l)(o:ew aU=l)(d:fi aX=l)(s:c aX<=c aU)(a)(x:r.dst=a)(A:∀i,a=h i->i<F)(w:fm b F all bq aM (gh a (fk (aX++gZ (c k) (c aU-c aX)) res) I) (de aX aU k)):fm b F all (r::bq) aM I k:=
 fm.gN z e y aX t.tocE j p q u (λ_=>o) d (λ_=>s) a x A (λ_=>w)
def n1.range(all):n1 all (aA all.toArray.size) all:=by
 have key:∀a j,(∀u r,a[u]?=h r->all[j+u]?=h r)->n1 all (List.range' j (c a)) a:=by
  intro a;induction a with
  |nil=>intro j _;trivial
  |cons r ba x=>
   exact Q'
 grind[List.range_eq_range']
theorem b1.region{q:af P}{aM}{id}(z:fm q F aR.toList aR.toList (λI k=>aM .normal I k) I k):b1 q F (.region id aR v) aM I k:=by intro C s y d t A i r m j;refine .ctl d a (λ_=>zz) λw b=>?_;have:=z w s (y.rely b d) (d.rely b) t A i r (aA aR.size) m (by simpa using n1.range aR.toList) λe f o g B u x p=>j .normal e f o g B u x (b.aT.trans p);omega
def fm.nil{P:aD}{d:af P}{F}{all}{aM:bL->m aq->Prop}{I}{k}(p:aM I k):fm d F all [] aM I k:=by
 intro u e o b r t g q idx _ f i;cases idx with
 |cons s idx=>exact f.elim
 |nil=>exact .ctl b rfl (λ_=>wh) λj a=>i I k j e p (o.rely a b) (b.rely a) a.aT
def fm.mono{p:af P}{aM q:bL->m aq->Prop}(z:fm p F all bq aM I k)(y:∀I k,aM I k->q I k):fm p F all bq q I k:=
 λb s x i t A e r idx g j f=>z b s x i t A e r idx g j λa ar aE d B u w o=>f a ar aE d (y _ _ B) u w o
def fm.le{P:aD}{i:af P}{F}{all bq}{aM:bL->m aq->Prop}{I dE}{k}(r:fm i F all bq aM dE k)(g:iO I dE):fm i F all bq aM I k:=
 λt o q e p s a j idx d f b=>r t o (q.le g) e p s a j idx d f b
def h_:Nat->m y->bL
 |_,[]=>[]
 |a,b::d=>(a,b)::h_ (a+1) d
def yU:∀d(a b:Nat),look (h_ a d) b=if a<=b then(d[b-a]?).getD .any else .any
 |[],a,b=>by simp[h_,look]
 |f::e,a,b=>by
  simp only[h_,look];by_cases g:a=b
  .grind [Nat.beq_refl]
  have:ad a b=v:=um;rw[this];simp[cond,yU e (a+1) b];grind
theorem b5.get{k}{b}:∀{z:m X}{a:m y},b5 k b z a->c z=c a/\∀(u:Nat),bx k b ((z[u]?).getD J) ((a[u]?).getD .any)
 |[],[],_=>⟨rfl,λu=>by simp[bx]⟩
 |[],_::_,d=>d.elim
 |_::_,[],d=>d.elim
 |i::z,g::a,d=>by
  obtain⟨e,f⟩:=b5.get d.2;refine⟨by grind,λu=>?_⟩;cases u with
  |zero=>simpa using d.1
  |succ u=>grind
def oI(a:bL):m ResultVar->Option (m y)
 |[]=>h []
 |.tmp e::d=>match oI a d with
  |some b=>h (look a e::b)
  |none=>n
 |.cell _ _::_=>n
def qW:m y->Option (m E1)
 |[]=>h []
 |.n d::b=>match qW b with
  |some a=>h (d::a)
  |none=>n
 |_::_=>n
def po:m y->Option y
 |[d]=>h d
 |a=>match qW a with
  |some b=>h (.S b)
  |none=>n
def il(d:Act):ResultVar->Sem X
 |ResultVar.tmp b=>pure (d.tmps.getD b J)
 |ResultVar.cell a b=>do loadVar b (<-asAddr (d.tmps.getD a J))
def Ml(P){F}{k}{b}{I}{f}(j:bY F k b I f):∀{e:m ResultVar}{a:m y},oI I e=h a ->
  ∃z,(∀p,(e.mapM (il f)).run P p=Result.ok z p)/\b5 k b z a/\dA P (e.mapM (il f))
 |[],a,d=>by cases d;exact⟨[],by simp,B,by rw[List.mapM_nil];exact .pure⟩
 |.tmp g::o,a,d=>by
  simp[oI]at d;cases i:oI I o with
  |none=>grind
  |some u=>
   simp[i]at d;subst d;obtain⟨z,r,s,t⟩:=Ml P j i;refine⟨f.tmps.getD g J::z,?_,⟨j.aL g,s⟩,?_⟩
   .intro p;simp[o5,cL,il,d_,c',r]
   rw[o5];exact .bind .pure λ_=>.bind t λ_=>.pure
 |.cell q g::o,a,d=>by simp[oI]at d
def NB{k}{b}:∀{z:m X}{e:m y}{a:m E1},qW e=h a->b5 k b z e->e1 k b z a
 |[],[],a,d,_=>by cases d;trivial
 |[],_::_,_,_,d=>d.elim
 |_::_,[],_,_,d=>d.elim
 |o::z,.n p::i,a,d,g=>by
  simp[qW]at d;cases f:qW i with
  |none=>grind
  |some j=>simp[f]at d;subst d;exact⟨g.1,NB f g.2⟩
 |_::_,.S _::_,a,d,_=>by simp[qW]at d
 |_::_,.any::_,a,d,_=>by simp[qW]at d
def KD{bh}{g}(d:po bh=h g)(e:b5 k b z bh):bx k b (if d:c z=1 then z[0]else .tuple z.toArray) g:=by
 unfold po at d;split at d
 .rename_i C;cases d
  match z,e with
  |[p],e=>simpa using e.1
 rename_i o;cases f:qW bh with
 |none=>grind
 |some j=>
  simp[f]at d;subst d;have m:c z≠1:=by
   intro i;rw[(b5.get e).1]at i
   match bh,i with
   |[q],_=>grind
  rw[dif_neg m];exact⟨z,a,NB f e⟩
def oV(P:aD)(fn:Func)(k:bL)(p:y):Prop:=∀{o:Nat}{i:m aq}{d:a6}{g:Act},bY o i d k g->∃j,bx i d j p/\∀f,(∀a b e,d.D a b=h e->f.cell? ⟨a,b,n⟩=h e)->(results fn g.tmps).run P f=.ok j f/\∀q∈(results fn g.tmps).events P f #[],∃a b e,q=⟨.cell ⟨a,b,n⟩,v,v⟩/\d.D a b=h e
def Mw{a}(m:bY F k b I a){fn}{bh}{f}(p:oI I fn.results.toList=h bh)(i:po bh=h f):
  ∃g,(∀d,(results fn a.tmps).run P d=.ok g d)/\bx k b g f/\dA P (results fn a.tmps):=by
 obtain⟨z,r,j,o⟩:=Ml P m p;refine⟨_,λd=>?_,KD i j,?_⟩
 .have e:(fn.results.mapM (il a)).run P d=Result.ok z.toArray d:=R2;unfold results;rw[cL];refine(eF (λq=>Result.andThen q _) (Eq.trans ?_ e)).trans ?_
  .congr 2
  simp
 unfold results;have e:dA P (fn.results.mapM (il a)):=by rw[xk];exact .map o
 exact .bind e λ_=>.pure
def oV.of{fn}{bh}{e}(k:oI I fn.results.toList=h bh)(d:po bh=h e):oV P fn I e:=by intro o p s q j;obtain⟨m,a,b,i⟩:=Mw (P:=P) j k d;exact⟨m,b,λf _=>⟨a f,λr g=>by rw[i f #[]]at g;grind⟩⟩
section
def bb.dV(a:bb k b):bb (k.map λ_=>.N) b:=by
 refine⟨a.mem,by simp[a.len],λf g L aJ e=>?_,a.a4,a.lt,a.own⟩;simp only[nd]at aJ;cases d:k[f]? with
 |none=>grind
 |some i=>rw[d]at aJ;cases aJ;trivial
structure p3(nH:m Nat)(b aE:a6):Prop where
 s:aE.s=b.s
 D:aE.D=b.D
 own:aE.own=b.own
 size:b.a.heap.size<=aE.a.heap.size
 a7:∀i,(b.own i∨∃(d:Nat) (L:Loc),b.s[d]?=h L/\d∉nH/\i∈L.aj)->aE.a.heap[i]?=b.a.heap[i]?
 mem:∀i r aa,b.D i r=h aa->aE.a.cell? ⟨i,r,n⟩=h aa
 os:aE.a.os=b.a.os
 tape:aE.a.tape=b.a.tape
 output:aE.a.output=b.a.output
def cX.j4(a:cX b aE)(nH):p3 nH b aE:=
 ⟨a.s,a.D,a.own,a.size,λg e=>a.a7 g (e.imp id λ⟨i,L,d,_,f⟩=>⟨L,b' d,f⟩),a.mem,a.os,a.tape,a.output⟩
theorem p3.Y{nH}{m b6}(a:p3 [d] b m)(e:p3 nH m b6):p3 (d::nH) b b6:=by refine⟨e.s.trans a.s,e.D.trans a.D,e.own.trans a.own,e3 a.size e.size,λf j=>?_,λf q r o=>e.mem f q r (by rw[a.D];exact o),e.os.trans a.os,e.tape.trans a.tape,e.output.trans a.output⟩;rw[e.a7 f,a.a7 f (j.imp id λ⟨k,L,g,i,p⟩=>⟨k,L,g,λs=>i N,p⟩)];rw[a.own,a.s];grind
def abZ{b}(d:p.heap[b]?=h (.deferred (h []))):
  (Instr.takeDeferred b).run P p=.ok [] {p with heap:=p.heap.setIfInBounds b (.deferred n)}/\(Instr.takeDeferred b).events P p #[]=#[⟨.obj b,v,v⟩,⟨.obj b,l,v⟩]:=by
 have e:(getObj b).run P p=.ok (.deferred (h [])) p:=by simp[getObj,Sem.run,d]
 have f:(setObj b (.deferred n)).run P p=.ok () {p with heap:=p.heap.setIfInBounds b (.deferred n)}:=by simp[setObj,Sem.run,d]
 have i:∀a,(getObj b).events P p a=a.push ⟨.obj b,v,v⟩:=λa=>by simp only[getObj,Sem.events,Sem.runT,d];rfl
 have g:∀a,(setObj b (.deferred n)).events P p a=a.push ⟨.obj b,l,v⟩:=λa=>by simp[setObj,Sem.events,Sem.runT,d];rfl
 constructor
 .simp[Instr.takeDeferred,e,f]
 simp[Instr.takeDeferred,e,i,g]
variable {q:af P}{eY:Bool}
def ace{a}{b}{bh}(e:a.mode=.returning)(d:a.defers={target:=.collected b,args:=#[]}::bh)(g:p.heap[b]?=h (.deferred (h []))):
  ao P eY (G a ah) p=.go (G {a with defers:=bh} ah) {p with heap:=p.heap.setIfInBounds b (.deferred n)} (seen P a.fn #[⟨.obj b,v,v⟩,⟨.obj b,l,v⟩]):=by obtain⟨i,f⟩:=abZ (P:=P) g;simp[G,ao,unwind,e,d,i,f,GStep.after]
def rj(d:a6):m Deferred->m Nat->Prop
 |[],[]=>True
 |g::e,f::a=>(∃b:Nat,d.s[f]?=h ⟨.int .i64 b,[b]⟩/\d.a.heap[b]?=h (.deferred (h []))/\(∀i,d.D b i=n)/\g={target:=.collected b,args:=#[]})/\f∉a/\rj d e a
 |_,_=>False
def ji.gD{k}{b}(f:bb k b):∀{a:m Deferred}{d:m Nat},ji k b a d->rj b a d
 |[],[],_=>trivial
 |[],_::_,g=>g.elim
 |_::_,[],g=>g.elim
 |y::a,x::d,⟨⟨j,L,g,e,u,s⟩,t,o⟩=>by obtain⟨i,k1,p,q⟩:=f.box x _ L j e;subst k1;simp at u;have r:i=g:=w;subst r;exact⟨⟨i,e,p,q,s⟩,t,ji.gD f o⟩
def rj.mono{b aE}{i}(g:p3 [i] b aE):∀{d:m Deferred}{a:m Nat},i∉a->rj b d a->rj aE d a
 |[],[],_,_=>trivial
 |[],_::_,_,e=>e.elim
 |_::_,[],_,e=>e.elim
 |s::d,r::a,k,⟨⟨e,f,j,t,p⟩,q,o⟩=>by simp[eT,not_or]at k;refine⟨⟨e,by rw[g.s];exact f,by rw[g.a7 e (.inr ⟨r,_,f,by grind,by simp⟩)];exact j,λu=>by rw[g.D];grind,p⟩,q,rj.mono g k.2 o⟩
def Bg:∀o(f:aG)(s:a6)i,bb i s->(∀C∈i,C=.N)->f.mode=.returning->rj s f.defers o ->
  (∀r,p3 o s r->cj q br (G {f with defers:=[]} ah) r)->cj q br (G f ah) s
 |[],f,s,i,J,W,O,x,U=>by
  have A:f.defers=[]:=by
   cases A:f.defers with
   |nil=>rfl
   |cons an E=>rw[A]at x;exact x.elim
  have:=U s ((cX.refl J).j4 _);have aq:{f with defers:=[]}=f:=by cases f;simp_all
  grind
 |V::o,f,s,i,J,W,O,x,U=>by
  cases A:f.defers with
  |nil=>rw[A]at x;exact x.elim
  |cons an E=>
   rw[A]at x;obtain⟨⟨k,K,H,aM,ai⟩,ak,al⟩:=x;subst ai;refine .next a λj y=>?_;have g:=q.bJ y;have u:=J.rely g;have M:j.s[V]?=h ⟨.int .i64 k,[k]⟩:=by rw[g.s];exact K
   have R:j.a.heap[k]?=h (.deferred (h [])):=by rw[g.a7 k (.inr ⟨_,b' K,by simp⟩)];exact H
   have ao:∀p,j.D k p=n:=λp=>by rw[g.D];grind
   let d:a6:={j with a:={j.a with heap:=j.a.heap.setIfInBounds k (.deferred n)}}
   have F:∀b,b≠k->d.a.heap[b]?=j.a.heap[b]?:=λb e=>by grind
   have aa:∀b p B,j.D b p=h B->d.a.cell? ⟨b,p,n⟩=h B:=by intro b p B Q;have ab:b≠k:=N;rw[<-u.mem b p B Q];simp[aI];grind
   have ae:bb i d:=by
    refine⟨aa,u.len,λw C L aJ m=>?_,u.a4,λL m b e=>?_,λb e=>⟨?_,(u.own b e).2⟩⟩
    .rw[W C (b' aJ)];trivial
    .have:=u.lt L m b e;grind
    have:=(u.own b e).1;grind
   have af:∃L∈j.s,k∈L.aj:=⟨_,b' M,by simp⟩
   have Y:cO i j i d:=by refine⟨by grind,λb _ e=>F b ?_,λ_ _ _ S=>S,λ_ _ _ _=>rfl,λL m b e=>.inr ⟨L,m,e⟩,λ_ C L S ag=>⟨C,L,S,ag,.refl _ _⟩,rfl,rfl,rfl,rfl⟩;grind
   have I:p3 [V] s d:=by
    refine⟨g.s,g.D,g.own,e3 g.size N,λb e=>?_,λb p B Q=>aa b p B (by rw[g.D];exact Q),g.os,g.tape,g.output⟩;have ab:b≠k:=by
     rintro rfl;rcases e with e|⟨w,t,Z,X,z⟩
     .exact(J.own b e).2 _ (b' K) D
     exact X (by simp;exact J.a4 w V t _ Z K b z D)
    rw[F b ab];exact g.a7 b (e.imp id λ⟨w,t,Z,_,z⟩=>⟨t,b' Z,z⟩)
   refine⟨_,d,_,ace O A R,⟨⟨i,i,u,ae,Y⟩,dv.seen (.fo ?_ ?_)⟩,?_⟩
   .exact⟨a,.inr af⟩
   .exact⟨a,.inr af⟩
   refine Bg o {f with defers:=E} d i ae W O (al.mono I ak) λr T=>?_;exact U r (I.Y T)
end
def bs(e:Nat)(b d:Nat->m M):Prop:=∀a,a<e->b a=d a
def e0.cA{f}{dK:Nat->m M}(d:e0 bB f j V z)(g:bs j V dK):e0 bB f j dK z:=
 ⟨d.len,λb a=>by rw[<-g b a];exact d.bF b a,λb a k i e=>d.rd b a k i (by rw[g b a];exact e)⟩
def Dt:M->M->Option (m Prop)
 |.int j e,.int b a=>match tj j b with|true=>h [e=a]|false=>n
 |.bool r,.bool g=>h [r=g]
 |.T s,.T k=>h [s=k]
 |.B q j e i,.B f b a d=>match ad j b with
  |true=>match q,f with
   |false,l=>n
   |_,_=>h [e=a,bs e i d]
  |false=>match q,f with
   |true,_=>h [e=0,a=0]
   |_,_=>n
 |.val o,.val p=>h [o=p]
 |o,p=>h [o=p]
def KM{E k}(a:Dt E k=h Z)(g:U Z)(e:Rd bB aa E):Rd bB aa k:=by
 unfold Dt at a;split at a
 .rename_i f j i d;cases b:tj f i<;>simp[b]at a
  subst a;cases Dq b;cases(show j=d from g);exact e
 .cases a;rename_i m p;cases(show m=p from g);exact e
 .cases a;rename_i m p;cases(show m=p from g);exact e
 .rename_i o f j V q i d dK;cases b:ad f i with
  |true=>
   simp[b]at a;have t:=dp b;subst t;cases o<;>cases q<;>simp at a
   all_goals (subst a;obtain⟨rfl,s⟩:=(show j=d/\bs j V dK from g);first|exact e.cA s|exact e.ei.cA s)
  |false=>
   simp[b]at a;cases o<;>simp at a
   subst a;obtain⟨rfl,rfl⟩:=(show j=0/\d=0 from g)
   obtain⟨u,r,z,rfl,_,_,w,_⟩:=e.b0;grind[Rd.dI]
 .cases a;rename_i E k;cases(show E=k from g);exact e
 cases a;cases g;exact e
def vG:R->R->Option (m Prop)
 |.c r,.c s=>Dt r s
 |.x _ j i d,.c (.B v e g b)=>match ad j e with|true=>h [i=g,bs i d b]|false=>n
 |.x f j i d,.x a e g b=>match ad f a with
  |true=>match ad j e with|true=>h [i=g,bs i d b]|false=>n
  |false=>n
 |.ptr f p,.ptr a k=>match ad f a with|true=>(match ad p k with|true=>h []|false=>n)|false=>n
 |.aY f,.aY a=>match ad f a with|true=>h []|false=>n
 |.O f q,.O a o=>match ad f a with|true=>h [q=o]|false=>n
 |_,.any=>h []
 |_,_=>n
def KJ{w x}(e:vG w x=h Z)(r:U Z)(o:cC k b aa w):cC k b aa x:=by
 unfold vG at e;split at e
 .exact KM e r o
 .rename_i f j V g m dK;cases a:ad f g<;>simp[a]at e
  subst e;have u:=dp a;subst u;obtain⟨rfl,s⟩:=(show j=m/\bs j V dK from r)
  exact o.1.cA s
 .rename_i d f j V i g m dK;cases q:ad d i<;>simp[q]at e
  cases a:ad f g<;>simp[a]at e
  subst e;have u:=dp a;have t:=dp q;subst u t;obtain⟨rfl,s⟩:=(show j=m/\bs j V dK from r)
  exact⟨o.1.cA s,o.2.1,o.2.2⟩
 .grind [Nat.eq_of_beq_eq_true]
 .grind [Nat.eq_of_beq_eq_true]
 .rename_i d p i bi;cases q:ad d i<;>simp[q]at e
  have t:=dp q;subst t;subst e;cases(show p=bi from r);exact o
 .exact cC.cell o
 grind
def gQ:m Prop->m Prop->m Prop
 |[],a=>a
 |b::d,a=>b::gQ d a
@[simp] theorem U.Y{a b}:U (gQ a b)↔U a/\U b:=by
 induction a with
 |nil=>simp[gQ]
 |cons f e d=>simp[gQ,U.cons,d,and_assoc]
def qD:m R->m R->Option (m Prop)
 |[],[]=>h []
 |d::a,e::b=>match vG d e with
  |some f=>match qD a b with
   |some g=>h (gQ f g)
   |none=>n
  |none=>n
 |_,_=>n
def Du{k}{b}:∀{z:m X}{e f:m R}{d:m Prop},qD e f=h d->U d->bN k b z e->bN k b z f
 |[],[],[],_,_,_,_=>trivial
 |_::_,[],_,_,_,_,a=>a.elim
 |[],_::_,_,_,_,_,a=>a.elim
 |[],[],_::_,_,a,_,_=>by simp[qD]at a
 |_::_,_::_,[],_,a,_,_=>by simp[qD]at a
 |w::z,r::g,s::i,d,a,j,q=>by
  simp[qD]at a;cases o:vG r s with
  |none=>grind
  |some t=>
   cases p:qD g i with
   |none=>grind
   |some u=>
    simp[o,p]at a;subst a;rw[U.Y]at j;exact⟨KJ o j.1 q.1,Du p j.2 q.2⟩
def vH:E1->E1->Option (m Prop)
 |.Q d,.Q e=>vG d e
 |.agg a,.agg b=>qD a b
 |_,_=>n
def KN{d e}(a:vH d e=h Z)(f:U Z)(g:eB k b aa d):eB k b aa e:=by
 cases d<;>cases e<;>simp[vH,reduceCtorEq]at a
 .exact KJ a f g
 obtain⟨z,i,j⟩:=g;exact⟨z,i,Du a f j⟩
def rY:m E1->m E1->Option (m Prop)
 |[],[]=>h []
 |d::a,e::b=>match vH d e with
  |some f=>match rY a b with
   |some g=>h (gQ f g)
   |none=>n
  |none=>n
 |_,_=>n
def KO{k}{b}:∀{z:m X}{e f:m E1}{d:m Prop},rY e f=h d->U d->e1 k b z e->e1 k b z f
 |[],[],[],_,_,_,_=>trivial
 |_::_,[],_,_,_,_,a=>a.elim
 |[],_::_,_,_,_,_,a=>a.elim
 |[],[],_::_,_,a,_,_=>by simp[rY]at a
 |_::_,_::_,[],_,a,_,_=>by simp[rY]at a
 |w::z,r::g,s::i,d,a,j,q=>by
  simp[rY]at a;cases o:vH r s with
  |none=>grind
  |some t=>
   cases p:rY g i with
   |none=>grind
   |some u=>
    simp[o,p]at a;subst a;rw[U.Y]at j;exact⟨KN o j.1 q.1,KO p j.2 q.2⟩
def kw:y->y->Option (m Prop)
 |.n d,.n e=>vH d e
 |.S a,.S b=>rY a b
 |_,.any=>h []
 |_,_=>n
theorem pp{d e}(a:kw d e=h Z)(f:U Z)(g:bx k b aa d):bx k b aa e:=by
 cases d<;>cases e<;>simp[kw,reduceCtorEq]at a
 .exact KN a f g
 .trivial
 .obtain⟨z,i,t⟩:=g;exact⟨z,i,KO a f t⟩
 .trivial
 trivial
def i'(a:bL):bL->Option (m Prop)
 |[]=>h []
 |(d,b)::g=>match kw (look a d) b with
  |some e=>match i' a g with
   |some f=>h (gQ e f)
   |none=>n
  |none=>n
def eu{I}:∀{b:bL}{a:m Prop},i' I b=h a->U a->iO I b
 |[],_,_,_=>λ_ _ _ _ _=>trivial
 |(g,o)::q,a,d,e=>by
  simp[i']at d;cases p:kw (look I g) o with
  |none=>grind
  |some u=>
   cases f:i' I q with
   |none=>grind
   |some w=>
    simp[p,f]at d;subst d;rw[U.Y]at e;intro j r s i k;simp[look];cases t:ad g i with
    |true=>
     grind[Nat.eq_of_beq_eq_true,pp]
    |false=>exact eu f e.2 j r s i k
def l7(a:m aq):Bool:=match ew a with|true=>jY a|false=>v
def LU(a:l7 k=l):ew k=l/\jY k=l:=by unfold l7 at a;grind
def ji.e8{k}{b}:∀{e:m Deferred}{d:m Nat},ji k b e d->∀f∈d,k[f]?=h .bn
 |[],[],_,f,a=>by grind
 |[],_::_,i,_,_=>i.elim
 |_::_,[],i,_,_=>i.elim
 |p::e,o::d,⟨⟨g,_⟩,_,j⟩,f,a=>by
  rcases eT.1 a with rfl|a
  .exact g
  exact ji.e8 j f a
def bW(fn:Func)(p:Nat)(b:y)(d:m aq):fD:=λk o g=>
 (k=.ret∨k=.normal)/\∃a e j f,oI o fn.results.toList=h e/\po e=h j/\kw j (fk a b)=h f/\U f/\hX (c a) b=l /\
  dy a g=h d/\l7 d=l/\fi a=l/\(∀i,i<p->a[i]?=h i)
def k7(P:aD)(fn:Func)(o:Nat)(b:y)(d:m aq):fD:=λj k f=>
 (j=.ret∨j=.normal)/\∃a i e,oV P fn k i/\kw i (fk a b)=h e/\U e/\hX (c a) b=l /\
  dy a f=h d/\l7 d=l/\fi a=l/\(∀g,g<o->a[g]?=h g)
def bW.toI{fn}{f}{res}{g}{aU}(o:bW fn f res ar g I aU):k7 P fn f res ar g I aU:=by obtain⟨i,d,m,k,e,a,b,j⟩:=o;exact⟨i,d,k,e,oV.of a b,j⟩
def bl.gu{ab:af P}{S}{fn}{args}{q:ι->m aq}(pj:P.funcs[S]?=h fn)(bh:(fn.name== "runtime.NumGoroutine")=v)(cW:fn.body=h t)(aL:args.length<=fn.ntmps)(U:∀b a_,bY fn.ntmps k b (h_ 0 args) a_->bb k b->∀i bc r (I:ai->a6->Prop),i.kind≠.early->i.roundOf=n ->
  (∀ap C j aE K,(∃y,k7 P fn (c k) (res y) (q y) ap C j)->bY fn.ntmps j aE C K->bb j aE->dh k b j aE->kO ab I i bc r ap K aE)->cj ab I (G (i.U a_ (.code t::bc)) r) b):bl ab S args k res q:=by
 refine⟨⟨fn,pj,bh,by grind⟩,λb z aN aH I r aC=>?_⟩;obtain⟨aK,aF⟩:=b5.get aN;let i:aG:={fn:=S,tmps:=#[],todo:=[],defers:=[],mode:=.run,kind:=.normal,roundOf:=n}
 have bt:Frame.enter P S z.toArray .normal=i.U {tmps:=z.toArray++Array.replicate (fn.ntmps-z.toArray.size) J,defers:=[]} [.code t]:=Oi;rw[bt];refine U b {tmps:=z.toArray++Array.replicate (fn.ntmps-z.toArray.size) J,defers:=[]} ⟨by grind,⟨[],B⟩,λo=>?_⟩ aH i [] r I (by simp[i]) rfl ?_
 .rw[yU];simp[g5,dw,sD];have:=aF o;rcases dY o (c z) with ba|a'
  .exact O2
  rw[w' w];trivial
 rintro ap C j a0 O ⟨Z,ag,aQ,bu,bs,au,av,aw,ay,aa,bk,az,bo⟩ ar Y a1;obtain⟨a,bm⟩:=LU bk;have fin:∀f d,cX a0 d->f.fn=S->f.tmps=O.tmps->f.defers=O.defers->f.mode=.returning->f.kind=.normal->cj ab I (G f r) d:=by
  intro f d e ak al an Q ao;have T:=ar.rely e Y;have E:=Y.rely e;have s:=a1.trans e.aT;obtain⟨a2,aY,a8⟩:=au T;obtain⟨x,ae⟩:=we (kS:=d.s) aa E.len;have aZ:=(pp av aw aY).sub aa ae ay;obtain⟨bn,ah⟩:=l8 aa;obtain⟨d1,d2⟩:=l8 ae;have M:∀L∈x,L∈d.s:=Er ae;have R:bb (q Z) {d with s:=x}:=by obtain⟨F,_⟩:=E.sub aa ae a az;refine⟨F.mem,F.len,λy X L aJ g=>?_,F.a4,F.lt,λi cW=>⟨(E.own i cW).1,λL g=>(E.own i cW).2 L (M L g)⟩⟩;exact eA.plain (k:=q Z) (b:={d with s:=x,own:=oG d x}) (aE:={d with s:=x}) rfl rfl (v8 a X (b' aJ)) (F.box y X L aJ g)
  have aM:dh k b (q Z) {d with s:=x}:=by refine⟨s.size,s.a7,s.mem,s.bA,λL g i cW=>s.bS _ (M L g) i cW,λbd X L aJ g=>?_,s.os,s.tape,s.output,s.own⟩;have aK:bd<c k:=(cP.1 aJ).1;obtain⟨bg,bj,bp,bq,br⟩:=s.box bd X L aJ g;grind
  obtain⟨aR,a7⟩:=T.defers;refine Bg aR f d _ E.dV D Q (by rw[an];exact a7.gD E) λH p=>?_;have aS:cX {d with s:=x} {H with s:=x}:=by refine⟨rfl,p.D,p.own,p.size,λi cW=>p.a7 i (cW.imp id ?_),p.mem,p.os,p.tape,p.output⟩;rintro⟨L,g,cW⟩;obtain⟨y,aI,rfl⟩:=hd g;have a5:y<c aQ:=N;obtain⟨bx,a9,a4⟩:=d2 y _ (bJ a5);obtain⟨bw,a3,W⟩:=ah y _ (bJ a5);rw[bJ aI]at a9;cases a9;refine⟨_,_,a4,λaD=>?_,cW⟩;rw[a7.e8 _ aD]at W;cases W;exact vQ bm _ (b' a3) rfl
  have aB:e9 H {H with s:=x}:=⟨rfl,λ_ _ _ U=>U,λ_ _ _=>rfl,λi u a2 aO=>p.mem i u a2 (by rw[<-p.D];exact aO),λi cW=>cW.imp id λ⟨L,g,cW⟩=>⟨L,by rw[p.s];grind,cW⟩⟩
  refine .aP aB (aC Z _ a2 _ ⟨ak,Q,rfl,ao,fn,by grind,λV aP=>?_⟩ (aZ.mono aS.aT.ext R.len) (R.rely aS) (aM.trans aS.aT));show(results fn f.tmps).run P V=_/\∀ap∈(results fn f.tmps).events P V #[],_;rw[al];have bf:∀i u A,d.D i u=h A->V.cell? ⟨i,u,n⟩=h A:=λi u A U=>aP i u A (by show H.D i u=h A;rw[p.D];exact U);refine⟨(a8 V bf).1,λap ag=>?_⟩;obtain⟨i,u,A,aU,aX⟩:=(a8 V bf).2 ap ag;exact⟨i,u,A,aU,by show H.D i u=h A;rw[p.D];exact aX⟩
 rcases ag with rfl|rfl
 .intro pre;exact .ctl Y rfl (λ_=>Ev rfl) λd e=>fin _ d e rfl rfl (g3 _) rfl rfl
 exact .ctl Y rfl (λ_=>Et rfl) λd e=>fin _ d e rfl rfl (g3 _) rfl rfl
def bl.hx{w:af P}{r}{fn}{args}{j:ι->m aq}(F:P.funcs[r]?=h fn)(D:(fn.name== "runtime.NumGoroutine")=v)(A:fn.body=h t)(C:args.length<=fn.ntmps)(E:∀i p,bY fn.ntmps k i (h_ 0 args) p->bb k i->∀g u f (o:ai->a6->Prop),g.kind≠.early->g.roundOf=n ->
  (∀q d a b e,(∃s,bW fn (c k) (res s) (j s) q d a)->bY fn.ntmps a b d e->bb a b->dh k i a b->kO w o g u f q e b)->cj w o (G (g.U p (.code t::u)) f) i):bl w r args k res j:=
 bl.gu F D A C λi p r B g u f o x y z=>E i p r B g u f o x y λq d a b e ⟨s,I⟩=>z q d a b e ⟨s,I.toI⟩
def bl.jb{q:af P}{b}{fn}{args}{ar:ι->m aq}(A:P.funcs[b]?=h fn)(w:(fn.name== "runtime.NumGoroutine")=v)(e:fn.body=h t)(s:args.length<=fn.ntmps)(x:b1 q fn.ntmps t (λu j a=>∃i,k7 P fn k.length (res i) (ar i) u j a) (h_ 0 args) k):bl q b args k res ar:=
 bl.gu A w e s λB p b f r z d o g _ y=>x B p b f r z d o g y
def bl.intro{j:af P}{d}{fn}{args}{a:ι->m aq}(B:P.funcs[d]?=h fn)(x:(fn.name== "runtime.NumGoroutine")=v)(f:fn.body=h t)(s:args.length<=fn.ntmps)(y:b1 j fn.ntmps t (λw o b=>∃u,bW fn k.length (res u) (a u) w o b) (h_ 0 args) k):bl j d args k res a:=
 bl.hx B x f s λC q d g r A e p i _ z=>y C q d g r A e p i z
def Y.intro{P}{b:af P}{d}{fn}{t}{args}{k ar}{res}(g:P.funcs[d]?=h fn)(f:(fn.name== "runtime.NumGoroutine")=v)(a:fn.body=h t)(e:args.length<=fn.ntmps)(i:b1 b fn.ntmps t (bW fn k.length res ar) (h_ 0 args) k):Y b d args k res ar:=
 (bl.intro g f a e (b1.mono i λ_ _ _ j=>⟨(),j⟩)).toY
inductive iu where
 |code (t:Code)
 |blk (id:Nat)
 |al (all bq:List an)
def g{P}(i:af P)(f:Nat)(a:fD):m iu->fD
 |[],k,b,d=>a k b d
 |.code q::e,.normal,b,d=>b1 i f q (g i f a e) b d
 |.code _::e,k,b,d=>g i f a e k b d
 |.blk id::e,.exit j,b,d=>if j=id then g i f a e .normal b d else g i f a e (.exit j) b d
 |.blk _::e,k,b,d=>g i f a e k b d
 |.al p o::e,.normal,b,d=>fm i f p o (g i f a e .normal) b d
 |.al _ _::e,k,b,d=>g i f a e k b d
section
variable {q:af P}{be:fD}{av:m iu}
def g.aO(a:g q F be [.code t] .normal I k):b1 q F t be I k:=a
theorem g.skip(a:g q F be av .normal I k):g q F be (.code .skip::av) .normal I k:=b1.skip a
theorem g.seq{a b}(i:g q F be (.code a::.code b::av) .normal I k):g q F be (.code (.seq a b)::av) .normal I k:=by refine b1.seq (b1.mono i ?_);intro f d e j;cases f<;>exact j
theorem g.block{id}{t}(e:g q F be (.code t::.blk id::av) .normal I k):g q F be (.code (.block id t)::av) .normal I k:=by refine b1.block (b1.mono e ?_);intro d a b f;cases d<;>exact f
theorem g.ia{id}(a:g q F be av .normal I k):g q F be (.blk id::av) .normal I k:=a
theorem g.region{id}{aR}(a:g q F be (.al aR.toList aR.toList::av) .normal I k):g q F be (.code (.region id aR v)::av) .normal I k:=b1.region a
theorem g.hD(a:g q F be av .normal I k):g q F be (.al all []::av) .normal I k:=fm.nil a
def g.dJ:∀{av:m iu},be .ret I k->g q F be av .ret I k
 |[],a=>a
 |.code _::av,a=>g.dJ (av:=av) a
 |.blk _::av,a=>g.dJ (av:=av) a
 |.al _ _::av,a=>g.dJ (av:=av) a
def g.ret(a:be .ret I k):g q F be (.code .ret::av) .normal I k:=b1.ret (g.dJ a)
def i5(id:Nat):m iu->Option (m iu)
 |[]=>n
 |.blk b::a=>match ad id b with|true=>h a|false=>i5 id a
 |_::a=>i5 id a
def g.toExit{id}:∀{av e:m iu},i5 id av=h e->g q F be e .normal I k->g q F be av (.exit id) I k
 |[],_,a,_=>by cases a
 |.blk i::av,e,a,d=>by
  simp[i5]at a;cases b:ad id i with
  |true=>
   simp[b]at a;subst a;have f:=dp b;simp[g,f,dw];exact d
  |false=>
   simp[b]at a;have j:id≠i:=λf=>by grind[Nat.beq_refl]
   simp[g,j,dn];exact g.toExit a d
 |.code _::av,e,a,d=>g.toExit (av:=av) a d
 |.al _ _::av,e,a,d=>g.toExit (av:=av) a d
theorem g.exit{id}{b}(a:i5 id av=h b)(d:g q F be b .normal I k):g q F be (.code (.exit id)::av) .normal I k:=b1.exit (g.toExit a d)
theorem g.cond{t}{b d}{i}{o}(e:t=.tmp o)(a:look I o=ay (.bool i))(j:i=l->g q F be (.code b::av) .normal I k)(f:i=v->g q F be (.code d::av) .normal I k):g q F be (.code (.cond t b d)::av) .normal I k:=b1.cond e a j f
def g.loop{br:Type}{t}(o:br->Prop)(a:br->bL)(b:br->m aq)(p:br->Nat)(d)(w:o d)(s:iO I (a d))(r:b d=k)(round:∀d,o d->g q F (λj e f=>match j with
   |.normal=>∃i,o i/\p i<p d/\iO e (a i)/\f=b i
   |j=>g q F be av j e f) [.code t] .normal (a d) (b d)):g q F be (.code (.loop t)::av) .normal I k:=by refine b1.loop o a b p d w s r λi u=>b1.mono (round i u) ?_;intro j e f x;cases j<;>exact x
end
def e5{a d:Type}:m a->(m a->Option d)->Option d
 |[],b=>b []
 |g::f,b=>e5 f λe=>b (g::e)
theorem hJ{b:Type}(d)(a:m α->Option b):e5 d a=a d:=by
 induction d generalizing a with
 |nil=>rfl
 |cons g f e=>simp[e5,e]
def yK(d:bL)(a:m an)(f:Nat):Option (Option Bool):=
 match db f a with
 |some b=>match b.dst with
  |some e=>match look d e with
   |.n (.Q (.c (.bool l)))=>h (h l)
   |.n (.Q (.c (.bool v)))=>h (h v)
   |.S []=>h n
   |_=>n
  |none=>n
 |none=>n
def yL{e}(s:yK I all u=h e){x}(f:bY F k b I x):yielded all.toArray x.tmps u=e:=by
 unfold yK at s;rw[lo]at s;unfold yielded;cases a:all[u]? with
 |none=>grind
 |some d=>
  simp[a]at s;simp[kg,a,n5];cases j:d.dst with
  |none=>grind
  |some O=>
   simp[j]at s;simp[n5];have t:=f.aL O;have key:∀aa,x.tmps.getD O J=aa->aa≠J->x.tmps[O]?=h aa:=by intro aa ap p;simp[hF]at ap;grind
   split at s
   .exact Pr
   .exact Pr
   .rename_i C;cases s;rw[C]at t;obtain⟨z,o,m⟩:=t;have g:z=[]:=by cases z with
     |nil=>rfl
     |cons _ _=>exact m.elim
    subst g;simp[hF]at o;grind
   grind
def y8(o:m (Nat×cr))(f:bL)(d:m aq)(I:an):Option (y×m aq×m Prop):=
 match I.op with
 |.move e|.assign e=>h (bF f e,d,[])
 |.pick u t z=>match bF f u with
  |.n (.Q (.c (.bool l)))=>h (bF f t,d,[])
  |.n (.Q (.c (.bool v)))=>h (bF f z,d,[])
  |_=>n
 |.binOp q _ e E _=>match bF f e,bF f E with
  |.n (.Q (.c t)),.n (.Q (.c z))=>match xy q t z with
   |some (u,x)=>h (ay u,d,x)
   |none=>n
  |_,_=>n
 |.unOp q _ e=>match bF f e with
  |.n (.Q (.c t))=>match zW q t with
   |some u=>h (ay u,d,[])
   |none=>n
  |_=>n
 |.extract e C=>match bF f e with
  |.S D=>match db C D with
   |some p=>h (.n p,d,[])
   |none=>n
  |_=>n
 |.alloc r=>match bX o r with
  |some j=>e5 (d++[.cells r (j.zero.map R.c)]) λg=>h (aH (c d) 0,g,[])
  |none=>n
 |.box r e=>match mt (bF f e)with
  |some a=>e5 (d++[.cells r a]) λg=>h (aH (c d) 0,g,[])
  |none=>n
 |.load i e=>match bX o i with
  |some j=>match bF f e with
   |.n (.Q (.ptr k b))=>match db k d with
    |some (.cells _ a)=>match ht j (gf b a)with
     |some p=>h (.n p,d,[])
     |none=>n
    |_=>n
   |.n (.Q (.c (.R a)))=>match ht j (a.map R.c)with
    |some p=>h (.n p,d,[])
    |none=>n
   |_=>n
  |none=>n
 |.store i e E=>match bX o i with
  |some j=>match bF f e with
   |.n (.Q (.ptr k b))=>match db k d with
    |some (.cells r a)=>match mt (bF f E)with
     |some new=>match ad (c new) j.size with
      |true=>match jb b new a with
       |some w=>e5 (de.cp k (.cells r w) d) λg=>h (.any,g,[])
       |none=>n
      |false=>n
     |none=>n
    |_=>n
   |_=>n
  |none=>n
 |.fieldAddr i e B=>match lm o i B with
  |some (s,_)=>match bF f e with
   |.n (.Q (.ptr k b))=>h (aH k (b+s),d,[])
   |.n (.Q (.c (.R a)))=>h (ay (.R (gf s a)),d,[])
   |_=>n
  |none=>n
 |.field i e B=>match lm o i B with
  |some (s,C)=>match bF f e with
   |.n (.agg a)=>match ht C (gf s a)with
    |some p=>h (.n p,d,[])
    |none=>n
   |_=>n
  |none=>n
 |.nilCheck e=>match bF f e with
  |.n (.Q (.ptr k b))=>h (aH k b,d,[])
  |.n (.Q (.c (.R a)))=>h (ay (.R a),d,[])
  |_=>n
 |.build i parts=>match xC o (bF f) i parts.toList with
  |some a=>h (.n (.agg a),d,[])
  |none=>n
 |.buildSlice i F parts=>match rZ o (bF f) i F parts.toList with
  |some (s,A)=>h (ay (.B l s F λj=>A.getD j []),d,[])
  |none=>n
 |_=>n
theorem DX{ac}(aZ:bZ P ac){m}(a:y8 ac I k r=h (m,ar,cq))(q:U cq):a2 P r (bF I) k m ar:=by
 unfold y8 at a;split at a
 .grind [a2.move]
 .grind [a2.assign]
 .rename_i t s i b;split at a
  .rename_i j;cases a;exact a2.pick b j
  .rename_i j;cases a;exact a2.pick b j
  grind
 .grind [a2.binOp]
 .grind [a2.unOp]
 .grind [a2.extract,er]
 .grind [hJ,a2.alloc]
 .grind [hJ,a2.box]
 .rename_i o p b;split at a
  .grind [a2.hg,er,a2.hh]
  grind
 .rename_i o p x b;split at a
  .rename_i e bp;split at a
   .rename_i d off g;split at a
    .grind [hJ,mT,a2.store,er,Nat.eq_of_beq_eq_true]
    grind
   grind
  grind
 .rename_i o p w b;split at a
  .rename_i f u C;split at a
   .rename_i d off g;cases a;exact a2.g3 aZ b g C
   .grind [a2.g7]
   grind
  grind
 .grind [a2.field]
 .grind [a2.hs,a2.hv]
 .grind [a2.build]
 .grind [a2.buildSlice]
 grind
def fp(a:Nat):Option Nat->Bool
 |some b=>ax (b+1) a
 |none=>l
def lh{b}(e:fp F b=l):∀a,b=h a->a<F:=by intro a d;subst d;exact fz e
theorem jf(b:r.guard=n){a:Act}:aP r (yielded all.toArray a.tmps)=l:=by simp[aP,b]
section
variable {ac:m (Nat×cr)}
def kL(a:ae->y):Option ae->Option (Option Int)
 |none=>h n
 |some d=>match a d with
  |.n (.Q (.c (.int _ b)))=>h (h b)
  |_=>n
def km{a:ae->X}(o:∀d,bx k b (a d) (η d)){f}{i}(e:kL η f=h i):(f.map a=n/\i=n)∨∃j g,f.map a=h (.int j g)/\i=h g:=by
 cases f with
 |none=>cases e;grind
 |some d=>
  right;simp[kL]at e;split at e
  .rename_i j g m;cases e;have:=o d;rw[m]at this;have:=b8 this;generalize p:a d=q at this;cases this;grind
  grind
def bV(a:Nat):Option Int->Nat
 |none=>a
 |some b=>b.toNat
def jq(d:Nat):Option Int->Option Int->m Prop
 |none,n=>[]
 |some b,n=>[0<=b,b<=d]
 |none,h a=>[0<=a,a<=d]
 |some b,h a=>[0<=b,b<=a,a<=d]
def wb{ku}{cap}(s:j<=cap){fb bp}{d a}(m:(fb=n/\d=n)∨∃g f,fb=h (.int g f)/\d=h f)(o:(bp=n/\a=n)∨∃g f,bp=h (.int g f)/\a=h f)(b:U (jq j d a))(p):(aT ku j cap fb bp n).run P p=.ok (bV 0 d,bV j a,cap) p/\bV 0 d<=bV j a/\bV j a<=j:=by
 rcases m with⟨rfl,rfl⟩|⟨k,d,rfl,rfl⟩<;>rcases o with⟨rfl,rfl⟩|⟨t,a,rfl,rfl⟩
 .exact⟨by simp[aT,bV],by simp[bV],by simp[bV]⟩
 .obtain⟨e,i⟩:0<=a/\a<=(j:Int):=b;refine⟨?_,by simp[bV],by simp[bV];omega⟩;simp[aT,bV,run_sliceBound (P:=P) p t a cap _ e w]
 .obtain⟨e,i⟩:0<=d/\d<=(j:Int):=b;refine⟨?_,by simp[bV];omega,by simp[bV]⟩;simp[aT,bV,run_sliceBound (P:=P) p k d j _ e i]
 obtain⟨e,i,r⟩:0<=d/\d<=a/\a<=(j:Int):=b;have q:=rm w;refine⟨?_,by simp[bV];omega,by simp[bV];omega⟩;simp[aT,bV,run_sliceBound (P:=P) p t a cap _ w w,run_sliceBound (P:=P) p k d a.toNat _ e w]
def lk(p)(f)(e)(a:Nat)(code)(b:0<=e)(d:e<=(a:Int))(V):(Instr.sliceBound (.int f e) a code).events P p V=V:=by simp[Instr.sliceBound,asIntOf,b,d]
def vj{ku}{cap}{fb bp}{d a}(y:j<=cap)(q:(fb=n/\d=n)∨∃g f,fb=h (.int g f)/\d=h f)(r:(bp=n/\a=n)∨∃g f,bp=h (.int g f)/\a=h f)(b:U (jq j d a))(p)(V):(aT ku j cap fb bp n).events P p V=V:=by
 have u:∀ku (m:Option X) (o:Nat) p V,m=n->(aT ku j cap n n n).events P p V=V:=λku m o p V _=>by simp[aT]
 rcases q with⟨rfl,rfl⟩|⟨k,d,rfl,rfl⟩<;>rcases r with⟨rfl,rfl⟩|⟨i,a,rfl,rfl⟩
 .simp[aT]
 .obtain⟨e,t⟩:0<=a/\a<=(j:Int):=b;simp[aT,lk (P:=P) p i a cap _ e w]
 .obtain⟨e,t⟩:0<=d/\d<=(j:Int):=b;simp[aT,lk (P:=P) p k d j _ e t]
 obtain⟨e,t,x⟩:0<=d/\d<=a/\a<=(j:Int):=b;have s:=rm w;simp[aT,run_sliceBound (P:=P) p i a cap _ w w,lk (P:=P) p i a cap _ w w,lk (P:=P) p k d a.toNat _ e w]
def mv(a:m UInt8):Option Int->Option Int->m UInt8
 |none,n=>a
 |some d,n=>a.drop d.toNat
 |none,h b=>a.take b.toNat
 |some d,h b=>(a.take b.toNat).drop d.toNat
theorem a2.jU(aZ:bZ P ac){s:ae}{fb bp}(B:r.op=.slice o s fb bp n){e}(I:bX ac o=h e)(K:e.desc=.string){b}{d m}(M:η s=ay (.T b))(q:kL η fb=h d)(D:kL η bp=h m)(F:U (jq (c b) d m)):a2 P r η k (ay (.T (mv b d m))) k:=by
 refine .aQ λi w E g=>?_;have f:=g s;rw[M]at f;replace f:=b8 f;generalize x:w s=O at f;cases f with
 |@T a _ C Q=>
 have A:a.size=c b:=by rw[<-C];exact nb.symm
 obtain⟨u,y,z⟩:=wb (P:=P) (ku:=v) (j:=a.size) (cap:=a.size) (bC _) (km g q) (km g D) N i.a;have t:=(aZ o e I).run_underlying (p:=i.a);rw[K]at t;have J:=vj (P:=P) (ku:=v) (j:=a.size) (cap:=a.size) (bC _) (km g q) (km g D) N i.a;refine⟨.string (a.extract (bV 0 d) (bV a.size m)),?_,Rd.T ?_ ?_,by simp[ab,B,x,Instr.sliceAt,t,Instr.slice,J]⟩
 .simp[ab,B,x,Instr.sliceAt,t,Instr.slice,u]
 .rw[Lib.extract_data,C,A];rw[A]at y z;cases d<;>cases m<;>simp only[mv,bV]at y z⊢
  .simp
  .simp
  .grind [List.take_of_length_le]
  rw[List.drop_take]
 cases d<;>cases m<;>simp[mv,sA,List.length_take]<;>omega
def fH(d:Nat)(a:Nat->m M):Nat->m M:=λb=>a (d+b)
def x1(eQ:Bool):Option Int->Bool
 |none=>eQ
 |some _=>v
theorem a2.jT(aZ:bZ P ac){N:ae}{fb a}(S:r.op=.slice o N fb a n){e a5}(ai:bX ac o=h e)(ak:e.desc=.slice W)(al:bX ac W=h a5){eQ}{d s}(Z:∀X Y,bx k X Y (η N)->Rd X.D Y (.B eQ a5.size j V))(u:kL η fb=h d)(T:kL η a=h s)(A:U (jq j d s)):
  a2 P r η k (ay (.B (x1 eQ s) a5.size (bV j s-bV 0 d) (fH (bV 0 d) V))) k:=by
 refine .aQ λg an ag b=>?_;have m:=Z g _ (b N);obtain⟨O,i,z,K,Q,R,M,G,ah⟩:=m.b0;rw[K]at m;obtain⟨t,ao,y⟩:=wb (P:=P) (ku:=l) Q (km b u) (km b T) A g.a;have F:=(aZ o e ai).run_underlying (p:=g.a);rw[ak]at F;refine⟨.slice (if i=bV 0 d then O else O.map (·.add (bV 0 d*a5.size))) (bV j s-bV 0 d) (i-bV 0 d),?_,?_,by simp[ab,S,K,Instr.sliceAt,F,Instr.slice,t,vj (P:=P) (ku:=l) Q (km b u) (km b T) A g.a]⟩
 .simp[ab,S,K,Instr.sliceAt,F,Instr.slice,t,(aZ W a5 al).bb]
 cases m with
 |B aa D af _ _ _ J I x B=>
  refine Rd.B aa (D+bV 0 d*a5.size) (λe C=>af (bV 0 d+e) C) w w ?_ (λe a=>J _ w) (λaq=>?_) (λe a C E q=>?_) (λe a C E q=>B _ w C E q)
  .intro f;cases s with
   |none=>simp[x1]at f;have:=M f;simp[bV];omega
   |some s=>cases f
  .rw[bj w,I w];simp[g6]
  have:=x (bV 0 d+e) w C E q;grind
def a2.iD(aZ:bZ P ac){b dst:ak}{i:ae}(x:r.op=.convert b dst i){y m:cr}{f d}{u}(o:bX ac b=h y)(z:bX ac dst=h m)(B:m.desc=.int d)(C:η i=ay (.int f u))(e:a7 d u):
  a2 P r η k (ay (.int d u)) k:=by refine .aQ λg s A q=>?_;have a:=q i;rw[C]at a;replace a:=b8 a;generalize t:s i=D at a;cases a;have w:=(aZ b y o).run_underlying (p:=g.a);have j:=(aZ dst m z).run_underlying (p:=g.a);rw[B]at j;exact⟨.int d u,by simp[ab,x,t,convert,w,j,Conv.intToInt,sf e],Rd.int e,by simp[ab,x,t,convert,w,j,Conv.intToInt]⟩
theorem a2.iE(aZ:bZ P ac){a dst:ak}{f:ae}(u:r.op=.convert a dst f){w m:cr}{b}(i:bX ac a=h w)(x:bX ac dst=h m)(z:m.desc=.string)(A:η f=ay (.T b)):
  a2 P r η k (ay (.T b)) k:=by refine .aQ λe o y j=>?_;have d:=j f;rw[A]at d;have t:=b8 d;generalize q:o f=B at t;cases t;have s:=(aZ a w i).run_underlying (p:=e.a);have g:=(aZ dst m x).run_underlying (p:=e.a);rw[z]at g;exact⟨_,by simp[ab,u,q,convert,s,g];rfl,by grind,by simp[ab,u,q,convert,s,g]⟩
def u3(a:Nat->m M):Nat->Nat->Option (m UInt8)
 |_,0=>h []
 |b,d+1=>match a b with
  |[.int .u8 f]=>match u3 a (b+1) d with
   |some e=>h (UInt8.ofNat f.toNat::e)
   |none=>n
  |_=>n
def G'{bB}{s:Nat->m M}:∀{g e:Nat}{i:m UInt8}{z:m X},u3 s e g=h i->c z=g->(∀f,f<g->∀j,(s (e+f))[0]?=h j->∃o,z[f]?=h o/\Rd bB o j) ->
  ∃b:m Int,z=b.map (Value.int .u8)/\i=b.map (λk=>UInt8.ofNat k.toNat)
 |0,e,i,z,d,p,_=>by cases d;exact⟨[],by grind,a⟩
 |g+1,e,i,[],d,p,_=>by grind
 |g+1,e,i,o::z,d,p,q=>by
  simp[u3]at d;split at d
  .rename_i k C;split at d
   .rename_i D t;cases d;obtain⟨E,r,u⟩:=q 0 w (.int .u8 k) N
    simp at r;subst r;cases u;obtain⟨b,A,y⟩:=G' (z:=z) t N (λf x j B=>by
     have:=q (f+1) w j N
     simpa using this)
    exact⟨k::b,by grind,by grind⟩
   grind
  grind
def Mv{P}(p){e:X->ByteArray->Sem (ForInStep ByteArray)}(f:∀d b,e (.int .u8 d) b=pure (.yield (b.push (UInt8.ofNat d.toNat)))):∀(a:m Int)b,
  (forIn (m:=Sem) (a.map (Value.int .u8)) b e).run P p=.ok ⟨b.data++(a.map λd=>UInt8.ofNat d.toNat).toArray⟩ p
 |[],b=>by simp
 |d::a,b=>by simp only[kj,List.forIn_cons,f,cL,d_,c'];rw[Mv p f a];congr 2;apply Array.ext';simp[ByteArray.push]
end
def aY(p:af P)(w:Nat)(a:m an)(s:an)(u:bL)(i:m aq)(x:y)(e:m aq):Prop:=
  ∀g j,bY w i g u j->bb i g->∀(k:aG) r f (o:ai->a6->Prop) q b,k.kind≠.early->a.toArray[q]?=h s ->
    (∀t d,bx e d t x->bb e d->dh i g e d->cj p o (G (k.U (j.put s.dst t) (.inRegion a.toArray b::r)) f) d)->cj p o (G (k.U j (.inRegion a.toArray (q::b)::r)) f) g
section
variable {q:af P}{dE:bL}{E:y}
theorem aY.a3(N:∀k A e,bY F k A I e->aP r (yielded all.toArray e.tmps)=l)(K:a2 P r (bF I) k E ar):aY q F all r I k E ar:=by
  intro A e w i R T D Q S u s t g;refine ry s t (N _ _ _ w) λo j=>?_;have m:=i.rely j;obtain⟨O,b,f,d,p,y,M⟩:=K o e.eval m (eH (w.rely j i));have x:=j.aT.trans (y.too0 m);have z:kH o b ((ab e.eval r).events P o.a #[]):=⟨⟨k,ar,m,p,y⟩,M⟩;cases O with
  |value C=>exact⟨_,b,C,f,.inl rfl,z,g C b d p x⟩
  |skip=>simp[AH]at d;subst d;exact⟨_,b,J,f,.inr ⟨a,a⟩,z,g J b B p x⟩
  |_=>exact d.elim
def aY.hF(o:∀k j d,bY F k j I d->aP r (yielded all.toArray d.tmps)=v):aY q F all r I k (.S []) k:=by intro j d s b w y m u x g t f e;exact .ctl b a (λ_=>aca f (o _ _ _ s)) λp i=>e J p ⟨[],a,B⟩ (b.rely i) i.aT
def fm.dc{aM:bL->m aq->Prop}(N:aY q F all r I k E ar)(M:∀p,r.dst=h p->p<F)(Q:fm q F all bq aM (gh r.dst E I) ar):fm q F all (r::bq) aM I k:=by
  intro S D t b C i e B idx f a x;cases idx with
  |nil=>exact a.elim
  |cons O idx=>
  refine N S D t b C i e B O idx f a.1 λT z y g d=>Q z _ ?_ g C i e B idx f a.2 λJ o A s R u w j=>x J o A s R u w (d.trans j);cases K:r.dst with
  |none=>exact t.mono d b.len
  |some p=>exact(t.mono d b.len).put (M p K) y
end
abbrev bH:=m y->m aq->Option (y×m aq×m Prop)
def tq:m (Nat×bH)->Nat->Option bH
  |[],_=>n
  | (d,b)::e,a=>cond (ad d a) (h b) (tq e a)
def bK(f:af P)(g:a0)(i:bH):Prop:=∀args e b d a,i args e=h (b,d,a)->U a->Y f g args e b d
def a_(e:af P)(a:m (Nat×bH)):Prop:=∀b d,tq a b=h d->bK e b d
def a_.nil{a:af P}:a_ a []:=λ_ _ b=>by cases b
def a_.cons{d:af P}{e}{C}{CT}(j:bK d e C)(i:a_ d CT):a_ d ((e,C)::CT):=by
  intro b f a;simp[tq]at a;cases g:ad e b with
  |true=>grind[Nat.eq_of_beq_eq_true]
  |false=>rw[g]at a;exact i b f a
def n_:R->m Nat->m Nat
  |.ptr b _,a=>cond (en b a) a (a++[b])
  |.x b _ _ _,a=>cond (en b a) a (a++[b])
  |.aY b,a=>cond (en b a) a (a++[b])
  |.O b _,a=>cond (en b a) a (a++[b])
  |_,a=>a
def G9:m R->m Nat->m Nat
  |[],a=>a
  |b::d,a=>G9 d (n_ b a)
def qg:y->m Nat->m Nat
  |.n (.Q d),a=>n_ d a
  |.n (.agg b),a=>G9 b a
  |_,a=>a
def G8:m y->m Nat->m Nat
  |[],a=>a
  |b::d,a=>G8 d (qg b a)
def ti(b:Nat):m Nat->Nat->Option Nat
  |[],_=>n
  |d::e,a=>match ad d b with|true=>h a|false=>ti b e (a+1)
def Kv{d}:∀{b:m Nat} {e f:Nat},ti d b e=h f->e<=f/\b[f-e]?=h d
  |[],_,_,a=>by cases a
  |i::o,e,f,a=>by
    simp[ti]at a;cases g:ad i d with
    |true=>simp_all
    |false=>
      rw[g]at a;obtain⟨j,k⟩:=Kv a;grind
def t1(a:m Nat):R->Option R
  |.ptr d e=>match ti d a 0 with|some b=>h (.ptr b e)|none=>n
  |.aY d=>match ti d a 0 with|some b=>h (.aY b)|none=>n
  |.O d f=>match ti d a 0 with|some b=>h (.O b f)|none=>n
  |.x _ _ _ _=>n
  |.c g=>h (.c g)
  |.any=>h .any
def zX(a:m Nat):m R->Option (m R)
  |[]=>h []
  |b::f=>match t1 a b with
    |some d=>match zX a f with
      |some e=>h (d::e)
      |none=>n
    |none=>n
def E6(a:m Nat):y->Option y
  |.n (.Q e)=>match t1 a e with|some b=>h (.n (.Q b))|none=>n
  |.n (.agg d)=>match zX a d with|some b=>h (.n (.agg b))|none=>n
  |.S _=>n
  |.any=>h .any
def t_(a:m Nat):m y->Option (m y)
  |[]=>h []
  |b::f=>match E6 a b with
    |some d=>match t_ a f with
      |some e=>h (d::e)
      |none=>n
    |none=>n
def NH{b i}(a:t1 aX b=h i):kB aX i=b/\l0 (c aX) i=l:=by
  cases b with
  |ptr d k=>
    simp[t1]at a;split at a
    · rename_i e bp
      cases a;exact Ft
    grind
  |aY d=>
    simp[t1]at a;split at a
    · rename_i e bp
      cases a;exact Ft
    grind
  |O d m=>
    simp[t1]at a;split at a
    · rename_i e bp
      cases a;exact Ft
    grind
  |x d g j f=>cases a
  |c o=>cases a;exact cV
  |any=>cases a;exact cV
def NK{aX}:∀{d b:m R},zX aX d=h b->qP aX b=d/\lr (c aX) b=l
  |[],b,a=>by cases a;exact cV
  |d::p,b,a=>by
    simp[zX]at a;split at a
    · rename_i q k
      split at a
      · rename_i o e
        cases a;obtain⟨i,f⟩:=NH k;obtain⟨j,g⟩:=NK e;exact⟨by simp[qP,i,j],by simp[lr,f,g]⟩
      grind
    grind
def aes{b i}(a:E6 aX b=h i):fk aX i=b/\hX (c aX) i=l:=by
  unfold E6 at a;split at a
  · rename_i b
    split at a
    · rename_i j e;cases a;obtain⟨d,g⟩:=NH e;exact⟨by simp[fk,pB,d],by exact cV⟩
    grind
  · rename_i f
    split at a
    · rename_i j e;cases a;obtain⟨d,g⟩:=NK e;exact⟨by simp[fk,pB,d],by exact cV⟩
    grind
  · cases a
  · cases a;exact cV
def NJ{aX}:∀{d b:m y},t_ aX d=h b->gr aX b=d/\ho (c aX) b=l
  |[],b,a=>by cases a;exact cV
  |d::p,b,a=>by
    simp[t_]at a;split at a
    · rename_i q k
      split at a
      · rename_i o e
        cases a;obtain⟨i,f⟩:=aes k;obtain⟨j,g⟩:=NJ e;exact⟨by simp[gr,i,j],by simp[ho,f,g]⟩
      grind
    grind
def B1(j:m (Nat×bH))(q:bL)(k:m aq)(o:ae)(p:m ae):Option (y×m aq×m Prop):=
  match g8 (bF q o)with
  |none=>n
  |some (r,f)=>match tq j r with
    |none=>n
    |some s=>
      let args:=lc (p.map (bF q)++fg f);let a:=G8 args []
      match t_ a args with
      |none=>n
      |some d=>match dy a k with
        |none=>n
        |some e=>match s d e with
          |none=>n
          |some (i,b,g)=>match ew e,ew b,fi a,ax (c a) (c b) with
            |true,l,l,l=>h (fk (a++gZ (c k) (c b-c a)) i,de a b k,g)
            |_,_,_,_=>n
theorem aY.gQ{J:af P}{CT}(p:a_ J CT)(H:∀k f b,bY F k f I b->aP r (yielded all.toArray b.tmps)=l)(e:r.op=.call {callee:=.value cQ,args:=ag,argTypes:=dt}){i}(g:g8 (bF I cQ)=h (i,cap)){C}(aw:tq CT i=h C){aU}{res}(M:t_ aX (lc (ag.toList.map (bF I)++fg cap))=h cS)(X:dy aX k=h dj)(aq:C cS dj=h (res,aU,cq))(Z:ew dj=l)(av:ew aU=l)(y:fi aX=l)(Y:c aX<=c aU)(ao:U cq):aY J F all r I k (fk (aX++gZ (c k) (c aU-c aX)) res) (de aX aU k):=by
  obtain⟨al,W⟩:=NJ M;intro f b A t az ak ab ay aB D s u q;have S:=p i C aw _ _ _ _ _ aq ao;have T:=eH A cQ;unfold g8 at g;split at g
  case h_2=>cases g
  case h_1 vl u9 he=>
    cases g;rw[he]at T;have O:=b8 T;generalize G:b.eval cQ=ah at O;cases O with
    |fn m a x d ae j ai o ar B=>
      have R:m=[]:=jJ x;subst R;have an:b5 k f a (fg cap):=qj (λz aa w=>⟨j z,o z N,B z aa w⟩) d;have au:b5 k f (ag.toList.map b.eval++a) (gr aX cS):=by rw[al];exact u7 ((m_ (eH A) ag.toList).append an)
      obtain⟨fn,V,Q,K⟩:=S.1;exact GK s u (H _ _ _ A) t (λE=>(mR e V Q K G E).1) (λE=>(mR e V Q K G E).2) S au W X Z av y Y q
theorem aY.call{b:af P}{CT}(f:a_ b CT){E}(p:∀k j d,bY F k j I d->aP r (yielded all.toArray d.tmps)=l)(i:r.op=.call {callee:=.value cQ,args:=ag,argTypes:=dt})(a:B1 CT I k cQ ag.toList=h (E,ar,cq))(m:U cq):aY b F all r I k E ar:=by
  unfold B1 at a;split at a
  · cases a
  rename_i q e g;split at a
  · cases a
  rename_i s o;simp only at a;split at a
  · cases a
  grind[aY.gQ,Nat.le_of_ble_eq_true]
def Mk{f}(e:hX 0 f=l):fk [] f=f:=by
  have j:∀{a:R},l0 0 a=l->kB [] a=a:=by intro a d;cases a<;>simp[l0]at d<;>first|rfl|simp_all
  have p:∀{b:m R},lr 0 b=l->qP [] b=b:=by
    intro b;induction b with
    |nil=>exact cV
    |cons a q g=>
      intro e;simp[lr]at e;cases d:l0 0 a with
      |false=>grind
      |true=>simp[d]at e;simp[qP,j d,g e]
  have i:∀{a:E1},pn 0 a=l->pB [] a=a:=by
    intro a d;cases a with
    |Q a=>simp[pB,j d]
    |agg o=>simp[pB,p d]
  have k:∀{b:m E1},ow 0 b=l->tG [] b=b:=by
    intro b;induction b with
    |nil=>exact cV
    |cons a q g=>
      intro e;simp[ow]at e;cases d:pn 0 a with
      |false=>grind
      |true=>simp[d]at e;simp[tG,i d,g e]
  cases f with
  |n s=>simp[fk,i e]
  |S r=>simp[fk,k e]
  |any=>rfl
def B2(f:m (Nat×bH))(j:bL)(g:ae)(i:m ae):Option (y×m Prop):=
  match g8 (bF j g)with
  |none=>n
  |some (k,d)=>match tq f k with
    |none=>n
    |some o=>match t_ [] (lc (i.map (bF j)++fg d))with
      |none=>n
      |some a=>match o a []with
        |some (b,[],e)=>match hX 0 b with
          |true=>h (b,e)
          |false=>n
        |_=>n
theorem aY.iv{P:aD}{o:af P}{F}{all}{I}{k}{r}{CT}(g:a_ o CT){cQ}{ag}{dt}{E}{cq}(x:∀k y p,bY F k y I p->aP r (yielded all.toArray p.tmps)=l)(j:r.op=.call {callee:=.value cQ,args:=ag,argTypes:=dt})(b:AM.B2 CT I cQ ag.toList=h (E,cq))(t:U cq):aY o F all r I k E k:=by
  unfold AM.B2 at b;split at b
  · cases b
  rename_i z q i;split at b
  · cases b
  rename_i A u;split at b
  · cases b
  rename_i f e;split at b
  case h_2=>cases b
  rename_i s m d;split at b
  case h_2=>cases b
  rename_i w;cases b;have:=aY.gQ (k:=k) g x j i u e a d a a a (bC _) t;simpa[gZ,Mk w,de]using this
structure me(F:Nat)(k:m aq)(b:a6)(Gp:Nat->y)(x:Act):Prop where
 size:x.tmps.size=F
 defers:∃nH,ji k b x.defers nH
 aL:∀o,bx k b (x.tmps.getD o J) (Gp o)
def me.fj{e:Nat->y}{f}(d:me F k b e f)(i:∀a k b g,bx k b g (e a)->bx k b g (look I a)):bY F k b I f:=
 ⟨d.size,d.defers,λa=>i a _ _ _ (d.aL a)⟩
def eV(a:Edge):Bool:=Region.binds .any a
structure rb{P:aD}(q:af P)(F:Nat)(aR:Array an)(I:bL)(br:Nat->m aq)(E:Nat->y)(S:Nat->bL)(qw t:Nat->Bool)(A:Nat->Nat->Prop)(idx:Nat->Option Nat)(dE:bL):Prop where
 j9:P.follows Departure.mixedOrders=l
 cT:∀e r,aR[e]?=h r->∀ap∈r.after,eV ap=l->ap.on<e
 eY:∀e r O,aR[e]?=h r->r.dst=h O->idx O=h e/\O<F
 dO:∀O e,idx O=h e->∃r,aR[e]?=h r/\r.dst=h O
 aQ:∀e,t e=v->br (e+1)=br e
 Q:∀e r,aR[e]?=h r->qw e=v->aY q F aR.toList r (S e) (br e) (E e) (br (e+1))
 all:∀e r,aR[e]?=h r->qw e=l->t e=v/\∀f,aY q F aR.toList r (S e) (br f) (E e) (br f)
 fv:∀L:Nat->Prop,(∀e r,aR[e]?=h r->L e->∀ap∈r.after,eV ap=l->L ap.on)->∀e u,A e u->(L e->L u)/\∃r,aR[e]?=h r/\((∀ap∈r.after,eV ap=l->L ap.on)->L u)
 comp:∀e al,e<aR.size->al<aR.size->t al=l->e≠al->qw e=v->(al<e/\A e al)∨(e<al/\A al e)
 eX:∀e r,aR[e]?=h r->∀o k b aa,bx k b aa (match idx o with|some u=>(if ∃ap∈r.after,eV ap=l/\ap.on=u then E u else if ∃vS,aR[u]?=h vS/\∃ap∈vS.after,eV ap=l/\ap.on=e then look I o else .any)|none=>look I o)->bx k b aa (look (S e) o)
 fin:∀o k b aa,bx k b aa (match idx o with|some u=>E u|none=>look I o)->bx k b aa (look dE o)
open Classical in
noncomputable def gL(b:bL)(e:Nat->y)(idx:Nat->Option Nat)(L:Array Bool)(a:Nat):y:=
 match idx a with
 |some d=>if L.getD d v=l then e d else look b a
 |none=>look b a
theorem ps:e∈aN .any aR L↔∃g,aR[e]?=h g/\L.getD e l=v/\∀a∈g.after,eV a=l->L.getD a.on v=l:=by
 unfold aN;simp[hg,rr,cp,iT];constructor
 .rintro⟨b,C,i⟩;rw[iR b]at i;simp only[lK,h9,Array.all_eq_true',jK,iT]at i;refine⟨aR[e],iR b,C,λa d f=>?_⟩;rcases i a d with k|k
  .unfold eV at f;grind
  grind
 rintro⟨g,b,C,i⟩;have j:e<aR.size:=(jl.1 b).1;refine⟨j,C,?_⟩;rw[b];simp only[lK,h9,Array.all_eq_true',jK,iT];intro a d;cases f:Region.binds .any a with
 |false=>grind
 |true=>exact .inr (i a d f)
section
variable {q:af P}{dE:bL}{br:Nat->m aq}{E:Nat->y}{S:Nat->bL}{qw t:Nat->Bool}{A:Nat->Nat->Prop}{idx:Nat->Option Nat}
def rb.chain(j:rb q F aR I br E S qw t A idx dE){e}:∀{f:Nat},e<=f->(∀b,e<=b->b<f->t b=v)->br f=br e
 |0,g,_=>by grind
 |f+1,g,i=>by
  rcases dY f e with a|a
  .grind
  rw[j.aQ f (i f a w),j.chain (f:=f) a (λb d k=>i b d w)]
def rb.last(j:rb q F aR I br E S qw t A idx dE)(C:∀p,p<aR.size->L.getD p v=l){f}{e}{m}(k:f<=aR.size)(K:∀i,i<aR.size->t i=l->(L.getD i v=l↔i<f))(o:me F (br f) b (gL I E idx L) m)(a:bb (br f) b)(g:dh (br 0) e (br f) b):
  bY F (br aR.size) b dE m/\bb (br aR.size) b/\dh (br 0) e (br aR.size) b:=by
 have w:br aR.size=br f:=j.chain k (λD x y=>by grind);rw[<-w]at o a g;refine⟨o.fj λs u b B r=>j.fin s u b B ?_,a,g⟩;unfold gL at r;cases d:idx s with
 |none=>grind
 |some J=>
  simp only[d]at r⊢;obtain⟨M,z,_⟩:=j.dO _ _ d;grind
theorem mD(a:e<L.size):(L.setIfInBounds e l).getD u v=l↔u=e∨L.getD u v=l:=F1
theorem x0:∀{d:m Bool}{e:Nat},d[e]?=h v->c ((d.set e l).filter (λa=>!a))+1=c (d.filter (λa=>!a))
 |[],_,b=>by grind
 |a::f,0,b=>by grind
 |a::f,e+1,b=>by simp at b;have:=x0 (d:=f) b;cases a<;>simp[List.set_cons_succ]<;>omega
theorem Dy(o)(L):Region.linearise.go .any aR 0 o L []=[]:=by simp[Region.linearise.go]
theorem vJ(j o)(L):Region.linearise.go .any aR (j+1) o L []=match(aN .any aR L)[o % c (aN .any aR L)]? with
  |some a=>a::Region.linearise.go .any aR j (o / c (aN .any aR L)) (L.setIfInBounds a l) []
  |none=>[]:=by
 simp only[Region.linearise.go]
 change (match(aN .any aR L)[o % c (aN .any aR L)]? with
   |some a=>Region.linearise.go .any aR j (o / c (aN .any aR L)) (L.setIfInBounds a l) [a]
   |none=>[].reverse)=_
 grind[linearise_go_acc]
def rb.eR(s:rb q F aR I br E S qw t A idx dE){ab:ai->a6->Prop}{r:aG}{z}(J:r.kind≠.early){cI}(aK:∀b d,bY F (br aR.size) b dE d->bb (br aR.size) b->dh (br 0) cI (br aR.size) b->cj q ab (G (r.U d z) ah) b):
  ∀O L,L.size=aR.size->c (L.toList.filter (λr=>!r))<=O ->
   (∀e B,aR[e]?=h B->L.getD e v=l->∀m∈B.after,eV m=l->L.getD m.on v=l) ->
   ∀j b d,j<=aR.size->(∀f,f<aR.size->t f=l->(L.getD f v=l↔f<j))->me F (br j) b (gL I E idx L) d->bb (br j) b->dh (br 0) cI (br j) b ->
   ∀k,cj q ab (G (r.U d (.inRegion aR (Region.linearise.go .any aR O k L [])::z)) ah) b:=by
 have fin:∀b d,bY F (br aR.size) b dE d->bb (br aR.size) b->dh (br 0) cI (br aR.size) b->cj q ab (G (r.U d (.inRegion aR []::z)) ah) b:=
  λb d kI kf Gq=>.ctl kf a (λ_=>wh) λaX aF=>aK aX d (kI.rely aF kf) (kf.rely aF) (Gq.trans aF.aT)
 intro O;induction O with
 |zero=>
  intro L aT aO K j b d b3 Dg ou bQ b_;have R:∀e,e<aR.size->L.getD e v=l:=by
   intro e u;have av:L[e]'w∈L.toList:=D;cases J:L[e]'w with
   |true=>simp[hF,iR (by omega:e<L.size),J]
   |false=>
    have:L[e]'w∈L.toList.filter (λr=>!r):=hg.2 ⟨av,by grind⟩;grind
  intro k;rw[Dy];exact OU
 |succ O aU=>
  intro L aT aO K j b d b3 Dg ou bQ b_;intro k;rw[vJ];cases ba:(aN .any aR L)[k % c (aN .any aR L)]? with
  |none=>
   have aS:aN .any aR L=[]:=by
    cases aS:aN .any aR L with
    |nil=>rfl
    |cons bd bc=>
     grind[Nat.mod_lt]
   have R:∀e,e<aR.size->L.getD e v=l:=by
    intro e;induction e using Nat.strongRecOn with
    |_ e a8=>
     intro u;cases J:L.getD e v with
     |true=>rfl
     |false=>
      have av:e∈aN .any aR L:=ps.2 ⟨aR[e],iR u,by
       grind,λm X af=>by
       have:=s.cT e _ (iR u) m X af
       grind⟩
      grind
   exact OU
  |some e=>
   have u:=b' ba;obtain⟨B,x,a5,aP⟩:=ps.1 u;have aE:e<aR.size:=(jl.1 x).1;have H:¬L.getD e v=l:=N;have T:=s.fv (λV=>L.getD V v=l) K;have aC:∀i,A i e->¬L.getD i v=l:=λi an aJ=>H ((T i e an).1 aJ);have a7:∀i,A e i->L.getD i v=l:=λi an=>by grind
   have M:(L.setIfInBounds e l).size=aR.size:=N;have a9:c ((L.setIfInBounds e l).toList.filter (λr=>!r))<=O:=by have g:L.toList[e]?=h v:=Rq;grind[x0]
   have a':∀V aB,aR[V]?=h aB->(L.setIfInBounds e l).getD V v=l->∀m∈aB.after,eV m=l->(L.setIfInBounds e l).getD m.on v=l:=wQ
   have al:bY F (br j) b (S e) d:=ou.fj λk a_ b Z Y=>s.eX e B x k a_ b Z (by
    unfold gL at Y;cases bm:idx k with
    |none=>grind
    |some V=>
     simp only[bm]at Y⊢;split
     .grind
     .split
      .grind
      .trivial)
   have aM:∀C o Z,dh (br j) b C o->bx C o Z (E e)->me F C o (gL I E idx (L.setIfInBounds e l)) (d.put B.dst Z):=by
    intro C o Z W Y;cases aL:B.dst with
    |none=>
     refine⟨ou.size,ou.defers.imp λ_ g=>g.mono W.ext,λk=>?_⟩;have p:=(ou.aL k).mono W.ext bQ.len;simp only[Act.put];unfold gL at p⊢;cases bm:idx k with
     |none=>grind
     |some V=>
      exact Pm
    |some aI=>
     obtain⟨ar,a4⟩:=s.eY e B aI x aL;refine⟨by simp[Act.put,ou.size],ou.defers.imp λ_ g=>g.mono W.ext,λk=>?_⟩;simp only[Act.put];by_cases m:aI=k
     .subst m;have ay:aI<d.tmps.size:=by rw[ou.size];omega
      simp only[hF,uQ ay,h9];unfold gL;simp only[ar];rw[bo ((mD w).2 (.inl a))];exact Y
     have p:=(ou.aL k).mono W.ext bQ.len;simp only[hF]at p⊢;rw[sN m];unfold gL at p⊢;cases bm:idx k with
     |none=>grind
     |some V=>
      exact Pm
   have aZ:∀y,y<=aR.size->aY q F aR.toList B (S e) (br j) (E e) (br y)->(∀f,f<aR.size->t f=l->((L.setIfInBounds e l).getD f v=l↔f<y)) ->
     cj q ab (G (r.U d (.inRegion aR (e::Region.linearise.go .any aR O (k / c (aN .any aR L)) (L.setIfInBounds e l) [])::z)) ah) b:=by intro y au aw U;have:=aw b d al bQ r z ah ab e (Region.linearise.go .any aR O (k / c (aN .any aR L)) (L.setIfInBounds e l) []) J N;simp only[w8]at this;exact this λZ o Y aq W=>aU _ M a9 a' y o _ au U (aM _ _ _ W Y) aq (b_.trans W) _
   have same:t e=v->∀f,f<aR.size->t f=l->((L.setIfInBounds e l).getD f v=l↔f<j):=wQ;cases az:qw e with
   |true=>
    obtain⟨aQ,Q⟩:=s.all e B x az;exact aZ j b3 (Q j) (same aQ)
   |false=>
    have aD:=s.Q e B x az;have a2:br e=br j:=by
     rcases Nat.le_total j e with aH|aH
     .refine s.chain aH λi g ae=>?_;cases X:t i with
      |false=>rfl
      |true=>
       exfalso;rcases s.comp e i aE w X w az with⟨_,aa⟩|⟨aa,_⟩
       .grind
       omega
     refine(s.chain aH λi g ae=>?_).symm;cases X:t i with
     |false=>rfl
     |true=>
      exfalso;have a3:=(Dg i w X).2 ae;by_cases ao:i=e
      .grind
      rcases s.comp e i aE w X (λm=>ao m.symm) az with⟨aa,_⟩|⟨_,aa⟩
      .omega
      grind
    rw[a2]at aD;cases a0:t e with
    |false=>
     rw[s.aQ e a0,a2]at aD;exact aZ j b3 aD (same a0)
    |true=>
     refine aZ (e+1) w aD λf ag ak=>?_;rw[mD w];by_cases a1:f=e
     .grind
     simp only[a1,false_or];rcases s.comp e f aE ag ak (λm=>a1 m.symm) az with⟨g,aa⟩|⟨g,aa⟩
     .grind
     grind
end
def w0(P:aD):m TypeDesc->m Field->Nat->Prop
 |[],[],_=>True
 |e::a,b::d,f=>b.name≠ "_"/\b.offset=f/\P.underlying b.type=h e/\(match e with|.int _|.string|.bool=>True|_=>False)/\w0 P a d (f+1)
 |_,_,_=>False
def vg(f:Nat)(b d:Array X)(a:Field)(_:Option Bool×Unit):Sem (ForInStep (Option Bool×Unit)):=
 if a.name= "_" then pure (ForInStep.yield (n,()))
 else do
  let e<-part a.type b a.offset;let i<-part a.type d a.offset;let g<-aL f a.type e i
  if g=v then pure (ForInStep.done (h v,()))else pure (ForInStep.yield (n,()))
def Mu{P}(p)(u)(ag e):∀{g:m TypeDesc}{s:m Field}{f:Nat}{z x:m X}{j:Bool},w0 P g s f->nm g z x=h j->(∀o d,z[o]?=h d->ag[f+o]?=h d)->(∀o d,x[o]?=h d->e[f+o]?=h d) ->
  (Op.eqFields (u+1) ag e s).run P p=.ok j p/\∀b,(forIn s (n,()) (vg (u+1) ag e)).events P p b=b
 |[],[],f,[],[],j,_,i,_,_=>by cases i;simp[Op.eqFields]
 |[],[],f,_::_,_,j,_,i,_,_=>by cases i
 |[],[],f,[],_::_,j,_,i,_,_=>by cases i
 |[],_::_,f,_,_,j,I,_,_,_=>I.elim
 |_::_,[],f,_,_,j,I,_,_,_=>I.elim
 |B::g,k::s,f,[],_,j,_,i,_,_=>by cases i
 |B::g,k::s,f,_::_,[],j,_,i,_,_=>by cases i
 |B::g,k::s,f,d::z,q::K,j,⟨O,U,J,V,G⟩,i,y,M=>by
  simp[nm]at i;cases w:rL B d q with
  |none=>grind
  |some C=>
   cases R:nm g z K with
   |none=>grind
   |some W=>
    simp[w,R]at i;subst i;obtain⟨aa,Z⟩:=Mu p u ag e G R (λo d H=>by have:=y (o+1) d N;grind) (λo d H=>by have:=M (o+1) d N;grind);have E:ag[f]?=h d:=by simpa using y 0 d a
    have D:e[f]?=h q:=by simpa using M 0 q a
    have S:(isAgg k.type).run P p=.ok v p:=by unfold isAgg underlying;cases B<;>simp at V<;>simp[J]
    have A:∀r t,r[f]?=h t->(part k.type r k.offset).run P p=.ok t p:=by intro r t F;unfold part;simp[S,U,F]
    have T:∀r t,r[f]?=h t->∀b,(part k.type r k.offset).events P p b=b:=by intro r t F b;unfold part;simp[S,U,F]
    have Y:∀b,(aL (u+1) k.type d q).events P p b=b:=by
     intro b;unfold rL at w;split at w<;>first
      |(cases w;done)
      |(unfold aL;simp[underlying,J];done)
      |(unfold aL;simp[underlying,J];split<;>rfl)
    have Q:(aL (u+1) k.type d q).run P p=.ok C p:=by unfold rL at w;grind[run_equalIn_int,run_equalIn_string,run_equalIn_bool]
    refine⟨?_,λb=>?_⟩
    .rw[Op.eqFields.eq_2,bo O];simp[cL,A ag d E,A e q D,Q,c'];cases C
     .simp
     grind
    rw[List.forIn_cons];simp[vg,O,dn,aC,cL,A ag d E,A e q D,Q,c',aF,T ag d E,T e q D,Y];cases C
    .simp
    simpa using Z b
def Y'{e:m Field}{bh}(i:P.underlying o=h (.struct e.toArray))(k:P.stoodInHeld o=v)(u:P.eqGuardType P.depth o=v)(p:w0 P bh e 0):
  P.eqGuardType P.depth o=v/\∀d z b f,nm bh z b=h f->(Op.equal o (.agg z.toArray) (.agg b.toArray)).run P d=.ok f d/\∀a,(Op.equal o (.agg z.toArray) (.agg b.toArray)).events P d a=a:=by
 refine⟨u,λd z b f r=>?_⟩;have y:P.fieldsOf o=e.toArray:=by unfold Program.fieldsOf;rw[i]
 have key:=Mu d 9998 z.toArray b.toArray p r (λt x q=>by grind) (λt x q=>by grind);refine⟨?_,λa=>?_⟩
 rotate_left
 .show (aL (9999+1) o _ _).events P d a=a;have s:=key.2 a;unfold aL;simp[underlying,i,k];show Result.evThen ((forIn e (n,()) (vg 9999 z.toArray b.toArray)).run P d) ((forIn e (n,()) (vg (9998+1) z.toArray b.toArray)).events P d a) _=a;rw[s];cases(forIn e (n,()) (vg 9999 z.toArray b.toArray)).run P d with
  |ok j g=>obtain⟨w,_⟩:=j;cases w<;>rfl
  |halt A g=>rfl
 show(aL (9999+1) o _ _).run P d=_;grind[run_equalIn_agg]
def qn:m TypeDesc->m R->m R->Option Bool
 |[],[],[]=>h l
 |.int _::b,.c (.int j e)::a,.c (.int i f)::d=>match tj j i with
  |true=>match qn b a d with
   |some g=>h ((e==f)&&g)
   |none=>n
  |false=>n
 |.string::b,.c (.T e)::a,.c (.T f)::d=>match qn b a d with
  |some g=>h ((e==f)&&g)
  |none=>n
 |.bool::b,.c (.bool e)::a,.c (.bool f)::d=>match qn b a d with
  |some g=>h ((e==f)&&g)
  |none=>n
 |_,_,_=>n
def Cw:∀{i:m TypeDesc}{g j:m R}{A:Bool}{z a:m X},qn i g j=h A->bN k b z g->bN k b a j->nm i z a=h A:=by
 intro i;induction i with
 |nil=>
  intro g j A z a o r q;cases g<;>cases j<;>simp only[qn,reduceCtorEq]at o
  cases z<;>cases a<;>first|exact r.elim|exact q.elim|exact cV
 |cons J i s=>
  intro g j A z a o r q;unfold qn at o;split at o
  .grind
  .rename_i d u f t B I e dK heq;cases heq;split at o
   .rename_i b3;cases Dq b3;split at o
    .rename_i D C;cases o;cases z with
     |nil=>exact r.elim
     |cons x z=>cases a with
      |nil=>exact q.elim
      |cons y a=>
       obtain⟨p,w⟩:=r;obtain⟨w1,w2⟩:=q;cases(show Rd b.D x (.int f t)from p);cases(show Rd b.D y (.int f e)from w1);simp[nm,rL,s C w w2]
    grind
   grind
  .rename_i u t B e dK heq;cases heq;split at o
   .rename_i D C;cases o;cases z with
    |nil=>exact r.elim
    |cons x z=>cases a with
     |nil=>exact q.elim
     |cons y a=>
      obtain⟨p,w⟩:=r;obtain⟨w1,w2⟩:=q;cases(show Rd b.D x (.T t)from p)with
      |T E _=>
      cases(show Rd b.D y (.T e)from w1)with
      |T F _=>
      simp[nm,rL,s C w w2];grind[ByteArray.toList_eq]
   grind
  .rename_i u t B e dK heq;cases heq;split at o
   .rename_i D C;cases o;cases z with
    |nil=>exact r.elim
    |cons x z=>cases a with
     |nil=>exact q.elim
     |cons y a=>
      obtain⟨p,w⟩:=r;obtain⟨w1,w2⟩:=q;cases(show Rd b.D x (.bool t)from p);cases(show Rd b.D y (.bool e)from w1);simp[nm,rL,s C w w2]
   grind
  grind
section
variable {ac:m (Nat×cr)}
def ih:BinOp->Bool->Option Bool
 |.eql,a=>h a
 |.neq,a=>h (!a)
 |_,_=>n
def GV{E bv}{i t}(O:match E,bv with|.agg _,.agg _=>True|.bool _,.bool _=>True|_,_=>False)(x:(Op.equal o E bv).run P p=.ok i p)(s:ih op i=h t):
  (binOp op o E bv).run P p=.ok (.bool t) p:=by
 cases op<;>simp[ih,reduceCtorEq,e_]at s
 .exact Q9
 exact Q9
def IV{E bv}{i t}(b:match E,bv with|.agg _,.agg _=>True|.bool _,.bool _=>True|_,_=>False)(e:(Op.equal o E bv).run P p=.ok i p)(a:∀V,(Op.equal o E bv).events P p V=V)(d:ih op i=h t)(V):
  (binOp op o E bv).events P p V=V:=by cases op<;>simp[ih,reduceCtorEq,e_]at d<;>(cases E<;>cases bv<;>simp only at b<;>simp[binOp,a])
def Vm(op)(o)(d e)(ag a)(p)(b:P.eqGuardType P.depth o=v)(V):(eqGuard op o d e (.agg ag) (.agg a)).events P p V=V:=by cases op<;>simp[eqGuard,b]
theorem a2.j1(aZ:bZ P ac){E bv:ae}(w:r.op=.binOp op o E bv ty){e}(p:bX ac o=h e)(F:e.eq≠[]){ah V}{i t}(J:η E=.n (.agg ah))(I:η bv=.n (.agg V))(q:qn e.eq ah V=h i)(A:ih op i=h t):a2 P r η k (ay (.bool t)) k:=by refine .aQ λa K D f=>?_;have b:=f E;have d:=f bv;rw[J]at b;rw[I]at d;obtain⟨z,y,m⟩:=b;obtain⟨g,x,j⟩:=d;obtain⟨s,heq⟩:=(aZ o e p).iI F;have u:=GV (E:=.agg z.toArray) (bv:=.agg g.toArray) B (heq a.a z g i (Cw q m j)).1 A;have C:=IV (E:=.agg z.toArray) (bv:=.agg g.toArray) B (heq a.a z g i (Cw q m j)).1 (heq a.a z g i (Cw q m j)).2 A;refine⟨.bool t,?_,Rd.bool,by simp[ab,w,y,x,aC,run_eqGuard_agg a.a op o E bv _ _ s,Vm op o E bv _ _ a.a s,aF,cL,c',u,C,Sem.events_pure]⟩;simp[ab,w,y,x,cL,run_eqGuard_agg a.a op o E bv _ _ s,c',u,d_]
theorem a2.ir(aZ:bZ P ac){E bv:ae}(x:r.op=.binOp op o E bv ty){e}(q:bX ac o=h e)(F:e.desc=.bool){f i t}(J:η E=ay (.bool f))(I:η bv=ay (.bool i))(z:ih op (f==i)=h t):a2 P r η k (ay (.bool t)) k:=by
 refine .aQ λg m C j=>?_;have b:=j E;have d:=j bv;rw[J]at b;rw[I]at d;replace b:=b8 b;replace d:=b8 d;generalize w:m E=K at b;generalize y:m bv=M at d;cases b;cases d;have s:P.underlying o=h .bool:=by rw[(aZ o e q).et,F]
 have u:=GV (P:=P) (p:=g.a) (E:=.bool f) (bv:=.bool i) B (run_equal_bool g.a o f i s) z;have D:∀a,(Op.equal o (.bool f) (.bool i)).events P g.a a=a:=λa=>by show(aL (9999+1) o _ _).events P g.a a=a;unfold aL;simp[underlying,s]
 have A:=IV (P:=P) (p:=g.a) (E:=.bool f) (bv:=.bool i) B (run_equal_bool g.a o f i s) D z;refine⟨.bool t,?_,Rd.bool,by simp[ab,x,w,y,aC,eqGuard_at_bool,Sem.events_pure,d_,aF,cL,c',u,A]⟩;simp[ab,x,w,y,cL,eqGuard_at_bool,d_,c',u]
def a2.j7{m p:ae}(t:r.op=.binOp .xor o m p ty){a i}(C:η m=ay (.int .i64 a))(B:η p=ay (.int .i64 i))(J:0<=a)(x:0<=i):
  a2 P r η k (ay (.int .i64 ((a.toNat ^^^ i.toNat:Nat):Int))) k:=by
 refine .aQ λu j y g=>?_;have b:=g m;have d:=g p;rw[C]at b;rw[B]at d;replace b:=b8 b;replace d:=b8 d;generalize q:j m=D at b;generalize s:j p=E at d;cases b with|int e=>
 cases d with|int f=>
 have I:a.toNat ^^^ i.toNat<2 ^ 63:=by apply Nat.xor_lt_two_pow<;>simp[a7]at e f<;>omega
 have z:a7 .i64 ((a.toNat ^^^ i.toNat:Nat):Int):=cV;refine⟨.int .i64 ((a.toNat ^^^ i.toNat:Nat):Int),?_,.int z,?_⟩
 rotate_left
 .simp only[ab,t,q,s,aC,qo,yj,aF,Go.binOp,d',hG,dn,Op.intBits,cL,c',d_,Sem.events_pure]
 have w:((BitVec.ofInt 64 a) ^^^ (BitVec.ofInt 64 i)).toNat=a.toNat ^^^ i.toNat:=by rw[BitVec.toNat_xor,BitVec.toNat_ofInt,BitVec.toNat_ofInt];simp[a7]at e f;congr 1<;>omega
 have F:(BitVec.ofInt IntKind.i64.bits a ^^^ BitVec.ofInt IntKind.i64.bits i).toNat=a.toNat ^^^ i.toNat:=w;have A:(Go.binOp .xor o (.int .i64 a) (.int .i64 i)).run P u.a=.ok (.int .i64 ((a.toNat ^^^ i.toNat:Nat):Int)) u.a:=by simp only[Go.binOp,d',hG,dn,Op.intBits,d_];grind[sf]
 simp only[ab,t,q,s,cL,qo,c',A,d_]
def a2.iB(aZ:bZ P ac){e dst:ak}{m:ae}(U:r.op=.convert e dst m){O S g:cr}(I:bX ac e=h O)(R:bX ac dst=h S)(aa:O.desc=.slice W)(ao:S.desc=.string)(L:bX ac W=h g)(ar:g.desc=.int .u8){eQ}{u}(af:∀d T,bx k d T (η m)->Rd d.D T (.B eQ 1 j V))(F:u3 V 0 j=h u):a2 P r η k (ay (.T u)) k:=by
 refine .dr λd au s K=>?_;have f:=af d _ (K m);obtain⟨z,H,i⟩:=oJ (P:=P) s f;obtain⟨B,o,aB,t,av,az,_⟩:=f.b0;have G:j<=9223372036854775807:=w;have aq:c z=j:=by rw[H.len];omega
 obtain⟨x,D,ah⟩:=G' (bB:=d.D) (z:=z) F aq (λal J ag aD=>by
  obtain⟨T,aM,an⟩:=H.rd al J 0 ag N
  grind)
 have y:=(aZ e O I).run_underlying (p:=d.a);have E:=(aZ dst S R).run_underlying (p:=d.a);have Q:=(aZ W g L).run_underlying (p:=d.a);rw[aa]at y;rw[ao]at E;rw[ar]at Q;have Z:c u<=9223372036854775807:=N;have ai:∃A:ByteArray,(Conv.bytesToString (.slice B j o)).run P d.a=.ok (.string A) d.a/\A.data.toList=u:=by
  cases B with
  |none=>
   have aw:u=[]:=by
    have:z=[]:=by rw[t]at i;have b:=i.1;simp[Builtin.firstCells]at b;grind
    grind
   exact⟨ByteArray.empty,by simp[Conv.bytesToString],by exact bw⟩
  |some C=>
   rw[t]at i;have b:=i.1;simp[Builtin.firstCells,Nat.mul_one]at b;refine⟨⟨#[]++(x.map λm=>UInt8.ofNat m.toNat).toArray⟩,?_,by grind⟩;simp only[Conv.bytesToString,cL,b,c',D];rw[List.forIn_toArray,Mv (P:=P) d.a (λ_ _=>rfl) x ByteArray.empty];rfl
 obtain⟨A,Y,M⟩:=ai;refine⟨.string A,?_,Rd.T M Z,?_⟩
 rotate_left
 .intro aE q;simp only[ab,U,t,aC,convert,y,E,aF,c',Q,Y,cL,events_underlying,Sem.events_pure]at q;cases B with
  |none=>simp[Conv.bytesToString]at q
  |some C=>
   have X:=s7 (P:=P) s (f.cA (λ_ _=>rfl)) (p:=d.a) a;rw[t]at i X;have b:=i.1;simp only[Builtin.firstCells,Nat.mul_one]at b X;unfold Conv.bytesToString at q;simp only at q;rw[aC,b,aF,dA.bind (P:=P) ?_ λ_=>.pure]at q
   .grind [tF]
   rw[List.forIn_toArray];refine dA.g8 (λm d=>?_) _ _;split
   .exact .pure
   exact .bind .stuck λ_=>.pure
 simp only[ab,U,t,cL,convert,y,E,c',Q,Y,d_]
end
def rH(a:ae->y):m ae->Option (m M)
 |[]=>h []
 |f::e=>match a f with
  |.n (.Q (.c b))=>match rH a e with
   |some d=>h (b::d)
   |none=>n
  |_=>n
def B'{k}{b}{e:ae->X}{i:ae->y}(p:∀s,bx k b (e s) (i s)):∀{d:m ae}{a:m M},rH i d=h a->c d=c a/\∀(g:Nat)j,a[g]?=h j->∃q,(d.map e)[g]?=h q/\Rd b.D q j
 |[],a,f=>by cases f;grind
 |r::B,a,f=>by
  simp[rH]at f;split at f
  .rename_i j u;split at f
   .rename_i A t;cases f;obtain⟨x,w⟩:=B' p t;refine⟨by grind,λg z o=>?_⟩;cases g with
    |zero=>
     simp at o;subst o;have:=p r;rw[u]at this;exact⟨e r,by simp,b8 this⟩
    |succ g=>grind
   grind
  grind
section
variable {ac:m (Nat×cr)}
theorem a2.makeFunc{fn}{b i}(m:r.op=.makeFunc fn b i){j g}(q:rH η b.toList=h j)(e:rH η i.toList=h g):a2 P r η k (ay (.fn fn j g)) k:=by
 refine .aQ λy a s d=>?_;obtain⟨o,p⟩:=B' d q;obtain⟨w,x⟩:=B' d e;have t:b.map a=(b.toList.map a).toArray:=N;have u:i.map a=(i.toList.map a).toArray:=N;refine⟨.func fn (b.toList.map a).toArray (i.toList.map a).toArray,?_,?_,by simp only[ab,m,Instr.makeFunc];rfl⟩
 .simp only[ab,m,Instr.makeFunc,t,u];rfl
 refine Rd.fn _ _ N N (λf=>((b.toList.map a)[f]?).getD J) (λf=>((i.toList.map a)[f]?).getD J) N N N ?_;grind
def vD:TypeDesc->Bool
 |.interface _=>l
 |_=>v
def y1(b:ak):y->Option M
 |.n (.Q (.c d))=>h (.cg b d)
 |.n (.agg a)=>match h' a with
  |some e=>h (.cE b e)
  |none=>n
 |_=>n
def aay{f}{t}(a:y1 o f=h t)(d:bx k b aa f):Rd b.D (.iface o aa) t:=by
 unfold y1 at a;split at a
 .cases a;exact Rd.cg (b8 d) (b8 d).cell
 .split at a
  .rename_i q g;cases a;obtain⟨z,rfl,j⟩:=d;have e:=rI g j;refine Rd.cE (by have:=e.cL;grind) (λu=>(z[u]?).getD J) (λu i=>by grind) λu t i=>?_;obtain⟨aa,p,m⟩:=e.get (u:=u) (x:=.c t) N;rw[p];exact m
  grind
 grind
theorem a2.makeInterface(aZ:bZ P ac){o}{b}(m:r.op=.makeInterface o b){e}(f:bX ac o=h e)(a:vD e.desc=v){t}(q:y1 o (η b)=h t):a2 P r η k (ay t) k:=by
 refine .aQ λu i s g=>?_;have j:=(aZ o e f).run_underlying (p:=u.a);refine⟨.iface o (i b),?_,aay q (g b),?_⟩
 rotate_left
 .simp only[ab,m,Instr.makeInterface,aC,cL,j,aF,c',events_underlying];cases d:e.desc<;>rw[d]at a<;>first|(cases a;done)|simp
 simp[ab,m,Instr.makeInterface,cL,j,c'];cases d:e.desc<;>rw[d]at a<;>first|(cases a;done)|simp
def uc(a:cr):Option E1:=match a.agg with
 |true=>h (.agg (a.zero.map R.c))
 |false=>n
def ae6{e}(p:eL P o e){j}(f:uc e=h j):∃a,(zeroValue o).run P b.a=.ok a b.a/\eB k b a j:=by
 obtain⟨a,u,i⟩:=p.hL k b;refine⟨a,u,?_⟩;obtain⟨w,m,t,x,A,s,y,⟨g,d⟩,z⟩:=p.cK;have q:m=a:=by
  have:(zeroValue o).run P b.a=.ok m b.a:=by simp[zeroValue,typeInfo,t,s]
  grind
 subst q;unfold uc at f;cases r:e.agg with
 |true=>
  rw[r]at f d;simp[dw]at d;cases f;rw[d]at i⊢;exact⟨g.toList,by simp,by simpa[Value.cells]using i⟩
 |false=>grind
def sP(f:ak)(e:cr):M->Option (E1×Bool)
 |.cg a g=>match ad a f with
  |true=>h (.Q (.c g),l)
  |false=>match uc e with
   |some b=>h (b,v)
   |none=>n
 |.cE a d=>match ad a f with
  |true=>h (.agg (d.map R.c),l)
  |false=>match uc e with
   |some b=>h (b,v)
   |none=>n
 |.bD=>match uc e with
  |some b=>h (b,v)
  |none=>n
 |_=>n
theorem a2.typeAssert(aZ:bZ P ac){T}{Q o}(aa:r.op=.typeAssert T Q o l){e}(M:bX ac o=h e)(y:vD e.desc=v){t}(H:η T=ay t){x}{i}(g:sP o e t=h (x,i)):
  a2 P r η k (.S [x,.Q (.c (.bool i))]) k:=by
 refine .aQ λb w ah V=>?_;have j:=V T;rw[H]at j;replace j:=b8 j;generalize af:w T=A at j;have F:=(aZ o e M).run_underlying (p:=b.a);have key:∀q i,(Instr.typeAssert A Q o l).run P b.a=.ok (.tuple #[q,.bool i]) b.a->eB k b q x->(Instr.typeAssert A Q o l).events P b.a #[]=#[]->∃q,(ab w r).run P b.a=.ok (.value q) b.a/\bx k b q (.S [x,.Q (.c (.bool i))])/\(ab w r).events P b.a #[]=#[]:=by intro q i j C m;refine⟨.tuple #[q,.bool i],?_,⟨[q,.bool i],a,C,Rd.bool,B⟩,by simp[ab,aa,af,aC,j,m,aF,Sem.events_pure]⟩;simp[ab,aa,af,cL,j,c',d_]
 have fail:∀I,uc e=h I->(∀J,(zeroValue o).run P b.a=.ok J b.a->(Instr.typeAssert A Q o l).run P b.a=.ok (.tuple #[J,.bool v]) b.a/\(Instr.typeAssert A Q o l).events P b.a #[]=#[])->x=I->i=v->∃q,(ab w r).run P b.a=.ok (.value q) b.a/\bx k b q (.S [x,.Q (.c (.bool i))])/\(ab w r).events P b.a #[]=#[]:=by intro I D al ak f;subst ak f;obtain⟨J,m,ao⟩:=ae6 (k:=k) (aZ o e M) (b:=b) D;grind
 have E:∀ae,e.desc≠.interface ae:=by intro ae x;rw[x]at y;cases y
 cases j with
 |@cg u q t C ag=>
  simp[sP]at g;cases f:ad u o with
  |true=>
   rw[f]at g;cases g;have U:=dp f;subst U;refine key q l ?_ C ?_<;>
   .unfold Instr.typeAssert;simp only[cL,F,c',aC,aF,events_underlying];cases s:e.desc<;>first|(exact absurd s (E _))|simp
  |false=>
   rw[f]at g;have X:u≠o:=λx=>by grind[Nat.beq_refl]
   simp only at g;split at g
   .rename_i I D;cases g;refine fail _ D (λJ m=>⟨?_,?_⟩) a a<;>
    .unfold Instr.typeAssert;simp only[cL,F,c',aC,aF,events_underlying];cases s:e.desc<;>first|(exact absurd s (E _))|simp[X,m]
   grind
 |@cE u z d O aq an G=>
  simp only[sP]at g;cases f:ad u o with
  |true=>
   rw[f]at g;cases g;have U:=dp f;subst U;refine key (.agg z.toArray) l ?_ ⟨z,a,?_⟩ ?_
   rotate_left 2
   .unfold Instr.typeAssert;simp only[F,aC,aF,events_underlying];cases s:e.desc<;>first|(exact absurd s (E _))|simp
   .unfold Instr.typeAssert;simp only[cL,F,c'];cases s:e.desc<;>first|(exact absurd s (E _))|simp
   have go:∀z d,c z=c d->(∀(S:Nat) t,d[S]?=h t->∃q,z[S]?=h q/\Rd b.D q t)->bN k b z (d.map R.c):=by
    intro z;induction z with
    |nil=>intro d O _;cases d with|nil=>trivial|cons _ _=>grind
    |cons q z W=>
     intro d O K;cases d with
     |nil=>grind
     |cons t d=>
      obtain⟨ar,Z,Y⟩:=K 0 t rfl;simp at Z;subst Z;exact⟨Y,W d N (λS t ai=>by simpa using K (S+1) t N)⟩
   grind
  |false=>
   rw[f]at g;have X:u≠o:=λx=>by grind[Nat.beq_refl]
   simp only at g;split at g
   .rename_i I D;cases g;refine fail _ D (λJ m=>⟨?_,?_⟩) a a<;>
    .unfold Instr.typeAssert;simp only[cL,F,c',aC,aF,events_underlying];cases s:e.desc<;>first|(exact absurd s (E _))|simp[X,m]
   grind
 |bD=>
  simp only[sP]at g;split at g
  .rename_i I D;cases g;refine fail _ D (λJ m=>⟨?_,?_⟩) a a<;>
   .unfold Instr.typeAssert;simp only[cL,F,c',aC,aF,events_underlying];cases s:e.desc<;>first|(exact absurd s (E _))|simp[m]
  grind
 |_=>simp[sP]at g
end
def uY(e:BinOp)(f:IntKind)(d:Int)(b:IntKind)(a:Int):Option (Int×m Prop):=
 match f with
 |.u64=>match e with
  |.shl=>h (((d.toNat*2 ^ a.toNat % 18446744073709551616:Nat):Int),[0<=a,a<=64])
  |.shr=>h (((d.toNat / 2 ^ a.toNat:Nat):Int),[0<=a,a<=64])
  |.and=>match b with|.u64=>h (((d.toNat &&& a.toNat:Nat):Int),[])|_=>n
  |.xor=>match b with|.u64=>h (((d.toNat ^^^ a.toNat:Nat):Int),[])|_=>n
  |_=>n
 |_=>n
section
variable {ac:m (Nat×cr)}
theorem GY{a}(b:a7 .u64 a):(BitVec.ofInt IntKind.u64.bits a).toNat=a.toNat:=by rw[BitVec.toNat_ofInt];simp[a7]at b;simp[IntKind.bits];omega
def abT{f d}{a i t}(o)(b:uY op f a d i=h (t,cq))(e:U cq)(g:a7 f a)(q:a7 d i)(p):
  a7 f t/\(Go.binOp op o (.int f a) (.int d i)).run P p=.ok (.int f t) p/\(Go.binOp op o (.int f a) (.int d i)).events P p #[]=#[]:=by
 unfold uY at b;split at b
 .split at b
  .cases b;obtain⟨m,k⟩:0<=i/\i<=64:=e;have x:a.toNat*2 ^ i.toNat % 18446744073709551616<18446744073709551616:=p7 _ ca;simp[a7]at g;refine⟨by simp[a7];omega,?_⟩;have s:IntKind.wrap .u64 (a*2 ^ (min i.toNat IntKind.u64.bits))=((a.toNat*2 ^ i.toNat % 18446744073709551616:Nat):Int):=by have j:min i.toNat IntKind.u64.bits=i.toNat:=Sd;have r:a=(a.toNat:Int):=w;rw[j,r];simp only[IntKind.wrap,IntKind.bits,IntKind.signed,cR];grind
   exact Qc
  .cases b;obtain⟨m,k⟩:0<=i/\i<=64:=e;simp[a7]at g;have u:a.toNat / 2 ^ i.toNat<=a.toNat:=Nat.div_le_self _ _;refine⟨by simp[a7];grind,?_⟩;have s:a.fdiv (2 ^ (min i.toNat IntKind.u64.bits))=((a.toNat / 2 ^ i.toNat:Nat):Int):=by have j:min i.toNat IntKind.u64.bits=i.toNat:=Sd;grind
   exact Qc
  .split at b
   .cases b;have k:a.toNat &&& i.toNat<=a.toNat:=Nat.and_le_left;have O:a7 .u64 ((a.toNat &&& i.toNat:Nat):Int):=by simp[a7]at g⊢;omega
    refine⟨O,?_⟩;have ap:(BitVec.ofInt IntKind.u64.bits a &&& BitVec.ofInt IntKind.u64.bits i).toNat=a.toNat &&& i.toNat:=by grind[GY]
    exact Pl
   grind
  .split at b
   .cases b;have O:a7 .u64 ((a.toNat ^^^ i.toNat:Nat):Int):=by simp[a7]at g q⊢;have:a.toNat ^^^ i.toNat<2 ^ 64:=Nat.xor_lt_two_pow w w;omega
    refine⟨O,?_⟩;have ap:(BitVec.ofInt IntKind.u64.bits a ^^^ BitVec.ofInt IntKind.u64.bits i).toNat=a.toNat ^^^ i.toNat:=by grind[GY]
    exact Pl
   grind
  grind
 grind
theorem a2.bits{j m:ae}{f e}{u i t}(z:r.op=.binOp op o j m ty)(F:η j=ay (.int f u))(D:η m=ay (.int e i))(C:uY op f u e i=h (t,cq))(s:U cq):
  a2 P r η k (ay (.int f t)) k:=by
 refine .aQ λI g A d=>?_;have a:=d j;have b:=d m;rw[F]at a;rw[D]at b;replace a:=b8 a;replace b:=b8 b;generalize w:g j=J at a;generalize x:g m=K at b;cases a with|int p=>
 cases b with|int q=>
 obtain⟨E,y,B⟩:=abT (P:=P) o C s p q I.a;exact⟨.int f t,by simp[ab,z,cL,w,x,qo,c',y,d_],.int E,by simp[ab,z,w,x,qo,yj,y,B]⟩
end
def l9(e:Nat)(a:m M)(b:Nat->m M):Nat->m M:=λd=>if d=e then a else b d
def nQ(e b:Nat)(f:m M)(a:Nat->m M):Nat->m M:=λd=>if e<=d/\d<b then f else a d
section
variable {ac:m (Nat×cr)}{C:Nat}{f:Nat}
def G7(B:bb k b)(q:k[d]?=h (.q W f j V)){m r}(x:cC k b aa (.O d (.bx C m e r)))(E:C=j):
  ∃g i z a,b.s[d]?=h ⟨.slice (h ⟨g,0,n⟩) 0 i,[g]⟩/\aa=.pointer (h ⟨g,e*m+r,n⟩)/\b.a.heap[g]?=h (.cells (z++a).toArray W (0,0))/\c (z++a)=i*f/\j<=i/\i<=9223372036854775807/\e0 b.D f j V z/\∀w,b.D g w=n:=by
 obtain⟨J,⟨g,i,t,y⟩,_,R⟩:=x;obtain⟨L,s,p⟩:=(R _ _ _ _ q).2 E;rw[t]at p;rcases B.box d _ L q s with⟨_,rfl⟩|⟨M,hi,z,a,rfl,F,o,I,u,D,A⟩
 .cases p
 cases p;exact⟨g,i,z,a,s,y,F,o,I,u,D,A⟩
def Eg{C:Nat->X}:∀{bh:m M}{A:Nat},(∀d e,bh[d]?=h e->Rd b.D (C (A+d)) e)->bN k b ((aA (c bh)).map λd=>C (A+d)) (bh.map R.c)
 |[],A,_=>trivial
 |g::bh,A,f=>by rw[fe,w_];refine⟨f 0 g a,?_⟩;have:=Eg (bh:=bh) (A:=A+1) (λd e i=>by have:=f (d+1) e N;rwa [show A+1+d=A+(d+1) by omega]);grind[Function.comp_def]
theorem a2.i'(aZ:bZ P ac){i j:ae}(O:r.op=.indexAddr o i j){e a5}(m:bX ac o=h e)(M:e.desc=.slice W)(y:bX ac W=h a5){t}{u}{q}(H:η i=cF d (.B C a5.size t A))(I:η j=ay (.int q u))(af:0<=u)(Q:u<A):a2 P r η k (cF d (.bx C a5.size (t+u.toNat) 0)) k:=by
 refine .aQ λF f S b=>?_;have E:=b i;rw[H]at E;have a:=b j;rw[I]at a;replace a:=b8 a;generalize R:f j=Y at a;cases a;have D:=E;change cC k F (f i) (.O d _)at D;obtain⟨s,⟨ag,N,B,K,J,L,G,aa,Z,V⟩,U,T⟩:=D;obtain⟨z,rfl,rfl⟩:=V w;have x:=(aZ o e m).run_underlying (p:=F.a);rw[M]at x;obtain⟨g,rfl⟩:∃g:Nat,u=g:=⟨u.toNat,by omega⟩
 have X:g<A:=w;refine⟨.pointer (h ⟨z,(t+g)*a5.size,n⟩),?_,⟨s,⟨z,K,Z,by simp⟩,U,T⟩,?_⟩<;>
 simp[ab,O,J,R,Instr.indexAt,asIntOf,x,(aZ W a5 y).bb,g6,X,jL]
def a2.iM(aZ:bZ P ac){b:ae}{q}(s:r.op=.fieldAddr o b q){A i}{u}(F:η b=cF d (.bx C A e i))(t:lm ac o q=h (off,u)):a2 P r η k (cF d (.bx C A e (i+off))) k:=by refine .aQ λD j z f=>?_;have a:=f b;rw[F]at a;have m:=a;change cC k D (j b) (.O d _)at m;obtain⟨g,⟨p,E,B,w⟩,y,x⟩:=m;exact⟨.pointer (h ⟨p,e*A+i+off,n⟩),by simp[ab,s,w,zr aZ t],⟨g,⟨p,E,B,by grind⟩,y,x⟩,by simp[ab,s,w,yk aZ t]⟩
theorem a2.jw{b:ae}(o:r.op=.nilCheck b){m p}(u:η b=cF d (.bx C m e p)):a2 P r η k (cF d (.bx C m e p)) k:=by refine .aQ λw f s g=>?_;have a:=g b;rw[u]at a;have q:=a;have i:=a;change cC k w (f b) (.O d _)at i;obtain⟨t,⟨x,B,A,j⟩,z,y⟩:=i;exact⟨f b,by simp[ab,o,j],q,by simp[ab,o,j]⟩
theorem a2.jf(aZ:bZ P ac){b:ae}(w:r.op=.call {callee:=.builtin .len,args:=#[b],argTypes:=dt})(R:dt[0]?=h o){e}(f:bX ac o=h e)(u:e.desc=.slice W){E B}(M:η b=cF d (.B C E B A)):a2 P r η k (ay (.int .i64 A)) k:=by
 refine .aQ λs i x g=>?_;have a:=g b;rw[M]at a;have j:=a;change cC k s (i b) (.O d _)at j;obtain⟨z,⟨I,t,m,y,D,S,O,F,Q,N⟩,K,J⟩:=j;have q:=(aZ o e f).run_underlying (p:=s.a);rw[u]at q;refine⟨.int .i64 A,?_,Rd.int cV,?_⟩<;>
 simp[ab,w,resolve,invoke,builtin,Builtin.len_,D,q,goInt,R]
theorem a2.sliceB(aZ:bZ P ac){x:ae}{fb bp}(K:r.op=.slice o x fb bp n){e a5}(X:bX ac o=h e)(M:e.desc=.slice W)(y:bX ac W=h a5){O}{j u}(H:η x=cF d (.B C a5.size O A))(s:kL η fb=h j)(R:kL η bp=h u)(t:U (jq A j u)):a2 P r η k (cF d (.B C a5.size (O+bV 0 j) (bV A u-bV 0 j))) k:=by
 refine .aQ λf E S b=>?_;have m:=b x;rw[H]at m;have J:=m;change cC k f (E x) (.O d _)at J;obtain⟨D,⟨I,z,g,Q,F,N,af,aa,Z,Y⟩,V,T⟩:=J;obtain⟨q,ag,G⟩:=wb (P:=P) (ku:=l) N (km b s) (km b R) t f.a;have B:=(aZ o e X).run_underlying (p:=f.a);rw[M]at B;refine⟨.slice (if g=bV 0 j then I else I.map (·.add (bV 0 j*a5.size))) (bV A u-bV 0 j) (g-bV 0 j),?_,⟨D,⟨_,z,_,Q,a,by omega,by omega,aa,Z,λah=>?_⟩,V,T⟩,by simp[ab,K,F,Instr.sliceAt,B,Instr.slice,q,vj (P:=P) (ku:=l) N (km b s) (km b R) t f.a]⟩
 .simp[ab,K,F,Instr.sliceAt,B,Instr.slice,q,(aZ W a5 y).bb]
 obtain⟨i,rfl,rfl⟩:=Y w;exact Rm
def a2.e'(aZ:bZ P ac){K:ae}(T:r.op=.load o K){m}{B}{ap}(ag:η K=cF d (.bx C f e m))(x:C=j)(F:k[d]?=h (.q W f j V))(w:bX ac o=h B)(Q:ht B ((gf m (V e)).map R.c)=h ap)(Z:e<j):a2 P r η k (.n ap) k:=by
 refine .dr λb O E I=>?_;have u:=I K;rw[ag]at u;obtain⟨i,au,z,aq,af,G,ah,H,an,L,y,ao⟩:=G7 E F u x;have aM:=y.bF e Z;let C:Nat->X:=λa=>z.getD (e*f+a) J;have x:∀a q,(gf m (V e))[a]?=h q->z[e*f+(m+a)]?=h (C (m+a))/\Rd b.D (C (m+a)) q:=by intro a q g;rw[rK,p6]at g;obtain⟨s,al,ar⟩:=y.rd e Z (m+a) q g;grind
 have M:=Eg (k:=k) (b:=b) (C:=C) (bh:=gf m (V e)) (A:=m) (λa q g=>(x a q g).2);have S:∀a s,((aA (c (gf m (V e)))).map λa=>C (m+a))[a]?=h s->b.a.cell? ⟨i,e*f+m+a,n⟩=h s:=by
  intro a s g;simp[nd]at g;by_cases U:a<c (gf m (V e))
  .simp[U]at g;subst g;have ai:=(x a _ (bJ U)).1;simp[aI,ah];grind
  grind
 obtain⟨s,Y,aa⟩:=tL (b:=b) (k:=k) (P:=P) (aZ o B w) (i:=i) (off:=e*f+m) (ap:=ap) S M Q;refine⟨s,by simp[ab,T,G,Instr.loadAt,Instr.sureAddr,Y],aa,λt p=>?_⟩;have ak:t∈(loadVar o ⟨i,e*f+m,n⟩).events P b.a #[]:=by
  have ap:ab O r=(do pure (.value (<-loadVar o ⟨i,e*f+m,n⟩))):=by simp[ab,T,G,Instr.loadAt,Instr.sureAddr]
  rw[ap]at p;simpa[Y]using p
 obtain⟨a,g,rfl⟩:=pc (aZ o B w) (j:=c (gf m (V e))) (λa g=>⟨_,S a (C (m+a)) N⟩) (by have:=se Q;grind) t ak;exact qp (b' af) D
def e0.put{jF}{b}{gR ci}(m:e0 bB f j V z)(p:e<j)(I:jb b gR (V e)=h ci)(A:c jF=c gR)(D:∀(g:Nat)k,gR[g]?=h k->∃aa,jF[g]?=h aa/\Rd bB aa k):
  e*f+b+c jF<=c z/\e0 bB f j (l9 e ci V) (z.take (e*f+b)++jF++z.drop (e*f+b+c jF)):=by
 obtain⟨x,s⟩:=EE I;have Q:=m.bF e p;have y:e*f+f<=j*f:=by have:=hf f (show e+1<=j by omega);grind
 have K:=m.len;have C:e*f+b+c jF<=c z:=w;have O:∀i,(z.take (e*f+b)++jF++z.drop (e*f+b+c jF))[i]?=if i<e*f+b then z[i]? else if i<e*f+b+c jF then jF[i-(e*f+b)]? else z[i]?:=by
  intro i;have E:c (z.take (e*f+b))=e*f+b:=N;by_cases o:i<e*f+b
  .grind
  rw[bj o];by_cases r:i<e*f+b+c jF
  .grind
  rw[bj r,hx N,p6];grind
 refine⟨C,⟨by grind,λd q=>?_,λd q g k a=>?_⟩⟩
 .simp only[l9];split
  .grind
  exact m.bF d q
 simp[l9]at a;rw[O];split at a
 .rename_i u;subst u;rw[s]at a;by_cases o:g<b
  .rw[k_,jm N,iA,bo o]at a;rw[bo w];exact m.rd d p g k a
  by_cases r:g<b+c gR
  .rw[k_,hx N,jm N]at a;obtain⟨aa,t,F⟩:=D _ k a;refine⟨aa,?_,F⟩;rw[bj w,bo w,<-t];congr 1;grind
  rw[hx N,p6]at a;rw[bj w,bj w];refine m.rd d p g k ?_;grind
 rename_i u;have M:g<f:=by have:=(cP.1 a).1;have:=m.bF d q;omega
 rcases dY d e with B|J
 .have:(d+1)*f<=e*f:=hf f B;rw[jL,Nat.one_mul]at this;rw[bo w];exact m.rd d q g k a
 have:(e+1)*f<=d*f:=hf f w;rw[jL,Nat.one_mul]at this;rw[bj w,bj w];exact m.rd d q g k a
def bb.gy(r:bb k b)(t:k[d]?=h (.q W f j V)){q p}{e}(Q:b.s[d]?=h ⟨.slice (h ⟨i,0,n⟩) 0 e,[i]⟩)(X:c (z++q)=e*f)(F:j<=e)(I:e<=9223372036854775807){g:Nat->m M}(w:b.a.heap[i]?=h (.cells (z++q).toArray W (0,0)))(R:e0 b.D f j g p)(U:c p=c z)(K:∀E,b.D i E=n):
  bb (k.set d (.q W f j g)) {b with a:=b.a.setRow i (p++q).toArray}/\cO k b (k.set d (.q W f j g)) {b with a:=b.a.setRow i (p++q).toArray}:=by
 have C:(b.a.setRow i (p++q).toArray).heap[i]?=h (.cells (p++q).toArray W (0,0)):=setRow_heap b.a i _ _ W _ w;have B:∀o,o≠i->(b.a.setRow i (p++q).toArray).heap[o]?=b.a.heap[o]?:=λo s=>setRow_other b.a i o _ s;have S:b.s.set d ⟨.slice (h ⟨i,0,n⟩) 0 e,[i]⟩=b.s:=m3;obtain⟨J,t2⟩:=r.b5 (cl:=b.D) (bi:=b.a.setRow i (p++q).toArray) (ed:=.q W f j g) (cw:=⟨.slice (h ⟨i,0,n⟩) 0 e,[i]⟩) t Q ⟨λ_=>rfl,bC _⟩ D
  (λo s A=>B o N) (λ_ _ _ _=>rfl) (λ_ _ _ x=>x) (λo u O y=>by
   have T:o≠i:=N;have:=r.mem o u O y;rw[<-this];simp[aI]
   grind) (λo s=>⟨.inl s,by grind⟩) a a a
  (.inr ⟨i,e,p,q,rfl,C,by grind,F,I,R,K⟩)
 grind
def MT{e:Type}:∀{new d:m e},c new=c d->jb 0 new d=h new
 |[],[],_=>rfl
 |[],_::_,f=>by grind
 |_::_,[],f=>by grind
 |i::b,g::a,f=>by simp[jb,MT (new:=b) (d:=a) N]
def a2.hR(aZ:bZ P ac){F i:ae}(X:r.op=.store o F i){m}{y}{new}{gR ci}(al:η F=cF d (.bx C f e m))(ai:C=j)(w:k[d]?=h (.q W f j V))(u:bX ac o=h y)(ak:mt (η i)=h new)(K:c new=y.size)(G:h' new=h gR)(I:c (V e)=f->jb m gR (V e)=h ci)(aa:e<j):
  a2 P r η k .any (k.set d (.q W f j (l9 e ci V))):=by
 intro E b t x;have s:=x F;rw[al]at s;obtain⟨A,aw,z,p,T,aM,J,H,ag,ah,U,S⟩:=G7 t w s ai;have B:=u_ ak (x i);have R:=rI G B;have L:=bN.e0 R;have aq:(b i).cells.toList.length=c gR:=by have:=R.cL;grind
 replace I:=I (U.bF e aa);obtain⟨av,M⟩:=U.put aa I aq L;have Z:(b i).cells.size=y.size:=by rw[<-K,<-B.cL,nb]
 obtain⟨O,t2⟩:=t.gy w T H ag ah J M N S;have Y:=run_storeCells_at P A (e*f+m) W (b i).cells.toList 0 (z++p).toArray E.a J N B.cell;have af:((z++p).toArray.toList.take (e*f+m+0)++(b i).cells.toList++(z++p).toArray.toList.drop (e*f+m+0+(b i).cells.toList.length))=z.take (e*f+m)++(b i).cells.toList++z.drop (e*f+m+(b i).cells.toList.length)++p:=N;rw[af]at Y;refine⟨.skip,_,?_,a,O,t2,?_⟩
 .simp[ab,X,aM,Instr.storeAt,Instr.sureAddr,storeVar,(aZ o y u).bb,Z,Y]
 intro q g;have an:ab b r=(do storeVar o ⟨A,e*f+m,n⟩ (b i);pure .skip):=by simp[ab,X,aM,Instr.storeAt,Instr.sureAddr]
 rw[an]at g;have ao:q∈(storeCells ⟨A,e*f+m,n⟩ (b i).cells.toList).events P E.a #[]:=by
  simp[storeVar,aC,(aZ o y u).bb,Z,aF,events_sizeOf,d',hG,dn,cL,c',Sem.events_pure]at g;generalize(storeCells ⟨A,e*f+m,n⟩ (b i).cells.toList).run P E.a=ar at g;cases ar with
  |ok az Q=>simpa using g
  |halt F Q=>simpa using g
 rcases np (b i).cells.toList 0 (z++p).toArray E.a #[] J N B.cell q ao with au|⟨ay,_,_,rfl⟩
 .grind
 exact oi (b' T) D (S _)
end
section
def bb.fx(j:bb k b)(q:∀a,b.D i a=n)(r:∀a e,z[a]?=h e->b.a.cell? ⟨i,a,n⟩=h e):
  bb (k.map λ_=>.N) {b with D:=λd a=>if d=i then z[a]? else b.D d a}/\∀d a e,b.D d a=h e->(if d=i then z[a]? else b.D d a)=h e:=by
 have f:=j.dV;refine⟨⟨λd a e g=>?_,f.len,λs p L aJ o=>?_,f.a4,f.lt,f.own⟩,λd a e g=>?_⟩
 .by_cases m:d=i
  .grind
  simp[m,dn]at g;exact f.mem d a e g
 .have:=b' aJ;simp at this;rw[<-this.2];trivial
 grind
def dv.gE{e}{V}(r:dv {b with D:=e} V){L}(x:L∈b.s)(s:i∈L.aj)(w:∀g k f,b.D g k=h f->e g k=h f)(u:∀g k f,e g k=h f->g=i∨b.D g k=h f):dv b V:=by
 intro o q;have d:=r o q;unfold ia at d⊢;split at d
 .obtain⟨kI,kf,a⟩:=d;refine⟨kI,kf,?_⟩;rcases a with a|⟨a,j⟩|⟨a,f,j⟩
  .grind
  .refine .inr (.inl ⟨a,λp=>?_⟩);have:=j p;rename_i m _;cases t:b.D m.block m.off with
   |none=>rfl
   |some f=>grind
  grind
 all_goals exact d
end
def nq(e:Nat)(a:Nat->Nat->X):Nat->m M:=λb=>(aA e).map λd=>.val (a b d)
theorem s9{f}{a:Nat->Nat->X}{t}(b:(nq f a e)[u]?=h t):u<f/\t=.val (a e u):=by
 have d:u<f:=by have:=(cP.1 b).1;simpa[nq]using this
 simp[nq,d]at b;grind
def CS{f}{a:Nat->Nat->X}(b:u<f):(nq f a e)[u]?=h (.val (a e u)):=by simp[nq,b]
def Rd.exact{bB}{aa}{o}{f j}{d:Nat->m M}(D:Rd bB aa (.B o f j d)):
  ∃k:Nat->Nat->X,Rd bB aa (.B o f j (nq f k))/\(∀a,a<j->c (d a)=f)/\∀a,a<j->∀b i,(d a)[b]?=h i->Rd bB (k a b) i:=by
 cases D with
 |B z q k y u x w t E p=>
  have A:∀a,a<j->∀b,b<f->∃i,(d a)[b]?=h i:=λa e b g=>⟨_,bJ N⟩
  refine⟨k,.B z q k y u x (λa _=>by simp[nq]) t (λa e b i g=>?_) (λa e b i g=>?_),w,p⟩
  .grind [s9]
  obtain⟨r,rfl⟩:=s9 g;obtain⟨C,s⟩:=A a e b r;exact .val (p a e b C s).cell
def Ef{f}{L}{e t}{cap}(aJ:k[d]?=h (.q W f j V))(p:b.s[d]?=h L)(m:L.v=.slice t 0 cap)(q:j<=cap)(o:cap<=9223372036854775807)(x:0<cap->∃g,t=h ⟨g,0,n⟩/\e=h ⟨g,0,n⟩):cC k b (.slice e j cap) (.O d (.B j f 0 j)):=
 ⟨L.v,⟨e,t,cap,cap,rfl,q,by omega,o,m,λu=>by grind⟩,(cP.1 aJ).1,λw r s i a=>by rw[aJ]at a;cases a;exact⟨bC _,λ_=>⟨L,p,rfl⟩⟩⟩
def GJ{bP bQ:ae}{a5}(s:j_ P r bP bQ W a5){A}{bA}{o:Nat->m M}{ak:ae->X}(t:bb k b)(br:cC k b (ak bP) (.O d (.B j a5.size 0 j)))(K:k[d]?=h (.q W a5.size j V))(av:Rd b.D (ak bQ) (.B bA a5.size A o))(H:(j+A)*a5.bytes<=140737488355328):
  ∃a9 ai,(ab ak r).run P b.a=.ok a9 ai.a/\AH (k.set d (.q W a5.size (j+A) (ck j V o))) ai a9 (cF d (.B (j+A) a5.size 0 (j+A)))/\bb (k.set d (.q W a5.size (j+A) (ck j V o))) ai/\cO k b (k.set d (.q W a5.size (j+A) (ck j V o))) ai/\dv b ((ab ak r).events P b.a #[]):=by
 obtain⟨bV,t2,g,bS,a4,e,I,aD,aE⟩:=s.op;have bU:=(cP.1 K).1;obtain⟨bT,⟨x,bn,aG,B,a6,bd,bF,bc,a2,bG⟩,_,a8⟩:=br;obtain⟨L,F,ao⟩:=(a8 _ _ _ _ K).2 rfl;rw[a2]at ao;have aY:B=aG:=w;subst aY;have bB:0<B->∃i,bn=h ⟨i,0,n⟩/\x=h ⟨i,0,n⟩:=λs=>by grind
 have aM:=(cP.1 F).1;have bh:=b' F;have bE:=t.box d _ L K F;rw[ll a4,a6];have row:0<B->∃i z p,x=h ⟨i,0,n⟩/\L=⟨.slice (h ⟨i,0,n⟩) 0 B,[i]⟩/\b.a.heap[i]?=h (.cells (z++p).toArray W (0,0))/\c (z++p)=B*a5.size/\e0 b.D a5.size j V z/\∀r,b.D i r=n:=by
  intro y;obtain⟨i,S,Y⟩:=bB y;rcases bE with⟨_,rfl⟩|⟨f,u,z,p,rfl,aa,aL,aN,aO,aP,aQ⟩
  .grind
  grind
 by_cases bq:A=0
 .subst bq;have aw:=zq (P:=P) (ty:=r.type) e I aD aE s.elem t (x:=x) bd av;simp only[kk];have bt:bs j V (ck j V o):=λg e=>by simp[ck,e]
  have aT:eA (k.set d (.q W a5.size j (ck j V o))) ⟨b.s.set d L,b.D,b.a,b.own⟩ (.q W a5.size j (ck j V o)) L:=by
   rcases bE with aa|⟨f,u,z,p,av,aa,aL,aN,aO,aP,aQ⟩
   .exact .inl aa
   exact .inr ⟨f,u,z,p,av,aa,aL,aN,aO,aP.cA bt,aQ⟩
  have au:=t.b5 (cl:=b.D) (bi:=b.a) (ed:=.q W a5.size j (ck j V o)) (cw:=L) K F ⟨λ_=>rfl,bC _⟩ (bC _) (λ_ _ _=>rfl) (λ_ _ _ _=>rfl) (λ_ _ _ s=>s) t.mem
   (λi H=>⟨.inl H,t.lt L bh i H⟩) a a a aT
  refine⟨.value (.slice x j B),_,?_,?_,au.1,au.2,i4 (yg e I aD aE s.elem t bd av)⟩
  .simp[aw]
  exact Ef (W:=W) Fo N ao bd bc bB
 .by_cases aJ:j+A<=B
  .obtain⟨i,z,p,rfl,rfl,hw,G,E,af⟩:=row w;obtain⟨O,an,aw⟩:=Em (P:=P) (ty:=r.type) e I aD aE s.elem t hw G av aJ;have a7:=E.len;have bK:=an.len;have bH:j*a5.size+A*a5.size<=B*a5.size:=by rw[<-jL];exact hf _ aJ
   have ah:((z++p).take (j*a5.size)++O++(z++p).drop (j*a5.size+c O))=(z++O)++p.drop (c O):=by rw[<-a7];simp
   rw[ah]at aw;have az:=setRow_heap b.a i _ ((z++O)++p.drop (c O)).toArray W _ hw;have aB:∀f,f≠i->(b.a.setRow i ((z++O)++p.drop (c O)).toArray).heap[f]?=b.a.heap[f]?:=λf ba=>setRow_other b.a i f _ ba;obtain⟨aC,bg⟩:=t.b5 (cl:=b.D) (bi:=b.a.setRow i ((z++O)++p.drop (c O)).toArray) (ed:=.q W a5.size (j+A) (ck j V o)) (cw:=⟨.slice (h ⟨i,0,n⟩) 0 B,[i]⟩) K F ⟨λ_=>rfl,by omega⟩ D
    (λf ba bR=>aB f N) (λ_ _ _ _=>rfl) (λ_ _ _ s=>s) (λf bz Q a3=>by
     have bI:f≠i:=N;have:=t.mem f bz Q a3;rw[<-this];simp[aI]
     grind) (λf ba=>⟨.inl ba,by grind⟩) a a a
    (.inr ⟨i,B,z++O,p.drop (c O),rfl,az,by grind,aJ,bc,E.append an,af⟩)
   refine⟨.value (.slice (h ⟨i,0,n⟩) (j+A) B),_,?_,?_,aC,bg,i4 (Cx e I aD aE s.elem t hw G av aJ bh D (λr _=>af r))⟩
   .simp[aw]
   exact Ef (W:=W) Fo (by simp only;rw[ix aM]) a aJ bc λ_=>⟨i,a,a⟩
  .have a0:B<j+A:=w;obtain⟨bp,aK,bO,bM⟩:=av.exact;have aH:∃(cl:Mem) (Z:Nat->Nat->X),bb (k.map λ_=>.N) {b with D:=cl}/\(∀f r Q,b.D f r=h Q->cl f r=h Q)/\Rd cl (.slice x j B) (.B v a5.size j (nq a5.size Z))/\(∀{V},dv {b with D:=cl} V->dv b V) /\
     (∀g,g<j->c (V g)=a5.size)/\∀g,g<j->∀q C,(V g)[q]?=h C->Rd b.D (Z g q) C:=by
    by_cases y:0<B
    .obtain⟨i,z,p,rfl,rfl,hw,G,E,af⟩:=row y;obtain⟨u,T⟩:=t.fx (i:=i) (z:=z) af (λr Q a4=>by
      simp only[aI,hw]
      grind)
     have bD:∀g,g<j->∀q C,(V g)[q]?=h C->z[g*a5.size+q]?=h (z.getD (g*a5.size+q) J)/\Rd b.D (z.getD (g*a5.size+q) J) C:=by intro g e q C R;obtain⟨Q,a_,a'⟩:=E.rd g e q C R;grind
     have aX:∀g,g<j->∀q,q<a5.size->∃C,(V g)[q]?=h C:=λg e q R=>⟨_,bJ (by rw[E.bF g e];exact R)⟩
     refine⟨_,λg q=>z.getD (g*a5.size+q) J,u,T,.B i 0 (λg q=>z.getD (g*a5.size+q) J) bd bc D (λg _=>by simp[nq]) bk (λg e q C R=>?_) (λg e q C R=>?_),λbu=>?_,E.bF,λg e q C R=>(bD g e q C R).2⟩
     .obtain⟨S,_⟩:=s9 R;grind
     .obtain⟨S,rfl⟩:=s9 R;obtain⟨bo,Y⟩:=aX g e q S;exact .val (bD g e q bo Y).2.cell
     exact bu.gE (i:=i) bh D T λf r Q a6=>by grind
    have S:B=0:=w;have Y:j=0:=w;subst S Y;have aF:=t.dV;exact⟨b.D,λ_ _=>J,⟨aF.mem,aF.len,aF.box,aF.a4,aF.lt,aF.own⟩,λ_ _ _ s=>s,Rd.dI,λs=>s,λg e=>by omega,λg e=>by omega⟩
   obtain⟨cl,Z,u,T,aU,aR,bN,bL⟩:=aH;have al:=aK.mono T;obtain⟨bj,p,bf,bl,aq,ar,ay,aw⟩:=wa (P:=P) (b:={b with D:=cl}) (ty:=r.type) e I aD aE s.elem u aU al a0 H s.bytes;have aZ:=vi (P:=P) (b:={b with D:=cl}) (ty:=r.type) e I aD aE s.elem u aU al a0 H s.bytes;have aS:e0 b.D a5.size (j+A) (ck j V o) bj:=by
    refine⟨bl.len,λg e=>?_,λg e q C R=>?_⟩
    .by_cases U:g<j
     .simp only[ck,U,dw];grind
     simp only[ck,U,dn];grind
    by_cases U:g<j
    .simp only[ck,U,dw]at R;have bm:q<a5.size:=N;obtain⟨Q,a_,a'⟩:=bl.rd g e q (.val (Z g q)) (by simp only[ck,U,dw];exact CS bm);grind[Rd.bd]
    simp only[ck,U,dn]at R;have bm:q<a5.size:=N;obtain⟨Q,a_,a'⟩:=bl.rd g e q (.val (bp (g-j) q)) (by simp only[ck,U,dn];exact CS bm);grind[Rd.bd]
   have bx:∀r,b.D b.a.heap.size r=n:=λr=>by
    cases ag:b.D b.a.heap.size r with
    |none=>rfl
    |some Q=>have:=t.block ag;omega
   obtain⟨aC,bg⟩:=t.b5 (cl:=b.D) (bi:=b.a.drew.alloc (.cells (bj++p).toArray W)) (ed:=.q W a5.size (j+A) (ck j V o)) (cw:=⟨.slice (h ⟨b.a.heap.size,0,n⟩) 0 bf,[b.a.heap.size]⟩) K F
    ⟨λU=>absurd U w,by omega⟩ D (λi H _=>i7 b.a.drew _ H) (λ_ _ _ _=>rfl) (λ_ _ _ s=>s) (λi r Q ag=>by have a1:=t.block ag;rw[<-t.mem i r Q ag];simp only[aI];rw[i7 b.a.drew _ a1];rfl) (λi H=>by simp at H;exact bw) a a a (.inr ⟨b.a.heap.size,bf,bj,p,rfl,lY b.a.drew _,ay,aq,ar,aS,bx⟩)
   refine⟨.value (.slice (h ⟨b.a.heap.size,0,n⟩) (j+A) bf),_,?_,?_,aC,bg,i4 (aR aZ)⟩
   .simp only at aw;simp[aw]
   exact Ef (W:=W) Fo (by simp only;rw[ix aM]) a aq ar λ_=>⟨_,a,a⟩
def a2.h9{q s:ae}{a5}(x:j_ P r q s W a5){b}{p}{a:Nat->m M}(w:η q=cF d (.B j a5.size 0 j))(o:k[d]?=h (.q W a5.size j V))(u:∀f t,bx k f t (η s)->Rd f.D t (.B p a5.size b a))(g:(j+b)*a5.bytes<=140737488355328):
  a2 P r η k (cF d (.B (j+b) a5.size 0 (j+b))) (k.set d (.q W a5.size (j+b) (ck j V a))):=
 λf y i e=>GJ x i (by have:=e q;rw[w]at this;exact this) o (u f _ (e s)) g
section
variable {ac:m (Nat×cr)}
def a2.jk(aZ:bZ P ac){f:ae}(t:r.op=.call {callee:=.builtin .len,args:=#[f],argTypes:=dt})(s:dt[0]?=h o){e}(b:bX ac o=h e)(m:e.desc=.slice W){i}{cap}(x:η f=ay (.val (.slice i j cap)))(w:j<=9223372036854775807):a2 P r η k (ay (.int .i64 j)) k:=by
 refine .aQ λy z u d=>?_;have a:=d f;rw[x]at a;have q:=Rd.bd (b8 a);have g:=(aZ o e b).run_underlying (p:=y.a);rw[m]at g;refine⟨.int .i64 j,?_,Rd.int cV,?_⟩<;>
 simp[ab,t,resolve,invoke,builtin,Builtin.len_,q,g,goInt,s]
theorem a2.ja(aZ:bZ P ac){s g:ae}(B:r.op=.indexAddr o s g){e a5}(m:bX ac o=h e)(E:e.desc=.slice W)(F:bX ac W=h a5){cap}{u}{q}(K:η s=ay (.val (.slice (h ⟨i,off,n⟩) j cap)))(J:η g=ay (.int q u))(O:0<=u)(C:u<j):a2 P r η k (ay (.val (.pointer (h ⟨i,off+u.toNat*a5.size,n⟩)))) k:=by
 refine .aQ λM t D d=>?_;have x:=d s;rw[K]at x;have I:=Rd.bd (b8 x);have b:=d g;rw[J]at b;replace b:=b8 b;generalize A:t g=N at b;cases b;have y:=(aZ o e m).run_underlying (p:=M.a);rw[E]at y;obtain⟨f,rfl⟩:∃f:Nat,u=f:=⟨u.toNat,by omega⟩
 have z:f<j:=w;refine⟨.pointer (h ⟨i,off+f*a5.size,n⟩),?_,Rd.val a,?_⟩<;>
 simp[ab,B,I,A,Instr.indexAt,asIntOf,y,(aZ W a5 F).bb,g6,z]
def a2.iN(aZ:bZ P ac){e:ae}{m}(p:r.op=.fieldAddr o e m){f}{u}(q:η e=ay (.val (.pointer (h ⟨i,off,n⟩))))(j:lm ac o m=h (f,u)):a2 P r η k (ay (.val (.pointer (h ⟨i,off+f,n⟩)))) k:=by refine .aQ λw t s d=>?_;have b:=d e;rw[q]at b;have g:=Rd.bd (b8 b);exact⟨.pointer (h ⟨i,off+f,n⟩),by simp[ab,p,g,zr aZ j],Rd.val a,by simp[ab,p,g,yk aZ j]⟩
def a2.jP(aZ:bZ P ac){U I J:ae}(Z:r.op=.slice o U n (h I) (h J)){e a5}(M:bX ac o=h e)(H:e.desc=.slice W)(ai:bX ac W=h a5){eQ}{f}{m q}{u A}(ak:∀aa ag,bx k aa ag (η U)->Rd aa.D ag (.B eQ f j V))(L:η I=ay (.int m u))(ah:η J=ay (.int q A))(K:0<=u)(ao:u<=A)(aq:A<=j):a2 P r η k (ay (.B v f u.toNat V)) k:=by
 refine .aQ λa F ar i=>?_;have T:=ak a _ (i U);have s:=i I;rw[L]at s;replace s:=b8 s;generalize R:F I=av at s;cases s;have E:=i J;rw[ah]at E;replace E:=b8 E;generalize af:F J=aw at E;cases E;obtain⟨X,b,z,y,G,aB,aM,aC,au⟩:=T.b0;rw[y]at T;have O:=(aZ o e M).run_underlying (p:=a.a);rw[H]at O;have em:=rm w;have t:(aT l j b n (h (.int m u)) (h (.int q A))).run P a.a=.ok (0,u.toNat,A.toNat) a.a:=by simp[aT,run_sliceBound (P:=P) a.a q A b _ w w,run_sliceBound (P:=P) a.a m u A.toNat _ K w]
 have al:(aT l j b n (h (.int m u)) (h (.int q A))).events P a.a #[]=#[]:=by simp[aT,run_sliceBound (P:=P) a.a q A b _ w w,run_sliceBound (P:=P) a.a m u A.toNat _ K w,lk (P:=P) a.a q A b _ w w,lk (P:=P) a.a m u A.toNat _ K w]
 refine⟨.slice X u.toNat A.toNat,?_,?_,by simp[ab,Z,y,R,af,Instr.sliceAt,O,Instr.slice,t,al]⟩
 .simp[ab,Z,y,R,af,Instr.sliceAt,O,Instr.slice,t,(aZ W a5 ai).bb];intro _;rcases X with _|⟨Y,d,sp⟩<;>simp[Addr.add]
 cases T with
 |B Y d an _ _ _ S Q B C=>
  exact Rd.B Y d an w w D (λe x=>S e w) (λaz=>Q w) (λe x u N g=>B e w u N g) (λe x u N g=>C e w u N g)
end
def e0.hG{f a}{kP:Nat->m M}{jF}(p:e0 bB f j V z)(q:e0 bB f A kP jF)(u:a+A<=j):
  e0 bB f j (λb=>if a<=b/\b<a+A then kP (b-a)else V b) (z.take (a*f)++jF++z.drop (a*f+c jF)):=by
 have D:=p.len;have F:=q.len;have C:a*f+A*f<=j*f:=by rw[<-jL];exact hf f u
 have I:c (z.take (a*f))=a*f:=N;have s:∀i,(z.take (a*f)++jF++z.drop (a*f+c jF))[i]?=if i<a*f then z[i]? else if i<a*f+A*f then jF[i-a*f]? else z[i]?:=by
  intro i;by_cases e:i<a*f
  .grind
  rw[bj e];by_cases r:i<a*f+A*f
  .grind
  rw[bj r,hx N,p6];grind
 refine⟨by grind,λb g=>?_,λb g o t d=>?_⟩
 .by_cases k:a<=b/\b<a+A
  .rw[bo k];exact q.bF _ w
  rw[bj k];exact p.bF b g
 rw[s];by_cases k:a<=b/\b<a+A
 .rw[bo k]at d;have B:o<f:=by have:=(cP.1 d).1;rw[q.bF _ w]at this;omega
  have x:=hf f k.1;have y:b*f+f<=a*f+A*f:=by rw[<-jL,<-o3];exact hf f k.2
  rw[bj w,bo w];obtain⟨K,E,J⟩:=q.rd (b-a) w o t d;grind[Nat.sub_mul]
 rw[bj k]at d;have B:o<f:=by have:=(cP.1 d).1;rw[p.bF b g]at this;omega
 have:b*f+o<a*f∨a*f+A*f<=b*f+o:=by
  by_cases e:b<a
  .left;have:b*f+f<=a*f:=by rw[<-o3];exact hf f e
   omega
  right;have:(a+A)*f<=b*f:=hf f w;grind
 rcases this with e|e
 .rw[bo e];exact p.rd b g o _ d
 rw[bj w,bj w];exact p.rd b g o _ d
def DP{W f i}{r:Nat->m M}{e}(u:Rd b.D aa (.B l i 0 r))(k:ar[d]?=h (.q W f 0 V))(s:e[d]?=h ⟨.slice n 0 0,[]⟩):cC ar {b with s:=e} aa (.O d (.B 0 f 0 0)):=by obtain⟨p,j,z,t,_,_,q,_,_⟩:=u.b0;have:=q a;subst this;refine⟨.slice n 0 0,⟨p,n,0,0,t,by omega,a,by omega,a,λg=>absurd g w⟩,(cP.1 k).1,λo x y kP g=>?_⟩;rw[k]at g;cases g;exact⟨bC _,λ_=>⟨_,s,a⟩⟩
def dv.jj{a}{V}(i:dv {b with s:=a++[⟨aa,[]⟩]} V)(k:b.s=a):dv b V:=by
 intro g f;have e:=i g f;have key:∀d,(∃L∈a++[(⟨aa,[]⟩:Loc)],d∈L.aj)->∃L∈b.s,d∈L.aj:=λd ⟨L,m,j⟩=>by grind
 unfold ia at e⊢;grind
def a2.ib{j t:ae}{a5}(E:j_ P r j t W a5){f}{s}{e:Nat->m M}(Q:η j=ay (.B l f 0 V))(J:∀b z,bx k b z (η t)->Rd b.D z (.B s a5.size A e))(p:(0+A)*a5.bytes<=140737488355328):
  a2 P r η k (cF (c k) (.B (0+A) a5.size 0 (0+A))) (k++[.q W a5.size (0+A) (ck 0 V e)]):=by intro b u bQ i;have g:=i j;rw[Q]at g;have o:=J b _ (i t);obtain⟨I,F⟩:=bQ.bY (bU:=.q W a5.size 0 V) (L:=⟨.slice n 0 0,[]⟩) (.refl _ _) rfl bQ (.inl ⟨rfl,rfl⟩) D;have C:cC (k++[.q W a5.size 0 V]) {b with s:=b.s++[⟨.slice n 0 0,[]⟩]} (u j) (.O (c k) (.B 0 a5.size 0 0)):=DP (W:=W) (V:=V) (b8 g) D uk;obtain⟨N,q,K,w,y,x,O⟩:=GJ (P:=P) (k:=k++[.q W a5.size 0 V]) (b:={b with s:=b.s++[⟨.slice n 0 0,[]⟩]}) (d:=c k) (V:=V) E I C D o p;have B:(k++[aq.q W a5.size 0 V]).set (c k) (.q W a5.size (0+A) (ck 0 V e))=k++[.q W a5.size (0+A) (ck 0 V e)]:=D;rw[B]at w y x;exact⟨N,q,K,w,y,F.trans x,O.jj a⟩
def qJ(d e f:Nat)(a:Nat->m M):Nat->m M:=λb=>if d<=b/\b<d+f then a (e+(b-d))else a b
def a2.h_{a_ ba:ae}{a5}(aD:j_ P r a_ ba W a5)(bx:η a_=cF d (.B j a5.size 0 e))(bA:η ba=cF d (.B j a5.size u A))(t:k[d]?=h (.q W a5.size j V))(Z:e+A<=j)(aO:u+A<=j):
  a2 P r η k (cF d (.B j a5.size 0 (e+A))) (k.set d (.q W a5.size j (qJ e u A V))):=by
 intro b a8 q aT;obtain⟨b2,t2,b4,bS,bw,s,ar,bd,aM⟩:=aD.op;have ao:=aT a_;rw[bx]at ao;change cC k b (a8 a_) (.O d _)at ao;have aq:=aT ba;rw[bA]at aq;change cC k b (a8 ba) (.O d _)at aq;obtain⟨bD,⟨x,bh,g,y,aU,bg,aK,T,aa,X⟩,_,bG⟩:=ao;obtain⟨L,E,bf⟩:=(bG _ _ _ _ t).2 rfl;rw[aa]at bf;obtain⟨bQ,⟨o,bI,aB,bK,aX,bY,bp,bq,au,br⟩,_,az⟩:=aq;obtain⟨bV,S,H⟩:=(az _ _ _ _ t).2 rfl;rw[E]at S;cases S;rw[au,bf]at H;cases H;have aG:=b' E;have ay:=s.run_underlying (p:=b.a);have bc:=bd.run_underlying (p:=b.a);rw[ar]at ay;rw[aM]at bc;rw[ll bw,aU,aX];by_cases aP:j=0
 .have an:e=0:=w;have bl:A=0:=w;subst aP an bl;have aw:k.set d (.q W a5.size 0 (qJ 0 u 0 V))=k:=by
   have:qJ 0 u 0 V=V:=by funext bm;exact cV
   rw[this];exact m3
  have aY:Rd b.D (.slice o 0 aB) (.B v a5.size 0 λ_=>[]):=.B 0 0 (λ_ _=>J) w w D (λe s=>by omega) (λaD=>by omega) (λe s=>by omega) (λe s=>by omega);have bF:=zq (P:=P) (ty:=r.type) s ar bd aM aD.elem q (x:=x) bg aY;rw[aw];refine⟨.value (.slice x 0 g),b,?_,?_,q,.refl _ _,i4 (yg s ar bd aM aD.elem q bg aY)⟩
  .simp[bF]
  exact⟨bD,⟨x,bh,g,y,a,bg,aK,T,aa,X⟩,(cP.1 t).1,bG⟩
 rcases q.box d _ L t E with⟨al,_⟩|⟨i,ak,z,ah,rfl,C,aZ,a0,a1,ag,aH⟩
 .grind
 cases bf;have bW:0<g:=w;obtain⟨bZ,an,rfl⟩:=X bW;cases an;have aL:y=g:=w;subst aL;rw[show i=i from a];have bP:=ag.len;have bB:e+A<=y:=w;have bL:e*a5.size+A*a5.size<=j*a5.size:=by rw[<-jL];exact hf _ Z
 have bM:u*a5.size+A*a5.size<=j*a5.size:=by rw[<-jL];exact hf _ aO
 obtain⟨ak,bk⟩:=q.fx (i:=i) (z:=z) aH (λbm aE G=>by
  simp[aI,C]
  grind)
 let m:=(z.drop (u*a5.size)).take (A*a5.size);have aR:c m=A*a5.size:=N;have aQ:∀f,f<A*a5.size->m[f]?=z[u*a5.size+f]?:=λf I=>by grind
 have Q:e0 b.D a5.size A (λbm=>V (u+bm)) m:=by
  refine⟨aR,λbm G=>ag.bF _ w,λbm G f bj I=>?_⟩;have bO:f<a5.size:=by have:=(cP.1 I).1;rw[ag.bF _ w]at this;omega
  obtain⟨aE,O,F⟩:=ag.rd (u+bm) w f bj I;refine⟨aE,?_,F⟩;exact Q_
 have bR:=Q.cell;have af:Rd (λB bm=>if B=i then z[bm]? else b.D B bm) (.slice o A aB) (.B v a5.size A (nq a5.size λbm f=>z.getD ((u+bm)*a5.size+f) J)):=by
  refine .B i (u*a5.size) (λbm f=>z.getD ((u+bm)*a5.size+f) J) bY w D (λbm _=>by simp[nq]) (λI=>N) (λbm G f bj I=>?_) (λbm G f bj I=>?_)
  .obtain⟨a3,_⟩:=s9 I;exact Q_
  obtain⟨a3,rfl⟩:=s9 I;obtain⟨ai,aJ⟩:∃ai,(V (u+bm))[f]?=h ai:=⟨_,bJ (by rw[ag.bF _ w];exact a3)⟩
  obtain⟨aE,O,F⟩:=ag.rd (u+bm) w f ai aJ;have al:z.getD ((u+bm)*a5.size+f) J=aE:=N;rw[al];exact .val F.cell
 obtain⟨R,bH,K,bu⟩:=oJ (P:=P) (b:={b with D:=λB bm=>if B=i then z[bm]? else b.D B bm}) ak af;have aS:R=m:=by
  apply qa;intro f;have bN:=bH.len;by_cases I:f<A*a5.size
  .have b3:0<a5.size:=N;have G:f / a5.size<A:=sz N;have ab:=uJ f a5.size;obtain⟨aE,O,F⟩:=bH.rd _ G (f % a5.size) _ (CS (p7 _ b3));rw[ab]at O;rw[O,aQ f I,Rd.bd F];rw[jL,Nat.add_assoc,ab,aj,bJ w];rfl
  grind
 subst aS;have aN:=s7 (P:=P) (b:={b with D:=λB bm=>if B=i then z[bm]? else b.D B bm}) ak af (p:=b.a) rfl;replace K:(Builtin.firstCells a5.size A (.slice o A aB)).run P b.a=.ok m.toArray b.a:=K;have bt:e*a5.size+c m<=c (z++ah):=N;have M:=run_storeCells_at P i (e*a5.size) W m 0 (z++ah).toArray b.a C N bR;simp only[kk]at M;have av:((z++ah).toArray.toList.take (e*a5.size)++m++(z++ah).toArray.toList.drop (e*a5.size+c m))=z.take (e*a5.size)++m++z.drop (e*a5.size+c m)++ah:=N;rw[av]at M;have a4:=ag.hG Q Z;have bs:(λbm=>if e<=bm/\bm<e+A then(λbm=>V (u+bm)) (bm-e)else V bm)=qJ e u A V:=rfl;rw[bs]at a4;obtain⟨bE,a6⟩:=q.gy t E aZ a0 a1 C a4 N aH;have bT:(Builtin.lenOf (.slice o A aB)).run P b.a=.ok A b.a:=cV;have bX:(Builtin.lenOf (.slice o A aB)).events P b.a #[]=#[]:=cV;refine⟨.value (.slice (h ⟨i,0*a5.size,n⟩) (e+A) y),_,?_,?_,bE,a6,i4 ?_⟩
 .have bF:(Builtin.append_ #[b2,t2] r.type #[.slice (h ⟨i,0*a5.size,n⟩) e y,.slice o A aB]).run P b.a=.ok (.slice (h ⟨i,0*a5.size,n⟩) (e+A) y) (b.a.setRow i (z.take (e*a5.size)++m++z.drop (e*a5.size+c m)++ah).toArray):=by unfold Builtin.append_;simp[kg,ml,n8,cL,ay,bc,c',aD.elem.bb,d_,kh,dn,bT,bB,dw,iC,K,g6,Nat.zero_mul,cZ,M]
  grind[Go.Sem.run_bind,Go.Result.andThen_ok,Go.Sem.run_pure]
 .exact⟨.slice (h ⟨i,0,n⟩) 0 y,⟨_,_,y,y,a,bB,by omega,T,a,λ_=>⟨i,a,a⟩⟩,by grind,λbU b0 b1 kP Y=>by rw[ix (cP.1 t).1]at Y;cases Y;exact⟨bC _,λ_=>⟨_,E,a⟩⟩⟩
 .intro al bb;unfold Builtin.append_ at bb;simp[kg,ml,n8,aC,cL,ay,bc,aF,aD.elem.bb,d_,kh,dn,bT,bX,bB,dw,iC,K,g6,Nat.zero_mul,cZ,M,
   sJ,Sem.events_ite,events_underlying,events_sizeOf,Sem.events_pure]at bb
  rcases np m 0 (z++ah).toArray b.a _ C N bR al bb with bn|⟨f,_,_,rfl⟩
  .have bo:dv {b with D:=λB bm=>if B=i then z[bm]? else b.D B bm} #[al]:=dv.Q (tF (aN al bn));exact bo.gE (i:=i) aG D bk (λB bm aE aU=>by grind) al D
  grind[oi]
section
variable {ac:m (Nat×cr)}
theorem a2.slice3B(aZ:bZ P ac){D p E F:ae}(Q:r.op=.slice o D (h p) (h E) (h F)){I a5}(y:bX ac o=h I)(H:I.desc=.slice W)(T:bX ac W=h a5){C f ai}{aa b s}{e u A}(X:η D=cF d (.B C f ai j))(U:η p=ay (.int aa e))(V:η E=ay (.int b u))(S:η F=ay (.int s A))(av:0<=e)(Z:e<=u)(af:u<=A)(aw:A<=j):a2 P r η k (.n (.Q .any)) k:=by
 refine .aQ λg q ag m=>?_;have K:=m D;rw[X]at K;change cC k g (q D) (.O d _)at K;obtain⟨ah,⟨O,Y,i,az,G,au,ao,ar,aq,L⟩,_,_⟩:=K;have B:=m p;rw[U]at B;replace B:=b8 B;generalize R:q p=ak at B;cases B;have t:=m E;rw[V]at t;replace t:=b8 t;generalize M:q E=al at t;cases t;have x:=m F;rw[S]at x;replace x:=b8 x;generalize N:q F=an at x;cases x;have J:=(aZ o I y).run_underlying (p:=g.a);rw[H]at J;have z:(aT l j i (h (.int aa e)) (h (.int b u)) (h (.int s A))).run P g.a=.ok (e.toNat,u.toNat,A.toNat) g.a:=by simp[aT,run_sliceBound (P:=P) g.a s A i _ w w,run_sliceBound (P:=P) g.a b u A.toNat _ w w,run_sliceBound (P:=P) g.a aa e u.toNat _ w w]
 have aM:(aT l j i (h (.int aa e)) (h (.int b u)) (h (.int s A))).events P g.a #[]=#[]:=by
  simp[aT,run_sliceBound (P:=P) g.a s A i _ w w,run_sliceBound (P:=P) g.a b u A.toNat _ w w,run_sliceBound (P:=P) g.a aa e u.toNat _ w w,
   lk (P:=P) g.a s A i _ w w,lk (P:=P) g.a b u A.toNat _ w w,lk (P:=P) g.a aa e u.toNat _ w w]
 refine⟨.slice (if A.toNat=e.toNat then O else O.map (·.add (e.toNat*a5.size))) (u.toNat-e.toNat) (A.toNat-e.toNat),?_,a,by simp[ab,Q,G,R,M,N,Instr.sliceAt,J,Instr.slice,z,aM]⟩;simp[ab,Q,G,R,M,N,Instr.sliceAt,J,Instr.slice,z,(aZ W a5 T).bb]
end
section drop
variable {aU bq:m aq}
def a6.cut(a:a6)(b:Nat):a6:={a with s:=a.s.take b}
def cC.drop{f}(e:cC (aU++bq) b aa f)(g:l0 (c aU) f=l):cC aU (b.cut (c aU)) aa f:=by
 have lt:∀{d:Nat},ax (d+1) (c aU)=l->d<c aU:=λq=>fz q;cases f with
 |c w=>exact e
 |any=>exact e
 |ptr d t=>
  have gU:=lt g;obtain⟨a,L,o,j,al⟩:=e;refine⟨λi k=>a i N,L,o,?_,al⟩;simp[a6.cut,iA,gU,dw];exact j
 |aY d=>
  have gU:=lt g;obtain⟨a,L,j,al⟩:=e;refine⟨λi k=>a i N,L,?_,al⟩;simp[a6.cut,iA,gU,dw];exact j
 |O d u=>
  have gU:=lt g;obtain⟨m,a,_,al⟩:=e;refine⟨m,a,gU,λW gn DN dK k=>?_⟩;exact PV
 |x d r s p=>
  have gU:=lt g;obtain⟨a,_,al⟩:=e;refine⟨a,gU,λW gn DN dK k=>?_⟩;exact PV
def bN.cG:∀{z:m X}{a:m R},bN (aU++bq) b z a->lr (c aU) a=l->bN aU (b.cut (c aU)) z a
 |[],[],_,_=>trivial
 |[],_::_,d,_=>d.elim
 |_::_,[],d,_=>d.elim
 |i::z,g::a,d,e=>by
  simp[lr]at e;cases f:l0 (c aU) g with
  |false=>grind
  |true=>simp[f]at e;exact⟨d.1.drop f,bN.cG d.2 e⟩
def eB.cG{aa}{a}(g:eB (aU++bq) b aa a)(f:pn (c aU) a=l):eB aU (b.cut (c aU)) aa a:=by
 cases a with
 |Q j=>exact cC.drop g f
 |agg i=>obtain⟨z,d,e⟩:=g;exact⟨z,d,bN.cG e f⟩
def e1.cG:∀{z:m X}{a:m E1},e1 (aU++bq) b z a->ow (c aU) a=l->e1 aU (b.cut (c aU)) z a
 |[],[],_,_=>trivial
 |[],_::_,d,_=>d.elim
 |_::_,[],d,_=>d.elim
 |i::z,g::a,d,e=>by
  simp[ow]at e;cases f:pn (c aU) g with
  |false=>grind
  |true=>simp[f]at e;exact⟨eB.cG d.1 f,e1.cG d.2 e⟩
def bx.drop{a}(g:bx (aU++bq) b aa a)(f:hX (c aU) a=l):bx aU (b.cut (c aU)) aa a:=by
 cases a with
 |n j=>exact eB.cG g f
 |S i=>obtain⟨z,d,e⟩:=g;exact⟨z,d,e1.cG e f⟩
 |any=>trivial
def dh.drop{d}{g}(a:dh d g (aU++bq) b)(s:d.length<=c aU):dh d g aU (b.cut (c aU)):=by refine⟨a.size,a.a7,a.mem,a.bA,λL k r o=>a.bS L (gN k) r o,?_,a.os,a.tape,a.output,a.own⟩;intro p q L aJ k;obtain⟨i,j,e,m,t⟩:=a.box p q L aJ k;have f:p<c aU:=eE (cP.1 aJ).1 s;rw[jm f]at e;exact⟨i,j,e,by simp[a6.cut,iA,f,dw];exact m,t⟩
def cC.cF{f}(j:c b.s=c k)(e:cC k b aa f):l0 (c k) f=l:=by
 have ok:∀{a:Nat},a<c k->ax (a+1) (c k)=l:=λd=>AQ d;have lt:∀{a:Nat} {L:Loc},b.s[a]?=h L->a<c k:=λd=>by grind
 cases f with
 |c t=>rfl
 |any=>rfl
 |ptr a r=>obtain⟨_,L,o,g,_⟩:=e;exact ok (lt g)
 |aY a=>obtain⟨_,L,g,_⟩:=e;exact ok (lt g)
 |O a s=>obtain⟨m,_,d,_⟩:=e;exact ok d
 |x a p q i=>exact ok e.2.1
def bN.cF{k}(e:c b.s=c k):∀{z:m X}{a:m R},bN k b z a->lr (c k) a=l
 |[],[],_=>rfl
 |[],_::_,d=>d.elim
 |_::_,[],d=>d.elim
 |g::z,f::a,d=>by simp[lr,d.1.cF e];exact bN.cF e d.2
def eB.cF{k}(a:c b.s=c k){aa}{d}(e:eB k b aa d):pn (c k) d=l:=by
 cases d with
 |Q i=>exact cC.cF a e
 |agg f=>obtain⟨z,_,g⟩:=e;exact bN.cF a g
def e1.cF{k}(e:c b.s=c k):∀{z:m X}{a:m E1},e1 k b z a->ow (c k) a=l
 |[],[],_=>rfl
 |[],_::_,d=>d.elim
 |_::_,[],d=>d.elim
 |g::z,f::a,d=>by simp[ow,eB.cF e d.1];exact e1.cF e d.2
def bx.cF{k}(a:c b.s=c k){aa}{d}(e:bx k b aa d):hX (c k) d=l:=by
 cases d with
 |n i=>exact eB.cF a e
 |S g=>obtain⟨z,_,f⟩:=e;exact e1.cF a f
 |any=>rfl
def Ay(o:Nat)(d:m aq)(k:Nat)(b:aq):Prop:=(∃g a,b=.cells g a/\lr o a=l)∨d[k]?=h b∨(∃f e i j,b=.loop f e i/\d[k]?=h (.loop f e j))∨((∀g a,b≠.cells g a)/\∀f e i,b≠.loop f e i)
def bb.gV{w}{f}(r:bb f w)(x:f.length=c aU)(O:∀d(s:aq),aU[d]?=h s->Ay (c aU) f d s)(j:bb (aU++bq) b):bb aU (b.cut (c aU)):=by
 have E:c aU<=c b.s:=by rw[j.len];simp
 refine⟨j.mem,by simp[a6.cut,E],?_,?_,?_,λg a=>⟨(j.own g a).1,λL e=>(j.own g a).2 L (gN e)⟩⟩
 .intro d s L aJ e;have K:d<c aU:=(cP.1 aJ).1;simp[a6.cut,iA,K,dw]at e;have q:=j.box d s L N e;have y:∃A,w.s[d]?=h A:=⟨_,bJ (by rw[r.len,x];exact K)⟩
  obtain⟨A,y⟩:=y;have aa:=r.len.trans x;cases s with
  |cells J S=>
   obtain⟨g,z,k,m,I,F⟩:=q;refine⟨g,z,k,m,bN.cG I ?_,F⟩;rcases O d _ aJ with⟨_,_,t,i⟩|i|⟨_,_,_,_,t,_⟩|i
   .grind
   .obtain⟨_,_,_,_,Y,_⟩:=r.box d _ A i y;exact x▸Y.cF r.len
   .cases t
   grind
  |x J T U D=>exact q
  |K H=>exact q
  |N=>trivial
  |loop R Q Z=>
   obtain⟨o,tmps,fn,W,k,m,I,F,X⟩:=q;have key:∃p,f[d]?=h (.loop R Q p):=by
    rcases O d _ aJ with⟨_,_,t,_⟩|i|⟨_,_,_,p,t,i⟩|i
    .cases t
    .grind
    .grind
    grind
   obtain⟨p,i⟩:=key;obtain⟨_,_,_,_,_,_,_,V,_⟩:=r.box d _ A i y;exact⟨o,tmps,fn,W,k,m,I,λM=>(F M).drop (x▸(V M).cF r.len),X⟩
  |bn=>exact q
  |q J T U D=>exact q
 .intro d o L B e C g a u;simp only[a6.cut,iA]at e C;split at e<;>split at C<;>first|exact j.a4 d o L B e C g a u|grind|grind
 intro L e g a;exact j.lt L (gN e) g a
def bb.iC{e}(f:bb aU e)(d:bb (aU++bq) b):bb aU (b.cut (c aU)):=f.gV a (λ_ _ d=>.inr (.inl d)) d
def aY.e4{u:af P}{f}(m:aY u F all r I k (.n (.Q (.x (c k) f j V))) (k++[.x W f j V])):aY u F all r I k (ay (.B v f j V)) k:=by
 intro D y A g w s i x C d a p o;refine m D y A g w s i x C d a p λE e q b t=>?_;have B:e9 e (e.cut (c k)):=⟨rfl,λ_ _ _ m=>m,λ_ _ _=>rfl,b.mem,λw a=>a.imp id λ⟨L,z,a⟩=>⟨L,gN z,a⟩⟩
 exact .aP B (o E (e.cut (c k)) q.1 (g.iC b) (t.drop (bC _)))
end drop
end Go.AM
