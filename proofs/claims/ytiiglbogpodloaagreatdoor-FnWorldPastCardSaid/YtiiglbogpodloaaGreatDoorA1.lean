/- Part 1. No condition. -/
import Derived.KernelRfl
import Derived.Tactics2
import Derived.LaidSub
import Derived.LaidLaws
import Derived.LaidHandle
import Derived.Conc.Own
import Derived.Conc.Events
import Derived.Conc.Listed
import Derived.Laws.CopyRow
import Derived.Laws.AppendOwn
import Derived.Laws.Rows
import Derived.Laws.Strings
import Derived.Laws.Cells
import Derived.Lib.Strings
import Derived.Laws.Slices
import Derived.Orders
import Derived.Laws.StructEq
set_option linter.all false
set_option maxHeartbeats 8000000
open Go.Conc (G)
open List renaming length → c, range → aA, replicate → aU, getD_eq_getElem?_getD → al
open Go renaming Value → X, TypeId → an, Event → aN, undef → I, World → au, Frame → aG, FuncId → aZ, execOp → ab, Operand → ae, Program → aD, Goroutine → ag, stepG → ap, Oper → ao
open Option renaming some → f, none → n
open Bool renaming true → l, false → v
open Nat renaming beq → ad, ble → ay
open Go.Region renaming wanted → aO, ready → aL
open Go.World renaming cell? → aH
open Go.Op renaming bytesLess → aQ, equalIn → aK
open Go.Sem renaming events_bind → aC
open Go.Result renaming evThen_ok → aE
open Go.Instr renaming sliceBounds → aS
set_option linter.defProp false
set_option linter.deprecated false
namespace Go
def B:=@_root_.trivial
def bw:=@_root_.decide_eq_true_eq
def bJ:=@_root_.List.getElem?_eq_getElem
def a9:=@_root_.and_true
def ba:=@_root_.true_and
def ca:=@_root_.List.mem_of_getElem?
def dr:=@_root_.decide_eq_false_iff_not
def cP:=@_root_.List.getElem?_eq_some_iff
def dp:=@_root_.Nat.eq_of_beq_eq_true
def cW:=@_root_.Int.toNat_natCast
def bC:=@_root_.Nat.le_refl
def cm:=@_root_.Bool.and_eq_true
def dm:=@_root_.List.length_append
def c_:=@_root_.Go.Result.andThen_ok
def cV:=@_root_.Nat.zero_add
def c8:=@_root_.List.take_length
def bj:=@_root_.if_neg
def bl:=@_root_.if_pos
def cK:=@_root_.Go.Sem.run_bind
def eW:=@_root_.beq_eq_false_iff_ne
def hH:=@_root_.Array.getD_eq_getD_getElem?
def gC:=@_root_.List.length_singleton
def eK:=@_root_.Nat.lt_of_lt_of_le
def fA:=@_root_.Nat.le_of_ble_eq_true
def ha:=@_root_.List.getElem_of_mem
def e':=@_root_.Option.some.injEq
def ht:=@_root_.List.getElem?_append_right
def fs:=@_root_.List.length_cons
def hc:=@_root_.Nat.mul_le_mul_right
def jK:=@_root_.List.eq_nil_of_length_eq_zero
def fB:=@_root_.Bool.not_true
def d':=@_root_.Go.Sem.run_pure
def gm:=@_root_.beq_self_eq_true
def dY:=@_root_.Nat.lt_or_ge
def fa:=@_root_.decide_eq_true
def iQ:=@_root_.Array.getElem?_eq_getElem
def g4:=@_root_.List.mem_of_mem_take
def iy:=@_root_.List.getElem?_set_self
def gO:=@_root_.List.mem_singleton
def fG:=@_root_.List.mem_append
def jk:=@_root_.Array.getElem?_eq_some_iff
def hI:=@_root_.not_true_eq_false
def fh:=@_root_.List.mem_cons
def dn:=@_root_.if_false
def nf:=@_root_.List.pairwise_iff_getElem
def gQ:=@_root_.List.length_nil
def iR:=@_root_.List.pairwise_cons
def kb:=@_root_.List.getElem?_append_left
def iz:=@_root_.bne_self_eq_false
def fX:=@_root_.Bool.true_and
def iA:=@_root_.List.getElem?_take
def hT:=@_root_.Bool.not_false
def dx:=@_root_.if_true
def iB:=@_root_.List.mem_cons_self
def fY:=@_root_.Nat.le_trans
def jl:=@_root_.Bool.not_eq_true'
def ia:=@_root_.Option.getD_some
def hU:=@_root_.List.append_nil
def uM:=@_root_.List.take_append_drop
def kf:=@_root_.List.getElem?_toArray
def qa:=@_root_.List.ext_getElem?
def kI:=@_root_.List.length_filter_le
def gR:=@_root_.beq_iff_eq
def eF:=@_root_.congrArg
def kJ:=@_root_.List.getElem?_set_ne
def uN:=@_root_.List.findIdx?_eq_some_iff_getElem
def kg:=@_root_.Bool.false_eq_true
def iS:=@_root_.Nat.not_lt_zero
def iT:=@_root_.List.foldl_cons
def mn:=@_root_.List.getElem?_cons_zero
def hu:=@_root_.List.mem_map
def g5:=@_root_.Nat.zero_le
def uO:=@_root_.List.take_add_one
def jm:=@_root_.List.mem_filter
def jL:=@_root_.Bool.or_eq_true
def kK:=@_root_.List.length_map
def ng:=@_root_.Array.length_toList
def iC:=@_root_.bne_iff_ne
def mo:=@_root_.List.mem_cons_of_mem
def xh:=@_root_.Array.getElem?_replicate
def n9:=@_root_.List.getElem?_cons_succ
def nh:=@_root_.List.pairwise_append
def A8:=@_root_.List.mem_iff_getElem
def mq:=@_root_.List.append_assoc
def sK:=@_root_.Nat.beq_refl
def ea:=@_root_.ne_eq
def lJ:=@_root_.decide_true
def lK:=@_root_.Option.map_some
def jM:=@_root_.Nat.add_mul
def qb:=@_root_.List.map_congr_left
def qc:=@_root_.not_false_eq_true
def kh:=@_root_.Nat.add_zero
def ni:=@_root_.List.getElem?_map
def uP:=@_root_.Array.getElem?_setIfInBounds_self_of_lt
def sL:=@_root_.Array.getElem?_setIfInBounds_ne
def n_:=@_root_.Nat.eq_zero_or_pos
def nj:=@_root_.decide_eq_false
def xi:=@_root_.Array.mapM_eq_mapM_toList
def n':=@_root_.List.getElem?_set
def lL:=@_root_.Prod.mk.injEq
def n7:=@_root_.Option.bind_some
def p4:=@_root_.List.mem_of_mem_drop
def w8:=@_root_.Array.toArray_toList
def mm:=@_root_.List.map_cons
def n8:=@_root_.decide_false
def rm:=@_root_.Option.map_eq_some_iff
def p5:=@_root_.Nat.add_sub_cancel
def p6:=@_root_.List.getElem?_drop
def AP:=@_root_.Option.isSome_iff_exists
def o5:=@_root_.Nat.succ_mul
def p7:=@_root_.Nat.mod_lt
def o6:=@_root_.Bool.eq_iff_iff
def sz:=@_root_.List.filter_eq_self
def rn:=@_root_.Int.toNat_of_nonneg
def p8:=@_root_.List.ext_getElem
def p9:=@_root_.Bool.not_eq_true
def o7:=@_root_.List.mapM_cons
def ro:=@_root_.Int.emod_lt_of_pos
def AQ:=@_root_.Bool.and_eq_false_iff
def SO:=@_root_.List.drop_eq_getElem_cons
def p_:=@_root_.List.nil_append
def rp:=@_root_.of_decide_eq_true
def sA:=@_root_.Nat.div_lt_of_lt_mul
def rq:=@_root_.List.pairwise_map
def AR:=@_root_.bne_eq_false_iff_eq
def uD:=@_root_.Nat.le_mul_of_pos_right
def rr:=@_root_.List.mem_range
def ru:=@_root_.List.mem_flatMap
def sB:=@_root_.List.length_drop
def lI:=@_root_.true_or
def AS:=@_root_.Bool.not_eq_false'
def uE:=@_root_.UInt8.toNat_inj
def rv:=@_root_.Int.emod_nonneg
def AT:=@_root_.Nat.ble_eq_true_of_le
def uF:=@_root_.Array.mem_of_getElem?
def sC:=@_root_.List.flatMap_cons
def sD:=@_root_.Nat.sub_zero
def uG:=@_root_.Nat.div_add_mod'
def sE:=@_root_.List.not_mem_nil
def sF:=@_root_.List.filter_cons
def w9:=@_root_.List.mem_of_find?_eq_some
def w_:=@_root_.Nat.lt_succ_iff_lt_or_eq
def sG:=@_root_.Option.some.inj
def uH:=@_root_.List.find?_eq_none
def Gy:=@_root_.List.take_of_length_le
def w':=@_root_.List.range_succ_eq_map
def uI:=@_root_.List.foldl_append
def sH:=@_root_.Bool.false_and
def xa:=@_root_.List.getElem?_eq_none
def p':=@_root_.Nat.not_lt
def SP:=@_root_.List.find?_eq_some_iff_getElem
def uJ:=@_root_.List.drop_length
def uK:=@_root_.List.cons_append
def xb:=@_root_.Bool.or_eq_false_iff
def xc:=@_root_.List.length_set
def xd:=@_root_.Nat.mul_le_mul_left
def sI:=@_root_.Nat.sub_self
def AU:=@_root_.List.getElem?_concat_length
def Gz:=@_root_.List.length_eraseIdx_of_lt
def AV:=@_root_.List.mem_or_eq_of_mem_set
def AW:=@_root_.List.findIdx?_eq_none_iff
def GA:=@_root_.List.set_eq_of_length_le
def sJ:=@_root_.Go.Sem.run_ite
def AX:=@_root_.Nat.add_sub_cancel_left
def AY:=@_root_.List.length_eq_zero_iff
def xe:=@_root_.List.getElem_mem
def o8:=@_root_.Ne.symm
def xf:=@_root_.Nat.mul_comm
def uL:=@_root_.List.map_map
def GB:=@_root_.List.drop_eq_nil_of_le
def AZ:=@_root_.Array.getElem?_eq_none
def A0:=@_root_.List.contains_iff_mem
def GC:=@_root_.Array.getElem?_toList
def A1:=@_root_.Array.getElem?_modify
def A2:=@_root_.Nat.pow_le_pow_right
def A3:=@_root_.List.mem_append_left
def A4:=@_root_.List.getElem?_of_mem
def A5:=@_root_.Nat.add_sub_cancel'
def A6:=@_root_.List.length_pos_iff
def xg:=@_root_.Nat.lt_irrefl
def A7:=@_root_.List.take_set
def bn{α:Sort _}{β:α→Sort _}{aj:(E:α)→β E}:∀E,aj E=aj E:=λ_=>rfl
def a{α:Sort _}{x:α}:x=x:=rfl
section
variable{T:Prop}
abbrev m.{bz}(α:Type bz):=List α
def w(t:T:=by omega):=t
def N(t:T:=by grind):=t
def D(t:T:=by simp):=t
def bK(t:T:=by simp;omega):=t
def bG(t:T:=by kernel_rfl):=t
def b'(t:T:=by decide):=t
def du(t:T:=by simp_all):=t
def ir(t:T:=by grind[iq]):=t
def h_(t:T:=by rw[bR.len];grind):=t
def sr(t:T:=by simp only[U,a8,bw,ba,a9];and_intros<;>omega):=t
def lD(t:T:=by simp[a8]):=t
def q3(t:T:=by simp[G,ap,stepG.exec,Frame.ab]):=t
def md(t:T:=by simp only[phi];omega):=t
def j7(t:T:=by simp[a8];omega):=t
def ub(t:T:=by simp only[U,a8,ba,a9];omega):=t
def gM(t:T:=by simp[t]):=t
def OV(t:T:=by have h:E.data.toList.length=E.size:=ng;have u:bD.data.toList.length=bD.size:=ng;have ak:IntKind.i64.max=9223372036854775807:=rfl;have C:E.data.toList.length+bD.data.toList.length<=9223372036854775807:=cx;grind):=t
def m5(t:T:=by simp only[a8];omega):=t
def q8(t:T:=by simp only[U,a9];omega):=t
def m6(t:T:=by apply qa;grind):=t
def FC(t:T:=by show(aK (9999+1) o _ _).run P b.a=_;unfold aK;simp[underlying,C]):=t
def OW(t:T:=by cases x<;>cases i<;>exact dX.bV av.tocI [0,1,2] rfl rfl rfl rfl (by have dN:=bT;simp only[al]at dN;simp[dN]) rfl rfl rfl (λ_=>rfl) rfl (λ_=>rfl)):=t
def FX(t:T:=by simp[bY,C,j,h,d,aj,a2.U,bh.U,a3.U,az.U,A];omega):=t
def wN(t:T:=by simp only[bW,cW];omega):=t
def afh(t:T:=by rw[x];simp only[jx,AQ,dr];omega):=t
def k3(t:T:=by simp[bY]):=t
def Pt(t:T:=by unfold Func.isWrapper;first|(rw[bl (by decide +kernel)];kernel_rfl)|(rw[bj (by decide +kernel)];exact⟨rfl,rfl⟩)):=t
def uf(t:T:=by rw[<-a0];decide +kernel):=t
def pR(t:T:=by grind[pI]):=t
def wO(t:T:=by grind[List.getElem_of_mem]):=t
def q9(t:T:=by cases he):=t
def q_(t:T:=by rw[cV];rfl):=t
def Aj(t:T:=by grind[MN]):=t
def oV(t:T:=by rfl):=t
def F5(t:T:=by rw[<-touchAt_old (u:=bz) (eK bp t.bQ)];exact j):=t
def F6(t:T:=by rw[<-touchAt_old (u:=bz) (eK bp t.bQ)];exact h):=t
def F7(t:T:=by grind[Ew]):=t
def Re(t:T:=by simp[-aW,-List.all_eq_false,bY,i,s,x,a2.U,bh.U,a3.U,aj,ak,C]):=t
def Ak(t:T:=by intro y a0 afk;grind[aeC,N2]):=t
def Rz(t:T:=by show(aK (9999+1) o _ _).run P b.a=_;unfold aK;simp[underlying,j]):=t
def nX(t:T:=by simp;rfl):=t
def RU(t:T:=by rw[GC,iQ (by omega:e<L.size)];simpa[hH,iQ (by omega:e<L.size)]using H):=t
def ug(t:T:=by grind[kk]):=t
def R5(t:T:=by refine Y.I Tryz.func319 rfl λx=>?_;exact cA rfl (by simp[a8]) (g.aw rfl)):=t
def R6(t:T:=by simp only[ab,t];exact dB.bind dB.buildSlice (λ_=>dB.pure) _ _):=t
def F8(t:T:=by simp[G,ap,stepG.exec,Frame.ab,t]):=t
def R7(t:T:=by intro h2 ak s;match h2,s with|0,_=>exact .inr (by simp[deafBehind])|h2+1,s=>grind):=t
def wP(t:T:=by simp only[U,a8];omega):=t
def uh(t:T:=by simp[<-bR.len]):=t
def R8(t:T:=by unfold ho;rw[mq];congr 1;rw[iq (by grind) (0,0)];grind):=t
def oW(t:T:=by simp[x]):=t
def F9(t:T:=by simp only[hH];grind):=t
def R9(t:T:=by show -9223372036854775808<=_/\_<=9223372036854775807;unfold lA;omega):=t
def R_(t:T:=by simp[ab,cx,resolve,invoke,builtin,Builtin.len_,aj,A,goInt,C]):=t
def Al(t:T:=by simp only[dV,sK]):=t
def R'(t:T:=by unfold gk;rw[<-qU (ed E.2)];exact Ik _):=t
def F_(t:T:=by grind[List.drop_eq_getElem_cons]):=t
def Sa(t:T:=by grind[Array.mapM_eq_mapM_toList,Sem.run_map,Go.Result.andThen_ok]):=t
def Sb(t:T:=by rw[show((b.2.1.length:Int)-1).toNat=b.2.1.length-1 by omega];rfl):=t
def pS(t:T:=by simp[O]):=t
def F'(t:T:=by simp only[U,a8,a9];omega):=t
def Ga(t:T:=by rw[<-o5];exact hc _ bp):=t
def sq(t:T:=by grind[nR]):=t
def wQ(t:T:=by grind[mF]):=t
def Am(t:T:=by simp[World.freeze,aj]):=t
def Gb(t:T:=by simp[bY,a3.l,a3.U]):=t
def afA(t:T:=by have dN:=bT;simp only[al]at dN;simp[dN]):=t
def ui(t:T:=by simp[bs,ak]):=t
def Sc(t:T:=by rw[uO,<-ab0];simp[al,t]):=t
def afi(t:T:=by decide +kernel):=t
def Sd(t:T:=by simp only[joinedFacts,cm];and_intros<;>decide +kernel):=t
def uj(t:T:=by grind[Nat.eq_of_beq_eq_true]):=t
def Gc(t:T:=by grind[List.take_append_drop]):=t
def An(t:T:=by show _*24<=_;omega):=t
def wR(t:T:=by simpa using t):=t
def Ao(t:T:=by unfold mP;grind):=t
def Gd(t:T:=by simp[hQ,je,nK,jD]):=t
def Ge(t:T:=by unfold jv;split<;>omega):=t
def Se(t:T:=by simp[bY,bD,aa,ef,a2.U,bh.U,a3.U,a7]):=t
def Gf(t:T:=by simp[a2.l,bh.l,a3.l,az.l]):=t
def Sf(t:T:=by simp only[U,a8,ba,a9];and_intros<;>omega):=t
def Gg(t:T:=by simp[bs]):=t
def Sg(t:T:=by intro ak s;simp at s;subst s;exact bk_cell _ _ rfl):=t
def Ap(t:T:=by simp[ak]):=t
def Gh(t:T:=by rw[Op.bytesLess.eq_def]):=t
def Sh(t:T:=by simp[oc,e,bu.l,bu.U,sf,aa]):=t
def Si(t:T:=by rw[<-h.bz i (λL W ef=>s ⟨L,W,ef⟩)];exact bk):=t
def Aq(t:T:=by simpa using iU):=t
def uk(t:T:=by simp[jR]):=t
def Sj(t:T:=by simp only[U,a8,fB,ba,a9];omega):=t
def Ar(t:T:=by cases op<;>rfl):=t
def Sk(t:T:=by simp[ab,cx,resolve,invoke,builtin]):=t
def wS(t:T:=by simp[bW]):=t
def Sl(t:T:=by simp only[U,a8,dr,ba,a9];omega):=t
def Sm(t:T:=by simp only[U,a8,bw,ba,a9];omega):=t
def Sn(t:T:=by rw[show IntKind.u64.bits=64 from rfl];omega):=t
def Gi(t:T:=by rw[s];simp):=t
def So(t:T:=by unfold ck;grind[List.take_append_drop]):=t
def Sp(t:T:=by simp[ab,t,resolve,invoke,builtin]):=t
def Sq(t:T:=by unfold dF;grind[List.take_append_drop]):=t
def Fh(t:T:=by unfold fk;grind):=t
def z2(t:T:=by simp[fu]):=t
def Oo(t:T:=by simp only[look];cases ad bz o<;>rfl):=t
def Oq(t:T:=by simp only[U.Y,U,j,u,gm,ba]):=t
def Fi(t:T:=by rw[cI.ak.size];omega):=t
def Fj(t:T:=by simp only[c',i]):=t
def Ot(t:T:=by simp only[U.Y,U,ak,ba,a9]):=t
def Ou(t:T:=by show(b.a.drew.heap.push _).size=_;simp):=t
def Ov(t:T:=by rw[Gz (by simp;omega)];simp;omega):=t
def Ow(t:T:=by have:=LI dN;simp only[a8];omega):=t
def Fk(t:T:=by unfold ds;omega):=t
def Fl(t:T:=by simp[Act.eval,stA]):=t
def Fm(t:T:=by simp only[dV,dC]):=t
def Fo(t:T:=by simp only[dV,cY]):=t
def Ox(t:T:=by have:=Vc_upd y (⟨1,0,1⟩:WD) hj;grind):=t
def wC(t:T:=by simp[mk]):=t
def Oy(t:T:=by simp only[fC,jL,bw];grind):=t
def wD(t:T:=by rw[upd_same];simp):=t
def Oz(t:T:=by simp[World.shape?,a7.heap _ _ a7.cU]):=t
def OA(t:T:=by simp[Frame.enter,Frame.ab,pm,cZ,i]):=t
def OB(t:T:=by simp only[U];exact az.U _):=t
def OC(t:T:=by grind[run_store,setCell_eq_setRow]):=t
def afd(t:T:=by simp[deafBehind]):=t
def Fp(t:T:=by simp[bW];omega):=t
def OD(t:T:=by simp only[U,ba,a9];omega):=t
def OE(t:T:=by unfold g9;rw[bj];grind):=t
def OF(t:T:=by unfold eY Region.binds;grind):=t
def OG(t:T:=by simp[bY,J,a3.l,a3.U]):=t
def OH(t:T:=by simp[fH]):=t
def Fq(t:T:=by simp only[gr,nF,bj t];rfl):=t
def OI(t:T:=by have:=eF List.length br;grind):=t
def z3(t:T:=by simp[aj]):=t
def Fs(t:T:=by simp only;omega):=t
def OJ(t:T:=by grind[ZN]):=t
def Ft(t:T:=by grind[Option.isSome_iff_exists]):=t
def afe(t:T:=by rw[<-o5];exact hc _ G):=t
def OK(t:T:=by simpa using List.find?_some i):=t
def OL(t:T:=by simp[zeroValue,typeInfo,Oi,a]):=t
def Fu(t:T:=by grind[NS]):=t
def OM(t:T:=by simp only[gr,nF,dx,e]):=t
def aff(t:T:=by rw[J4 C A aa];grind):=t
def afg(t:T:=by simpa using ak):=t
def Fv(t:T:=by simpa using s):=t
def ON(t:T:=by simp[aH,C,bp]):=t
def OO(t:T:=by simp only[ab,cx,u]):=t
def OP(t:T:=by simp only[U,dr];omega):=t
def OQ(t:T:=by simp only[U,bw];omega):=t
def OR(t:T:=by rw[<-d];simp only[KK];omega):=t
def OS(t:T:=by unfold fk at x⊢;grind):=t
def OT(t:T:=by simp[deafBehind,semEvents]):=t
def Fw(t:T:=by simp[ck]):=t
def OU(t:T:=by simp[mx,List.drop_take]):=t
def Fx(t:T:=by rw[iy bT]):=t
def fE(t:T:=by and_intros<;>omega):=t
def iL(t:T:=by exact .aL (a1.eS (d:=0) bb rfl rfl rfl rfl rfl) rfl):=t
def j8(t:T:=by rw[lM t N];simp):=t
def kD(t:T:=by exact dy _ _ rfl D):=t
def kE(t:T:=by refine g.cc () [0,1,2] ?_ kp;simp):=t
def oU(t:T:=by refine g.cc () [0,1] ?_ yr;simp):=t
def pQ(t:T:=by simp only[U];grind):=t
def q4(t:T:=by exact .aL (a1.fI rfl rfl Tryz.underlying22 rfl b') rfl):=t
def q5(t:T:=by and_intros<;>first|rfl|omega):=t
def q6(t:T:=by show e+1<=_;omega):=t
def q7(t:T:=by simp only[U,cV,cW,aj,a8,bw,ba,a9];and_intros<;>omega):=t
def sm(t:T:=by refine g.freeze 4 1 rfl rfl rfl ?_;exact g.cb bb [] rfl D rfl rfl rfl eN):=t
def sn(t:T:=by exact bZ.dm [0] rfl B rfl rfl rfl hi):=t
def so(t:T:=by simp only[U,a8];and_intros<;>omega):=t
def uc(t:T:=by exact g.aJ [0] rfl D s8):=t
def ud(t:T:=by simp only[U.Y,U,ba,a9];and_intros<;>first|exact bs.same|exact u.2|rfl):=t
def ue(t:T:=by exact aR rfl B (g.aw rfl)):=t
def wE(t:T:=by simp only[U,x,a8,bw,ba,a9];and_intros<;>omega):=t
def wF(t:T:=by rw[w8]at this;exact this):=t
def wG(t:T:=by refine g.bL 6 rfl rfl rfl D D ?_;refine g.bL 7 rfl rfl rfl D D ?_;refine cU x rfl B ?_;refine g.cc () [0,1,2] ?_ kp;simp[ik,C]):=t
def wH(t:T:=by exactλu=>⟨.w,.w,.w,.eval (bf:=[]) bb x (cp:=[a8 .i64 _]) rfl lD,.eval (bf:=[]) bb x (cp:=[_,_]) rfl lD,.w,.w,B,.w,B⟩):=t
def wI(t:T:=by exact⟨.w,.w,.w,.eval (bf:=[]) bb x (cp:=[a8 .i64 _]) rfl lD,.eval (bf:=[]) bb x (cp:=[_,_]) rfl lD,.w,.w,B,B,B⟩):=t
def wJ(t:T:=by simp[hH,xh];split<;>simp):=t
def wK(t:T:=by exact dX.cL (λ_ _ _ _=>jf rfl) rfl rfl bz rfl D):=t
def wL(t:T:=by exact cU x rfl B (g.aw rfl)):=t
def wM(t:T:=by refine g.eK 3 ?_;refine g.cN 9 rfl (λ_=>rfl) ?_;refine g.ret ?_;exact⟨⟨_,bs.same⟩,.inl rfl,rfl,rfl,_,_,_,rfl,rfl,rfl,rfl⟩):=t
def z4(t:T:=by exact aR rfl D (g.bu ⟨(7,.inl d),by simp only;omega⟩ (g.aJ [] rfl D eN))):=t
def z5(t:T:=by exact aR rfl D (g.bu ⟨(7,.inr (T,V)),by simp only;omega⟩ (g.aJ [] rfl D eN))):=t
def z6(t:T:=by simp only[U,aj,a8,show dZ.bytes=8 from rfl,bw,dr,gR,eW,iC,AR,ea];and_intros<;>first|rfl|omega|(simp[hf,iU];done)):=t
def z7(t:T:=by rw[ofEvent_loc_mark bk]at s;cases s):=t
def z8(t:T:=by rw[i];simp only[aj];simp;exact O):=t
def z9(t:T:=by refine g.bg () [] ?_ (λu i=>absurd i D);simp):=t
def z_(t:T:=by and_intros<;>first|exact j|omega):=t
def z'(t:T:=by grind [Ti,aT.aZ,a1.bits]):=t
def Aa(t:T:=by refine g.freeze 8 1 rfl rfl rfl ?_;exact g.cb bb [] rfl D rfl rfl rfl eN):=t
def Ab(t:T:=by rw[s];simp only[U.Y,U,O,dm,gC,ba,a9];and_intros<;>first|exact bs.same|exact aj bD|rfl|omega):=t
def Ac(t:T:=by simp only[U,a8,dr,ba,a9];and_intros<;>omega):=t
def Ad(t:T:=by simp only[U,cV,cW,bz,bk,a8,bw,ba,a9];and_intros<;>omega):=t
def Ae(t:T:=by exact a4 [-16] rfl bF (g.az (e+1) rfl D D N w)):=t
def Af(t:T:=by refine g.aB (qp b x.a0 x.bn x.a1 x.bt x.aM) [] rfl ?_;refine cU s rfl B ?_;refine g.freeze 8 1 rfl rfl rfl ?_;refine g.cb bb [] rfl ?_ rfl rfl rfl eN;simp):=t
def Ag(t:T:=by simp only[U,a2.l,a2.U,bh.l,bh.U,a3.l,a3.U,az.l,az.U,bu.l,bu.U,x,s,sf,O,i,fB,hT,ba,a9];simp):=t
def Ah(t:T:=by rw[U,aag t afh]):=t
def Ai(t:T:=by simp only[U,cV,cW,C,a8,bw,ba,a9];and_intros<;>omega):=t
def Fy(t:T:=by exact⟨by omega,by omega,by grind[MM]⟩):=t
def Fz(t:T:=by exact aT.eval (bf:=[]) bb a'.nil rfl cx):=t
def FA(t:T:=by have:(x==i)=v:=eW.2 N;simp[this]):=t
def FB(t:T:=by refine g.aw rfl ?_;simp[bs,cj]):=t
def FD(t:T:=by exact⟨bT,cv,by grind,lW,.refl _ _⟩):=t
def FE(t:T:=by simp only[U,aj,a8,show pn.bytes=16 from rfl,bw,dr,jl,AS,gR,eW,iC,ea,ak,heq,hI,qc,gm,fB,iz,lJ,n8,ba,a9];and_intros<;>omega):=t
def FF(t:T:=by refine g.eK 2 ?_;refine g.cN 9 rfl (λ_=>rfl) ?_;refine g.cN 10 rfl (λ_=>rfl) ?_;refine g.ret ?_;exact⟨⟨_,bs.same⟩,.inl rfl,rfl,rfl,_,_,_,rfl,rfl,rfl,rfl⟩):=t
def FG(t:T:=by grind [Go.Conc.mem_ofEvents]):=t
def FH(t:T:=by simp only[U,x,a8,show nD.bytes=32 from rfl,show mH.bytes=24 from rfl,bw,lI,ba,a9];and_intros<;>omega):=t
def FI(t:T:=by intro e r cx bp;simp[hH,xh]at bp;split at bp<;>simp at bp):=t
def FJ(t:T:=by refine bd e [917] rfl B ?_;exact dy _ _ rfl D):=t
def FK(t:T:=by refine bO [-14] rfl bK (g.aA ?_);exact cA rfl B (g.aw rfl)):=t
def FL(t:T:=by refine g.aJ [0] rfl ?_ (λu x=>absurd x D);simp):=t
def FM(t:T:=by exact⟨λ_ _ _ _ he=>q9,λ_=>⟨λ_ _ _ _ he=>q9,.inl rfl⟩⟩):=t
def FN(t:T:=by refine cU x rfl B ?_;refine g.cc () [0,1] ?_ yr;simp):=t
def FO(t:T:=by refine g.bG 6 51 2 rfl rfl (g.bb [nk []] rfl D (g.aJ [0] rfl D ?_));grind):=t
def FP(t:T:=by simp only[U,x,dr];and_intros<;>omega):=t
def FQ(t:T:=by grind[List.pairwise_iff_getElem]):=t
def FR(t:T:=by exact⟨t.a.mono w,bY.1,bY.2⟩):=t
def FS(t:T:=by obtain⟨_,O⟩:=KB bp;simp only[sD]at O;have ak:e<aY.length:=(cP.1 O).1;exact⟨by simp[ky,ln,O],AT ak⟩):=t
def FT(t:T:=by have ak:=bh.cW b.2.1 t (0,[]);simp only[U.Y,U,i,cw.l,a9,ba];exact⟨⟨bs.same,bs.same,bs.same⟩,⟨bs.same,bs.same,bs.same⟩,⟨rfl,bs.same⟩,bs.same,ak⟩):=t
def FU(t:T:=by refine g.cc () [] ?_ eN;simp):=t
def FV(t:T:=by obtain rfl:=jK (x rfl);refine aR rfl B ?_;refine g.aw rfl ?_;simp):=t
def FW(t:T:=by refine g.aJ [0] rfl ?_ (λu x=>absurd x D);simp;rfl):=t
def FY(t:T:=by simp only[U.Y,U,a9,ba];and_intros<;>first|exactλ_ _=>rfl|exact ak|rfl):=t
def FZ(t:T:=by refine cU e rfl B (g.aS (bZ.mk [0] rfl B rfl rfl rfl hi))):=t
def F0(t:T:=by simp only[U,x,a8,show rS.bytes=32 from rfl,ba,a9];and_intros<;>omega):=t
def F1(t:T:=by simp[-al,O];omega):=t
def F2(t:T:=by simp only[U,dm,a8,bw,dr,ba,a9];and_intros<;>omega):=t
def F3(t:T:=by and_intros<;>first|omega|rfl):=t
def F4(t:T:=by simp only[U,a2.l,a2.U,bh.l,bh.U,a3.l,a3.U,az.l,az.U,bu.l,bu.U,x,aj,C,r,aa,lJ,and_self,fB,hT,ba,a9]):=t
def OX(t:T:=by simp only[U,bY,a3.l,a3.U,fB,bw,dr,ba,a9];omega):=t
def OY(t:T:=by simp only[U.Y,U,x,o9,cV,a9,ba];and_intros<;>first|exactλ_ _=>rfl|exact ak|rfl):=t
def OZ(t:T:=by exact a4 [8] rfl (fa (Kz t)) (g.aw rfl)):=t
def O0(t:T:=by simp only[U,s,i,bw,lI,ba,a9];and_intros<;>omega):=t
def O1(t:T:=by refine a4 [16] rfl D (g.aS (bZ.mk [0] rfl ?_ rfl rfl rfl ig));simp[td t C x]):=t
def O2(t:T:=by exact .eval (bf:=[]) bb a'.nil (cp:=[a8 .i64 (((0:Nat):Int)-((0:Nat):Int))]) rfl lD):=t
def O3(t:T:=by simp only[U,cV,s,ak,x,C,i,a8,bw,dr,ba,a9];and_intros<;>omega):=t
def O4(t:T:=by refine aR rfl B ?_;exact⟨u,bZ.dm [0] rfl B rfl rfl rfl ig⟩):=t
def O5(t:T:=by simp only[U,U.Y,i,O,s,pK,x',a9];grind):=t
def O6(t:T:=by simp only[dx]at O;subst O;exact cA rfl B (g.aw rfl)):=t
def O7(t:T:=by obtain⟨kH,ka,Gx⟩:=t.last Q bY Dl ox bR b_;grind):=t
def O8(t:T:=by refine g.ret ?_;exact⟨(),.inl rfl,rfl,rfl,_,_,_,rfl,rfl,rfl,B⟩):=t
def O9(t:T:=by exact a4 [-16] rfl bF (g.b6 (e+1) rfl D rfl B N w)):=t
def O_(t:T:=by simp only[U,xC,bw,dr,x];omega):=t
def O'(t:T:=by simp only[U,bY,a3.l,a3.U,fB,bw,ba,a9];omega):=t
def Pa(t:T:=by refine aR rfl B (g.aJ [0,1] rfl D s9 (s:=bF))):=t
def Pb(t:T:=by rw[Deaf_other o w _ g_of_ofEvents];exact t.above e bp):=t
def Pc(t:T:=by have ak:(z.toArray++Array.replicate (fn.ntmps-z.toArray.size) I).getD o I=(z[o]?).getD I:=F9;grind):=t
def Pd(t:T:=by simp only[U,a8,dr,eW,ea];and_intros<;>omega):=t
def Pe(t:T:=by simp[-al,j,a8,cw.l,cw.U,a2.l,a2.U,A,C.1];and_intros<;>first|omega|grind):=t
def Pf(t:T:=by simp only[jc,cm]at this;grind[pg]):=t
def Pg(t:T:=by intro _;refine aR rfl B (g.aJ [0] rfl ?_ ig);simp):=t
def Ph(t:T:=by rw[s];simp only[U.Y,U,aj,ba,a9];and_intros<;>first|exact u|exact h|simp|rfl|omega):=t
def Pj(t:T:=by have bk:=O _ aj;simp only[U,i,cw.l,a8];exact⟨by omega,B,B,show(e+1)*32<=_ by omega,cw.U _,bk.1,bk.2,by omega,by omega,fa w⟩):=t
def Pk(t:T:=by simp[-al,C,a8,r,c6.B];omega):=t
def Pl(t:T:=by simp only[oF,x,hn,ak];grind[Nat.eq_of_beq_eq_true]):=t
def Pm(t:T:=by exact⟨b_ bD,C,λs1 cY=>⟨bD,p,Q.rely cY C,C.rely cY,O.trans cY.aT,ak⟩⟩):=t
def Pn(t:T:=by simp[ab,cx,resolve,C,Deferred.ofValue,invoke,callFunc,O,s,i]):=t
def Po(t:T:=by simp only[U,Cy,bS.l,x,bS.U];simp[t,lf,x,i,-List.length_flatten]):=t
def Pp(t:T:=by have Q:0+((((d.take u).filter λE=>!bk E).length:Nat):Int).toNat=((d.take u).filter λE=>!bk E).length:=w;simp only[U.Y,U,Q,a9,ba];exact ak):=t
def Pq(t:T:=by have:=O.bj _ (mE (show b.2.1.length-1<b.2.1.length by omega) (0,[]));omega):=t
def Pr(t:T:=by simp only[U,a8,show yH.bytes=40 from rfl,ba,a9];and_intros<;>omega):=t
def Ps(t:T:=by refine a4 [16] rfl D (g.bS (bZ.zero rfl ?_));simp[td t A x]):=t
def Pu(t:T:=by refine a4 [-7] rfl bK (g.bs rfl rfl ?_);refine aR rfl B (g.aw rfl ?_);rw[U,aaj (λu O=>s u w)]):=t
def Pv(t:T:=by simp only[U.Y,U,cV,cW,bz,a9,ba];exact lh T w w (λ_ _=>rfl)):=t
def Pw(t:T:=by refine g.bL 1 rfl rfl rfl D D ?_;exact g.aw rfl (by simp[x,ik])):=t
def Px(t:T:=by simp only[U.Y,U,a9,ba,xc];exact⟨bs.same,bs.same,bs.same⟩):=t
def Py(t:T:=by simp only[bk]at p⊢;obtain⟨vQ,afq,afo⟩:=t.dU _ _ bk;grind[mF]):=t
def Pz(t:T:=by simp only[U,x,i,a8,show yH.bytes=40 from rfl,show dZ.bytes=8 from rfl,bw,lI,ba,a9];and_intros<;>omega):=t
def PA(t:T:=by rw[s];simp only[U.Y,U,aj,ba,a9];and_intros<;>first|exact u|simp|simp|simp|rfl|omega|simp):=t
def PC(t:T:=by simp only[U.Y,U,cV,cW,u,e,t,xorNext_toNat,a9,ba];exact lh d w w (λ_ _=>rfl)):=t
def PD(t:T:=by rw[s];simp only[U.Y,U,aj,ba,a9];and_intros<;>first|exact u|exact h|exactλ_ _=>rfl|rfl|omega):=t
def PE(t:T:=by show f (E1.R (Q.c (nF b.1 e (.slice (f ⟨i,0,n⟩) ah.length cap) (0+(e:Int).toNat))))=_;rw[j,nF,bl rfl]):=t
def PF(t:T:=by exact⟨(),.inr rfl,rfl,rfl,_,_,_,rfl,rfl,rfl,B⟩):=t
def PG(t:T:=by rw[ef];simp only[U.Y,U,cW,A,Q,dm,gC,ba,a9];and_intros<;>first|exact bs.same|exact H|rfl|omega):=t
def PH(t:T:=by have ak:scanUp (λE=>!ltInt d2[x]! E) d2 (s) (dZ)=h:=F7;exact dy () B rfl bv rfl D):=t
def PI(t:T:=by rename_i C;cases t;rw[C]at s;have i:=b8 s;generalize ak:x.tmps.getD O I=aa at i;cases i;rw[key _ ak (by simp[I])]):=t
def PJ(t:T:=by simp only[U,O,a8,show dZ.bytes=8 from rfl];exact bv):=t
def PK(t:T:=by rw[aj];simp only[U.Y,U,i,bS.l,j,ia,dm,gC,ba,a9];and_intros<;>first|exact bs.same|exact Q|rfl|omega):=t
def PL(t:T:=by refine g.ret ?_;exact⟨⟨_,bs.same⟩,.inl rfl,rfl,rfl,_,_,_,rfl,rfl,rfl,B⟩):=t
def PM(t:T:=by have ak:((d.take (i0+1)).filter λE=>!bk E).length=i0:=aff;simp[ak]):=t
def PN(t:T:=by exact bO [14,-25] rfl lO (g.az (e+1) rfl D D N w)):=t
def PO(t:T:=by simp[x]at t;subst t;obtain⟨i,O⟩:=EJ x;grind):=t
def PP(t:T:=by exact .aL (a1.gV rfl rfl Tryz.underlying22 rfl b') rfl):=t
def PQ(t:T:=by simp only[U,show vx.bytes=16 from rfl,ba,a9];grind):=t
def PR(t:T:=by simp only[U,kx,tY,cW,d,r,O,aj,bw,i];grind):=t
def PS(t:T:=by refine cU C rfl B (g.aJ [0] rfl ?_ hi);simp):=t
def PT(t:T:=by have ak:scanUp (λE=>ltInt E d0[x]!) d0 (i-1) (x+1)=h:=F7;exact dy () B rfl bv rfl D):=t
def PU(t:T:=by exact bZ.dm [0,1] rfl B bF rfl rfl s9):=t
def PV(t:T:=by simp only[h]at j⊢;obtain⟨vQ,bz,Gw⟩:=t.dU _ _ h;grind[mF]):=t
def PW(t:T:=by simp[G,ap,stepG.exec,Frame.ab,C,O,aj,GStep.after,doReturn,bY]):=t
def PX(t:T:=by rename_i bT;cases t;exact aT.aZ a7 (a1.pick bk bT)):=t
def PY(t:T:=by exact .ctl aj rfl (λ_=>MR) λb7 dC=>lX .normal dG aq b7 fW bk (C.rely dC aj) (aj.rely dC) (O.trans dC.aT)):=t
def PZ(t:T:=by simp only[U,a8,show dZ.bytes=8 from rfl,bw,dr,gR,eW,ea];and_intros<;>first|rfl|omega|(simp[hf];done)):=t
def P0(t:T:=by simp only[U,cV,s,ak,x,i,a8,bw,dr,ba,a9];and_intros<;>omega):=t
def P1(t:T:=by rw[s];simp only[U.Y,U,O,dm,fs,gQ,ba,a9];and_intros<;>first|exact bs.same|exact r j bD|rfl|omega):=t
def P2(t:T:=by rw[d];simp[-al];exact bu.aW _ aj):=t
def P3(t:T:=by rw[x];simp only[U.Y,U,i,ba,a9];and_intros<;>first|exact bs.same|exact ak|rfl|omega):=t
def P4(t:T:=by simp only[U.Y,U,cV,s,ak,x,a9,ba];exact lh u w w (λ_ _=>rfl)):=t
def P5(t:T:=by exact⟨by simp[aJ,MemAct.low],λi s=>by simp[aJ,MemAct.touch?]at s,λi s=>by simp[aJ,MemAct.touch?]at s,⟨by simp,by simp⟩,by simp⟩):=t
def P6(t:T:=by simp[-al,kk,aj,O,a8];omega):=t
def P7(t:T:=by refine i2 ?_;change dw b (Sem.events P (asInt (.int .i64 0) >>= _) _ _);simp[asInt,asIntOf,IntKind.max];exact .nil):=t
def P8(t:T:=by exact .dj (.aL (a1.gV rfl rfl Tryz.underlying22 rfl b') rfl)):=t
def P9(t:T:=by simp only[U,cV,cW,bT,bk,a8,bw,ba,a9];and_intros<;>omega):=t
def P_(t:T:=by refine aR rfl B (g.ret (.freeze 8 4 rfl rfl rfl (.freeze 9 5 rfl rfl rfl (.of ⟨(),k9.cells bb [0,1] rfl ?_ rfl rfl rfl qs⟩))));simp):=t
def P'(t:T:=by have O:a' (af.ay S) [(8,dS [fb j6,fb j6] (bg l))]:=.cons (d9 Jl) .nil;refine bd O [-50,-56,59,63] rfl D (g.aJ [0,1,2] rfl ?_ kp);simp):=t
def Qa(t:T:=by simp only[U,a2.l,bh.l,a3.l,bu.l,e,sf,j];and_intros<;>first|rfl|exact True.intro|exact a2.U _|exact bh.U _|exact a3.U _|exact bu.U _|exact a7):=t
def Qb(t:T:=by rw[h.bz i (eK cZ t.size) (dy i cZ ju),t.bz i cZ ju]):=t
def Qc(t:T:=by rw[O];simp[-al,s3];exact bS.aW _ _):=t
def Qd(t:T:=by rw[s];simp only[U.Y,U,cW,O,dm,gC,ba,a9];and_intros<;>first|exact bs.same|exact C|rfl|omega):=t
def Qe(t:T:=by exact .aL (a1.fI rfl rfl Tryz.underlying22 rfl x) rfl):=t
def Qf(t:T:=by obtain rfl:e=T.2.length:=w;rw[c8];refine a_ i [-15] rfl D (g.aA ?_);refine b9 i rfl B ?_;refine g.bg () [] ?_ (λu h=>absurd h D);simp[hO]):=t
def Qg(t:T:=by simp only[U.Y,U,cV,ba,a9];and_intros<;>first|exact bs.same|exact dL|rfl):=t
def Qh(t:T:=by simp only[Go.binOp,Op.shift,bj (show¬i<0 by omega),t];exact⟨rfl,rfl⟩):=t
def Qi(t:T:=by rw[i];simp only[U.Y,U,cW,O,dm,gC,ba,a9];and_intros<;>first|exact bs.same|exact d|rfl|omega):=t
def Qj(t:T:=by rw[s];simp only[U.Y,U,aj,ba,a9];and_intros<;>first|exact u|simp|simp|grind|rfl|omega|simp):=t
def Qk(t:T:=by refine g.cc () [0,1,2] ?_ kp;simp[ik]):=t
def Ql(t:T:=by simp only[Go.binOp,ea,hI,dn,Op.intBits,ak,si O];exact⟨rfl,rfl⟩):=t
def Qm(t:T:=by simp[-al,r,bk,t,a8];omega):=t
def Qn(t:T:=by refine g.bg () [0,1] ?_ yr;simp):=t
def Qo(t:T:=by simp only[U.Y,U,i,ba,a9];and_intros<;>first|exactλ_ _=>rfl|exact s|rfl|omega):=t
def Qp(t:T:=by refine g.eK 2 ?_;refine g.cN 9 rfl (λ_=>rfl) ?_;refine g.ret ?_;exact⟨⟨_,bs.same⟩,.inl rfl,rfl,rfl,_,_,_,rfl,rfl,rfl,rfl⟩):=t
def Qq(t:T:=by refine a4 [-18,22] rfl bK ?_;refine g.cc () [] ?_ eN;simp):=t
def Qr(t:T:=by refine aR rfl B (g.aJ [0] rfl ?_ ig);simp):=t
def Qs(t:T:=by have ak:scanDown (λE=>ltInt d2[x]! E) d2 (aj) (s)=h:=Aj;exact dy () B rfl bv rfl D):=t
def Qt(t:T:=by refine a4 [-8] rfl D (g.aA ?_);exact aR rfl B (g.aw rfl)):=t
def Qu(t:T:=by rw[i];simp only[U.Y,U,cW,O,s,bH.l,az.l,dm,gC,ba,a9];and_intros<;>first|exact bs.same|exact d|rfl|omega):=t
def Qv(t:T:=by simp only[ho,List.take_zero,hU,o,U.Y,U,ba,a9];and_intros<;>first|simp|rfl|omega):=t
def Qw(t:T:=by refine aR rfl B ?_;refine g.aB (Y3 (q:=q) h (by simpa using bY)) [] rfl ?_;refine a4 [18,22] rfl D ?_;refine g.cc () [] ?_ eN;simp):=t
def Qx(t:T:=by refine cA rfl B (g.aJ [0] rfl ?_ ig);simp;rfl):=t
def Qy(t:T:=by refine g.c1 4 0 2 3 (lt:=_) (cz:=.ax aj d u s) rfl rfl (λ_=>rfl) (λ_=>rfl) (λ_ _=>by decide) ?_;exact g.aJ [0] rfl D s8):=t
def Qz(t:T:=by simp[-al,-List.contains_eq_mem,O,t,aj,az.l,az.U,a8];omega):=t
def QA(t:T:=by refine a4 [-9] rfl bK (g.bs rfl rfl ?_);refine aR rfl B (g.aw rfl ?_);simp[te (λu r=>x u w)]):=t
def QB(t:T:=by rw[i];simp[-al];exact bu.aW _ (cu o e,lB o e)):=t
def QC(t:T:=by simp only[U.Y,U,bs.same,ba,a9];rfl):=t
def QD(t:T:=by rw[s];simp only[U.Y,U,dm,gC,ba,a9];and_intros<;>first|exact bs.same|exact aj j|rfl|omega):=t
def QE(t:T:=by simp[-al,t,kx,tY,i,O,C,s,A];omega):=t
def QF(t:T:=by refine⟨rfl,λe bp=>?_⟩;rcases e with _|_|_|_|_|_|_|_|e<;>first|rfl|omega):=t
def QG(t:T:=by and_intros<;>first|exact bS.U _|rfl|omega):=t
def QH(t:T:=by refine g.c1 4 0 2 9 (lt:=.ax O e h C) (cz:=.nil) rfl rfl (λ_=>rfl) (λt=>absurd rfl t) (λ_ t=>absurd rfl t) ?_;exact g.aJ [0] rfl D s8):=t
def QI(t:T:=by simp[-al,-List.contains_eq_mem,O,t,aj,az.l,az.U,a8,show mH.bytes=24 from rfl];omega):=t
def QJ(t:T:=by refine bO [-52,55] rfl Ap (g.aJ [0] rfl ?_ hi);exact bF):=t
def QK(t:T:=by have ak:=a2.cW b.1 t (0,[]);simp only[U.Y,U,i,bH.l,a9,ba];exact⟨⟨bs.same,bs.same,bs.same⟩,⟨bs.same,bs.same,bs.same⟩,⟨rfl,bs.same⟩,ak,bs.same⟩):=t
def QL(t:T:=by exact .aL (KG 0 rfl rfl rfl lD (λp=>rfl) (λp=>rfl)) rfl):=t
def QM(t:T:=by simp[-al,A,o,bH.l,bH.U,t]):=t
def QN(t:T:=by refine⟨by grind[nR],by grind,?_⟩;rw[<-s,u0,aj,show x+L / 4*2-1+(3-(h+1))+1=x+L / 4*2-1+(3-h) by omega]):=t
def QO(t:T:=by subst d;exact⟨.bool l,by simp[ab,t,i,O,x,binOp,h],Rd.bool,by simp[ab,t,i,O,x,aj,binOp,h,C]⟩):=t
def QP(t:T:=by simp only[aH];grind[setRow_other]):=t
def QQ(t:T:=by simp only[U.Y,U,x,i,o9,cV,a9,ba];and_intros<;>first|exactλ_ _=>rfl|exact A|rfl):=t
def QR(t:T:=by rw[h];simp only[dm,gC,U.Y,U,x,ba,a9];and_intros<;>first|exact A|simp|rfl|omega):=t
def QS(t:T:=by simp[-al,bz,o,bY,i,r,bH.l,bH.U,a8];omega):=t
def QT(t:T:=by refine⟨by grind,a7,by grind,λe bp=>bz e N⟩):=t
def QU(t:T:=by have ak:=dp cZ;subst ak;exact DU (W:=W) (V:=dI) (b8 C) D uh):=t
def QV(t:T:=by refine b9 i rfl bF (g.az (e+1) rfl D ?_ t w);simp):=t
def QW(t:T:=by simp only[U,a8,ak,s,A,bw,eq_self,ba,a9];omega):=t
def QX(t:T:=by exact aR rfl D (g.bu ⟨(7,h+3),by simp⟩ (g.aJ [0] rfl D kR))):=t
def QY(t:T:=by and_intros<;>first|exact bs.same|exact mj|rfl):=t
def QZ(t:T:=by refine a4 [-9] rfl bK (g.aA ?_);refine aR rfl B (g.aJ [0] rfl ?_ ig);simp[te (λu j=>x u w)]):=t
def Q0(t:T:=by simp only[U,show nD.bytes=32 from rfl,ba,a9];grind):=t
def Q1(t:T:=by simp only[U,a8,ak,s,e,bw,dr,ba,a9];omega):=t
def Q2(t:T:=by refine cU i rfl ub ?_;exact⟨⟨_,by rw[cV];exact fc⟩,.inr rfl,rfl,rfl,_,_,_,rfl,rfl,rfl,B⟩):=t
def Q3(t:T:=by simp only[U,bw,ba,a9];and_intros<;>omega):=t
def Q4(t:T:=by simp only[U,C,s,i,bu.l,bu.U,lJ,and_self,gm,ba,a9]):=t
def Q5(t:T:=by have ak:scanDown (λE=>!ltInt E d2[x]!) d2 (d) (t)=h:=Aj;exact dy () B rfl bv rfl D):=t
def Q6(t:T:=by obtain⟨cY,dC⟩:=aj W gp DT dI N;refine⟨cY,λak=>?_⟩;obtain⟨L,T,A⟩:=dC ak;refine⟨L,?_,A⟩;simp only[a6.cut,iA,gW,dx];exact T):=t
def Q7(t:T:=by simp only[U,xC,bw,dr,x,a8];omega):=t
def Q8(t:T:=by have ak:scanUp (λE=>ltInt E d2[x]!) d2 (t) (dZ)=h:=F7;exact dy () B rfl bv rfl D):=t
def Q9(t:T:=by simp only;rw[h,dm,show ∀x,[x].length=1 fromλ_=>rfl,uO,A7,GA N,T,iy w];rfl):=t
def Q_(t:T:=by subst t;cases E<;>cases bD<;>simp only at O<;>simp[binOp,x]):=t
def Q'(t:T:=by obtain⟨rfl,rfl⟩:=t;obtain⟨i,x⟩:=cx;replace x:0<bD:=x;simp only[binOp,ea,hI,dn,Op.intDiv,show bD≠0 by omega];rfl):=t
def Ra(t:T:=by exact a4 [-8] rfl (nj OJ) (g.aw rfl)):=t
def Rb(t:T:=by intro j t;rw[fs,List.range'_succ];refine⟨by simpa using t 0 r rfl,x (j+1) λu i Kw=>?_⟩;have:=t (u+1) i N;grind):=t
def Rc(t:T:=by refine b9 x rfl bF ?_;refine g.aL (yX ((min (aj+8) o.length:Nat):Int) rfl rfl rfl w d) rfl rfl ?_;refine b9 x rfl B (g.aw rfl ?_);simp[ak]):=t
def Rf(t:T:=by refine bO [52] rfl z3 (g.aJ [0] rfl ?_ hi);exact bF):=t
def Rg(t:T:=by refine⟨i,rfl,?_⟩;rw[bj w];simp[g6,jM]):=t
def Rh(t:T:=by simp only[U,a8,bw,ba,a9];and_intros<;>first|rfl|omega):=t
def Ri(t:T:=by simp[-al];exact bu.aW _ aj):=t
def Rj(t:T:=by simp only[U,cV,s,ak,x,h,C,i,a8,bw,dr,ba,a9];and_intros<;>omega):=t
def Rk(t:T:=by exact aT.eval (bf:=[]) bb a'.nil rfl (nC b d j i t)):=t
def Rl(t:T:=by rw[x];simp only[U.Y,U,dm,fs,gQ,ba,a9];and_intros<;>first|exactλ_ _=>rfl|exact a7|rfl|omega):=t
def Rm(t:T:=by simp[-al,A,j,o,bH.l,bH.U,t,a8];omega):=t
def Rn(t:T:=by subst d;exact⟨.bool v,by simp[ab,t,i,O,x,binOp,h],Rd.bool,by simp[ab,t,i,O,x,aj,binOp,h,C]⟩):=t
def Ro(t:T:=by simp only[U,a8,bw,dr,ba,a9];and_intros<;>omega):=t
def Rp(t:T:=by refine a4 [-9] rfl bv (g.aA ?_);exact aR rfl B (g.aw rfl)):=t
def Rq(t:T:=by and_intros<;>first|exact bS.U _|exact fi.U _|omega):=t
def Rr(t:T:=by rw[d];simp only[U.Y,U,i,s,A,a2.l,dm,gC,ba,a9];and_intros<;>first|exact bs.same|exact r|rfl|omega):=t
def Rs(t:T:=by simp only[U,a2.l,bh.l,a3.l,bu.l,e,sf,r];and_intros<;>first|rfl|exact True.intro|exact a2.U _|exact bh.U _|exact a3.U _|exact bu.U _|exact a7):=t
def Rt(t:T:=by rw[s];simp only[U.Y,U,cW,u,dm,gC,ba,a9];and_intros<;>first|exact bs.same|exact d|rfl|omega):=t
def Ru(t:T:=by have:=t e (rr.2 bp);simp only[ip,cm]at this;grind):=t
def Rv(t:T:=by simp only[U.Y,U,dm,gC,ba,a9];and_intros<;>first|exact bs.same|exact bT|rfl|omega):=t
def Rw(t:T:=by simp[-al,j,r,a8,cw.l,cw.U,a2.l,a2.U,A,C.1];and_intros<;>first|omega|grind):=t
def Rx(t:T:=by and_intros<;>first|exactλ_ _=>rfl|exact ak|rfl|omega):=t
def Ry(t:T:=by have bk:=C _ aj;simp only[U,i,bH.l,a8];exact⟨by omega,B,B,show(e+1)*32<=_ by omega,bH.U _,bk,by omega,by omega,fa w⟩):=t
def RA(t:T:=by simp only[U.Y,U,dm,gC,ba,a9];and_intros<;>first|exact bs.same|exact s|rfl|omega):=t
def RB(t:T:=by rw[<-gW,dL]at f1;simp only[ih,e']at f1;grind):=t
def RC(t:T:=by simp only[U,aj,a8,show pn.bytes=16 from rfl,bw,dr,jl,AS,gR,eW,iC,ea,heq,hI,qc,gm,fB,iz,lJ,n8,ba,a9];and_intros<;>omega):=t
def RD(t:T:=by have ak:scanDown (λE=>!ltInt E d0[x]!) d0 (e) (i-1)=h:=Aj;exact dy () B rfl bv rfl D):=t
def RE(t:T:=by exact⟨by exact cX,λi h=>by exact cX,⟨by simp,by simp⟩,by simp⟩):=t
def RF(t:T:=by rename_i ak;subst ak;intro pre vw;refine .ctl aj rfl (λ_=>MQ (gp:=h) (by rw[vw];simp[exitTo])) λb7 dC=>?_;exact lX .normal dG aq b7 fW bk (C.rely dC aj) (aj.rely dC) (O.trans dC.aT)):=t
def RG(t:T:=by have ak:O[e]?=(d.filter λE=>!bk E)[e]?:=N;refine(Om wN).trans ?_;simp only[c6.fn,gK,al,ak]):=t
def RH(t:T:=by simp only[U,a8,i,x,gm,bw,dr,ba,a9];and_intros<;>omega):=t
def RI(t:T:=by simp only[U,az.U,az.l,G,T,ba,a9];and_intros<;>first|exact H|rfl|(simp;first|exact T|exact T.symm|exact aa|exact aa.symm|exactλak=>aa ak.symm)):=t
def RJ(t:T:=by rw[hL]at t;cases t;exact fq.dj (dT a0 ak i cx) aj h):=t
def RK(t:T:=by simp[-al,-List.length_take,O,kk,i,C,s,a8];omega):=t
def RL(t:T:=by refine bO [-52,-55] rfl bv (g.aJ [0] rfl ?_ hi);simp[aj,ak,qy,Dk]):=t
def RM(t:T:=by have i:=(a0 o e bp).run_underlying (p:=b.a);rw[aj]at i;simp[ab,t,x,O,Instr.index,asIntOf,i,Kw,C]):=t
def RN(t:T:=by obtain⟨T,L1,cY,dC,a7⟩:=t.box d bT L aM x;obtain⟨o,u,k1,aj,C⟩:=h.box d T L1 cY dC;exact⟨o,u,k1,aj,a7.trans C⟩):=t
def RO(t:T:=by have:=O.a0 _ (mE (show b.1.length-1<b.1.length by omega) (0,[]));omega):=t
def RP(t:T:=by simp only[U,bH.l,x,bY];and_intros<;>first|exact bH.U _|rfl|exact True.intro|grind):=t
def RQ(t:T:=by have afs:bk*a5.size+a5.size<=A*a5.size:=afe;grind):=t
def RR(t:T:=by have ak:=J4 C A aa;refine⟨by omega,rfl,?_,λ_ _=>rfl⟩;grind):=t
def RS(t:T:=by obtain⟨e,r,i,x⟩:=Di t;exact⟨e+1,r,by grind,x⟩):=t
def RT(t:T:=by refine aR rfl B ?_;exact⟨(),.inr rfl,rfl,rfl,_,_,_,rfl,rfl,rfl,B⟩):=t
def RV(t:T:=by simp[-al,O,s];omega):=t
def RX(t:T:=by have ef:a' (af.ay S) [(8,dS [fb j6,fb j6] (bg l))]:=.cons (d9 Jl) .nil;refine bd ef [-49,-55,58,62] rfl D (g.aJ [0,1,2] rfl ?_ kp);simp):=t
def RY(t:T:=by simp[-al,A,j,t,hf,a8,cw.l,cw.U,a2.l,a2.U,bh.U,a3.U,r,bk.1];and_intros<;>first|omega|grind):=t
def RZ(t:T:=by simp only[U.Y,U,cV,cW,a9,ba];exact lh bz w w (λ_ _=>rfl)):=t
def R0(t:T:=by simp only[ih,e']at dL;rw[<-dL,f2,t.dd]at fc;omega):=t
def R2(t:T:=by simp at O;subst O;exact⟨_,rfl,.inr ⟨rfl,rfl⟩⟩):=t
def R3(t:T:=by simp[ab,cx,resolve,s,Deferred.ofValue,invoke,O]):=t
def R4(t:T:=by refine g.c1 4 0 9 2 (lt:=.nil) (cz:=.ax aj d u s) rfl rfl (λt=>absurd rfl t) (λ_=>rfl) (λt=>absurd rfl t) ?_;exact g.aJ [0] rfl D s8):=t
end
end Go
namespace Go.AM
instance{j:Nat}:OfNat (Nat×Bool) j:=⟨(j,true)⟩
instance:Neg (Nat×Bool):=⟨λE=>(E.1,false)⟩
inductive M where
  |int (h:IntKind) (j:Int)
  |bool (i:Bool)
  |S (b:List UInt8)
  |B (tight:Bool) (h j:Nat) (V:Nat->List M)
  |Q (ai:List M)
  |bp
  |cg (o:an) (s:M)
  |cE (o:an) (ai:List M)
  |bD
  |fn (aj:Fn) (first cap:List M)
  |ds
  |val (E:X)
inductive pT where
  |B (C h r j:Nat)
  |bx (C h e aj:Nat)
def pT.g:pT->Nat
  |.B C _ _ _=>C
  |.bx C _ _ _=>C
def pT.fV:pT->X->X->Prop
  |.B _ h m k,d,i=>∃j e a b,i=.slice j k a/\k<=a/\m+a=b/\b<=9223372036854775807/\d=.slice e 0 b/\(0<a->∃g,e=f ⟨g,0,n⟩/\j=f ⟨g,m*h,n⟩)
  |.bx _ h p o,d,i=>∃g b,d=.slice (f ⟨g,0,n⟩) 0 b/\i=.pointer (f ⟨g,p*h+o,n⟩)
inductive Q where
  |c (E:M)
  |ptr (d off:Nat)
  |x (d h j:Nat) (V:Nat->List M)
  |aP (d:Nat)
  |O (d:Nat) (p:pT)
  |any
abbrev Q.v(a:X):Q:=.c (.val a)
inductive E1 where
  |R (x:Q)
  |agg (ai:List Q)
inductive y where
  |n (E:E1)
  |T (ah:List E1)
  |any
abbrev bM:=m (Nat×y)
def look:bM->Nat->y
  |[],_=>.any
  | (d,b)::e,a=>cond (ad d a) b (look e a)
inductive ar where
  |cells (W:an) (ai:List Q)
  |x (W:an) (h j:Nat) (V:Nat->List M)
  |K (H:X->(Nat->Option Obj)->Prop)
  |N
  |loop (F:Nat) (J:bM) (a7:Loop)
  |bk
  |q (W:an) (h j:Nat) (V:Nat->List M)
@[simp] def ar.dT:ar->Bool
  |.x _ _ _ _=>l
  |.q _ _ _ _=>l
  |_=>v
structure Loc where
  v:X
  al:m Nat
abbrev Mem:=Nat->Nat->Option X
structure a6 where
  t:m Loc
  D:Mem
  a:au
  own:Nat->Prop
def a8:IntKind->Int->Prop
  |.i8,a=>-128<=a/\a<=127
  |.i16,a=>-32768<=a/\a<=32767
  |.i32,a=>-2147483648<=a/\a<=2147483647
  |.i64,a=>-9223372036854775808<=a/\a<=9223372036854775807
  |.u8,a=>0<=a/\a<=255
  |.u16,a=>0<=a/\a<=65535
  |.u32,a=>0<=a/\a<=4294967295
  |.u64,a=>0<=a/\a<=18446744073709551615
def dU:X->Bool
  |.agg _|.tuple _=>v
  |_=>l
def pT.fV.cell{b:pT}{aap aa}(a:b.fV aap aa):dU aa=l:=by
  cases b with
  |B=>obtain⟨_,_,_,_,rfl,_⟩:=a;rfl
  |bx=>obtain⟨_,_,_,rfl⟩:=a;rfl
inductive Rd (bB:Mem):X->M->Prop
  |int {h:IntKind} {j:Int} (t:a8 h j):Rd bB (.int h j) (.int h j)
  |bool {i:Bool}:Rd bB (.bool i) (.bool i)
  |S {b:ByteArray} {d:List UInt8} (t:b.data.toList=d) (gW:c d<=9223372036854775807):Rd bB (.string b) (.S d)
  |B {x:Option Addr} {j cap:Nat} {tight:Bool} {h:Nat} {V:Nat->List M} (i off:Nat) (aj:Nat->Nat->X)
      (afn:j<=cap) (cZ:cap<=9223372036854775807) (aft:tight=l->cap=j) (bY:∀e,e<j->c (V e)=h)
      (afl:0<j->x=f ⟨i,off,n⟩)
      (Dm:∀e,e<j->∀u s,(V e)[u]?=f s->bB i (off+e*h+u)=f (aj e u))
      (Kx:∀e,e<j->∀u s,(V e)[u]?=f s->Rd bB (aj e u) s):Rd bB (.slice x j cap) (.B tight h j V)
  |Q {ai:List M} (i off:Nat) (aj:Nat->X)
      (Dm:∀u s,ai[u]?=f s->bB i (off+u)=f (aj u))
      (Kx:∀u s,ai[u]?=f s->Rd bB (aj u) s):Rd bB (.pointer (f ⟨i,off,n⟩)) (.Q ai)
  |bp:Rd bB (.pointer n) .bp
  |cg {o:an} {aa:X} {s:M} (t:Rd bB aa s) (afm:dU aa=l):Rd bB (.iface o aa) (.cg o s)
  |cE {o:an} {z:List X} {ai:List M} (gW:c z=c ai)
      (aj:Nat->X) (pm:∀u,u<c z->z[u]?=f (aj u)) (Kx:∀u s,ai[u]?=f s->Rd bB (aj u) s):Rd bB (.iface o (.agg z.toArray)) (.cE o ai)
  |bD:Rd bB .nilIface .bD
  |fn {C:Fn} {first cap:List M} (yB ai:List X) (gW:c yB=c first) (afp:c ai=c cap) (f1 f2:Nat->X)
      (cY:∀u,u<c yB->yB[u]?=f (f1 u)) (dC:∀u,u<c ai->ai[u]?=f (f2 u))
      (afy:∀u s,first[u]?=f s->Rd bB (f1 u) s) (afz:∀u s,cap[u]?=f s->Rd bB (f2 u) s):Rd bB (.func C yB.toArray ai.toArray) (.fn C first cap)
  |ds:Rd bB .nilFunc .ds
  |val {E:X} (t:dU E=l):Rd bB E (.val E)
theorem Rd.bd{bB}{aa a}(b:Rd bB aa (.val a)):aa=a:=by cases b;rfl
def Rd.cell{bB}{aa}{s}(a:Rd bB aa s):dU aa=l:=by cases a<;>first|rfl|assumption
def Rd.mono{bB m}(J:∀k K aa,bB k K=f aa->m k K=f aa){aa}{s}(h:Rd bB aa s):Rd m aa s:=by
  induction h with
  |int h=>exact .int h
  |bool=>exact .bool
  |S h e=>exact .S h e
  |B k g o M D F E C j q b=>
    exact .B k g o M D F E C (λI i d s a=>J _ _ _ (j I i d s a)) (λI i d s a=>b I i d s a)
  |Q k g o j q b=>exact .Q k g o (λd s a=>J _ _ _ (j d s a)) (λd s a=>b d s a)
  |bp=>exact .bp
  |cg h N b=>exact .cg b N
  |cE e o O q b=>exact .cE e o O (λd s a=>b d s a)
  |bD=>exact .bD
  |fn y u e p w x z A R T r t=>exact .fn y u e p w x z A (λd s a=>r d s a) (λd s a=>t d s a)
  |ds=>exact .ds
  |val h=>exact .val h
def cB(h:m ar)(i:a6)(b:X):Q->Prop
  |.c w=>Rd i.D b w
  |.ptr a o=>(∀j,h[a]?=f j->j.dT=v)/\∃L u,i.t[a]?=f L/\L.v=.pointer (f ⟨u,0,n⟩)/\b=.pointer (f ⟨u,o,n⟩)
  |.x a q e d=>Rd i.D b (.B v q e d)/\a<c h/\∀p r g k,h[a]?=f (ar.x p r g k)->e<=g/\(g=e->∃L,i.t[a]?=f L/\b=L.v)
  |.aP a=>(∀j,h[a]?=f j->j.dT=v)/\∃L,i.t[a]?=f L/\b=L.v/\dU b=l
  |.O a s=>∃t,s.fV t b/\a<c h/\∀p q e d,h[a]?=f (ar.q p q e d)->s.g<=e/\(s.g=e->∃L,i.t[a]?=f L/\L.v=t)
  |.any=>dU b=l
def bP(b:m ar)(d:a6):m X->m Q->Prop
  |[],[]=>True
  |g::z,e::a=>cB b d g e/\bP b d z a
  |_,_=>False
def eC(b:m ar)(d:a6)(e:X):E1->Prop
  |.R g=>cB b d e g
  |.agg a=>∃z:m X,e=.agg z.toArray/\bP b d z a
def e4(b:m ar)(d:a6):m X->m E1->Prop
  |[],[]=>True
  |g::z,e::a=>eC b d g e/\e4 b d z a
  |_,_=>False
def bx(b:m ar)(d:a6)(e:X):y->Prop
  |.n g=>eC b d e g
  |.T a=>∃z:m X,e=.tuple z.toArray/\e4 b d z a
  |.any=>True
def b5(b:m ar)(d:a6):m X->m y->Prop
  |[],[]=>True
  |g::z,e::a=>bx b d g e/\b5 b d z a
  |_,_=>False
structure e3(bB:Mem)(h j:Nat)(V:Nat->m M)(z:m X):Prop where
  len:c z=j*h
  bF:∀e,e<j->c (V e)=h
  rd:∀e,e<j->∀(u:Nat) (s:M),(V e)[u]?=f s->∃aa,z[e*h+u]?=f aa/\Rd bB aa s
def e3.mono{bB a}(o:∀i k aa,bB i k=f aa->a i k=f aa){h j}{b:Nat->m M}{z}(d:e3 bB h j b z):e3 a h j b z:=
  ⟨d.len,d.bF,λq e r p g=>let ⟨aa,cY,dC⟩:=d.rd q e r p g;⟨aa,cY,dC.mono o⟩⟩
def eB(u:m ar)(b:a6):ar->Loc->Prop
  |.cells o s,L=>∃a z,L=⟨.pointer (f ⟨a,0,n⟩),[a]⟩/\b.a.heap[a]?=f (.cells (List.toArray z) o (0,0))/\bP u b z s/\∀d,b.D a d=n
  |.x o j g e,L=>Rd b.D L.v (.B v j g e) /\
      (((L.al=[]/\g=0)/\Rd b.D L.v (.B l j g e)) ∨
       ∃a h z,L=⟨.slice (f ⟨a,0,n⟩) g h,[a]⟩/\b.a.heap[a]?=f (.cells (List.toArray z) o (0,0))/\c z=h*j/\∀d,g*j<=d->b.D a d=n)
  |.K H,L=>∃i,H L.v i/\(∀a d,i a=f d->b.a.heap[a]?=f d)/\(∀a,a∈L.al↔(i a).isSome=l)/\∀a∈L.al,∀d,b.D a d=n
  |.N,_=>True
  |.loop y x k,L=>∃r tmps fn t,L=⟨.func (.yield r) #[] #[],[r]⟩/\b.a.heap[r]?=f (.loop {k with tmps:=tmps,fn:=fn,defers:=t})/\tmps.size=y/\(∀w,bx u b (tmps.getD w I) (look x w))/\∀d,b.D r d=n
  |.bk,L=>∃k:Nat,L=⟨.int .i64 k,[k]⟩/\b.a.heap[k]?=f (.deferred (f []))/\∀d,b.D k d=n
  |.q o j g e,L=>(g=0/\L=⟨.slice n 0 0,[]⟩)∨∃a q z p,L=⟨.slice (f ⟨a,0,n⟩) 0 q,[a]⟩/\b.a.heap[a]?=f (.cells (List.toArray (z++p)) o (0,0))/\c (z++p)=q*j/\g<=q/\q<=9223372036854775807/\e3 b.D j g e z/\∀d,b.D a d=n
structure bc(k:m ar)(b:a6):Prop where
  mem:∀i r aa,b.D i r=f aa->b.a.cell? ⟨i,r,n⟩=f aa
  len:c b.t=c k
  box:∀(d:Nat) (bT:ar) (L:Loc),k[d]?=f bT->b.t[d]?=f L->eB k b bT L
  a3:∀(d kU:Nat) (L cv:Loc),b.t[d]?=f L->b.t[kU]?=f cv->∀i∈L.al,i∈cv.al->d=kU
  lt:∀L∈b.t,∀i∈L.al,i<b.a.heap.size
  own:∀i,b.own i->i<b.a.heap.size/\∀L∈b.t,i∉L.al
def fV:ar->Loc->ar->Loc->Prop
  |.x _ _ d _,L,.x _ _ b _,a=>(b=d->a.v=L.v)/\d<=b
  |.x _ _ _ _,_,.N,_=>True
  |.x _ _ _ _,_,_,_=>False
  |.q _ _ d _,L,.q _ _ b _,a=>(b=d->a.v=L.v)/\d<=b
  |.q _ _ _ _,_,.N,_=>True
  |.q _ _ _ _,_,_,_=>False
  |_,_,.x _ _ _ _,_=>False
  |_,_,.q _ _ _ _,_=>False
  |.N,L,.N,a=>a.v=L.v
  |.N,_,_,_=>False
  |.bk,L,.bk,a=>a.v=L.v
  |.bk,_,_,_=>False
  |_,_,.bk,_=>False
  |_,L,_,a=>a.v=L.v
structure fz(k:m ar)(b:a6)(aq:m ar)(aF:a6):Prop where
  mem:∀i r aa,b.D i r=f aa->aF.D i r=f aa
  box:∀(d:Nat) (bT:ar) (L:Loc),k[d]?=f bT->b.t[d]?=f L->∃eg cv,aq[d]?=f eg/\aF.t[d]?=f cv/\fV bT L eg cv
structure cO(k:m ar)(b:a6)(aq:m ar)(aF:a6):Prop where
  size:b.a.heap.size<=aF.a.heap.size
  a4:∀i,i<b.a.heap.size->(∀L∈b.t,i∉L.al)->aF.a.heap[i]?=b.a.heap[i]?
  mem:∀i r aa,b.D i r=f aa->aF.D i r=f aa
  bz:∀i,i<b.a.heap.size->(∀L∈b.t,i∉L.al)->∀r,aF.D i r=b.D i r
  bR:∀cv∈aF.t,∀i∈cv.al,b.a.heap.size<=i∨∃L∈b.t,i∈L.al
  box:∀(d:Nat) (bT:ar) (L:Loc),k[d]?=f bT->b.t[d]?=f L->∃eg cv,aq[d]?=f eg/\aF.t[d]?=f cv/\fV bT L eg cv
  os:aF.a.os=b.a.os
  tape:aF.a.tape=b.a.tape
  output:aF.a.output=b.a.output
  own:aF.own=b.own
structure dg(k:m ar)(b:a6)(aq:m ar)(aF:a6):Prop where
  size:b.a.heap.size<=aF.a.heap.size
  a4:∀i,b.own i->aF.a.heap[i]?=b.a.heap[i]?
  mem:∀i r aa,b.D i r=f aa->aF.D i r=f aa
  bz:∀i,i<b.a.heap.size->(∀L∈b.t,i∉L.al)->∀r,aF.D i r=b.D i r
  bR:∀cv∈aF.t,∀i∈cv.al,b.a.heap.size<=i∨∃L∈b.t,i∈L.al
  box:∀(d:Nat) (bT:ar) (L:Loc),k[d]?=f bT->b.t[d]?=f L->∃eg cv,aq[d]?=f eg/\aF.t[d]?=f cv/\fV bT L eg cv
  os:aF.a.os=b.a.os
  tape:aF.a.tape=b.a.tape
  output:aF.a.output=b.a.output
  own:aF.own=b.own
structure c0(b aF:a6):Prop where
  t:aF.t=b.t
  D:aF.D=b.D
  own:aF.own=b.own
  size:b.a.heap.size<=aF.a.heap.size
  a4:∀i,(b.own i∨∃L∈b.t,i∈L.al)->aF.a.heap[i]?=b.a.heap[i]?
  mem:∀i r aa,b.D i r=f aa->aF.a.cell? ⟨i,r,n⟩=f aa
  os:aF.a.os=b.a.os
  tape:aF.a.tape=b.a.tape
  output:aF.a.output=b.a.output
def ie(d:a6)(b:aN):Prop:=
  match b.loc with
  |.cell a=>b.sync=v/\a.spot=n/\(False∨((∃L∈d.t,a.block∈L.al)/\(b.write=l->d.D a.block a.off=n))∨(b.write=v/\∃i,d.D a.block a.off=f i))
  |.obj h=>b.sync=v/\(False∨∃L∈d.t,h∈L.al)
  |.mark e=>e=.noRoom∨∃g,e=.extern g
  |_=>False
def dw(d:a6)(a:Array aN):Prop:=∀b∈a,ie d b
def dw.nil{b}:dw b #[]:=by intro a d;grind
def fV.refl(a)(L):fV a L a L:=by cases a<;>simp[fV]
def fV.trans{g d a}{L e b}(i:fV g L d e)(h:fV d e a b):fV g L a b:=by
  cases g<;>cases d<;>cases a<;>simp_all[fV]
  all_goals
    grind
def cO.refl(k)(b):cO k b k b:=
  ⟨bC _,λ_ _ _=>rfl,λ_ _ _ a=>a,λ_ _ _ _=>rfl,λL a h d=>.inr ⟨L,a,d⟩,λ_ e L a g=>⟨e,L,a,g,.refl _ _⟩,rfl,rfl,rfl,rfl⟩
def cO.trans{k aX a}{b e b7}(t:cO k b aX e)(h:cO aX e a b7):cO k b a b7:=by
  have dy:∀i,i<b.a.heap.size->(∀L∈b.t,i∉L.al)->∀L∈e.t,i∉L.al:=by
    intro i cZ ju L x g;rcases t.bR L x i g with cY|⟨w,s,p⟩
    · omega
    grind
  refine⟨fY t.size h.size,?_,λi m y j=>h.mem _ _ _ (t.mem _ _ _ j),?_,?_,?_,h.os.trans t.os,h.tape.trans t.tape,h.output.trans t.output,h.own.trans t.own⟩
  · intro i cZ ju
    rw[h.a4 i (eK cZ t.size) (dy i cZ ju),t.a4 i cZ ju]
  · intro i cZ ju m
    exact Qb
  · intro L x i cZ
    rcases h.bR L x i cZ with cY|⟨L1,r,q⟩
    · exact .inl (fY t.size cY)
    grind
  · intro d bT L aM x
    exact RN
def dg.refl(k)(b):dg k b k b:=
  ⟨bC _,λ_ _=>rfl,λ_ _ _ a=>a,λ_ _ _ _=>rfl,λL a h d=>.inr ⟨L,a,d⟩,λ_ e L a g=>⟨e,L,a,g,.refl _ _⟩,rfl,rfl,rfl,rfl⟩
def dg.trans{k aX a}{b e b7}(t:dg k b aX e)(h:dg aX e a b7):dg k b a b7:=by
  have dy:∀i,i<b.a.heap.size->(∀L∈b.t,i∉L.al)->∀L∈e.t,i∉L.al:=by
    intro i cZ ju L x g;rcases t.bR L x i g with cY|⟨w,s,p⟩
    · omega
    grind
  refine⟨fY t.size h.size,?_,λi m y j=>h.mem _ _ _ (t.mem _ _ _ j),?_,?_,?_,h.os.trans t.os,h.tape.trans t.tape,h.output.trans t.output,h.own.trans t.own⟩
  · intro i cZ
    rw[h.a4 i (by rw[t.own];exact cZ),t.a4 i cZ]
  · intro i cZ ju m
    exact Qb
  · intro L x i cZ
    rcases h.bR L x i cZ with cY|⟨L1,r,q⟩
    · exact .inl (fY t.size cY)
    grind
  · intro d bT L aM x
    exact RN
def cO.too4{k aq}{b aF}(e:bc k b)(a:cO k b aq aF):dg k b aq aF:=
  ⟨a.size,λg d=>a.a4 g (e.own g d).1 (e.own g d).2,a.mem,a.bz,a.bR,a.box,a.os,a.tape,a.output,a.own⟩
def dg.ext{k aq}{b aF}(a:dg k b aq aF):fz k b aq aF:=⟨a.mem,a.box⟩
def c0.refl{k}{b}(a:bc k b):c0 b b:=⟨rfl,rfl,rfl,bC _,λ_ _=>rfl,a.mem,rfl,rfl,rfl⟩
def c0.aT{k}{b aF}(a:c0 b aF):dg k b k aF:=
  ⟨a.size,λg d=>a.a4 g (.inl d),λg m o i=>by rw[a.D];exact i,λ_ _ _ _=>by rw[a.D],λL e g d=>.inr ⟨L,by rw[<-a.t];exact e,d⟩,
    λj h L aM e=>⟨h,L,aM,by rw[a.t];exact e,.refl _ _⟩,a.os,a.tape,a.output,a.own⟩
def cO.ext{k aq}{b aF}(a:cO k b aq aF):fz k b aq aF:=⟨a.mem,a.box⟩
section mono
variable {k aq:m ar}{b aF:a6}
def fz.hy(m:fz k b aq aF){a:Nat}{L}(j:b.t[a]?=f L)(o:c b.t=c k)(h:∀d,k[a]?=f d->d.dT=v):
    (∀d,aq[a]?=f d->d.dT=v)/\∃e,aF.t[a]?=f e/\e.v=L.v:=by have i:a<c k:=N;obtain⟨g,e,k1,q,r⟩:=m.box a (k[a]) L (bJ i) j;have p:=h _ (bJ i);generalize k[a]=d at *;rw[k1];cases d<;>cases g<;>simp_all[fV,ar.dT]
def cB.mono(i:fz k b aq aF)(s:c b.t=c k){aa}{x}(j:cB k b aa x):cB aq aF aa x:=by
  cases x with
  |c V=>exact Rd.mono i.mem j
  |any=>exact j
  |ptr a K=>
    obtain⟨h,L,N,e,z,F⟩:=j;obtain⟨q,d,k1,A⟩:=i.hy e s h;exact⟨q,d,N,k1,by grind,F⟩
  |x a S T O=>
    obtain⟨B,m,Q⟩:=j;obtain⟨u,d,k1,A,r⟩:=i.box a (k[a]) (b.t[a]'w) (bJ m) (bJ w);have y:a<c aq:=(cP.1 k1).1;refine⟨Rd.mono i.mem B,y,λM C q o g=>?_⟩;rw[g]at k1;cases k1;have aM:=bJ m;generalize k[a]=t at *;cases t with
    |x eV D I p=>
      obtain⟨R,J⟩:=r;grind
    |_=>simp[fV]at r
  |aP a=>
    obtain⟨h,L,e,z,F⟩:=j;obtain⟨q,d,k1,A⟩:=i.hy e s h;exact⟨q,d,k1,by grind,F⟩
  |O a U=>
    obtain⟨E,B,m,Q⟩:=j;obtain⟨u,d,k1,A,r⟩:=i.box a (k[a]) (b.t[a]'w) (bJ m) (bJ w);have y:a<c aq:=(cP.1 k1).1;refine⟨E,B,y,λM C q o g=>?_⟩;rw[g]at k1;cases k1;have aM:=bJ m;generalize k[a]=t at *;cases t with
    |q eV D I p=>
      obtain⟨R,J⟩:=r;grind
    |_=>simp[fV]at r
def bP.mono(g:fz k b aq aF)(a:c b.t=c k){z}{ai}(e:bP k b z ai):bP aq aF z ai:=by
  induction z generalizing ai with
  |nil=>cases ai<;>simp_all[bP]
  |cons i z d=>
    cases ai with
    |nil=>simp[bP]at e
    |cons h ai=>exact⟨e.1.mono g a,d e.2⟩
def eC.mono(h:fz k b aq aF)(a:c b.t=c k){aa}{g}(i:eC k b aa g):eC aq aF aa g:=by
  cases g with
  |R m=>exact cB.mono h a i
  |agg j=>obtain⟨z,d,e⟩:=i;exact⟨z,d,e.mono h a⟩
def e4.mono(h:fz k b aq aF)(a:c b.t=c k){z}{ah}(e:e4 k b z ah):e4 aq aF z ah:=by
  induction z generalizing ah with
  |nil=>cases ah<;>simp_all[e4]
  |cons j z d=>
    cases ah with
    |nil=>simp[e4]at e
    |cons i g=>exact⟨e.1.mono h a,d e.2⟩
def bx.mono(h:fz k b aq aF)(a:c b.t=c k){aa}{d}(i:bx k b aa d):bx aq aF aa d:=by
  cases d with
  |n m=>exact eC.mono h a i
  |T j=>obtain⟨z,e,g⟩:=i;exact⟨z,e,g.mono h a⟩
  |any=>trivial
def b5.mono(h:fz k b aq aF)(a:c b.t=c k){z}{ah}(e:b5 k b z ah):b5 aq aF z ah:=by
  induction z generalizing ah with
  |nil=>cases ah<;>simp_all[b5]
  |cons j z d=>
    cases ah with
    |nil=>simp[b5]at e
    |cons i g=>exact⟨e.1.mono h a,d e.2⟩
end mono
def jh(e:m ar)(h:a6):m Deferred->m Nat->Prop
  |[],[]=>True
  |i::b,d::a=>(e[d]?=f .bk/\∃(L:Loc) (g:Nat),h.t[d]?=f L/\L.v=.int .i64 g/\i={target:=.collected g,args:=#[]})/\d∉a/\jh e h b a
  |_,_=>False
def jh.mono{k aq}{b aF}(o:fz k b aq aF):∀{a:m Deferred} {d:m Nat},jh k b a d->jh aq aF a d
  |[],[],_=>trivial
  |[],_::_,e=>e.elim
  |_::_,[],e=>e.elim
  |w::a,u::d,⟨⟨i,L,e,j,x,s⟩,t,p⟩=>by
    obtain⟨g,h,k1,q,r⟩:=o.box u _ L i j;cases g<;>simp[fV]at r
    exact⟨⟨k1,h,e,q,by grind,s⟩,t,jh.mono o p⟩
def jX:m ar->Bool
  |[]=>l
  |.bk::_=>v
  |_::a=>jX a
def vO:∀{e:m ar},jX e=l->∀a∈e,a≠.bk
  |[],_,a,aM=>by grind
  |d::g,h,a,aM=>by
    have b:d≠.bk/\jX g=l:=by cases d<;>simp_all[jX]
    rcases fh.1 aM with rfl|aM
    · exact b.1
    · exact vO b.2 a aM
theorem mB{b}{a}{wr}{L}(d:L∈b.t)(e:a∈L.al):ie b ⟨.obj a,wr,v⟩:=⟨rfl,.inr ⟨L,d,e⟩⟩
def dw.R{b}{a}(e:ie b a):dw b #[a]:=by intro E d;grind
def dw.fj{b}{d a}(h:ie b d)(g:ie b a):dw b #[d,a]:=by intro i e;grind
def bv{T:Prop}(t:T:=by simp<;>omega):T:=t
def cX{T:Prop}(t:T:=by((try simp only[U,U.Y,a8,bw,dr,cW,cV,dm,gC,fs,gQ,kK,List.length_take,ea,eW,gR,iC,dn,dx,gm,iz,fB,hT,hI,qc,cm,jL,jl,lJ,n8,lI,a9,ba]);and_intros<;>first|rfl|omega|trivial|assumption)):T:=t
def hK{T:Prop}(t:T:=by((try simp only[*,U,U.Y,a8,bw,dr,cW,cV,dm,gC,fs,gQ,kK,List.length_take,ea,eW,gR,iC,dn,dx,gm,iz,fB,hT,hI,qc,cm,jL,jl,lJ,n8,lI,a9,ba]);and_intros<;>first|rfl|omega|trivial|assumption)):T:=t
def lO{T:Prop}(t:T:=by(simp_all[U,U.Y,a8,bw,dr,cW,cV,dm,gC,fs,gQ,kK,List.length_take,ea,eW,gR,iC,dn,dx,gm,iz,fB,hT,hI,qc,cm,jL,jl,lJ,n8,lI,a9,ba]<;>omega)):T:=t
def bF{T:Prop}(t:T:=by((try simp only[*,U,U.Y,a8,bw,dr,cW,cV,dm,gC,fs,gQ,kK,List.length_take,ea,eW,gR,iC,dn,dx,gm,iz,fB,hT,hI,qc,cm,jL,jl,lJ,n8,lI,a9,ba,a2.l,a3.l,bh.l,bH.l,az.l,bu.l,bS.l,cw.l,fi.l,a2.U,a3.U,bh.U,bH.U,az.U,bu.U,bS.U,cw.U,fi.U]);and_intros<;>first|rfl|omega|trivial|assumption)):T:=t
abbrev ax(a:M):y:=.n (.R (.c a))
abbrev aI(a b:Nat):y:=.n (.R (.ptr a b))
abbrev cE(a:Nat)(b:pT):y:=.n (.R (.O a b))
abbrev cM(a:Value):y:=.n (.R (.c (.val a)))
variable {j A:Nat}{h:Int}{d i e u:Nat}{W:an}{H:X->(Nat->Option Obj)->Prop}{L:Array Bool}{bB:Mem}{F:Nat}{P:aD}{br:ag->a6->Prop}{s:Code}{C:ag}{r:ao}{b:a6}{o:an}{aa:X}{p:au}{α:Type}{η:ae->y}{ι:Type}{k:m ar}{J:bM}{all:m ao}{dt:Array an}{cap:m M}{cS:m y}{lc:Nat->Option Obj}{ai:m aG}{bf:m (Nat×Bool)}{V:Nat->m M}{cQ:ae}{gs:Array ag}{aY:m Nat}{cp:m Prop}{off:Nat}{op:BinOp}{aV:Array ao}{Z:m Prop}{bq:m ao}{aF:a6}{ty:an}{val:Nat->Nat->X}{z:m X}{bi:au}{ah:Array ae}{aq di:m ar}{res:ι->y}{aX:ι->m ar}
def KL{P}{p}:∀{o:m (String×DataW Unit)}{d:m MemPlace},DataW.LaidVars P p o d->∀{e:String}{h:DataW Unit},(e,h)∈o ->
  ∃i j b a q,P.globalNamed e=f i/\(P.globals[i]?).map (·.type)=f j/\p.var? P e=f b/\DataW.trod (λ_=>()) P p 0 (λ_=>l) v a j b.toList=f (h,q)
 |[],_,_,_,_,g=>by cases g
 |(z,s)::B,d,t,e,h,g=>by
  obtain⟨i,j,b,a,q,A,x,u,y,w,r,_⟩:=t;rcases fh.1 g with k|k
  .grind
  exact KL r k
theorem MY{P}{a:au}(b:a.ShapedOpen P){C}{zero}{o}(d:C<P.globals.size)(h:(((begin P (λ_ _=>0) default).world.heap[C]?).bind Obj.row?)=f (zero,o)){j}(k:P.globalNamed j=f C){ai}(e:a.var? P j=f ai):
  a.heap[C]?=f (.cells ai o (0,0)):=by obtain⟨g,i,_⟩:=b.1 C zero o d h;unfold World.var? at e;grind
def KN{P}{b}{g:m (String×DataW Unit)}(p:laidMetH P g b)(h:b.ShapedOpen P){j e}{k}(F:(j,.iface e k)∈g.filter λE=>E.2.handleName?.isNone){C o s}{cy}{zero}(d:P.globalNamed j=f C)(y:(P.globals[C]?).map (·.type)=f o)(x:P.underlying o=f (.interface cy))(D:C<P.globals.size)(I:(((begin P (λ_ _=>0) default).world.heap[C]?).bind Obj.row?)=f (zero,s)):∃a:an×X,b.heap[C]?=f (.cells #[.iface a.1 a.2] s (0,0)):=by obtain⟨w,q,_⟩:=(laidMetH_iff.1 p).1;obtain⟨Q,t2,i,J,K,u,r,z,t⟩:=KL q F;cases d.symm.trans u;cases y.symm.trans r;obtain⟨_,A,B,a,_⟩:=iface_of_trod x t;have:=MY h D I d z;rw[Array.eq_one_of_toList a]at this;exact⟨(A,B),this⟩
def Z'{P}{a}{d}(p:laidMetH P d a)(y:a.ShapedOpen P){j}{e}{b}(w:(j,e)∈d.filter λx=>x.2.handleName?.isSome)(m:e.funcsIn?=n)(t:e.handleName?=f b){C i h ty}{zero}(F:P.globalNamed j=f C)(s:(P.cutTypes.find? (·.1== "internal/reflectlite.rtype")).map (·.2)=f h)(D:((aA P.types.size).filter λg=>P.rowNamed g b)=[ty])(E:C<P.globals.size)(Q:(((begin P (λ_ _=>0) default).world.heap[C]?).bind Obj.row?)=f (zero,i)):a.heap[C]?=f (.cells #[.iface h (.agg #[typeHandle P ty])] i (0,0)):=by have:=(laidMetH_iff.1 p).2 _ w;rw[m]at this;obtain⟨name,B,k,o,u,q,r,A⟩:=this;cases t.symm.trans o;cases s.symm.trans u;have z:k∈(aA P.types.size).filter λg=>P.rowNamed g b:=jm.2 ⟨rr.2 q,r⟩;grind[MY]
section
open Go.Conc (G listed)
def kG(e b:a6)(d:Array aN):Prop:=(∃g a,bc g e/\bc a b/\cO g e a b)/\dw e d
structure af(P:aD) where
 b5:Bool
 rely:a6->a6->Prop
 dk:ag->a6->(ag->a6->Prop)->Prop
 bO:∀{b aF},rely b aF->c0 b aF
 dV:Prop
class af.bZ {P:aD} (q:af P):Prop where
 ok:q.dV
structure e_(b aF:a6):Prop where
 a:aF.a=b.a
 mem:∀i r aa,b.D i r=f aa->aF.D i r=f aa
 bz:∀i,(∀L∈b.t,i∉L.al)->∀r,aF.D i r=b.D i r
 cell:∀i r aa,aF.D i r=f aa->b.a.cell? ⟨i,r,n⟩=f aa
 blk:∀i,(aF.own i∨∃L∈aF.t,i∈L.al)->b.own i∨∃L∈b.t,i∈L.al
structure n1(b aF:a6):Prop where
 a:aF.a=b.a
 t:aF.t=b.t
 own:aF.own=b.own
 e8:∀i r aa,aF.D i r=f aa->b.D i r=f aa
 mem:∀i r aa,b.D i r=f aa->aF.D i r=f aa∨b.own i
inductive cg {P:aD} (q:af P) (br:ag->a6->Prop):ag->a6->Prop
 |stop {C:ag} {b:a6}:br C b->cg q br C b
 |step {C:ag} {b:a6} (Lm:a6->ag) (bt:a6->a6) (Lh:a6->Array aN):C.status=.running ->
   (∀s1,q.rely b s1->ap P q.b5 C s1.a=.go (Lm s1) (bt s1).a (Lh s1))->(∀s1,q.rely b s1->kG s1 (bt s1) (Lh s1))->(∀s1,q.rely b s1->cg q br (Lm s1) (bt s1))->cg q br C b
 |aO {C:ag} {b aF:a6}:e_ b aF->cg q br C aF->cg q br C b
 |b2 {C:ag} {b aF:a6}:q.dV->n1 b aF->cg q br C aF->cg q br C b
 |dk {C:ag} {b:a6} {ac:ag->a6->Prop}:q.dk C b ac->(∀hB aF,ac hB aF->cg q br hB aF)->cg q br C b
section
variable {q:af P}
def cg.next(h:C.status=.running)(i:∀s,q.rely b s->∃a aF V,ap P q.b5 C s.a=.go a aF.a V/\kG s aF V/\cg q br a aF):cg q br C b:=by
 classical
 have d:∀s,∃a7:ag×a6×Array aN,q.rely b s->ap P q.b5 C s.a=.go a7.1 a7.2.1.a a7.2.2/\kG s a7.2.1 a7.2.2/\cg q br a7.1 a7.2.1:=by
  intro s;by_cases e:q.rely b s
  .obtain⟨a,aF,V,cY⟩:=i s e;exact⟨(a,aF,V),λ_=>cY⟩
  exact⟨(C,s,#[]),λg=>absurd g e⟩
 refine .step (λs=>(Classical.choose (d s)).1) (λs=>(Classical.choose (d s)).2.1) (λs=>(Classical.choose (d s)).2.2) h N N ?_;grind
def e_.of(m:bc k b)(o:bc aq aF)(p:aF.a=b.a)(h:dg k b aq aF):e_ b aF:=by
 have u:∀a g i,aF.D a g=f i->b.a.cell? ⟨a,g,n⟩=f i:=λa g i j=>by rw[<-p];exact o.mem a g i j
 have r:∀a g i,b.a.cell? ⟨a,g,n⟩=f i->a<b.a.heap.size:=by
  intro a g i j;rcases dY a b.a.heap.size with d|d
  .exact d
  simp[aH,AZ d]at j
 refine⟨p,h.mem,λa e g=>?_,u,λa e=>?_⟩
 .rcases dY a b.a.heap.size with d|d
  .exact h.bz a d e g
  cases t:aF.D a g with
  |some i=>grind
  |none=>cases s:b.D a g with
   |none=>rfl
   |some i=>have:=r _ _ _ (m.mem _ _ _ s);omega
 rcases e with e|⟨L,q,e⟩
 .exact .inl (by rw[<-h.own];exact e)
 rcases h.bR L q a e with d|d
 .have:=o.lt L q a e;grind
 grind
def bc.rely(m:bc k b)(h:c0 b aF):bc k aF:=by
 have s:fz k b k aF:=h.aT.ext;have X:∀u x,cB k b u x->cB k aF u x:=λu x w=>w.mono s m.len;refine⟨λj r u B=>h.mem j r u (by rw[<-h.D];exact B),by rw[h.t];exact m.len,?_,by rw[h.t];exact m.a3,?_,?_⟩
 .intro d D L aM o;rw[h.t]at o;have e:=m.box d D L aM o;have K:∀j∈L.al,aF.a.heap[j]?=b.a.heap[j]?:=λj e=>h.a4 j (.inr ⟨L,ca o,e⟩);cases D with
  |cells E F=>
   obtain⟨j,z,g,i,p,q⟩:=e;subst g;exact⟨j,z,a,by grind,p.mono s m.len,λr=>by rw[h.D,q]⟩
  |x E O R A=>
   obtain⟨g,i⟩:=e;refine⟨by rw[h.D];exact g,?_⟩;rcases i with⟨i,p⟩|⟨j,cap,z,i,p,q,t⟩
   .exact .inl ⟨i,by rw[h.D];exact p⟩
   subst i;exact .inr ⟨j,cap,z,a,by grind,q,λr C=>by rw[h.D,t r C]⟩
  |K H=>
   obtain⟨y,g,i,p,q⟩:=e;refine⟨y,g,λj r W=>?_,p,λj I r=>by rw[h.D,q j I]⟩;grind
  |N=>trivial
  |loop V U w=>
   obtain⟨d,tmps,fn,J,g,i,p,q,t⟩:=e;subst g;exact⟨d,tmps,fn,J,a,by grind,p,λT=>(q T).mono s m.len,λr=>by rw[h.D,t]⟩
  |bk=>
   obtain⟨w,g,i,p⟩:=e;subst g;exact⟨w,a,by grind,λr=>by rw[h.D,p]⟩
  |q E O R A=>
   rcases e with e|⟨j,S,z,Q,g,i,p,q,t,M,N⟩
   .exact .inl e
   subst g;exact .inr ⟨j,S,z,Q,a,by grind,p,q,t,by rw[h.D];exact M,λr=>by rw[h.D,N]⟩
 .intro L o j e;rw[h.t]at o;exact eK (m.lt L o j e) h.size
 intro j e;rw[h.own]at e;rw[h.t];exact⟨eK (m.own j e).1 h.size,(m.own j e).2⟩
def kG.aR(a:bc k b):kG b b #[]:=⟨⟨k,k,a,a,.refl _ _⟩,.nil⟩
def _root_.Go.Frame.ab(b:aG)(a:Act)(todo:m Item):aG:={b with tmps:=a.tmps,todo:=todo,defers:=a.defers++b.defers,mode:=.run}
variable {i:aG}{x:Act}{h:m Item}{e1:Bool}
def JW(a:aG)(x)(s):(a.ab x s).eval=x.eval:=by funext b;cases b<;>rfl
def MV:ap P e1 (G (i.ab x (.code .skip::h)) ai) p=.go (G (i.ab x h) ai) p:=q3
def MR{id}:ap P e1 (G (i.ab x (.inBlock id::h)) ai) p=.go (G (i.ab x h) ai) p:=q3
theorem pE{a b}:ap P e1 (G (i.ab x (.code (.seq a b)::h)) ai) p=.go (G (i.ab x (.code a::.code b::h)) ai) p:=q3
def zx{s}{a b}{o}(e:x.eval s=.bool o):
  ap P e1 (G (i.ab x (.code (.cond s a b)::h)) ai) p=.go (G (i.ab x (.code (if o then a else b)::h)) ai) p:=by
 have d:(i.ab x (.code (.cond s a b)::h)).eval s=.bool o:=by rw[JW];exact e
 simp[Frame.ab]at d;simp[G,ap,stepG.exec,Frame.ab,d]
def zw{id}:ap P e1 (G (i.ab x (.code (.block id s)::h)) ai) p=.go (G (i.ab x (.code s::.inBlock id::h)) ai) p:=q3
def MT:ap P e1 (G (i.ab x (.code (.loop s)::h)) ai) p=.go (G (i.ab x (.code s::.inLoop s::h)) ai) p:=q3
def MS:ap P e1 (G (i.ab x (.inLoop s::h)) ai) p=.go (G (i.ab x (.code s::.inLoop s::h)) ai) p:=q3
def MQ{id}{gp}(t:exitTo id h=f gp):ap P e1 (G (i.ab x (.code (.exit id)::h)) ai) p=.go (G (i.ab x gp) ai) p:=F8
def zz{id}:ap P e1 (G (i.ab x (.code (.region id aV v)::h)) ai) p=.go (G (i.ab x (.inRegion aV (aA aV.size)::h)) ai) p:=q3
def EA{id}:ap P e1 (G (i.ab x (.code (.region id aV l)::h)) ai) p =
  .go (G (i.ab x (.inRegion aV (Region.schedule (P.follows .mixedOrders) aV (p.tape p.drawn (.order i.fn id)))::h)) ai) {p with drawn:=p.drawn+1}:=by simp[G,ap,stepG.exec,Frame.ab,choose,Sem.run,Question.forced,Question.cut]
def wd:ap P e1 (G (i.ab x (.inRegion aV []::h)) ai) p=.go (G (i.ab x h) ai) p:=q3
def EB(t:i.roundOf=n):ap P e1 (G (i.ab x (.code .ret::h)) ai) p=.go (G {i.ab x (.code .ret::h)with mode:=.returning} ai) p:=F8
def Ez(t:i.roundOf=n):ap P e1 (G (i.ab x []) ai) p=.go (G {i.ab x []with mode:=.returning} ai) p:=F8
def qr(aV)(e)(bq)(aa):
  (i.ab x (.inRegion aV (e::bq)::h)).finish aa=i.ab (x.put ((aV[e]?).bind (·.dst)) aa) (.inRegion aV bq::h):=by cases a:(aV[e]?).bind (·.dst)<;>simp[Frame.finish,Frame.ab,Act.put,a]
def acj{bq}(a:aV[e]?=f r)(d:aO r (yielded aV x.tmps)=v):
  ap P e1 (G (i.ab x (.inRegion aV (e::bq)::h)) ai) p=.go (G (i.ab (x.put r.dst I) (.inRegion aV bq::h)) ai) p:=by have b:=qr (i:=i) (x:=x) (h:=h) aV e bq I;rw[a]at b;simp[n7]at b;rw[<-b];simp[G,ap,stepG.exec,Frame.ab,a,d]
theorem x_{a:ae->X}{s}(h:r.op=.defer s){e}(b:(ab a r).run P p=.ok e bi):∃d,e=.defer d:=by
 simp[ab,h,cK]at b;cases g:(resolve a s r.type).run P p with
 |ok d w2=>rw[g]at b;simp at b;grind
 |halt i w2=>simp_all
def zy{a:m Nat}(b:aV[e]?=f r)(j:aO r (yielded aV x.tmps)=l)(k:∀g,r.op≠.defer g):
  ap P e1 (G (i.ab x (.inRegion aV (e::a)::h)) ai) p=stepG.apply P l (i.ab x (.inRegion aV (e::a)::h)) ai n (ab x.eval r) p:=by have d:=JW i x (.inRegion aV (e::a)::h);simp[Frame.ab]at d;simp[G,ap,stepG.exec,stepG.oper,Frame.oper?,Frame.ab,b,j,d];grind
theorem acp{bq}(a:aV[e]?=f r)(g:aO r (yielded aV x.tmps)=l)(k:i.kind≠.early)(j:(ab x.eval r).run P p=.ok (.value aa) bi):
  ap P e1 (G (i.ab x (.inRegion aV (e::bq)::h)) ai) p=.go (G (i.ab (x.put r.dst aa) (.inRegion aV bq::h)) ai) bi (listed P i.fn x r p):=by have b:=qr (i:=i) (x:=x) (h:=h) aV e bq aa;rw[a]at b;simp[n7]at b;have d:(i.kind==CallKind.early)=v:=N;rw[zy a g (λm o=>by grind[x_]),<-b];simp[stepG.apply,j,G,Frame.ab,d,GStep.after,listed]
theorem MU{bq}(a:aV[e]?=f r)(g:aO r (yielded aV x.tmps)=l)(k:i.kind≠.early)(j:(ab x.eval r).run P p=.ok .skip bi):
  ap P e1 (G (i.ab x (.inRegion aV (e::bq)::h)) ai) p=.go (G (i.ab (x.put r.dst I) (.inRegion aV bq::h)) ai) bi (listed P i.fn x r p):=by have b:=qr (i:=i) (x:=x) (h:=h) aV e bq I;rw[a]at b;simp[n7]at b;have d:(i.kind==CallKind.early)=v:=N;rw[zy a g (λm o=>by grind[x_]),<-b];simp[stepG.apply,j,G,Frame.ab,d,GStep.after,listed]
def tN{bq}{b}{args}(a:aV[e]?=f r)(g:aO r (yielded aV x.tmps)=l)(k:i.kind≠.early)(j:(ab x.eval r).run P p=.ok (.enter b args) bi):
  ap P e1 (G (i.ab x (.inRegion aV (e::bq)::h)) ai) p=.go (G (Frame.enter P b args .normal) (i.ab x (.inRegion aV (e::bq)::h)::ai)) bi (listed P i.fn x r p):=by have d:(i.kind==CallKind.early)=v:=N;rw[zy a g (λm o=>by grind[x_])];simp[stepG.apply,j,G,Frame.ab,d,GStep.after,listed]
structure mg(P:aD)(aj:aZ)(hM:aG)(aa:X)(b:a6):Prop where
 jg:hM.fn=aj
 mode:hM.mode=.returning
 defers:hM.defers=[]
 kind:hM.kind=.normal
 fn:∃fn,P.funcs[hM.fn]?=f fn/\∀p,(∀i r bz,b.D i r=f bz->p.cell? ⟨i,r,n⟩=f bz)->(results fn hM.tmps).run P p=.ok aa p/\∀ak∈(results fn hM.tmps).events P p #[],∃i r bz,ak=⟨.cell ⟨i,r,n⟩,v,v⟩/\b.D i r=f bz
def mg.mono{g}{hM}(o:mg P g hM aa b)(r:∀e h i,b.D e h=f i->aF.D e h=f i):mg P g hM aa aF:=by obtain⟨a,d,m,j,fn,k,q⟩:=o;refine⟨a,d,m,j,fn,k,λs p=>?_⟩;grind
def dw.seen{b}{V}{fn}(e:dw b V):dw b (seen P fn V):=λd a=>e d (Go.Conc.mem_seen a)
def aci{k}{C s}(g:mg P k C aa b)(p)(m:∀a e h,b.D a e=f h->p.cell? ⟨a,e,n⟩=f h):∃d,ap P e1 (G C (s::ai)) p=.go (G (s.finish aa) ai) p d/\∀i∈d,∃a e h,i=⟨.cell ⟨a,e,n⟩,v,v⟩/\b.D a e=f h:=by obtain⟨fn,o,j⟩:=g.fn;obtain⟨t,r⟩:=j p m;refine⟨seen P C.fn ((results fn C.tmps).events P p #[]),?_,λi q=>r i (Go.Conc.mem_seen q)⟩;simp[G,ap,unwind,doReturn,g.mode,g.defers,g.kind,o,t,GStep.after]
end
end
structure b1(F:Nat)(k:m ar)(b:a6)(J:bM)(x:Act):Prop where
 size:x.tmps.size=F
 defers:∃nL,jh k b x.defers nL
 aK:∀o,bx k b (x.tmps.getD o I) (look J o)
def b1.mono{F}{k aq}{b aF}{J}{x}(g:dg k b aq aF)(e:c b.t=c k)(a:b1 F k b J x):b1 F aq aF J x:=
 ⟨a.size,a.defers.imp λ_ d=>d.mono g.ext,λh=>(a.aK h).mono g.ext e⟩
def b1.rely{x}(e:c0 b aF)(a:bc k b)(d:b1 F k b J x):b1 F k aF J x:=d.mono e.aT a.len
def b1.put{F}{k}{b}{J}{x}(a:b1 F k b J x){O}(e:O<F){aa}{E}(j:bx k b aa E):b1 F k b ((O,E)::J) (x.put (f O) aa):=by
 refine⟨by simp[Act.put,a.size],a.defers,λd=>?_⟩;simp[Act.put,look];by_cases g:O=d
 .subst g;rw[show ad O O=l from sK O];have h:O<x.tmps.size:=by rw[a.size];exact e
  simp[hH,uP h,ia,cond];exact j
 have:ad O d=v:=uj;rw[this];have i:=a.aK d;simp[hH]at i⊢;grind
def iM(h a:bM):Prop:=∀b d g e,bx b d g (look h e)->bx b d g (look a e)
def b1.le{dG}{x}(d:iM J dG)(a:b1 F k b J x):b1 F k b dG x:=
 ⟨a.size,a.defers,λe=>d _ _ _ _ (a.aK e)⟩
abbrev fF:=Exit->bM->m ar->Prop
def kP(h:af P)(g:ag->a6->Prop)(i:aG)(k:m Item)(a:m aG):Exit->Act->a6->Prop
 |.normal,b,d=>cg h g (G (i.ab b k) a) d
 |.exit id,b,d=>∀pre,(∀e,exitTo id (pre++e)=exitTo id e)->cg h g (G (i.ab b (.code (.exit id)::(pre++k))) a) d
 |.ret,b,d=>∀pre,cg h g (G (i.ab b (.code .ret::pre)) a) d
 |.panic j,b,d=>∀o,cg h g (G {i.ab b o with mode:=.panicking j} a) d
 |_,_,_=>False
section
variable {q:af P}{i:aG}{h:m Item}{x:Act}
def kP.cons{g}(o:∀id a,exitTo id (g::a)=exitTo id a){e}(m:e≠.normal)(d:kP q br i h ai e x b):kP q br i (g::h) ai e x b:=by
 cases e with
 |normal=>grind
 |exit id=>
  intro pre k;have:=d (pre++[g]) (λa=>by grind);grind
 |ret=>exact d
 |panic j=>exact d
 |goto p=>exact d
 |outgrown=>exact d
def cg.ctl{a}(g:bc k b)(j:C.status=.running)(i:∀h,ap P q.b5 C h=.go a h #[])(m:∀d,c0 b d->cg q br a d):cg q br C b:=
 .next j λd e=>⟨a,d,#[],i d.a,.aR (g.rely (q.bO e)),m d (q.bO e)⟩
def uU{j}{u s}(t:bc k b)(m:mg P j u aa b)(o:∀d,c0 b d->cg q br (G (s.finish aa) ai) d):cg q br (G u (s::ai)) b:=by refine .next a λd w=>?_;have e:=q.bO w;have h:=t.rely e;obtain⟨g,p,y⟩:=aci (e1:=q.b5) (s:=s) (ai:=ai) m d.a e.mem;refine⟨_,d,g,p,⟨⟨k,k,h,h,.refl _ _⟩,λi r=>?_⟩,o d e⟩;obtain⟨A,B,z,rfl,x⟩:=y i r;exact⟨a,a,.inr (.inr ⟨a,z,by rw[e.D];exact x⟩)⟩
def xq(k:Nat->Act->a6->Prop)(y:∀j x b,k j x b->∃o,bc o b/\∀g,c0 b g->k j x g)(round:∀j x b,k j x b->(∀d e m,m<j->k m d e->cg q br (G (i.ab d (.inLoop s::h)) ai) e)->cg q br (G (i.ab x (.code s::.inLoop s::h)) ai) b)(B:k j x b):
  cg q br (G (i.ab x (.code (.loop s)::h)) ai) b:=by
 have key:∀j x b,k j x b->cg q br (G (i.ab x (.inLoop s::h)) ai) b:=by
  intro j;induction j using Nat.strongRecOn with
  |_ j A=>
   intro x b w;obtain⟨o,r,t⟩:=y j x b w;exact .ctl r a (λC=>MS) λg u=>round j x g (t g u) λd e m z p=>A m z d e p
 obtain⟨o,r,t⟩:=y j x b B;exact .ctl r a (λC=>MT) λg u=>round j x g (t g u) λd e m _ p=>key m d e p
end
def b4(p:af P)(k:Nat)(u:Code)(aP:fF)(t:bM)(i:m ar):Prop:=
 ∀h q,b1 k i h t q->bc i h->∀j s g (o:ag->a6->Prop),j.kind≠.early ->
  (∀r d a b e,aP r d a->b1 k a b d e->bc a b->dg i h a b->kP p o j s g r e b)->cg p o (G (j.ab q (.code u::s)) g) h
def n3(a:m ao):m Nat->m ao->Prop
 |[],[]=>True
 |d::idx,e::b=>a.toArray[d]?=f e/\n3 a idx b
 |_,_=>False
def fq(r:af P)(p:Nat)(d e:m ao)(aP:bM->m ar->Prop)(u:bM)(k:m ar):Prop:=
 ∀j s,b1 p k j u s->bc k j->∀(o:aG) t i (q:ag->a6->Prop) idx,o.kind≠.early->n3 d idx e ->
  (∀g a b h,aP g a->b1 p a b g h->bc a b->dg k j a b->cg r q (G (o.ab h t) i) b)->cg r q (G (o.ab s (.inRegion d.toArray idx::t)) i) j
section rules
variable {q:af P}{aP:fF}
def b4.mono{o}(x:b4 q F s aP J k)(y:∀a J k,aP a J k->o a J k):b4 q F s o J k:=
 λb r u j t A g p i h=>x b r u j t A g p i λa d aq aF e B z w m=>h a d aq aF e (y _ _ _ B) z w m
def b4.le{s}{dG}(o:b4 q F s aP dG k)(g:iM J dG):b4 q F s aP J k:=
 λr i m e j p a h d b=>o r i (m.le g) e j p a h d b
theorem b4.skip(m:aP .normal J k):b4 q F .skip aP J k:=λs e i d p r h o _ g=>
 .ctl d a (λ_=>MV) λj b=>g .normal J k j e m (i.rely b d) (d.rely b) b.aT
def b4.ret(h:aP .ret J k):b4 q F .ret aP J k:=λj b g a o i e m _ d=>d .ret J k j b h g a (.refl _ _) i
theorem b4.exit{id}(h:aP (.exit id) J k):b4 q F (.exit id) aP J k:=λi b g a m o e j _ d=>by have:=d (.exit id) J k i b h g a (.refl _ _) [] bn;grind
def wo(next:bM->m ar->Prop)(aP:fF):fF
 |.normal,a,b=>next a b
 |d,a,b=>aP d a b
theorem b4.seq{M y}(S:b4 q F M (wo (b4 q F y aP) aP) J k):b4 q F (.seq M y) aP J k:=by
 intro V Q T d A I e z h g;refine .ctl d a (λ_=>pE) λU b=>?_;refine S U Q (T.rely b d) (d.rely b) A (.code y::I) e z h ?_;intro p N O u m K E C x;have B:=b.aT.trans x;cases p with
 |normal=>exact K u m E C A I e z h λp R j w o t r s i=>g p R j w o t r s (B.trans i)
 |_=>exact kP.cons (λ_ _=>rfl) D (g _ _ _ _ _ K E C B)
theorem b4.cond{s}{M N}{o}{u}(T:s=.tmp u)(B:look J u=ax (.bool o))(S:o=l->b4 q F M aP J k)(O:o=v->b4 q F N aP J k):b4 q F (.cond s M N) aP J k:=by
 intro V p y g x D j w m A;have t:=y.aK u;rw[B]at t;have z:p.eval s=.bool o:=by subst T;generalize z:p.tmps.getD u I=W at t;simp[bx,eC,cB]at t;cases t;exact z
 refine .ctl g a (λ_=>zx z) λC e=>?_;have K:∀r h b d i,aP r h b->b1 F b d h i->bc b d->dg k C b d->kP q w x D j r i d:=λr h b d i U R Q E=>A r h b d i U R Q (e.aT.trans E);cases o
 .exact O a C p (y.rely e g) (g.rely e) x D j w m K
 exact S a C p (y.rely e g) (g.rely e) x D j w m K
def uZ(id:Nat)(aP:fF):fF
 |.exit a,b,d=>if a=id then aP .normal b d else aP (.exit a) b d
 |e,b,d=>aP e b d
theorem b4.block{id}(w:b4 q F s (uZ id aP) J k):b4 q F (.block id s) aP J k:=by
 intro A p x e r h g o i lX;refine .ctl e a (λ_=>zw) λy d=>?_;refine w y p (x.rely d e) (e.rely d) r (.inBlock id::h) g o i ?_;intro ak dG aq j fW bk C aj m;have O:=d.aT.trans m;cases ak with
 |normal=>
  exact PY
 |exit b=>
  simp[uZ]at bk;split at bk
  .exact RF
  .rename_i u
   intro pre vw;have:=lX (.exit b) dG aq j fW bk C aj O (pre++[.inBlock id]) (λgp=>by
    rw[mq,vw];have:(id==b)=v:=N
    simp[exitTo,this])
   grind
 |ret=>exact lX _ _ _ _ _ bk C aj O
 |panic t=>exact lX _ _ _ _ _ bk C aj O
 |goto z=>exact lX _ _ _ _ _ bk C aj O
 |outgrown=>exact lX _ _ _ _ _ bk C aj O
def b4.loop{br:Type}(w:br->Prop)(h:br->bM)(b:br->m ar)(y:br->Nat)(e)(ae:w e)(Y:iM J (h e))(V:b e=k)(round:∀e,w e->b4 q F s (wo (λz A=>∃d,w d/\y d<y e/\iM z (h d)/\A=b d) aP) (h e) (b e)):b4 q F (.loop s) aP J k:=by
 intro ab ag Z N T W E br M K;subst V;refine xq (λj g aF=>∃d,w d/\b1 F (b d) aF (h d) g/\bc (b d) aF/\dg (b e) ab (b d) aF/\y d=j) ?_ ?_ ⟨e,ae,Z.le Y,N,.refl _ _,a⟩
 .rintro j g aF ⟨d,u,r,C,x,I⟩;exact⟨b d,C,λai o=>⟨d,u,r.rely o C,C.rely o,x.trans o.aT,I⟩⟩
 rintro j g aF ⟨d,u,r,C,x,rfl⟩ aa;refine round d u aF g r C T (.inLoop s::W) E br M ?_;intro I ah S O B Q p t i;cases I with
 |normal=>
  obtain⟨R,af,X,U,rfl⟩:=Q;exact aa B O (y R) X ⟨R,af,p.le U,t,x.trans i,a⟩
 |_=>exact kP.cons (λ_ _=>rfl) D (K _ _ _ _ _ Q p t (x.trans i))
end rules
def bP.cI{ai}(d:bP k b z ai):c z=c ai:=by
 induction z generalizing ai with
 |nil=>cases ai<;>simp_all[bP]
 |cons g z a=>
  cases ai with
  |nil=>simp[bP]at d
  |cons e ai=>simp[a d.2]
def cB.cell{k}{b}{aa}{g}(a:cB k b aa g):dU aa=l:=by
 cases g with
 |c p=>exact Rd.cell a
 |ptr e h=>obtain⟨_,_,_,_,_,rfl⟩:=a;rfl
 |x e j m i=>exact Rd.cell a.1
 |aP e=>obtain⟨_,_,_,_,d⟩:=a;exact d
 |O e o=>obtain⟨_,d,_⟩:=a;exact d.cell
 |any=>exact a
theorem bP.get{ai}(h:bP k b z ai){x}(d:ai[u]?=f x):∃e,z[u]?=f e/\cB k b e x:=by
 induction z generalizing ai u with
 |nil=>cases ai<;>simp_all[bP]
 |cons e z g=>
  cases ai with
  |nil=>grind
  |cons i ai=>
   cases u with
   |zero=>simp at d;subst d;exact⟨e,a,h.1⟩
   |succ u=>simp at d;obtain⟨o,j,m⟩:=g h.2 d;grind
def bP.cell{k}{b}{z}{ai}(e:bP k b z ai):∀h∈z,h.oneCell'=l:=by
 induction z generalizing ai with
 |nil=>simp
 |cons h z d=>
  cases ai with
  |nil=>simp[bP]at e
  |cons i ai=>
   intro g a;rcases fh.1 a with rfl|a
   .have:=cB.cell e.1;cases g<;>simp_all[dU,Value.oneCell']
   exact d e.2 g a
def bP.append{i}{ai a}(e:bP k b z ai)(g:bP k b i a):bP k b (z++i) (ai++a):=by
 induction z generalizing ai with
 |nil=>cases ai<;>simp_all[bP]
 |cons j z d=>
  cases ai with
  |nil=>simp[bP]at e
  |cons h ai=>exact⟨e.1,d e.2⟩
def bP.take{k}{b}{z}{ai}(d:bP k b z ai)(h):bP k b (z.take h) (ai.take h):=by
 induction z generalizing ai h with
 |nil=>cases ai<;>simp_all[bP]
 |cons g z a=>
  cases ai with
  |nil=>simp[bP]at d
  |cons e ai=>cases h with
   |zero=>simp[bP]
   |succ h=>exact⟨d.1,a d.2 h⟩
def bP.drop{k}{b}{z}{ai}(d:bP k b z ai)(h):bP k b (z.drop h) (ai.drop h):=by
 induction z generalizing ai h with
 |nil=>cases ai<;>simp_all[bP]
 |cons g z a=>
  cases ai with
  |nil=>simp[bP]at d
  |cons e ai=>cases h with
   |zero=>exact d
   |succ h=>simpa using a d.2 h
theorem bc.block(a:bc k b){r}(d:b.D i r=f aa):i<b.a.heap.size:=by
 have:=a.mem i r aa d;rcases dY i b.a.heap.size with a|a
 .exact a
 simp[aH,AZ a]at this
def bc.same(g:bc k b)(u:bi.heap=b.a.heap):bc k {b with a:=bi}:=by
 have M:∀j,bi.cell? j=b.a.cell? j:=λj=>by simp[aH,u]
 have S:∀p j,cB k b p j->cB k {b with a:=bi} p j:=λp j o=>by cases j<;>exact o
 have x:∀z d,bP k b z d->bP k {b with a:=bi} z d:=by
  intro z;induction z with
  |nil=>intro d o;cases d<;>simp_all[bP]
  |cons p z A=>intro d o;cases d with
   |nil=>simp[bP]at o
   |cons j d=>exact⟨S _ _ o.1,A _ o.2⟩
 refine⟨λe D p y=>by rw[M];exact g.mem e D p y,g.len,?_,g.a3,λL x e i=>by show e<bi.heap.size;rw[u];exact g.lt L x e i,λe i=>⟨by show e<bi.heap.size;rw[u];exact(g.own e i).1,(g.own e i).2⟩⟩;intro B s L aM r;have:=g.box B s L aM r;cases s with
 |cells C E=>
  obtain⟨e,z,a,h,m,q⟩:=this;exact⟨e,z,a,by grind,x _ _ m,q⟩
 |x C K N w=>
  obtain⟨a,h⟩:=this;refine⟨a,?_⟩;grind
 |K H=>
  obtain⟨t,a,h,m,q⟩:=this;exact⟨t,a,λe D i=>by grind,m,q⟩
 |N=>trivial
 |loop U T o=>
  obtain⟨B,tmps,fn,F,a,h,m,q,J⟩:=this;exact⟨B,tmps,fn,F,a,by grind,m,λR=>bx.mono (b:=b) (aq:=k) (aF:={b with a:=bi}) ⟨λ_ _ _ g=>g,λ_ s L g I=>⟨s,L,g,I,.refl _ _⟩⟩ g.len (q R),J⟩
 |bk=>
  obtain⟨o,a,h,m⟩:=this;exact⟨o,a,by grind,m⟩
 |q C K N w=>
  rcases this with a|⟨e,Q,z,O,a,h,m⟩
  .exact .inl a
  exact .inr ⟨e,Q,z,O,a,by grind,m⟩
def cO.same(o:bi.heap=b.a.heap)(e:bi.os=b.a.os)(j:bi.tape=b.a.tape)(m:bi.output=b.a.output):cO k b k {b with a:=bi}:=
 ⟨by grind,λi _ _=>by grind,λ_ _ _ a=>a,λ_ _ _ _=>rfl,λL a i d=>.inr ⟨L,a,d⟩,λ_ g L a h=>⟨g,L,a,h,.refl _ _⟩,e,j,m,rfl⟩
def eB.ca{r}{L}(p:fz k b aq aF)(q:c b.t=c k)(i:∀g∈L.al,aF.a.heap[g]?=b.a.heap[g]?/\∀j,aF.D g j=b.D g j)(o:eB k b r L):eB aq aF r L:=by
 cases r with
 |cells y B=>
  obtain⟨g,z,d,e,h,m⟩:=o;subst d;obtain⟨k1,t⟩:=i g D;exact⟨g,z,a,by grind,h.mono p q,λj=>by grind⟩
 |x y F I u=>
  obtain⟨d,e⟩:=o;refine⟨d.mono p.mem,?_⟩;rcases e with⟨e,h⟩|⟨g,cap,z,e,h,m,w⟩
  .exact .inl ⟨e,h.mono p.mem⟩
  grind
 |K H=>
  obtain⟨s,d,e,h,m⟩:=o;refine⟨s,d,λg j Q=>?_,h,λg R j=>by grind⟩;grind
 |N=>trivial
 |loop O N x=>
  obtain⟨A,tmps,fn,C,d,e,h,m,w⟩:=o;subst d;obtain⟨k1,t⟩:=i A D;exact⟨A,tmps,fn,C,a,by grind,h,λM=>(m M).mono p q,λj=>by grind⟩
 |bk=>
  obtain⟨x,d,e,h⟩:=o;subst d;obtain⟨k1,t⟩:=i x D;exact⟨x,a,by grind,λj=>by grind⟩
 |q y F I u=>
  rcases o with d|⟨g,K,z,J,d,e,h,m,w,E,S⟩
  .exact .inl d
  subst d;obtain⟨k1,t⟩:=i g D;exact .inr ⟨g,K,z,J,a,by grind,h,m,w,E.mono p.mem,λj=>by grind⟩
def a6.bX(a:a6)(b:an)(z:m X):a6:=
 {t:=a.t++[⟨.pointer (f ⟨a.a.heap.size,0,n⟩),[a.a.heap.size]⟩],D:=a.D,a:=a.a.alloc (.cells z.toArray b),own:=a.own}
theorem i6(a:au)(r)(b:i<a.heap.size):(a.alloc r).heap[i]?=a.heap[i]?:=by show(a.heap.push r)[i]?=a.heap[i]?;grind
theorem lZ(a:au)(r):(a.alloc r).heap[a.heap.size]?=f r:=by show(a.heap.push r)[a.heap.size]?=f r;simp
def cO.bX{k}(b)(W)(z)(h):cO k b (k++[h]) (b.bX W z):=by
 refine⟨by simp[a6.bX],?_,λ_ _ _ m=>m,λ_ _ _ _=>rfl,?_,?_,a,a,a,a⟩
 .intro i cZ _;exact i6 _ _ cZ
 .intro L e i cZ;simp[a6.bX,fG,gO]at e;grind
 intro g d L j e;have o:g<c b.t:=(cP.1 e).1;have p:g<c k:=(cP.1 j).1;exact⟨d,L,by grind,by simp[a6.bX];grind,.refl _ _⟩
def bc.bX{k}{b}(h:bc k b){W}{z}{ai}(B:bP k b z ai):bc (k++[.cells W ai]) (b.bX W z):=by
 have u:=cO.bX (k:=k) b W z (.cells W ai);have A:(b.bX W z).a.heap.size=b.a.heap.size+1:=by simp[a6.bX]
 refine⟨?_,by simp[a6.bX,h.len],?_,?_,?_,?_⟩
 .intro i r aa j;have g:=h.block j;have:=h.mem i r aa j;rw[<-this];simp[aH,a6.bX];grind[i6]
 .intro d y L aM e;rcases Nat.lt_trichotomy d (c k) with x|rfl|C
  .rw[kb x]at aM;simp[a6.bX]at e;rw[kb (by rw[h.len];exact x)]at e;refine(h.box d y L aM e).ca u.ext h.len λi g=>⟨?_,λ_=>rfl⟩
   have:=h.lt L (ca e) i g;exact i6 _ _ this
  .simp at aM;subst aM;simp[a6.bX]at e;rw[ht (by rw[h.len];grind)]at e;simp[h.len]at e;subst e;refine⟨b.a.heap.size,z,a,lZ _ _,B.mono u.ext h.len,λr=>?_⟩;cases j:b.D b.a.heap.size r with
   |none=>exact j
   |some aa=>have:=h.block j;omega
  grind
 .intro d t L p e m i g o;simp[a6.bX]at e m;have w:∀d L,(b.t++[⟨.pointer (f ⟨b.a.heap.size,0,n⟩),[b.a.heap.size]⟩])[d]?=f L->(b.t[d]?=f L)∨(d=c b.t/\L.al=[b.a.heap.size]):=N;rcases w d L e with q|⟨rfl,q⟩<;>rcases w t p m with s|⟨rfl,s⟩
  .exact h.a3 d t L p q s i g o
  .have:=h.lt L (ca q) i g;grind
  .have:=h.lt p (ca s) i o;grind
  rfl
 .intro L e i g;rw[A];simp[a6.bX,fG,gO]at e;rcases e with e|rfl
  .have:=h.lt L e i g;omega
  grind
 intro i g;obtain⟨E,D⟩:=h.own i g;refine⟨by grind,λL e=>?_⟩;simp[a6.bX,fG,gO]at e;grind
def bc.cX(d:bc k b){cl}(p:b.a.heap.size<=bi.heap.size)(h:∀i,i<b.a.heap.size->bi.heap[i]?=b.a.heap[i]?)(q:∀i,i<b.a.heap.size->∀r,cl i r=b.D i r)(y:∀i,b.a.heap.size<=i->∀r aa,cl i r=f aa->bi.cell? ⟨i,r,n⟩=f aa)(s:bi.os=b.a.os)(w:bi.tape=b.a.tape)(t:bi.output=b.a.output):bc k ⟨b.t,cl,bi,b.own⟩/\cO k b k ⟨b.t,cl,bi,b.own⟩:=by
 have m:cO k b k ⟨b.t,cl,bi,b.own⟩:=
  ⟨p,λi a _=>h i a,λi r aa e=>by rw[<-e];exact q i (d.block e) r,λi a _ r=>q i a r,λL d i a=>.inr ⟨L,d,a⟩,λ_ o L d u=>⟨o,L,d,u,.refl _ _⟩,s,w,t,rfl⟩
 refine⟨⟨?_,d.len,?_,d.a3,λL g i a=>eK (d.lt L g i a) p,λi a=>⟨eK (d.own i a).1 p,(d.own i a).2⟩⟩,m⟩
 .intro i r aa e;rcases dY i b.a.heap.size with a|a
  .have j:b.D i r=f aa:=N;rw[<-d.mem i r aa j];simp[aH];grind
  grind
 intro x o L aM g;exact(d.box x o L aM g).ca m.ext d.len λi a=>⟨h i (d.lt L (ca g) i a),λr=>q i (d.lt L (ca g) i a) r⟩
def bc.write(j:bc k b){L}{ai h}{q}(aM:k[d]?=f (.cells W ai))(p:b.t[d]?=f L)(x:L.al=[i])(B:bP k b q h):bc (k.set d (.cells W h)) {b with a:=b.a.setRow i q.toArray}/\cO k b (k.set d (.cells W h)) {b with a:=b.a.setRow i q.toArray}:=by
 have w:d<c k:=(cP.1 aM).1;obtain⟨s,z,t,u,E,A⟩:=j.box d _ L aM p;subst t;simp at x;subst x;have o:cO k b (k.set d (.cells W h)) {b with a:=b.a.setRow s q.toArray}:=by
  refine⟨by simp,?_,λ_ _ _ j=>j,λ_ _ _ _=>rfl,λL j i g=>.inr ⟨L,j,g⟩,?_,a,a,a,a⟩
  .intro i g ju;exact setRow_other _ _ _ _ (λak=>ju _ (ca p) Ap)
  intro m bT cv e lW;by_cases ak:d=m
  .subst ak;rw[aM]at e;cases e;exact⟨_,cv,by rw[iy w],lW,by simp[fV]⟩
  exact FD
 refine⟨⟨?_,by simp[j.len],?_,j.a3,λL p i g=>by simpa using j.lt L p i g,λi g=>by simpa using j.own i g⟩,o⟩
 .intro i r aa Dm;have C:i≠s:=λak=>by grind
  rw[<-j.mem i r aa Dm];exact QP
 intro m bT cv e lW;by_cases ak:d=m
 .subst ak;rw[iy w]at e;cases e;rw[p]at lW;cases lW;exact⟨s,q,a,setRow_heap _ _ _ _ _ _ u,B.mono o.ext j.len,A⟩
 rw[kJ ak]at e;refine(j.box m bT cv e lW).ca o.ext j.len λi g=>⟨setRow_other _ _ _ _ λy=>?_,λ_=>rfl⟩
 subst y;exact ak (j.a3 d m _ cv p lW i D g)
def AJ(b:m ar)(d:a6):Next->y->Prop
 |.value e,a=>bx b d e a
 |.skip,a=>a=.any
 |_,_=>False
def a1(P:aD)(j:ao)(h:ae->y)(g:m ar)(o:y)(b:m ar):Prop:=
 ∀e d,bc g e->(∀k,bx g e (d k) (h k))->∃i a,(ab d j).run P e.a=.ok i a.a/\AJ b a i o/\bc b a/\cO g e b a/\dw e ((ab d j).events P e.a #[])
def a1.dv{g}(j:∀b a,bc k b->(∀h,bx k b (a h) (η h))->∃aa,(ab a r).run P b.a=.ok (.value aa) b.a/\bx k b aa g/\dw b ((ab a r).events P b.a #[])):a1 P r η k g k:=
 λb a d e=>let ⟨aa,cY,dC,i⟩:=j b a d e;⟨.value aa,b,cY,dC,d,.refl _ _,i⟩
def a1.aR{g}(j:∀b a,bc k b->(∀h,bx k b (a h) (η h))->∃aa,(ab a r).run P b.a=.ok (.value aa) b.a/\bx k b aa g/\(ab a r).events P b.a #[]=#[]):a1 P r η k g k:=
 λb a d e=>let ⟨aa,cY,dC,i⟩:=j b a d e;⟨.value aa,b,cY,dC,d,.refl _ _,by rw[i];exact .nil⟩
def vA:IntKind->Int->Bool
 |.i64,.ofNat a=>ay a 9223372036854775807
 |.i64,.negSucc a=>ay a 9223372036854775807
 |.u8,.ofNat a=>ay a 255
 |.i32,.ofNat a=>ay a 2147483647
 |.i32,.negSucc a=>ay a 2147483647
 |.u64,.ofNat a=>ay a 18446744073709551615
 |.u32,.ofNat a=>ay a 4294967295
 |_,_=>v
def Z3{h}{j}(a:vA h j=l):a8 h j:=by cases h<;>cases j<;>simp only[vA,a8]at a⊢<;>first|(cases a;done)|(have:=fA a;grind)
def k_:X->Option M
 |.int a b=>cond (vA a b) (f (.int a b)) n
 |.bool e=>f (.bool e)
 |.string d=>cond (ay d.size 9223372036854775807) (f (.S d.data.toList)) n
 |.slice n 0 0=>f (.B l 0 0 (λ_=>[]))
 |.pointer n=>f .bp
 |.nilIface=>f .bD
 |.nilFunc=>f .ds
 |.map g=>f (.val (.map g))
 |_=>n
theorem Rd.dK{o}{h}{a}:Rd bB (.slice a 0 0) (.B o h 0 V):=
 Rd.B 0 0 (λ_ _=>I) (bC _) w bn w w w w
def Rd.fq{bB}{aa}{s}(a:k_ aa=f s):Rd bB aa s:=by
 unfold AM.k_ at a;split at a<;>first
  |(rename_i d e;cases b:vA d e<;>rw[b]at a<;>cases a;exact .int (Z3 b))
  |(rename_i g;cases b:ay g.size 9223372036854775807<;>rw[b]at a<;>cases a;exact .S rfl (by rw[ng];exact fA b))
  |(cases a;done)
  |(cases a;exact .bool)
  |(cases a;exact Rd.dK)
  |(cases a;exact .bp)
  |(cases a;exact .bD)
  |(cases a;exact .ds)
  |(cases a;exact .val rfl)
def T0:Option M->y
 |some a=>ax a
 |none=>.any
def bE(a:bM):ae->y
 |.tmp d=>look a d
 |.const e=>T0 (k_ e)
 |.func b=>ax (.fn (.func b) [] [])
 |.global _=>.any
theorem eM{e}(g:b1 F k b J e)(d):bx k b (e.eval d) (bE J d):=by
 cases d with
 |tmp j=>exact g.aK j
 |const m=>
  simp[bE,Act.eval];cases i:k_ m with
  |none=>trivial
  |some o=>exact Rd.fq i
 |func h=>
  exact Rd.fn [] [] a a (λ_=>I) (λ_=>I) D D D D
 |global h=>trivial
def gi:Option Nat->y->bM->bM
 |some b,d,a=>(b,d)::a
 |none,_,a=>a
def rz{o:af P}{j:aG}{h}{i}{bq}(z:j.kind≠.early)(t:aV[e]?=f r)(x:aO r (yielded aV i.tmps)=l)(s:∀g,c0 b g->∃k d m,(ab i.eval r).run P g.a=.ok k d.a/\(k=.value m∨(k=.skip/\m=I))/\kG g d ((ab i.eval r).events P g.a #[])/\cg o br (G (j.ab (i.put r.dst m) (.inRegion aV bq::h)) ai) d):
  cg o br (G (j.ab i (.inRegion aV (e::bq)::h)) ai) b:=by refine .next a λg u=>?_;obtain⟨k,d,m,y,w,p,q⟩:=s g (o.bO u);refine⟨_,d,Go.Conc.listed P j.fn i r g.a,?_,⟨p.1,p.2.seen⟩,q⟩;grind[acp,MU]
theorem a1.move{a:ae}(d:r.op=.move a):a1 P r η k (η a) k:=
 .aR λg b _ e=>⟨b a,by simp[ab,d,pure],e a,by simp[ab,d]⟩
theorem a1.assign{a:ae}(d:r.op=.assign a):a1 P r η k (η a) k:=
 .aR λg b _ e=>⟨b a,by simp[ab,d,pure],e a,by simp[ab,d]⟩
def b8{s}(a:bx k b aa (ax s)):Rd b.D aa s:=a
def a1.pick{s e i}(h:r.op=.pick s e i){o}(m:η s=ax (.bool o)):
  a1 P r η k (match o with|true=>η e|false=>η i) k:=by
 refine .aR λp a _ j=>?_;have b:=j s;rw[m]at b;have d:=b8 b;generalize g:a s=q at d;cases d;cases o
 .exact⟨a i,by simp[ab,h,g,asBool],j i,by simp[ab,h,g,asBool]⟩
 exact⟨a e,by simp[ab,h,g,asBool],j e,by simp[ab,h,g,asBool]⟩
def vB(e:BinOp)(d:IntKind)(a b:Int):Option (M×m Prop):=
 match e with
 |.add=>f (.int d (a+b),[a8 d (a+b)])
 |.sub=>f (.int d (a-b),[a8 d (a-b)])
 |.mul=>f (.int d (a*b),[a8 d (a*b)])
 |.quo=>f (.int d (a / b),[0<=a,0<b])
 |.rem=>f (.int d (a % b),[0<=a,0<b])
 |.eql=>f (.bool (a==b),[])
 |.neq=>f (.bool (a != b),[])
 |.lss=>f (.bool (decide (a<b)),[])
 |.leq=>f (.bool (decide (a<=b)),[])
 |.gtr=>f (.bool (decide (b<a)),[])
 |.geq=>f (.bool (decide (b<=a)),[])
 |_=>n
def wh(d:BinOp)(a b:m UInt8):Option (M×m Prop):=
 match d with
 |.add=>f (.S (a++b),[c a+c b<=9223372036854775807])
 |.eql=>f (.bool (a==b),[])
 |.neq=>f (.bool (!(a==b)),[])
 |.lss=>f (.bool (aQ a b),[])
 |.leq=>f (.bool (aQ a b||a==b),[])
 |.gtr=>f (.bool (!(aQ a b||a==b)),[])
 |.geq=>f (.bool (!(aQ a b)),[])
 |_=>n
@[simp] def U:m Prop->Prop
 |[]=>True
 |[a]=>a
 |a::b::d=>a/\U (b::d)
def U.cons{b:Prop}{a}:U (b::a)↔b/\U a:=by cases a<;>simp
theorem si{h}{j}(a:a8 h j):h.wrap j=j:=by cases h<;>simp only[a8,IntKind.wrap,IntKind.bits,IntKind.signed]at a⊢<;>simp<;>(try split)<;>omega
def ab6{h}{d a}{s}(e:vB op h d a=f (s,cp))(b:U cp)(u:a8 h d)(r:a8 h a)(o)(bB):
  ∃m,(binOp op o (.int h d) (.int h a)).run P p=.ok m p/\Rd bB m s:=by
 cases op<;>simp[vB,e',lL,reduceCtorEq]at e
 case add=>obtain⟨rfl,rfl⟩:=e;exact⟨_,by simp only[binOp,ea,hI,dn,Op.intArith,si b];rfl,.int b⟩
 case sub=>obtain⟨rfl,rfl⟩:=e;exact⟨_,by simp only[binOp,ea,hI,dn,Op.intArith,si b];rfl,.int b⟩
 case mul=>obtain⟨rfl,rfl⟩:=e;exact⟨_,by simp only[binOp,ea,hI,dn,Op.intArith,si b];rfl,.int b⟩
 case quo=>
  obtain⟨rfl,rfl⟩:=e;obtain⟨i,g⟩:=b;replace g:0<a:=g;have k:d.tdiv a=d / a:=Int.tdiv_eq_ediv_of_nonneg i;have j:a8 h (d / a):=by have q:0<=d / a:=Int.ediv_nonneg i w;have t:d / a<=d:=Int.ediv_le_self _ i;cases h<;>simp only[a8]at u⊢<;>omega
  exact⟨_,by simp only[binOp,ea,hI,dn,Op.intDiv,show a≠0 by omega,k,si j];rfl,.int j⟩
 case rem=>
  obtain⟨rfl,rfl⟩:=e;obtain⟨i,g⟩:=b;replace g:0<a:=g;have k:d.tmod a=d % a:=Int.tmod_eq_emod_of_nonneg i;have j:a8 h (d % a):=by have q:0<=d % a:=rv _ w;have t:d % a<a:=ro _ g;cases h<;>simp only[a8]at r⊢<;>omega
  exact⟨_,by simp only[binOp,ea,hI,dn,Op.intDiv,show a≠0 by omega,k];rfl,.int j⟩
 all_goals (obtain⟨rfl,rfl⟩:=e;exact⟨_,by simp only[binOp,ea,hI,dn,Op.intCmp,gt_iff_lt,ge_iff_le];rfl,.bool⟩)
def ab7{E bD}{b i}{s}(a:wh op b i=f (s,cp))(cx:U cp)(j:E.data.toList=b)(g:bD.data.toList=i)(o)(bB):
  ∃d,(binOp op o (.string E) (.string bD)).run P p=.ok d p/\Rd bB d s:=by
 subst j g;cases op<;>simp only[wh,e',lL,reduceCtorEq]at a
 case add=>
  obtain⟨rfl,rfl⟩:=a;have e:¬((E.size+bD.size:Nat):Int)>IntKind.i64.max:=OV;refine⟨_,by simp only[binOp,Op.stringOp,e,dn];rfl,.S D (by simpa using cx)⟩
 all_goals (obtain⟨rfl,rfl⟩:=a;exact⟨_,by simp only[binOp,Op.stringOp,ByteArray.toList_eq];rfl,.bool⟩)
def Wl{h}{a bD}{s}(t:vB op h a bD=f (s,cp))(cx:U cp)(o):
  (binOp op o (.int h a) (.int h bD)).events P p #[]=#[]:=by
 cases op<;>simp[vB,e',lL,reduceCtorEq]at t
 case quo=>
  exact Q'
 case rem=>
  exact Q'
 all_goals (simp only[binOp,ea,hI,dn,Op.intCmp,Op.intArith];rfl)
def YA{E bD}{a i}{s}(b:wh op a i=f (s,cp))(cx:U cp)(g:E.data.toList=a)(e:bD.data.toList=i)(o):
  (binOp op o (.string E) (.string bD)).events P p #[]=#[]:=by
 subst g e;cases op<;>simp[wh,e',lL,reduceCtorEq]at b
 case add=>
  obtain⟨rfl,rfl⟩:=b;have d:¬((E.size+bD.size:Nat):Int)>IntKind.i64.max:=OV;simp only[binOp,Op.stringOp,d,dn];rfl
 all_goals (simp only[binOp,Op.stringOp];rfl)
def tg:IntKind->IntKind->Bool
 |.i8,.i8|.i16,.i16|.i32,.i32|.i64,.i64|.u8,.u8|.u16,.u16|.u32,.u32|.u64,.u64=>l
 |_,_=>v
def Dv{h a}(b:tg h a=l):h=a:=by cases h<;>cases a<;>first|rfl|(cases b;done)
def xw(a:BinOp):M->M->Option (M×m Prop)
 |.int d h,.int b i=>cond (tg d b) (vB a d h i) n
 |.S e,.S g=>wh a e g
 |_,_=>n
def qn(op)(o)(e g)(h a)(j d)(b):(eqGuard op o e g (.int h j) (.int a d)).run P b=.ok () b:=Ar
def IW(op)(o)(d e)(b i)(a):(eqGuard op o d e (.string b) (.string i)).run P a=.ok () a:=Ar
def yg(op)(o)(e g)(h a)(j b)(d)(V):(eqGuard op o e g (.int h j) (.int a b)).events P d V=V:=Ar
def Vw(op)(o)(d e)(a i)(b)(V):(eqGuard op o d e (.string a) (.string i)).events P b V=V:=Ar
theorem a1.binOp{y z:ae}(w:r.op=.binOp op o y z ty){E i s}(N:η y=ax E)(A:η z=ax i)(e:xw op E i=f (s,cp))(d:U cp):a1 P r η k (ax s) k:=by
 refine .aR λx q _ I=>?_;have a:=I y;have b:=I z;rw[N]at a;rw[A]at b;replace a:=b8 a;replace b:=b8 b;generalize t:q y=O at a;generalize u:q z=Q at b;cases a<;>cases b<;>simp[xw,reduceCtorEq]at e
 case int.int h j ju gp DT ZH=>
  cases g:tg h gp<;>simp[g,cond,reduceCtorEq]at e
  cases Dv g;obtain⟨D,B,C⟩:=ab6 (P:=P) (p:=x.a) e d ju ZH o x.D;exact⟨D,by simp[ab,w,cK,t,u,qn,c_,B,d'],C,by simp[ab,w,t,u,qn,yg,Wl e d]⟩
 case S.S=>
  rename_i T S J K R M m F;obtain⟨D,B,C⟩:=ab7 (P:=P) (p:=x.a) e d J m o x.D;exact⟨D,by simp[ab,w,cK,t,u,IW,c_,B,d'],C,by simp[ab,w,t,u,IW,Vw,YA e d J m]⟩
def zX(a:UnOp):M->Option M
 |.bool b=>match a with|.not=>f (.bool (!b))|_=>n
 |_=>n
theorem a1.unOp{op}{b:ae}(i:r.op=.unOp op o b){g s}(j:η b=ax g)(d:zX op g=f s):a1 P r η k (ax s) k:=by
 refine .aR λq e _ m=>?_;have a:=m b;rw[j]at a;replace a:=b8 a;generalize h:e b=p at a;cases a<;>simp[zX,reduceCtorEq]at d
 cases op<;>simp[reduceCtorEq,e']at d
 subst d;exact⟨_,by simp[ab,i,h,Op.unary,cK,d',c_],Rd.bool,by simp[ab,i,h,Op.unary]⟩
theorem e4.get{ah}(h:e4 k b z ah){i}(d:ah[u]?=f i):∃e,z[u]?=f e/\eC k b e i:=by
 induction z generalizing ah u with
 |nil=>cases ah<;>simp_all[e4]
 |cons e z g=>
  cases ah with
  |nil=>grind
  |cons m j=>
   cases u with
   |zero=>simp at d;subst d;exact⟨e,a,h.1⟩
   |succ u=>simp at d;obtain⟨p,x,o⟩:=g h.2 d;grind
theorem a1.extract{P}{r}{b:ae->y}{k}{d}{u}(p:r.op=.extract d u){ah}{e}(j:b d=.T ah)(i:ah[u]?=f e):a1 P r b k (.n e) k:=by refine .aR λw t _ o=>?_;have a:=o d;rw[j]at a;obtain⟨z,m,q⟩:=a;obtain⟨s,g,h⟩:=q.get i;refine⟨s,?_,h,?_⟩<;>simp[ab,p,m,Instr.extract,g]
def pz(a b:Nat):aN:=⟨.cell ⟨a,b,n⟩,v,v⟩
def t_(a b:Nat):aN:=⟨.cell ⟨a,b,n⟩,l,v⟩
theorem g6(i r j):(⟨i,r,n⟩:Addr).add j=⟨i,r+j,n⟩:=by unfold Addr.add;split<;>simp_all
section
def CH{r}(a:p.cell? ⟨i,r,n⟩=f aa)(V):(load ⟨i,r,n⟩).events P p V=V.push (pz i r):=by rw[events_load,a];rfl
def Js{p}{i r}:∀h e a b,(∀d,d<h->∃m,p.cell? ⟨i,r+(e+d),n⟩=f m) ->
    ∀g∈(loadCellsFrom ⟨i,r,n⟩ e h a).events P p b,g∈b∨∃d,d<e+h/\g=pz i (r+d)
  |0,e,a,b,_=>λg j=>.inl (by simpa[loadCellsFrom]using j)
  |h+1,e,a,b,o=>λg j=>by
    obtain⟨m,k⟩:=o 0 w;simp[kh]at k;simp[loadCellsFrom,aC,g6,run_load,k,aE,CH k]at j;rcases Js h (e+1) (a.push m) _ (λd q=>by grind) g j with s|⟨d,q,rfl⟩
    · grind
    grind
def Jr{r}{V}(g:∀a,a<j->∃e,p.cell? ⟨i,r+a,n⟩=f e):∀b∈(loadCells ⟨i,r,n⟩ j).events P p V,b∈V∨∃a,a<j/\b=pz i (r+a):=by intro b d;have:=Js (P:=P) j 0 #[] V N b d;grind
def nu{i r}{o}:∀z a g d b,d.heap[i]?=f (.cells g o (0,0))->r+a+c z<=g.size->(∀e∈z,e.oneCell'=l) ->
    ∀j∈(storeCells ⟨i,r,n⟩ z a).events P d b,j∈b∨∃m,a<=m/\m<a+c z/\j=t_ i (r+m)
  |[],_,_,_,_,_,_,_=>λj k=>.inl (by simpa[storeCells]using k)
  |e::h,a,g,d,b,C,x,p=>λj k=>by
    have bp:r+a<g.size:=N;have q:d.cell? ⟨i,r+a,n⟩=f g[r+a]:=ON;have s:d.frozen? ⟨i,r+a,n⟩=v:=by simp[World.frozen?,C]
    have t:(store (⟨i,r+a,n⟩:Addr) e).run P d=.ok () (d.setRow i (g.setIfInBounds (r+a) e)):=OC;have u:(store (⟨i,r+a,n⟩:Addr) e).events P d b=b.push (t_ i (r+a)):=by rw[events_store P d b _ e _ (p e D),q];simp[s,kg,dn];rfl
    simp[storeCells,aC,g6,t,u,aE]at k;rcases nu h (a+1) (g.setIfInBounds (r+a) e) _ _ (setRow_heap _ _ _ _ _ _ C) N (λw B=>p w N) j k with y|⟨m,E,A,rfl⟩
    · grind
    grind
def dB(P:aD)(b:Sem α):Prop:=∀d a,b.events P d a=a
def dB.bind{e:Type}{A}{g:α->Sem e}(i:dB P A)(j:∀d,dB P (g d)):dB P (A >>= g):=by
  intro h a;rw[aC,i h a];cases A.run P h with
  |ok d b=>exact j d b a
  |halt k b=>rfl
def dB.pure{a:Type}{b}:dB P (Pure.pure b:Sem a):=λ_ _=>rfl
def dB.stuck{a:Type}{b}:dB P (Go.stuck b:Sem a):=λ_ _=>rfl
def dB.unsupported{a:Type}{b}:dB P (Go.unsupported b:Sem a):=λ_ _=>rfl
def dB.sizeOf{o}:dB P (sizeOf o):=λ_ _=>events_sizeOf ..
def dB.underlying{o}:dB P (underlying o):=λ_ _=>events_underlying ..
def dB.zeroValue{o}:dB P (zeroValue o):=λ_ _=>events_zeroValue ..
def dB.newObj{r}:dB P (newObj r):=λ_ _=>rfl
def dB.newRow{o}{s}:dB P (newRow o s):=.bind .newObj λ_=>.pure
def dB.hp{a e:Type}{g:a->Sem e}(h:∀b,dB P (g b)):∀d:m a,dB P (d.mapM g)
  |[]=>by rw[List.mapM_nil];exact .pure
  |b::d=>by rw[o7];exact .bind (h b) λ_=>.bind (dB.hp h d) λ_=>.pure
def dB.map{b d:Type}{e:b->d}{A}(g:dB P A):dB P (Functor.map e A):=λh a=>by rw[Sem.events_map];exact g h a
def dB.jw{a:Type}{b:α->Sem a}(e:∀d,dB P (b d))(g:Array α):dB P (g.mapM b):=by rw[xi];exact .map (.hp e _)
def dB.g'{b d:Type}{h:b->d->Sem (ForInStep d)}(i:∀e a,dB P (h e a)):∀(g:m b) a,dB P (forIn g a h)
  |[],a=>by rw[List.forIn_nil];exact .pure
  |e::g,a=>by
    rw[List.forIn_cons];refine .bind (i e a) λj=>?_;cases j with
    |done a=>exact .pure
    |yield a=>exact dB.g' i g a
theorem dB.build{o}{parts}:dB P (Instr.build o parts):=by
  unfold Instr.build;refine .bind .zeroValue λe=>.bind .underlying λa=>?_;cases a<;>first
    |exact .stuck
    | (refine .bind (.jw (λ_=>.bind .sizeOf λ_=>.pure) _) λb=>?_
       split
       · exact .pure
       · exact .stuck)
    | (refine .bind .sizeOf λd=>?_
       split
       · exact .pure
       · exact .stuck)
theorem dB.buildSlice{o}{j}{parts}:dB P (Instr.buildSlice o j parts):=by
  unfold Instr.buildSlice;refine .bind .underlying λh=>?_;cases h<;>first
    |exact .stuck
    | (refine .bind .sizeOf λd=>?_
       dsimp only
       have a:∀elem (zero:Array X),dB P (match Instr.fill (λi=>f (i*d,d)) (Array.map (λk=>zero[k % zero.size]!) (Array.range (j*d))) parts.toList with
          |some cells=>do
            let g<-Go.newRow elem cells
            Pure.pure (Value.slice (f g) j j)
          |_=>Go.stuck "buildSlice: a part of the wrong size"):=by
         intro elem zero;split
         · exact .bind .newRow λ_=>.pure
         · exact .stuck
       by_cases e:j*d=0
       · simp only[e,dx]
         rw[e]at a;split
         · grind
         · exact .bind .pure λb=>a _ b
       · simp only[e,dn]
         split
         · exact .bind .unsupported λ_=>.bind .zeroValue λb=>.bind .pure λb=>a _ b
         · exact .bind .zeroValue λb=>.bind .pure λb=>a _ b)
def qo{r}{L}(a:L∈b.t)(d:i∈L.al):ie b (pz i r):=⟨rfl,rfl,.inr (.inl ⟨⟨L,a,d⟩,λe=>by cases e⟩)⟩
def IZ{r}(a:b.D i r=f aa):ie b (pz i r):=⟨rfl,rfl,.inr (.inr ⟨rfl,aa,a⟩)⟩
theorem oo{r}{L}(d:L∈b.t)(e:i∈L.al)(a:b.D i r=n):ie b (t_ i r):=⟨rfl,rfl,.inr (.inl ⟨⟨L,d,e⟩,λ_=>a⟩)⟩
end
structure cq where
 size:Nat
 bytes:Nat
 agg:Bool
 desc:TypeDesc
 zero:m M
 eq:m TypeDesc:=[]
def rL:TypeDesc->X->X->Option Bool
 |.int _,.int e a,.int d b=>if e=d then f (a==b)else n
 |.string,.string a,.string b=>f (a.toList==b.toList)
 |.bool,.bool a,.bool b=>f (a==b)
 |_,_,_=>n
def nt:m TypeDesc->m X->m X->Option Bool
 |[],[],[]=>f l
 |g::a,h::z,i::b=>match rL g h i with
  |some d=>match nt a z b with
   |some e=>f (d&&e)
   |none=>n
  |none=>n
 |_,_,_=>n
def vC:TypeDesc->Bool
 |.struct _|.array _ _=>l
 |_=>v
structure eQ(P:aD)(o:an)(e:cq):Prop where
 eg:P.underlying o=f e.desc
 agg:vC e.desc=e.agg
 cY:∃inf ef,P.info? o=f inf/\inf.size=e.size/\inf.bytes=e.bytes/\inf.zero=f ef/\ef.cells.toList.map k_=e.zero.map f/\(∃ai,ef=if e.agg then .agg ai else ef)/\c e.zero=e.size
 iK:e.eq≠[]->P.eqGuardType P.depth o=v/\∀(p:au) (z ws:m X) (i:Bool),nt e.eq z ws=f i->(Op.equal o (.agg z.toArray) (.agg ws.toArray)).run P p=.ok i p/\∀V,(Op.equal o (.agg z.toArray) (.agg ws.toArray)).events P p V=V
def b0:m (Nat×cq)->Nat->Option cq
 |[],_=>n
 |(d,b)::e,a=>cond (ad d a) (f b) (b0 e a)
def b3(P:aD)(d:m (Nat×cq)):Prop:=∀b a,b0 d b=f a->eQ P b a
section
variable {e:cq}
def eQ.run_underlying(a:eQ P o e):(underlying o).run P p=.ok e.desc p:=by simp[underlying,a.eg]
def eQ.ez(a:eQ P o e):(isAgg o).run P p=.ok e.agg p:=by have:=a.agg;unfold Go.isAgg;rw[cK,a.run_underlying];cases b:e.desc<;>rw[b]at this<;>simp[vC]at this<;>simp[this]
def eQ.bc(d:eQ P o e):(sizeOf o).run P p=.ok e.size p:=by obtain⟨g,h,a,b,_⟩:=d.cY;simp[sizeOf,typeInfo,a,b]
def uv{k}{b}:∀{z:m X}{a:m M},z.map k_=a.map f->bP k b z (a.map Q.c)
 |[],[],_=>trivial
 |[],_::_,d=>by grind
 |_::_,[],d=>by grind
 |g::z,e::a,d=>by simp[mm,List.cons.injEq]at d;exact⟨Rd.fq d.1,uv d.2⟩
def eQ.hN(i:eQ P o e)(k)(b):∃a,(zeroValue o).run P p=.ok a p/\bP k b a.cells.toList (e.zero.map Q.c):=by obtain⟨m,a,d,j,q,h,g,_⟩:=i.cY;exact⟨a,by simp[zeroValue,typeInfo,d,h],uv g⟩
end
def mv:y->Option (m Q)
 |.n (.R b)=>f [b]
 |.n (.agg a)=>f a
 |_=>n
theorem u9{d}{ai}(a:mv d=f ai)(e:bx k b aa d):bP k b aa.cells.toList ai:=by
 cases d with
 |n h=>
  cases h with
  |R j=>
   cases a;have:=cB.cell e;cases aa<;>first|exact⟨e,B⟩|cases this
  |agg m=>
   cases a;obtain⟨z,rfl,g⟩:=e;simpa[Value.cells]using g
 |T i=>cases a
 |any=>cases a
def a1.newVar{P}{r}{g:ae->y}{k}{W}{ai}(q:∀b d,bc k b->(∀o,bx k b (d o) (g o))->∃h:X,(ab d r).run P b.a=((do pure (.value (.pointer (f (<-newVar W h))))):Sem Next).run P b.a/\bP k b h.cells.toList ai/\(ab d r).events P b.a #[]=#[]):
  a1 P r g k (aI (c k) 0) (k++[.cells W ai]):=by
 intro b d e m;obtain⟨h,i,j,p⟩:=q b d e m;refine⟨.value (.pointer (f ⟨b.a.heap.size,0,n⟩)),b.bX W h.cells.toList,?_,?_,e.bX j,.bX b W _ _,by rw[p];exact .nil⟩
 .rw[i];simp[Go.newVar,newRow,a6.bX]
 refine⟨by simp,⟨.pointer (f ⟨b.a.heap.size,0,n⟩),[b.a.heap.size]⟩,b.a.heap.size,?_,a,a⟩;simp[a6.bX,<-e.len]
theorem a1.alloc{P}{ac}(a0:b3 P ac){r}{b:ae->y}{k}{W}(g:r.op=.alloc W){e}(a:b0 ac W=f e):
  a1 P r b k (aI (c k) 0) (k++[.cells W (e.zero.map Q.c)]):=by refine .newVar λh m _ _=>?_;obtain⟨j,d,i⟩:=(a0 W e a).hN (p:=h.a) k h;exact⟨j,by simp[ab,g,Instr.alloc,d],i,by simp[ab,g,Instr.alloc,d,Go.newVar,newRow]⟩
theorem a1.box{P}{r}{a:ae->y}{k}{W}{b}(e:r.op=.box W b){ai}(g:mv (a b)=f ai):
  a1 P r a k (aI (c k) 0) (k++[.cells W ai]):=
 .newVar λi d _ h=>⟨d b,by simp[ab,e,Instr.box],u9 g (h b),by simp[ab,e,Instr.box,Go.newVar,newRow]⟩
def m2{a:Type}:Nat->m a->Option (m a)
 |0,_=>f []
 |d+1,g::b=>match m2 d b with|some e=>f (g::e)|none=>n
 |_+1,[]=>n
def tW{h:Type}:∀{b:Nat}{e d:m h},m2 b e=f d->d=e.take b/\c d=b
 |0,e,d,a=>by cases a;simp
 |b+1,[],d,a=>by simp[m2]at a
 |b+1,p::g,d,a=>by
  simp[m2]at a;cases i:m2 b g with
  |none=>grind
  |some o=>
   simp[i]at a;subst a;obtain⟨j,k⟩:=tW i;grind
def da{a:Type}:Nat->m a->Option a
 |_,[]=>n
 |0,e::_=>f e
 |d+1,_::b=>da d b
theorem ew{b:Type}:∀{j:Nat}{d:m b}{e:b},da j d=f e->d[j]?=f e
 |_,[],_,a=>by simp[da]at a
 |0,e::_,_,a=>by simpa[da]using a
 |j+1,_::g,_,a=>by simpa using ew (j:=j) (d:=g) a
def gg{a:Type}:Nat->m a->m a
 |0,d=>d
 |_+1,[]=>[]
 |e+1,_::b=>gg e b
def rK{d:Type}:∀a(e:m d),gg a e=e.drop a
 |0,_=>by simp[gg]
 |_+1,[]=>by simp[gg]
 |a+1,_::b=>by simp[gg,rK a b]
def hq(b:cq)(a:m Q):Option E1:=
 match b.agg with
 |true=>match m2 b.size a with|some e=>f (.agg e)|none=>n
 |false=>match da 0 a with|some d=>f (.R d)|none=>n
def tJ{e}(r:eQ P o e){ai}{ak}(D:∀m d,z[m]?=f d->b.a.cell? ⟨i,off+m,n⟩=f d)(q:bP k b z ai)(h:hq e ai=f ak):
  ∃d,(loadVar o ⟨i,off,n⟩).run P b.a=.ok d b.a/\eC k b d ak:=by
 simp[loadVar,cK,r.ez,c_];cases t:e.agg<;>simp[hq,t]at h
 .cases g:da 0 ai with
  |none=>grind
  |some y=>
   simp[g]at h;subst h;obtain⟨d,A,s⟩:=q.get (ew g);refine⟨d,?_,s⟩;grind[run_load]
 cases g:m2 e.size ai with
 |none=>grind
 |some B=>
  simp[g]at h;subst h;obtain⟨x,u⟩:=tW g;have j:=q.take e.size;rw[<-x]at j;have w:c (z.take e.size)=e.size:=by rw[j.cI,u]
  have p:=run_loadCells_list (P:=P) b.a ⟨i,off,n⟩ (z.take e.size) (λm d C=>by grind[g6]);rw[w]at p;refine⟨.agg (z.take e.size).toArray,?_,z.take e.size,a,j⟩;simp[r.bc,p]
def pe{e}(s:eQ P o e)(t:∀d,d<j->∃k,p.cell? ⟨i,off+d,n⟩=f k)(h:(if e.agg then e.size else 1)<=j):
  ∀g∈(loadVar o ⟨i,off,n⟩).events P p #[],∃d,d<j/\g=pz i (off+d):=by
 intro g b;simp only[loadVar,aC,s.ez,aE,events_isAgg]at b;cases q:e.agg
 .rw[q]at h b;obtain⟨k,r⟩:=t 0 N;simp[kh]at r;simp only[kg,dn,CH r]at b;rcases Array.mem_push.1 b with u|rfl
  .grind
  exact⟨0,by grind,a⟩
 rw[q]at h b;simp[dx]at h;simp[dx,aC,s.bc,aE,events_sizeOf]at b;have key:∀g∈(loadCells ⟨i,off,n⟩ e.size).events P p #[],∃d,d<j/\g=pz i (off+d):=by
  intro g b;rcases Jr (P:=P) (λd x=>t d w) g b with u|⟨d,x,rfl⟩
  .grind
  grind
 apply key;generalize(loadCells ⟨i,off,n⟩ e.size).run P p=y at b;cases y with
 |ok k m=>simpa using b
 |halt z m=>simpa using b
theorem sh{e}{ai}{g}(a:hq e ai=f g):(if e.agg then e.size else 1)<=c ai:=by
 unfold hq at a;cases b:e.agg<;>rw[b]at a
 .cases ai with
  |nil=>simp[da]at a
  |cons h ai=>simp
 simp only at a;cases d:m2 e.size ai with
 |none=>grind
 |some k=>
  obtain⟨i,j⟩:=tW d;grind
theorem a1.hi{ac}(a0:b3 P ac){w:ae}(C:r.op=.load o w){ai}{e}{ak}(O:η w=aI d off)(aM:k[d]?=f (.cells W ai))(p:b0 ac o=f e)(F:hq e (gg off ai)=f ak):a1 P r η k (.n ak) k:=by
 refine .dv λb x q s=>?_
 have m:=s w;rw[O]at m;obtain⟨_,L,i,J,y,I⟩:=m;obtain⟨u,z,rfl,E,A,_⟩:=q.box d _ L aM J;simp at y;subst y;rw[rK]at F;obtain⟨K,B,N⟩:=tJ (b:=b) (k:=k) (P:=P) (a0 o e p) (i:=u) (off:=off) (z:=z.drop off) (ai:=ai.drop off) (ak:=ak) (λt K g=>by
  simp[aH,E]
  grind) (A.drop off) F
 refine⟨K,by simp[ab,C,I,Instr.loadAt,Instr.sureAddr,B],N,λh a=>?_⟩;have M:h∈(loadVar o ⟨u,off,n⟩).events P b.a #[]:=by
  have ak:ab x r=(do pure (.value (<-loadVar o ⟨u,off,n⟩))):=by simp[ab,C,I,Instr.loadAt,Instr.sureAddr]
  rw[ak]at a;simpa[B]using a
 have Q:c (z.drop off)=c (ai.drop off):=(A.drop off).cI;obtain⟨t,g,rfl⟩:=pe (a0 o e p) (j:=c (z.drop off)) (λt g=>by refine⟨(z.drop off)[t],?_⟩;simp only[aH,E];simp at g⊢<;>omega) (by grind[sh]) h M;exact qo (ca J) D
theorem a1.hj{ac}(a0:b3 P ac){B:ae}(I:r.op=.load o B){ai}{e}{ak}(W:η B=ax (.Q ai))(w:b0 ac o=f e)(O:hq e (ai.map Q.c)=f ak):a1 P r η k (.n ak) k:=by
 refine .dv λb x u C=>?_;have s:=C B;rw[W]at s;have t:=b8 s;generalize F:x B=X at t;cases t;rename_i i off A p J;have V:∀j h,(∀d y,h[d]?=f y->Rd b.D (A (j+d)) y)->bP k b ((aA (c h)).map λd=>A (j+d)) (h.map Q.c):=by
  intro j h;induction h generalizing j with
  |nil=>intro _;trivial
  |cons S h D=>
   intro M;rw[fs,w'];refine⟨M 0 S a,?_⟩;have:=D (j+1) (λd y g=>by have:=M (d+1) y N;grind);grind[Function.comp_def]
 obtain⟨R,K,U⟩:=tJ (b:=b) (k:=k) (P:=P) (a0 o e w) (i:=i) (off:=off) (z:=(aA (c ai)).map λd=>A (0+d)) (ai:=ai.map Q.c) (ak:=ak) (λd R g=>by
  simp[ni,cV]at g;by_cases E:d<c ai
  .simp[E]at g;subst g;exact u.mem _ _ _ (p d ai[d] (bJ E))
  grind) (V 0 ai N) O
 refine⟨R,by simp[ab,I,F,Instr.loadAt,Instr.sureAddr,K],U,λq m=>?_⟩;have T:q∈(loadVar o ⟨i,off,n⟩).events P b.a #[]:=by
  have ak:ab x r=(do pure (.value (<-loadVar o ⟨i,off,n⟩))):=by simp[ab,I,F,Instr.loadAt,Instr.sureAddr]
  rw[ak]at m;simpa[K]using m
 obtain⟨d,g,rfl⟩:=pe (a0 o e w) (j:=c ai) (λd g=>⟨A d,u.mem _ _ _ (p d ai[d] (bJ g))⟩) (by have:=sh O;grind) q T;exact IZ (p d ai[d] (bJ g))
def jb{d:Type}:Nat->m d->m d->Option (m d)
 |0,[],i=>f i
 |0,j::b,_::a=>match jb 0 b a with|some e=>f (j::e)|none=>n
 |h+1,b,g::a=>match jb h b a with|some e=>f (g::e)|none=>n
 |_,_,[]=>n
def EJ{h:Type}:∀{a:Nat}{new g e:m h},jb a new g=f e->a+c new<=c g/\e=g.take a++new++g.drop (a+c new)
 |0,[],g,e,t=>by cases g<;>cases t<;>simp
 |0,o::b,k::d,e,t=>by
  simp[jb]at t;cases x:jb 0 b d with
  |none=>grind
  |some p=>
   exact PO
 |0,o::b,[],e,t=>by simp[jb]at t
 |j+1,b,k::d,e,t=>by
  simp[jb]at t;cases x:jb j b d with
  |none=>grind
  |some p=>
   exact PO
 |j+1,b,[],e,t=>by simp[jb]at t
def bP.fi{new}{ai a g}(h:AM.jb off a ai=f g)(d:bP k b z ai)(e:bP k b new a):
  off+c new<=c z/\bP k b (z.take off++new++z.drop (off+c new)) g:=by obtain⟨k1,rfl⟩:=EJ h;rw[e.cI,d.cI];refine⟨k1,((d.take off).append e).append (by have:=d.drop (off+c a);exact this)⟩
theorem a1.store{ac}(a0:b3 P ac){x h:ae}(I:r.op=.store o x h){ai new i}{e}(O:η x=aI d off)(aM:k[d]?=f (.cells W ai))(q:b0 ac o=f e)(y:mv (η h)=f new)(s:c new=e.size)(M:jb off new ai=f i):
  a1 P r η k .any (k.set d (.cells W i)):=by
 intro w g p t;have m:=t x;rw[O]at m;obtain⟨_,L,Y,B,F,K⟩:=m;obtain⟨u,z,rfl,J,T,R⟩:=p.box d _ L aM B;simp at F;subst F;have j:=u9 y (t h);obtain⟨k1,V⟩:=bP.fi M T j;obtain⟨w1,w2⟩:=p.write aM B rfl V;refine⟨.skip,_,?_,a,w1,w2,?_⟩
 rotate_left
 .intro IX b;have A:(g h).cells.size=e.size:=by rw[<-s,<-j.cI,ng]
  have Q:ab g r=(do storeVar o ⟨u,off,n⟩ (g h);pure .skip):=by simp[ab,I,K,Instr.storeAt,Instr.sureAddr]
  rw[Q]at b;have S:IX∈(storeCells ⟨u,off,n⟩ (g h).cells.toList).events P w.a #[]:=by
   simp[storeVar,aC,(a0 o e q).bc,A,aE,events_sizeOf,ea,hI,dn,cK,c_,Sem.events_pure]at b;generalize(storeCells ⟨u,off,n⟩ (g h).cells.toList).run P w.a=U at b;cases U with
   |ok aa C=>simpa using b
   |halt x C=>simpa using b
  rcases nu (g h).cells.toList 0 z.toArray w.a #[] J N j.cell IX S with X|⟨Z,_,_,rfl⟩
  .grind
  exact oo (ca B) D (R _)
 have E:=run_storeCells_at P u off W (g h).cells.toList 0 z.toArray w.a J N (j.cell);have A:(g h).cells.size=e.size:=by rw[<-s,<-j.cI,ng]
 simp[kh]at E;simp[ab,I,K,Instr.storeAt,Instr.sureAddr,storeVar,(a0 o e q).bc,A,E]
def lm(d:m (Nat×cq))(i:an)(g:Nat):Option (Nat×cq):=
 match b0 d i with
 |some h=>match h.desc with
  |.struct b=>match da g b.toList with
   |some a=>match b0 d a.type with
    |some e=>cond (ad e.size 0) n (f (a.offset,e))
    |none=>n
   |none=>n
  |_=>n
 |none=>n
def C3{ac}(a0:b3 P ac){j}{u}(d:lm ac o j=f (off,u)):
  ∃g h b,b0 ac o=f g/\g.desc=.struct h/\h[j]?=f b/\b.offset=off/\b0 ac b.type=f u/\u.size≠0/\eQ P o g/\eQ P b.type u:=by
 unfold lm at d;split at d
 .rename_i g bp;split at d
  .rename_i h i;split at d
   .rename_i b e;split at d
    .rename_i k s;cases m:ad k.size 0<;>simp[m]at d
     obtain⟨rfl,rfl⟩:=d;refine⟨g,h,b,bp,i,by simpa using ew e,a,s,?_,a0 _ _ bp,a0 _ _ s⟩;intro p;simp_all
    grind
   grind
  grind
 grind
def zr{ac}(a0:b3 P ac){a}{u}(k:lm ac o a=f (off,u))(i r)(p):
  (Instr.fieldAt o (.pointer (f ⟨i,r,n⟩)) a).run P p=.ok (.pointer (f ⟨i,r+off,n⟩)) p:=by obtain⟨q,w,h,s,g,m,j,t,b,e,d⟩:=C3 a0 k;simp[Instr.fieldAt,e.run_underlying,g,m,Instr.sureAddr,fieldPlace,d.bc,b,g6,j]
def yh{ac}(a0:b3 P ac){a}{u}(k:lm ac o a=f (off,u))(i r)(p)(V):
  (Instr.fieldAt o (.pointer (f ⟨i,r,n⟩)) a).events P p V=V:=by obtain⟨m,w,h,s,g,j,q,t,b,e,d⟩:=C3 a0 k;simp[Instr.fieldAt,e.run_underlying,g,j,Instr.sureAddr,fieldPlace,d.bc,b]
def a1.g7{ac}(a0:b3 P ac){i:ae}{q}(s:r.op=.fieldAddr o i q){h}{u}(y:η i=aI d off)(m:lm ac o q=f (h,u)):a1 P r η k (aI d (off+h)) k:=by refine .aR λA z x g=>?_;have b:=g i;rw[y]at b;obtain⟨e,L,j,w,t,p⟩:=b;exact⟨.pointer (f ⟨j,off+h,n⟩),by simp[ab,s,p,zr a0 m],⟨e,L,j,w,t,a⟩,by simp[ab,s,p,yh a0 m]⟩
theorem a1.g9{ac}(a0:b3 P ac){d:ae}{q}(s:r.op=.fieldAddr o d q){ai}{h}{u}(A:η d=ax (.Q ai))(p:lm ac o q=f (h,u)):a1 P r η k (ax (.Q (gg h ai))) k:=by refine .aR λC i y g=>?_;have a:=g d;rw[A]at a;have b:=b8 a;generalize j:i d=B at b;cases b;rename_i m r x z t;refine⟨.pointer (f ⟨m,r+h,n⟩),by simp[ab,s,j,zr a0 p],?_,by simp[ab,s,j,yh a0 p]⟩;rw[rK];refine Rd.Q m (r+h) (λu=>x (h+u)) (λu w e=>N) (λu w e=>?_);grind
def SF{e}(j:eQ P o e){ai}(q:bP k b z ai){i}(d:hq e (gg off ai)=f i)(p):
  ∃g,(part o z.toArray off).run P p=.ok g p/\eC k b g i/\∀a,(part o z.toArray off).events P p a=a:=by
 simp[part,cK,j.ez,c_,aC,aE,events_isAgg];rw[rK]at d;cases t:e.agg<;>simp[hq,t]at d
 .cases s:da 0 (ai.drop off)with
  |none=>grind
  |some w=>
   simp[s]at d;subst d;obtain⟨g,m,r⟩:=(q.drop off).get (ew s);simp at m;refine⟨g,?_,r,λa=>?_⟩<;>simp[m]
 cases s:m2 e.size (ai.drop off)with
 |none=>grind
 |some y=>
  simp[s]at d;subst d;obtain⟨u,x⟩:=tW s;have h:=(q.drop off).take e.size;rw[<-u]at h;refine⟨.agg (z.toArray.extract off (off+e.size)),by simp[j.bc],⟨(z.drop off).take e.size,?_,h⟩,λa=>by simp⟩;simp
theorem a1.field{P}{ac}(a0:b3 P ac){r}{d:ae->y}{k}{o}{g}{j}(p:r.op=.field o g j){ai}{h}{u}{i}(M:d g=.n (.agg ai))(F:lm ac o j=f (h,u))(J:hq u (gg h ai)=f i):a1 P r d k (.n i) k:=by refine .aR λK O E e=>?_;have a:=e g;rw[M]at a;obtain⟨z,q,A⟩:=a;obtain⟨Q,D,C,a,b,t,s,S,R,m,I⟩:=C3 a0 F;obtain⟨N,B,w,x⟩:=SF I A J K.a;exact⟨N,by simp[ab,p,q,Instr.field,m.run_underlying,b,t,asAgg,s,B],w,by simp[ab,p,q,Instr.field,m.run_underlying,b,t,asAgg,s,x]⟩
theorem a1.hv{b:ae}(i:r.op=.nilCheck b)(m:η b=aI d off):a1 P r η k (aI d off) k:=by refine .aR λu g o e=>?_;have a:=e b;rw[m]at a;have j:=a;obtain⟨p,L,q,t,s,h⟩:=a;exact⟨g b,by simp[ab,i,h],j,by simp[ab,i,h]⟩
theorem a1.hx{d:ae}(i:r.op=.nilCheck d){ai}(j:η d=ax (.Q ai)):a1 P r η k (ax (.Q ai)) k:=by refine .aR λp g m e=>?_;have a:=e d;rw[j]at a;have b:=b8 a;generalize h:g d=o at b;cases b;exact⟨_,by simp[ab,i,h];rfl,by grind,by simp[ab,i,h]⟩
def Zo(new):∀d a(b:Array X),a+d+c new<=b.size ->
  ((new.zipIdx d).foldl (λb (g:X×Nat)=>b.setIfInBounds (a+g.2) g.1) b).toList=b.toList.take (a+d)++new++b.toList.drop (a+d+c new):=by
 induction new with
 |nil=>simp
 |cons h z e=>
  intro d a b i;simp[List.zipIdx_cons,iT];rw[e (d+1) a _ N];have:=list_seg_step b.toList (a+d) h z N;simpa[Array.toList_setIfInBounds,Nat.add_assoc]using this
def rN(place:Nat->Option (Nat×Nat)):m (Nat×m Q)->m Q->Option (m Q)
 |[],a=>f a
 |(e,new)::b,a=>match place e with
  |some (d,size)=>match ad (c new) size with
   |true=>match jb d new a with
    |some g=>rN place b g
    |none=>n
   |false=>n
  |none=>n
def yq{k}{b}{place v3:Nat->Option (Nat×Nat)}(A:∀x g,place x=f g->v3 x=f g):∀{parts:m (Nat×m Q)}{zZ:m (Nat×X)}{ai a7:m Q}{z:Array X},
  rN place parts ai=f a7->zZ.map (·.1)=parts.map (·.1)->(∀(s:Nat) g o,parts[s]?=f g->zZ[s]?=f o->bP k b o.2.cells.toList g.2)->bP k b z.toList ai ->
  ∃r,Instr.fill v3 z zZ=f r/\bP k b r.toList a7
 |[],[],ai,a7,z,e,_,_,p=>by cases e;exact⟨z,a,p⟩
 |[],_::_,ai,a7,z,e,j,_,p=>by grind
 |_::_,[],ai,a7,z,e,j,_,p=>by grind
 |(x,new)::i,(w,t)::h,ai,a7,z,e,j,q,p=>by
  simp[mm,List.cons.injEq]at j;obtain⟨rfl,j⟩:=j;simp[rN]at e;cases y:place w with
  |none=>grind
  |some g=>
   obtain⟨d,size⟩:=g;simp[y]at e;cases C:ad (c new) size with
   |false=>grind
   |true=>
    simp[C]at e;cases D:jb d new ai with
    |none=>grind
    |some o=>
     simp[D]at e;have u:=q 0 (w,new) (w,t) a a;simp only at u;have R:=u.cI;have J:c new=size:=dp C;obtain⟨k1,O⟩:=bP.fi D p u;have M:=Zo t.cells.toList 0 d z N;have F:t.cells.size=size:=N;have K:d+size<=z.size:=N;obtain⟨r,I,B⟩:=yq (k:=k) (b:=b) A (parts:=i) (zZ:=h) (ai:=o) (a7:=a7)
      (z:=t.cells.zipIdx.foldl (λai (E:X×Nat)=>ai.setIfInBounds (d+E.2) E.1) z) e j (λs g o I B=>q (s+1) g o N N) (by grind[Array.toList_zipIdx])
     refine⟨r,?_,B⟩;simp[Instr.fill,A _ _ y,F,ea,hI,n8,Bool.false_or,bw];grind
def tz(b:m (Nat×cq)):m Field->Option (m (Nat×Nat))
 |[]=>f []
 |d::a=>match b0 b d.type with
  |some e=>match tz b a with
   |some g=>f ((d.offset,e.size)::g)
   |none=>n
  |none=>n
def L4{P}{ac}(a0:b3 P ac):∀{b:m Field}{e:m (Nat×Nat)},tz ac b=f e->b.mapM (λd=>(P.info? d.type).map λk=>(d.offset,k.size))=f e
 |[],e,a=>by cases a;simp
 |d::b,e,a=>by
  simp[tz]at a;cases h:b0 ac d.type with
  |none=>grind
  |some p=>
   cases g:tz ac b with
   |none=>grind
   |some q=>
    simp[h,g]at a;subst a;obtain⟨o,r,j,i,_⟩:=(a0 _ _ h).cY;simp[o7,j,i,L4 a0 g]
def px(a:ae->y):m (Nat×ae)->Option (m (Nat×m Q))
 |[]=>f []
 |(d,h)::g=>match mv (a h)with
  |some b=>match px a g with
   |some e=>f ((d,b)::e)
   |none=>n
  |none=>n
def zd{k}{b}{d:ae->X}{a:ae->y}(t:∀s,bx k b (d s) (a s)):∀{j:m (Nat×ae)}{g:m (Nat×m Q)},px a j=f g ->
  (j.map λ(i,h)=>(i,d h)).map (·.1)=g.map (·.1)/\∀(p:Nat) q r,g[p]?=f q->(j.map λ(i,h)=>(i,d h))[p]?=f r->bP k b r.2.cells.toList q.2
 |[],g,e=>by cases e;simp
 |(i,h)::z,g,e=>by
  simp[px]at e;cases u:mv (a h)with
  |none=>grind
  |some w=>
   cases o:px a z with
   |none=>grind
   |some x=>
    simp[u,o]at e;subst e;obtain⟨B,A⟩:=zd t o;grind[u9]
def xA(g:m (Nat×cq))(e:ae->y)(j:an)(parts:m (Nat×ae)):Option (m Q):=
 match b0 g j with
 |some h=>match h.desc with
  |.struct a=>match tz g a.toList with
   |some b=>match px e parts with
    |some d=>rN (λi=>da i b) d (h.zero.map Q.c)
    |none=>n
   |none=>n
  |_=>n
 |none=>n
theorem a1.build{P}{ac}(a0:b3 P ac){r}{d:ae->y}{k}{o}{parts}(z:r.op=.build o parts){ai}(e:xA ac d o parts.toList=f ai):a1 P r d k (.n (.agg ai)) k:=by
 refine .aR λb s B m=>?_;unfold xA at e;cases a:b0 ac o with
 |none=>grind
 |some i=>
  simp[a]at e;cases x:i.desc with
  |struct j=>
   simp[x]at e;cases w:tz ac j.toList with
   |none=>grind
   |some q=>
    simp[w]at e;cases u:px d parts.toList with
    |none=>grind
    |some J=>
     simp[u]at e;obtain⟨S,V,I,T,M,E,K,U,Q⟩:=(a0 o i a).cY;obtain⟨D,p⟩:=zd (k:=k) (b:=b) m u;obtain⟨g,N,F⟩:=yq (k:=k) (b:=b) (v3:=λA=>q.toArray[A]?) (λA R C=>by grind[ew]) e D p (uv K);have h:P.built o (parts.map λ(i,O)=>(i,s O)).toList=f g:=by unfold Program.built;have t:=(a0 o i a).eg;rw[x]at t;simp[I,t,E,L4 a0 w];simpa using N
     refine⟨.agg g,?_,⟨g.toList,by simp,F⟩,?_⟩
     .simp only[ab,z,cK,run_build b.a o _ g h,c_,d']
     simp[ab,z,aC,run_build b.a o _ g h,aE,Sem.events_pure];exact dB.build b.a #[]
  |_=>grind
theorem Z0{h}(a:e<j)(d:u<h):e*h+u<j*h:=by have b:(e+1)*h<=j*h:=hc h w;grind
theorem ZZ{h}(a:u<h):(e*h+u) / h=e:=by grind[Nat.mul_comm,Nat.mul_add_div,Nat.div_eq_of_lt]
theorem Z1{h}(a:u<h):(e*h+u) % h=u:=by rw[xf,Nat.mul_add_mod,Nat.mod_eq_of_lt a]
def e3.nil{h}:e3 bB h 0 V []:=⟨by simp,by omega,by omega⟩
def cj(b:Nat)(d e:Nat->m M):Nat->m M:=λa=>if a<b then d a else e (a-b)
def e3.append{h}{b:Nat->m M}{i}(g:e3 bB h j V z)(p:e3 bB h A b i):e3 bB h (j+A) (cj j V b) (z++i):=by
 refine⟨by simp[g.len,p.len,jM],λe r=>?_,λe r k s a=>?_⟩
 .simp only[cj];split
  .rename_i o;exact g.bF e o
  exact p.bF _ w
 simp[cj]at a;split at a
 .rename_i o;obtain⟨t,q,d⟩:=g.rd e o k s a;grind
 rename_i x;obtain⟨t,q,d⟩:=p.rd _ w k s a;refine⟨t,?_,d⟩;have u:e*h+k=c z+((e-j)*h+k):=by rw[g.len,<-Nat.add_assoc,<-jM,A5 w]
 grind
def e3.cell{bB}{h j}{d:Nat->m M}{z}(i:e3 bB h j d z):∀g∈z,g.oneCell'=l:=by intro g p;obtain⟨a,q,rfl⟩:=ha p;rw[i.len]at q;have o:0<h:=N;have e:a / h<j:=sA N;have s:a % h<h:=p7 _ o;have t:=i.bF _ e;obtain⟨g,b,k⟩:=i.rd (a / h) e (a % h) ((d (a / h))[a % h]'w) (bJ w);have r:a / h*h+a % h=a:=uG a h;rw[r]at b;rw[bJ N]at b;simp at b;rw[b];have:=Rd.cell k;cases g<;>simp_all[dU,Value.oneCell']
def Rd.b1{o}{h}(D:Rd bB aa (.B o h j V)):
  ∃k b z,aa=.slice k j b/\j<=b/\b<=9223372036854775807/\(o=l->b=j)/\e3 bB h j V z/\∀e u,z[e]?=f u->∃m d,k=f ⟨m,d,n⟩/\bB m (d+e)=f u:=by
 cases D with
 |@B k _ b _ _ _ m d A x r t i q s F=>
  refine⟨k,b,(aA (j*h)).map λe=>A (e / h) (e % h),a,x,r,t,⟨by simp,i,?_⟩,?_⟩
  .grind [Z0,ZZ,Z1]
  intro e u p;simp[ni]at p;by_cases y:e<j*h
  .simp[y]at p;subst p;have C:0<h:=N;have g:e / h<j:=sA N;have E:e % h<h:=p7 _ C;have I:=i _ g;have:=s (e / h) g (e % h) ((V (e / h))[e % h]'w) (bJ w);refine⟨m,d,q (Nat.lt_of_le_of_lt (g5 _) g),?_⟩;grind[Nat.div_add_mod']
  grind
def Rd.eu{h}(k:e3 bB h j V z){x}{cap}{o}(u:0<j->x=f ⟨i,off,n⟩)(t:j<=cap)(q:cap<=9223372036854775807)(w:o=l->cap=j)(y:∀r s,z[r]?=f s->bB i (off+r)=f s):Rd bB (.slice x j cap) (.B o h j V):=by
 refine .B i off (λd e=>(z[d*h+e]?).getD I) t q w k.bF u (λd a e g b=>?_) (λd a e g b=>?_)
 .obtain⟨aa,m,p⟩:=k.rd d a e g b;grind
 obtain⟨aa,m,p⟩:=k.rd d a e g b;grind
def oL(A:bc k b){o}{h}(u:Rd b.D aa (.B o h j V)):
  ∃z,e3 b.D h j V z/\(Builtin.firstCells h j aa).run P b.a=.ok z.toArray b.a/\Builtin.lenOf aa=pure j:=by
 obtain⟨r,m,z,rfl,B,E,D,q,p⟩:=u.b1;refine⟨z,q,?_,a⟩;have w:c z=j*h:=q.len;cases r with
 |none=>
  have:z=[]:=by
   cases z with
   |nil=>rfl
   |cons i C=>obtain⟨s,d,g,_⟩:=p 0 i rfl;cases g
  subst this;rfl
 |some e=>
  simp[Builtin.firstCells];rw[<-w];refine run_loadCells_list b.a e z λx i t=>?_;obtain⟨s,d,g,y⟩:=p x i t;cases g;rw[g6];exact A.mem _ _ _ y
def a1.je{ac}(a0:b3 P ac){w y:ae}(t:r.op=.index o w y){d}{u}{h}{e}(bp:b0 ac o=f e)(aj:e.desc=.string)(I:η w=ax (.S d))(F:η y=ax (.int h u))(Kw:u=A)(D:A<c d):a1 P r η k (ax (.int .u8 (d[A]).toNat)) k:=by
 refine .aR λb s z q=>?_;have g:=q w;have j:=q y;rw[I]at g;rw[F]at j;replace g:=b8 g;replace j:=b8 j;generalize x:s w=J at g;generalize O:s y=K at j;cases g with
 |@S a _ E B=>
 cases j;subst E;have C:a[A]?=f (a.data.toList[A]):=by have m:A<a.size:=du;rw[getElem?_pos a A m];congr 1
 refine⟨.int .u8 (a.data.toList[A]).toNat,?_,Rd.int ?_,?_⟩
 rotate_left 2
 .exact RM
 .exact RM
 have:=(a.data.toList[A]).toNat_lt;exact m5
def a1.indexAddr{ac}(a0:b3 P ac){t x:ae}(T:r.op=.indexAddr o t x){e a5}(E:b0 ac o=f e)(Q:e.desc=.slice W)(R:b0 ac W=f a5){eU}{u}{h}(y:∀q O,bx k q O (η t)->Rd q.D O (.B eU a5.size j V))(M:η x=ax (.int h u))(F:u=A)(B:A<j):
  a1 P r η k (ax (.Q (V A))) k:=by
 refine .aR λq s X i=>?_;have d:=y q _ (i t);have a:=i x;rw[M]at a;replace a:=b8 a;generalize af:s t=ah at d;generalize ag:s x=ai at a;cases a;cases d with
 |@B aj _ K _ _ _ J b S ak U Z Y D g m=>
 have aa:0<j:=w;have N:=(a0 o e E).run_underlying (p:=q.a);rw[Q]at N;refine⟨.pointer (f ⟨J,b+A*a5.size,n⟩),?_,Rd.Q J (b+A*a5.size) (S A) (λI z C=>g A B I z C) (λI z C=>m A B I z C),?_⟩<;>
 simp[ab,T,af,ag,Instr.indexAt,asIntOf,N,F,D aa,(a0 W a5 R).bc,g6,B]
def a1.jm{ac}(a0:b3 P ac){g:ae}(u:r.op=.call {callee:=.builtin .len,args:=#[g],argTypes:=dt})(A:dt[0]?=f o){e}(b:b0 ac o=f e)(t:e.desc=.slice W){eU}{h}(B:∀a q,bx k a q (η g)->Rd a.D q (.B eU h j V)):a1 P r η k (ax (.int .i64 j)) k:=by
 refine .aR λa C x d=>?_;obtain⟨D,i,z,y,E,w,_⟩:=(B a _ (d g)).b1;have m:=(a0 o e b).run_underlying (p:=a.a);rw[t]at m;have s:dt[0]?=f o:=A;refine⟨.int .i64 j,?_,Rd.int m5,?_⟩<;>
 simp[ab,u,resolve,invoke,builtin,Builtin.len_,y,m,goInt,s]
theorem a1.jo{ac}(a0:b3 P ac){b:ae}(w:r.op=.call {callee:=.builtin .len,args:=#[b],argTypes:=dt})(A:dt[0]?=f o){e}(g:b0 ac o=f e)(u:e.desc=.string){d}(B:η b=ax (.S d)):a1 P r η k (ax (.int .i64 (c d))) k:=by
 refine .aR λC j x h=>?_;have a:=h b;rw[B]at a;replace a:=b8 a;generalize q:j b=D at a;cases a with
 |@S i _ z y=>
 have m:=(a0 o e g).run_underlying (p:=C.a);rw[u]at m;have s:dt[0]?=f o:=A;have t:i.size=c d:=by rw[<-z];simp
 refine⟨.int .i64 (c d),?_,Rd.int m5,?_⟩<;>
 simp[ab,w,resolve,invoke,builtin,Builtin.len_,q,m,goInt,s,t]
def a6.newRow(a:a6)(e:an)(z:m X):a6:=
 {t:=a.t,D:=λb d=>if b=a.a.heap.size then z[d]? else a.D b d,a:=a.a.alloc (.cells z.toArray e),own:=a.own}
def bc.newRow{k}{b}(h:bc k b)(W)(z):bc k (b.newRow W z)/\cO k b k (b.newRow W z):=by
 refine h.cX D (λg d=>i6 _ _ d) (λg d j=>by grind) (λg d j m e=>?_) a a a;by_cases i:g=b.a.heap.size
 .simp_all
 simp[i,dn]at e;have:=h.block e;omega
def Lk(d:a6)(W)(z):∀a b,z[a]?=f b->(d.newRow W z).D d.a.heap.size (0+a)=f b:=by intro a b e;simpa[a6.newRow]using e
def ic:m Q->Option (m M)
 |[]=>f []
 |.c e::d=>match ic d with|some b=>f (e::b)|none=>n
 |.x _ g h a::d=>match ic d with|some b=>f (.B v g h a::b)|none=>n
 |_::_=>n
def rI{k}{b}:∀{i:m Q}{g:m M}{z:m X},ic i=f g->bP k b z i->bP k b z (g.map Q.c)
 |[],g,z,a,e=>by cases a;exact e
 |_::_,_,[],_,e=>e.elim
 |.c r::d,g,j::z,a,e=>by
  simp[ic]at a;cases h:ic d with
  |none=>grind
  |some q=>simp[h]at a;subst a;exact⟨e.1,rI h e.2⟩
 |.x o s t p::d,g,j::z,a,e=>by
  simp[ic]at a;cases h:ic d with
  |none=>grind
  |some q=>simp[h]at a;subst a;exact⟨e.1.1,rI h e.2⟩
 |.ptr o u::d,g,j::z,a,e=>by simp[ic]at a
 |.aP o::d,g,j::z,a,e=>by simp[ic]at a
 |.O o w::d,g,j::z,a,e=>by simp[ic]at a
 |.any::d,g,j::z,a,e=>by simp[ic]at a
def rG{a:Type}(b:Nat):Nat->m a->Option (m (m a))
 |0,[]=>f []
 |0,_::_=>n
 |g+1,d=>match m2 b d with
  |some e=>match rG b g (gg b d)with
   |some h=>f (e::h)
   |none=>n
  |none=>n
def bP.eY:∀{z:m X}{a:m M},bP k b z (a.map Q.c)->∀(u:Nat)d,a[u]?=f d->∃e,z[u]?=f e/\Rd b.D e d:=by intro z a i u d j;obtain⟨e,g,h⟩:=i.get (u:=u) (x:=.c d) N;exact⟨e,g,h⟩
def B8{bB}{h}:∀{j:Nat}{b:m M}{d:m (m M)}{z:m X},rG h j b=f d->c z=c b->(∀(k:Nat)e,b[k]?=f e->∃p,z[k]?=f p/\Rd bB p e)->c d=j/\e3 bB h j (λi=>d.getD i []) z
 |0,[],d,z,g,o,r=>by cases g;simp at o;subst o;exact⟨a,.nil⟩
 |0,_::_,d,z,g,o,r=>by cases g
 |j+1,b,d,z,g,o,r=>by
  simp[rG]at g;cases u:m2 h b with
  |none=>grind
  |some e=>
   simp[u]at g;cases q:rG h j (gg h b)with
   |none=>grind
   |some w=>
    simp[q]at g;subst g;obtain⟨D,t⟩:=tW u;rw[rK]at q;obtain⟨E,B⟩:=B8 (z:=z.drop h) q N (λk e C=>by
     obtain⟨p,D,t⟩:=r (h+k) e N
     exact⟨p,by grind,t⟩)
    refine⟨by grind,?_⟩;have A:h<=c b:=N;have s:e3 bB h 1 (λ_=>e) (z.take h):=by refine⟨by grind,by grind,λi y k F C=>?_⟩;grind
    have:=s.append B;rw[Nat.add_comm 1 j]at this;have x:cj 1 (λ_=>e) (λi=>w.getD i [])=λi=>(e::w).getD i []:=by funext i;cases i<;>simp[cj]
    rw[x]at this;simpa using this
def rZ(i:m (Nat×cq))(h:ae->y)(q:an)(e:Nat)(parts:m (Nat×ae)):Option (Nat×m (m M)):=
 match b0 i q with
 |some k=>match k.desc with
  |.slice j=>match b0 i j with
   |some a=>match ad a.size 0 with
    |true=>n
    |false=>match ay (e*a.size) 16777216 with
     |true=>match px h parts with
      |some g=>match rN (λo=>f (o*a.size,a.size)) g (aU (e*a.size) Q.any)with
       |some b=>match ic b with
        |some p=>match rG a.size e p with
         |some d=>f (a.size,d)
         |none=>n
        |none=>n
       |none=>n
      |none=>n
     |false=>n
   |none=>n
  |_=>n
 |none=>n
theorem a1.buildSlice{P}{ac}(a0:b3 P ac){r}{A:ae->y}{k}{o}{j}{parts}(t:r.op=.buildSlice o j parts){h}{V}(e:rZ ac A o j parts.toList=f (h,V)):a1 P r A k (ax (.B l h j λx=>V.getD x [])) k:=by
 intro b s R T;unfold rZ at e;cases C:b0 ac o with
 |none=>grind
 |some x=>
  simp[C]at e;cases ai:x.desc with
  |slice u=>
   simp[ai]at e;cases F:b0 ac u with
   |none=>grind
   |some d=>
    simp[F]at e;cases U:ad d.size 0 with
    |true=>grind
    |false=>
     simp[U]at e;cases G:ay (j*d.size) 16777216 with
     |false=>grind
     |true=>
      simp[G]at e;cases aB:px A parts.toList with
      |none=>grind
      |some aa=>
       simp[aB]at e;cases az:rN (λh=>f (h*d.size,d.size)) aa (aU (j*d.size) Q.any)with
       |none=>grind
       |some J=>
        simp[az]at e;cases H:ic J with
        |none=>grind
        |some aI=>
         simp[H]at e;cases ah:rG d.size j aI with
         |none=>grind
         |some ao=>
          simp only[ah,e',lL]at e;obtain⟨rfl,rfl⟩:=e;have aS:d.size≠0:=λan=>by simp_all
          have aR:=fA G;obtain⟨aw,q,Oi,aM,aN,a,br,aO,aQ⟩:=(a0 u d F).cY;have au:q.cells.size=d.size:=OI;have ar:∀g∈q.cells.toList,dU g=l:=by intro g L;have ak:k_ g∈q.cells.toList.map k_:=hu.2 ⟨g,L,rfl⟩;rw[br]at ak;obtain⟨aT,_,O⟩:=hu.1 ak;exact(Rd.fq (bB:=b.D) O.symm).cell
          have aL:∀aH,(∀g∈(aA aH).map (λE=>q.cells[E % q.cells.size]!),dU g=l):=by grind[Nat.mod_lt]
          have aC:∀z:m X,(∀g∈z,dU g=l)->bP k b z (aU (c z) Q.any):=by
           intro z;induction z with
           |nil=>intro _;trivial
           |cons g z W=>intro L;exact⟨L g D,W λaJ av=>L aJ N⟩
          obtain⟨Y,Z⟩:=zd (k:=k) (b:=b) T aB;have aE:bP k b ((Array.range (j*d.size)).map (λE=>q.cells[E % q.cells.size]!)).toList (aU (j*d.size) Q.any):=by have:=aC _ (aL (j*d.size));simpa using this
          obtain⟨B,aK,af⟩:=yq (k:=k) (b:=b) (v3:=λh=>f (h*d.size,d.size)) (λh aV S=>S) az Y Z aE;have nT:=rI H af;obtain⟨aG,I⟩:=B8 (bB:=b.D) (z:=B.toList) ah (by simpa using nT.cI) nT.eY;obtain⟨M,aj⟩:=R.newRow u B.toList;refine⟨.value (.slice (f ⟨b.a.heap.size,0,n⟩) j j),b.newRow u B.toList,?_,?_,M,aj,?_⟩
          rotate_left 2
          .have an:(ab s r).events P b.a #[]=#[]:=R6;rw[an];exact .nil
          .have av:=(a0 o x C).run_underlying (p:=b.a);rw[ai]at av;have aD:(zeroValue u).run P b.a=.ok q b.a:=OL;have K:Instr.fill (λh=>f (h*d.size,d.size)) ((Array.range (j*d.size)).map (λE=>q.cells[E % q.cells.size]!)) (parts.map λ(x,ag)=>(x,s ag)).toList=f B:=bv;by_cases aF:j*d.size=0
           .have aP:j=0:=by grind[Nat.mul_eq_zero]
            subst aP;have aq:Array.range 0=#[]:=rfl;simp[aq]at K;simp[ab,t,Instr.buildSlice,av,(a0 u d F).bc,aq,K,Go.newRow,a6.newRow]
           rw[show ab s r=(do pure (.value (<-Instr.buildSlice o j (parts.map λ(x,ag)=>(x,s ag))))) by simp[ab,t]];simp only[Instr.buildSlice,cK,av,c_,(a0 u d F).bc,aF,dn,aD,show¬j*d.size>2 ^ 24 by omega,sJ,K,d'];simp[Go.newRow,a6.newRow]
          refine Rd.eu (I.mono aj.mem) (i:=b.a.heap.size) (off:=0) bn (bC _) ?_ bn (Lk b u B.toList);have:j<=j*d.size:=uD j w;omega
  |_=>grind
def fz.trans{k aX a}{b i b7}(j:fz k b aX i)(m:fz aX i a b7):fz k b a b7:=by refine⟨λy z A s=>m.mem _ _ _ (j.mem _ _ _ s),λo p L aM h=>?_⟩;obtain⟨w,d,e,g,u⟩:=j.box o p L aM h;obtain⟨x,t,k1,q,r⟩:=m.box o w d e g;exact⟨x,t,k1,q,u.trans r⟩
def rO{a:m α}{d b:α}{e}(g:(a++[d])[e]?=f b):a[e]?=f b∨(e=c a/\b=d):=N
def bc.b0{j}(e:bc k j)(g:cO k b k j)(M:j.t=b.t)(q:bc k b){bT}{L}(aM:eB (k++[bT]) {j with t:=j.t++[L]} bT L)(D:∀i∈L.al,b.a.heap.size<=i/\i<j.a.heap.size):bc (k++[bT]) {j with t:=j.t++[L]}/\cO k b (k++[bT]) {j with t:=j.t++[L]}:=by
 have t:fz k j (k++[bT]) {j with t:=j.t++[L]}:=by refine⟨λ_ _ _ I=>I,λy p h m d=>?_⟩;have x:=(cP.1 d).1;have K:=(cP.1 m).1;exact⟨p,h,by grind,by grind,.refl _ _⟩
 have B:=g.ext.trans t;refine⟨⟨e.mem,by simp[e.len],?_,?_,?_,?_⟩,⟨g.size,g.a4,g.mem,g.bz,?_,B.box,g.os,g.tape,g.output,g.own⟩⟩
 .intro y p h m d;rcases rO m with F|⟨rfl,rfl⟩
  .have x:y<c j.t:=by rw[e.len];grind
   rw[kb x]at d;exact(e.box y p h F d).ca t e.len λ_ _=>⟨a,λ_=>rfl⟩
  rcases rO d with A|⟨_,rfl⟩
  .have:=(cP.1 A).1;rw[e.len]at this;omega
  grind
 .intro y C r s A u i cZ o;rcases rO A with k1|⟨rfl,rfl⟩<;>rcases rO u with J|⟨rfl,rfl⟩
  .exact e.a3 y C r s k1 J i cZ o
  .have kH:=D i o;have z:=q.lt r N i cZ;omega
  .have kH:=D i cZ;have z:=q.lt s N i o;omega
  simp
 .intro h d i cZ;simp[fG,gO]at d;rcases d with d|rfl
  .exact e.lt h d i cZ
  grind
 .intro i cZ;refine⟨(e.own i cZ).1,λh d w=>?_⟩;simp[fG,gO]at d;rcases d with d|rfl
  .exact(e.own i cZ).2 h d w
  have E:=g.own;simp only at cZ;rw[E]at cZ;have:=(q.own i cZ).1;grind
 grind
def bc.b8{cl}(m:bc k b){E eg}{L cv}(V:k[d]?=f E)(I:b.t[d]?=f L)(y:fV E L eg cv)(U:b.a.heap.size<=bi.heap.size)(S:∀e,e<b.a.heap.size->e∉L.al->bi.heap[e]?=b.a.heap[e]?)(W:∀e,e<b.a.heap.size->e∉L.al->∀r,cl e r=b.D e r)(F:∀e r u,b.D e r=f u->cl e r=f u)(O:∀e r u,cl e r=f u->bi.cell? ⟨e,r,n⟩=f u)(Z:∀e∈cv.al,(e∈L.al∨b.a.heap.size<=e)/\e<bi.heap.size)(D:bi.os=b.a.os)(Q:bi.tape=b.a.tape)(M:bi.output=b.a.output)(aM:eB (k.set d eg) ⟨b.t.set d cv,cl,bi,b.own⟩ eg cv):bc (k.set d eg) ⟨b.t.set d cv,cl,bi,b.own⟩/\cO k b (k.set d eg) ⟨b.t.set d cv,cl,bi,b.own⟩:=by
 have X:=(cP.1 V).1;have Y:=(cP.1 I).1;have x:∀g h,(b.t.set d cv)[g]?=f h->(g=d/\h=cv)∨(g≠d/\b.t[g]?=f h):=N;have s:fz k b (k.set d eg) ⟨b.t.set d cv,cl,bi,b.own⟩:=by
  refine⟨F,λg h w q z=>?_⟩;by_cases B:d=g
  .grind
  exact⟨h,w,by grind,by grind,.refl _ _⟩
 have J:∀g h,g≠d->b.t[g]?=f h->∀e∈h.al,e<b.a.heap.size/\e∉L.al:=by intro g h p q e i;exact⟨m.lt h (ca q) e i,λT=>p (m.a3 g d h L q I e i T)⟩
 refine⟨⟨O,by simp[m.len],?_,?_,?_,?_⟩,⟨U,?_,F,?_,?_,s.box,D,Q,M,a⟩⟩
 .intro g h w q z;rcases x g w z with⟨rfl,rfl⟩|⟨p,z⟩
  .grind
  rw[kJ (λB=>p B.symm)]at q;refine(m.box g h w q z).ca s m.len λe i=>?_;grind
 .intro g K h o q C e i t;rcases x g h q with⟨rfl,rfl⟩|⟨p,A⟩<;>rcases x K o C with⟨rfl,rfl⟩|⟨j,R⟩
  .rfl
  .grind
  .grind
  exact m.a3 g K h o A R e i t
 .intro h q e i;obtain⟨g,p,rfl⟩:=ha q;rcases x g _ (bJ p)with⟨rfl,B⟩|⟨j,C⟩
  .grind
  grind
 .intro e i;obtain⟨H,G⟩:=m.own e i;grind
 .grind
 .grind
 grind
def Ll{a old bytes}(d:old<a)(b:a*bytes<=140737488355328):¬Builtin.nextslicecap a old*bytes>2 ^ 48:=by have:=growslice_fits d b;omega
section
variable {ac:m (Nat×cq)}(a0:b3 P ac){t2:an}{e O a5:cq}
def zq(d:eQ P o e)(A:e.desc=.slice W)(w:eQ P t2 O)(u:O.desc=.slice W)(B:eQ P W a5)(D:bc k b){x}{cap}(t:j<=cap){r}{g}{a:Nat->m M}(q:Rd b.D r (.B g a5.size 0 a)):
  (Builtin.append_ #[o,t2] ty #[.slice x j cap,r]).run P b.a=.ok (.slice x j cap) b.a:=by obtain⟨F,E,C,J⟩:=oL (P:=P) D q;have i:=d.run_underlying (p:=b.a);have h:=w.run_underlying (p:=b.a);rw[A]at i;rw[u]at h;obtain⟨s,I,z,rfl,_⟩:=q.b1;have y:=jK (by simpa using E.len);subst y;cases x<;>simp[Builtin.append_,i,h,B.bc,Builtin.lenOf,t,C,storeCells]
def v_(B:eQ P o e)(af:e.desc=.slice W)(aw:eQ P t2 O)(av:O.desc=.slice W)(L:eQ P W a5)(ak:bc k b){r}{cap}{aj E}{g:Nat->m M}{i}(C:Rd b.D (.slice r j cap) (.B aj a5.size j V))(D:Rd b.D i (.B E a5.size A g))(ah:cap<j+A)(I:(j+A)*a5.bytes<=140737488355328)(y:a5.bytes≠0):
  ∃z q d,e3 b.D a5.size (j+A) (cj j V g) z/\j+A<=d/\d<=9223372036854775807/\c (z++q)=d*a5.size /\
   (Builtin.append_ #[o,t2] ty #[.slice r j cap,i]).run P b.a=.ok (.slice (f ⟨b.a.heap.size,0,n⟩) (j+A) d) (b.a.drew.alloc (.cells (z++q).toArray W)):=by
 have ab:bc k {b with a:=b.a.drew}:=ak.same rfl;obtain⟨t,K,u,ar⟩:=oL (P:=P) ab (aa:=i) D;obtain⟨s,Y,x,U⟩:=oL (P:=P) ab (aa:=.slice r j cap) C;have R:=B.run_underlying (p:=b.a);have S:=aw.run_underlying (p:=b.a);rw[af]at R;rw[av]at S;obtain⟨Z,F,J,ax,az,ai,ag,aB,aC⟩:=L.cY;have T:=fY (uD _ (Nat.pos_of_ne_zero y)) I;have H:F.cells.size=a5.size:=by have:=eF List.length ag;grind
 refine⟨s++t,(Builtin.zeroCells F.cells (grownCap b.a (j+A) cap W-(j+A))).toList,grownCap b.a (j+A) cap W,Y.append K,grownCap_ge _ _ _ _,?_,?_,?_⟩
 .have:=grownCap_le_maxLen b.a (j+A) cap W (by unfold maxLen;omega);unfold maxLen at this;omega
 .have aP:=grownCap_ge b.a (j+A) cap W;simp[dm,Y.len,K.len,ng,size_zeroCells,H,<-jM];grind
 .have aD:=Ll ah I;have au:¬Builtin.nextslicecap (j+A) cap*Z.bytes>2 ^ 48:=N;have aq:¬j+A<=cap:=w;have Q:¬((j+A:Nat):Int)>IntKind.i64.max:=bv;have G:∀h,(typeInfo W).run P h=.ok Z h:=λh=>by simp[typeInfo,J]
  have ae:∀h,(zeroValue W).run P h=.ok F h:=λh=>by simp[zeroValue,typeInfo,J,ai]
  have ao:(Builtin.lenOf i).run P b.a=.ok A b.a:=by rw[ar];rfl
  replace u:(Builtin.firstCells a5.size A i).run P b.a.drew=.ok t.toArray b.a.drew:=u;replace x:(Builtin.firstCells a5.size j (.slice r j cap)).run P b.a.drew=.ok s.toArray b.a.drew:=x
  unfold Builtin.append_;simp only[kf,mn,n9,cK,R,S,c_,L.bc,d',kg,dn,ao,aq,
   Q,false_and,G,au,run_choose,Question.forced,run_askRoom,sJ,World.drew_eq,x,u,hT,dx,ae]
  simp[Go.newRow,grownCap];have an:∀a:Array X,(s++t).toArray++a=(s++(t++a.toList)).toArray:=λa=>by grind
  rw[an];rfl
def Et(g:eQ P o e)(I:e.desc=.slice W)(F:eQ P t2 O)(E:O.desc=.slice W)(J:eQ P W a5)(B:bc k b){cap}{x}{s}(K:b.a.heap[i]?=f (.cells s.toArray x (0,0)))(D:c s=cap*a5.size){q}{a:Nat->m M}{r}(y:Rd b.D r (.B q a5.size A a))(w:j+A<=cap):
  ∃d,e3 b.D a5.size A a d/\(Builtin.append_ #[o,t2] ty #[.slice (f ⟨i,0,n⟩) j cap,r]).run P b.a=.ok (.slice (f ⟨i,0,n⟩) (j+A) cap) (b.a.setRow i (s.take (j*a5.size)++d++s.drop (j*a5.size+c d)).toArray):=by
 obtain⟨d,h,Q,R⟩:=oL (P:=P) B y;have z:=g.run_underlying (p:=b.a);have t:=F.run_underlying (p:=b.a);rw[I]at z;rw[E]at t;have S:j*a5.size+c d<=c s:=by rw[h.len,D,<-jM];exact hc _ w
 have u:=run_storeCells_at P i (j*a5.size) x d 0 s.toArray b.a K N h.cell;simp[kh]at u;have C:(Builtin.lenOf r).run P b.a=.ok A b.a:=du;refine⟨d,h,?_⟩;unfold Builtin.append_;simp[kf,mn,n9,cK,z,t,c_,J.bc,d',kg,dn,C,w,dx,hT,Q,g6,cV,u]
end
def DN{b:Sem α}{V}{a}(d:a∈b.events P p V):a∈V∨a∈b.events P p #[]:=by grind[Sem.events_acc]
def Mr(e:a6)(d:aN):Prop:=∃a b g,d=pz a b/\e.D a b=f g
def s5(J:bc k b){o}{h}(B:Rd b.D aa (.B o h j V))(F:p.heap=b.a.heap):
  ∀u∈(Builtin.firstCells h j aa).events P p #[],Mr b u:=by
 obtain⟨D,A,z,rfl,S,R,O,C,I⟩:=B.b1;have M:=C.len;intro u i;cases D with
 |none=>simp[Builtin.firstCells]at i
 |some s=>
  simp[Builtin.firstCells]at i;have t:∀e,e<j*h->∃g d m,s=⟨g,d,n⟩/\b.D g (d+e)=f m:=by intro e q;obtain⟨g,d,y,r⟩:=I e (z[e]'w) (bJ w);grind
  by_cases K:j*h=0
  .rw[K]at i;simp[loadCells,loadCellsFrom]at i
  obtain⟨g,d,_,rfl,_⟩:=t 0 w;have Q:∀e,e<j*h->∃aa,p.cell? ⟨g,d+e,n⟩=f aa:=by intro e q;obtain⟨N,E,m,x,r⟩:=t e q;cases x;have:=J.mem _ _ _ r;exact⟨m,by simp[aH,F]at this⊢;omega⟩
  rcases Jr (P:=P) Q u i with B|⟨e,q,rfl⟩
  .grind
  obtain⟨N,E,m,x,r⟩:=t e q;cases x;exact⟨_,_,m,a,r⟩
theorem tD{a}(e:Mr b a):ie b a:=by obtain⟨g,h,i,rfl,d⟩:=e;exact IZ d
section
variable {t2:an}{e O a5:cq}
def yd(g:eQ P o e)(E:e.desc=.slice W)(B:eQ P t2 O)(A:O.desc=.slice W)(F:eQ P W a5)(s:bc k b){q}{cap}(x:j<=cap){u}{i}{d:Nat->m M}(h:Rd b.D u (.B i a5.size 0 d)):
  dw b ((Builtin.append_ #[o,t2] ty #[.slice q j cap,u]).events P b.a #[]):=by obtain⟨N,K,I,R⟩:=oL (P:=P) s h;have D:=s5 (P:=P) s h (p:=b.a) a;have t:=g.run_underlying (p:=b.a);have r:=B.run_underlying (p:=b.a);rw[E]at t;rw[A]at r;obtain⟨w,Q,z,rfl,_⟩:=h.b1;have C:=jK (by simpa using K.len);subst C;intro y J;refine tD (D y ?_);cases q<;>simpa[Builtin.append_,t,r,F.bc,Builtin.lenOf,x,I,storeCells]using J
def vg(B:eQ P o e)(aj:e.desc=.slice W)(G:eQ P t2 O)(y:O.desc=.slice W)(K:eQ P W a5)(u:bc k b){q}{cap}{C D}{s:Nat->m M}{d}(T:Rd b.D (.slice q j cap) (.B C a5.size j V))(S:Rd b.D d (.B D a5.size A s))(ak:cap<j+A)(J:(j+A)*a5.bytes<=140737488355328)(ah:a5.bytes≠0):
  dw b ((Builtin.append_ #[o,t2] ty #[.slice q j cap,d]).events P b.a #[]):=by
 have I:bc k {b with a:=b.a.drew}:=u.same rfl;obtain⟨az,aq,t,U⟩:=oL (P:=P) I (aa:=d) S;obtain⟨av,X,x,ab⟩:=oL (P:=P) I (aa:=.slice q j cap) T;have Y:=s5 (P:=P) u S (p:=b.a.drew) a;have aJ:=s5 (P:=P) u T (p:=b.a.drew) a;have R:=B.run_underlying (p:=b.a);have af:=G.run_underlying (p:=b.a);rw[aj]at R;rw[y]at af;obtain⟨z,aB,aP,aD,aF,F,aG,aH,aI⟩:=K.cY;have Z:=fY (uD _ (Nat.pos_of_ne_zero ah)) J;have ae:=Ll ak J;have Q:¬Builtin.nextslicecap (j+A) cap*z.bytes>2 ^ 48:=N;have aw:¬j+A<=cap:=w;have H:¬((j+A:Nat):Int)>IntKind.i64.max:=bv;have ai:∀h,(typeInfo W).run P h=.ok z h:=λh=>by simp[typeInfo,aP]
 have L:∀h,(zeroValue W).run P h=.ok aB h:=λh=>by simp[zeroValue,typeInfo,aP,F]
 have an:(Builtin.lenOf d).run P b.a=.ok A b.a:=by rw[U];rfl
 have ar:(Builtin.lenOf d).events P b.a #[]=#[]:=by rw[U];rfl
 replace t:(Builtin.firstCells a5.size A d).run P b.a.drew=.ok az.toArray b.a.drew:=t;replace x:(Builtin.firstCells a5.size j (.slice q j cap)).run P b.a.drew=.ok av.toArray b.a.drew:=x
 intro r i;unfold Builtin.append_ at i;simp only[kf,mn,n9,aC,cK,R,af,c_,aE,K.bc,d',kg,dn,an,ar,aw,
  H,false_and,ai,Q,run_choose,Question.forced,run_askRoom,sJ,Sem.events_ite,World.drew_eq,x,t,hT,dx,L,events_underlying,events_sizeOf,events_typeInfo,events_choose,events_zeroValue,Sem.events_pure]at i
 have ag:∀(d:Nat) (p:au) (r:aN),r∈(askRoom d).events P p #[]->r=⟨.mark .noRoom,v,l⟩:=by intro d p r ao;unfold askRoom at ao;simp_all
 rw[dB.newRow (P:=P)]at i;generalize(Go.newRow W _).run P b.a.drew=ax at i;have g:r∈(Builtin.firstCells a5.size A d).events P b.a.drew ((Builtin.firstCells a5.size j (.slice q j cap)).events P b.a.drew ((askRoom ((Question.appendCap (j+A) cap W).cut (b.a.tape b.a.drawn (Question.appendCap (j+A) cap W))*z.bytes)).events P b.a.drew #[])):=by
  cases ax with
  |ok aa E=>simpa using i
  |halt aa E=>simpa using i
 rcases DN g with g|g
 .rcases DN g with g|g
  .rw[ag _ _ _ g];exact .inl a
  grind[tD]
 grind[tD]
def CA(h:eQ P o e)(z:e.desc=.slice W)(K:eQ P t2 O)(J:O.desc=.slice W)(B:eQ P W a5)(G:bc k b){cap}{Q}{d}(y:b.a.heap[i]?=f (.cells d.toArray Q (0,0)))(I:c d=cap*a5.size){sg}{dI:Nat->m M}{E}(s:Rd b.D E (.B sg a5.size A dI))(x:j+A<=cap){L}(Y:L∈b.t)(U:i∈L.al)(ab:∀w,j*a5.size<=w->b.D i w=n):
  dw b ((Builtin.append_ #[o,t2] ty #[.slice (f ⟨i,0,n⟩) j cap,E]).events P b.a #[]):=by
 obtain⟨g,q,aP,R⟩:=oL (P:=P) G s;have T:=s5 (P:=P) G s (p:=b.a) a;have H:=h.run_underlying (p:=b.a);have t:=K.run_underlying (p:=b.a);rw[z]at H;rw[J]at t;have S:j*a5.size+c g<=c d:=by rw[q.len,I,<-jM];exact hc _ x
 have u:=run_storeCells_at P i (j*a5.size) Q g 0 d.toArray b.a y N q.cell;simp[kh]at u;have D:(Builtin.lenOf E).run P b.a=.ok A b.a:=du;have F:(Builtin.lenOf E).events P b.a #[]=#[]:=du
 intro C r;unfold Builtin.append_ at r;simp[kf,mn,n9,aC,cK,H,t,aE,B.bc,d',kg,dn,D,F,x,dx,hT,aP,g6,cV,u,
  sJ,Sem.events_ite,events_underlying,events_sizeOf,Sem.events_pure]at r
 rcases nu g 0 d.toArray b.a _ y N q.cell C r with Z|⟨aa,X,V,rfl⟩
 .grind [tD]
 grind[oo]
end
structure j9(P:aD)(r:ao)(E bD:ae)(W:an)(a5:cq):Prop where
 op:∃o t2 e O,r.op=.call {callee:=.builtin .append,args:=#[E,bD],argTypes:=#[o,t2]}/\eQ P o e/\e.desc=.slice W/\eQ P t2 O/\O.desc=.slice W
 elem:eQ P W a5
 bytes:a5.bytes≠0
 size:a5.size≠0
def a6.dD(a:a6)(h:an)(z b:m X)(d:m Loc):a6:=
 {t:=d,D:=λe g=>if e=a.a.heap.size then z[g]? else a.D e g,a:=a.a.drew.alloc (.cells (z++b).toArray h),own:=a.own}
def Kn(j:bc k b)(W)(z a:m X):∀d e h,(if d=b.a.heap.size then z[e]? else b.D d e)=f h->(b.a.drew.alloc (.cells (z++a).toArray W)).cell? ⟨d,e,n⟩=f h:=by
 intro d e h g;by_cases i:d=b.a.heap.size
 .subst i;simp[dx]at g;unfold aH;have:(b.a.drew.alloc (.cells (z++a).toArray W)).heap[b.a.heap.size]?=f (.cells (z++a).toArray W):=lZ b.a.drew _;grind
 simp[i,dn]at g;have o:=j.block g;rw[<-j.mem d e h g];unfold aH;have:(b.a.drew.alloc (.cells (z++a).toArray W)).heap[d]?=b.a.heap[d]?:=i6 b.a.drew _ o;grind
def Ko(h:bc k b)(z:m X):∀a d e,b.D a d=f e->(if a=b.a.heap.size then z[d]? else b.D a d)=f e:=by intro a d e g;have:=h.block g;grind
theorem i2{A}(a:dw b (A.events P b.a #[])):dw b ((do pure (.value (<-A)):Sem Next).events P b.a #[]):=du
theorem ll{d e:ae}{b:an}(t:r.op=.call {callee:=.builtin .append,args:=#[d,e],argTypes:=#[o,b]})(a:ae->X):
  ab a r=(do pure (.value (<-Builtin.append_ #[o,b] r.type #[a d,a e]))):=Sp
def Rd.en{o}{h}(q:Rd bB aa (.B o h j V)):Rd bB aa (.B v h j V):=by
 cases q with
 |B m a p k d r e b g i=>exact .B m a p k d D e b g i
def Rd.cA{o}{h}{dI:Nat->m M}(z:∀b,b<j->V b=dI b)(x:Rd bB aa (.B o h j V)):Rd bB aa (.B o h j dI):=by
 cases x with
 |B u d w t i r y g p q=>exact .B u d w t i r (λb a=>by grind) g (λb a s e k=>p b a s e N) (λb a s e k=>q b a s e N)
def Rd.fS{h gp}(a:h=gp∨j=0)(d:Rd bB aa (.B l h j V)):Rd bB aa (.B l gp j V):=by
 rcases a with rfl|rfl
 .exact d
 obtain⟨e,b,z,i,k,g,m,_⟩:=d.b1;grind[Rd.dK]
def tC{h}{L}(aM:k[d]?=f (.x W h j V))(o:b.t[d]?=f L)(e:eB k b (.x W h j V) L):cB k b L.v (.x d h j V):=by refine⟨e.1,(cP.1 aM).1,λp i m a g=>?_⟩;grind
def a1.fZ{X Y:ae}{e:cq}(s:j9 P r X Y W e){aa:Nat}{U:Bool}{dI:Nat->m M}(ao:η X=ax (.B l aa j V))(R:aa=e.size∨j=0)(an:∀d J,bx k d J (η Y)->Rd d.D J (.B U e.size A dI))(g:(j+A)*e.bytes<=140737488355328)(ar:j=0∨0<A):
  a1 P r η k (.n (.R (.x (c k) e.size (j+A) (cj j V dI)))) (k++[.x W e.size (j+A) (cj j V dI)]):=by
 intro d aw bR E;obtain⟨aD,av,au,aB,t,h,G,I,F⟩:=s.op;have B:=E X;rw[ao]at B;have p:=Rd.fS R (b8 B);have o:=an d _ (E Y);obtain⟨x,b,z,aq,ab,aP,ai,az,C⟩:=p.b1;have H:b=j:=ai a;subst H;rw[ll t];rw[aq]at p⊢;by_cases aj:A=0
 .subst aj;have T:=zq (P:=P) (ty:=r.type) h G I F s.elem bR (x:=x) ab o;simp only[kh];have p:=Rd.cA (dI:=cj b V dI) (λau h=>by grind) p;have aM:eB (k++[.x W e.size b (cj b V dI)]) {d with t:=d.t++[⟨.slice x b b,[]⟩]} (.x W e.size b (cj b V dI)) ⟨.slice x b b,[]⟩:=⟨p.en,.inl ⟨⟨rfl,by omega⟩,p⟩⟩
  obtain⟨O,N⟩:=bR.b0 (.refl _ _) rfl bR aM D;refine⟨.value (.slice x b b),_,?_,?_,O,N,i2 (yd h G I F s.elem bR ab o)⟩
  .simp[T]
  exact tC D uh aM
 have Z:b<b+A:=w;obtain⟨q,Q,u,y,ag,L,af,T⟩:=v_ (P:=P) (ty:=r.type) h G I F s.elem bR p o Z g s.bytes;have K:bc k (d.dD W q Q d.t)/\cO k d k (d.dD W q Q d.t):=
  bR.cX D (λi g=>i6 d.a.drew _ g) (λi g r=>by grind)
   (λi g r J C=>Kn bR W q Q i r J C) a a a
 have ah:Rd (d.dD W q Q d.t).D (.slice (f ⟨d.a.heap.size,0,n⟩) (b+A) u) (.B v e.size (b+A) (cj b V dI)):=
  Rd.eu (y.mono K.2.mem) (i:=d.a.heap.size) (off:=0) bn ag L D (λaC aE ak=>by simpa[a6.dD]using ak)
 have aM:eB (k++[.x W e.size (b+A) (cj b V dI)]) {(d.dD W q Q d.t)with t:=(d.dD W q Q d.t).t++[⟨.slice (f ⟨d.a.heap.size,0,n⟩) (b+A) u,[d.a.heap.size]⟩]} (.x W e.size (b+A) (cj b V dI)) ⟨.slice (f ⟨d.a.heap.size,0,n⟩) (b+A) u,[d.a.heap.size]⟩:=by
  refine⟨ah,.inr ⟨d.a.heap.size,u,q++Q,a,lZ d.a.drew _,af,λr t=>?_⟩⟩;have S:c q<=r:=by rw[y.len];exact t
  simp[a6.dD,xa S]
 obtain⟨O,N⟩:=K.1.b0 K.2 rfl bR aM (λi g=>by simp at g;subst g;refine⟨bC _,?_⟩;simp[a6.dD]);refine⟨.value (.slice (f ⟨d.a.heap.size,0,n⟩) (b+A) u),_,?_,?_,O,N,i2 (vg h G I F s.elem bR p o Z g s.bytes)⟩
 .simp[T];rfl
 exact tC D (by simp[a6.dD,<-bR.len]) aM
def a1.ig{aS aT:ae}{a5}(B:j9 P r aS aT W a5){aR}{g:Nat->m M}(aO:η aS=.n (.R (.x d a5.size j V)))(s:k[d]?=f (.x W a5.size j V))(aQ:∀o S,bx k o S (η aT)->Rd o.D S (.B aR a5.size A g))(p:(j+A)*a5.bytes<=140737488355328):
  a1 P r η k (.n (.R (.x d a5.size (j+A) (cj j V g)))) (k.set d (.x W a5.size (j+A) (cj j V g))):=by
 intro o bg b ao;obtain⟨bk,bf,aq,bh,u,q,Z,G,y⟩:=B.op;have aL:d<c k:=(cP.1 s).1;have ab:=ao aS;rw[aO]at ab;obtain⟨av,_,af⟩:=ab;obtain⟨L,I,bd⟩:=(af _ _ _ _ s).2 rfl;have t:=aQ o _ (ao aT);have aK:d<c o.t:=(cP.1 I).1;have H:=b.box d _ L s I;obtain⟨x,e,z,R,aP,ai,bc,ag,bb⟩:=av.b1;rw[ll u,R];rw[R]at av;have aw:L.v=.slice x j e:=N;by_cases aG:A=0
 .subst aG;have au:=zq (P:=P) (ty:=r.type) q Z G y B.elem b (x:=x) aP t;simp only[kh];have ah:∀aq,aq<j->V aq=cj j V g aq:=λaq q=>by simp[cj,q]
  have O:eB (k.set d (.x W a5.size j (cj j V g))) ⟨o.t.set d L,o.D,o.a,o.own⟩ (.x W a5.size j (cj j V g)) L:=by
   refine⟨H.1.cA ah,?_⟩;rcases H.2 with⟨F,aI⟩|F
   .exact .inl ⟨F,aI.cA ah⟩
   grind
  have E:=b.b8 (cl:=o.D) (bi:=o.a) (eg:=.x W a5.size j (cj j V g)) (cv:=L) s I ⟨λ_=>rfl,bC _⟩ (bC _) (λ_ _ _=>rfl) (λ_ _ _ _=>rfl) (λ_ _ _ B=>B) b.mem
   (λi p=>⟨.inl p,b.lt L (ca I) i p⟩) a a a O
  refine⟨.value (.slice x j e),_,?_,?_,E.1,E.2,i2 (yd q Z G y B.elem b aP t)⟩
  .simp[au]
  rw[<-aw];exact tC (W:=W) N N O
 .have J:¬(j+A=j):=w;by_cases az:j+A<=e
  .rcases H.2 with⟨a0,aV⟩|⟨i,aF,h,rfl,hw,aD,br⟩
   .rw[aw]at aV;obtain⟨_,_,_,ax,_,_,a8,_⟩:=aV.b1;grind
   .simp only at aw;cases aw;obtain⟨C,K,au⟩:=Et (P:=P) (ty:=r.type) q Z G y B.elem b hw aD t az;have a6:c C=A*a5.size:=K.len;have aJ:i<o.a.heap.size:=(jk.1 hw).1;let cl:Mem:=λQ r=>if Q=i/\j*a5.size<=r/\r<(j+A)*a5.size then C[r-j*a5.size]? else o.D Q r;have a2:c h=e*a5.size:=aD;have a7:(j+A)*a5.size=j*a5.size+A*a5.size:=jM _ _ _;have a4:(j+A)*a5.size<=e*a5.size:=hc _ az;have aY:∀Q r S,o.D Q r=f S->cl Q r=f S:=N;have aN:∀aB aC,C[aB]?=f aC->cl i (j*a5.size+aB)=f aC:=N;have aE:Rd cl (.slice (f ⟨i,0,n⟩) (j+A) e) (.B v a5.size (j+A) (cj j V g)):=by refine Rd.eu (z:=z++C) ((ag.append K).mono aY) (i:=i) (off:=0) bn az ai D (λaB aC aM=>?_);have a9:c z=j*a5.size:=ag.len;grind
    have E:=b.b8 (cl:=cl) (bi:=o.a.setRow i (h.take (j*a5.size)++C++h.drop (j*a5.size+c C)).toArray) (eg:=.x W a5.size (j+A) (cj j V g)) (cv:=⟨.slice (f ⟨i,0,n⟩) (j+A) e,[i]⟩) s I
     ⟨λax=>absurd ax J,by omega⟩ D (λQ _ aa=>setRow_other _ _ _ _ N) (λQ _ aa r=>by grind) aY ?_ (λQ aa=>by simp at aa;exact bv) a a a ?_
    .refine⟨.value (.slice (f ⟨i,0,n⟩) (j+A) e),_,?_,?_,E.1,E.2,i2 (CA q Z G y B.elem b hw aD t az (ca I) D br)⟩
     .simp[au]
     exact tC (L:=⟨.slice (f ⟨i,0,n⟩) (j+A) e,[i]⟩) (W:=W) N N (E.1.box d _ _ N N)
    .intro Q r S Y;by_cases aa:Q=i
     .subst aa;have a':∀a_,(o.a.setRow Q (h.take (j*a5.size)++C++h.drop (j*a5.size+c C)).toArray).cell? ⟨Q,a_,n⟩=(h.take (j*a5.size)++C++h.drop (j*a5.size+c C))[a_]?:=by grind[cell_setRow_same]
      rw[a'];simp only[cl]at Y;have a3:c (h.take (j*a5.size))=j*a5.size:=by rw[List.length_take];omega
      split at Y
      .grind
      rename_i ba;have F:=b.mem Q r S Y;have u:r<j*a5.size:=N;rw[mq,kb w,iA,bl u];simp only[aH,hw]at F;grind
     simp only[cl]at Y;rw[bj w]at Y;rw[<-b.mem Q r S Y];exact QP
    refine⟨aE,.inr ⟨i,e,_,a,setRow_heap _ _ _ _ _ _ hw,N,λr u=>?_⟩⟩;grind
  .have aj:e<j+A:=w;obtain⟨T,X,ar,aX,ak,an,U,au⟩:=v_ (P:=P) (ty:=r.type) q Z G y B.elem b av t aj p B.bytes;have aZ:∀i∈L.al,i<o.a.heap.size:=b.lt L (ca I);have aE:Rd (λi r=>if i=o.a.heap.size then T[r]? else o.D i r) (.slice (f ⟨o.a.heap.size,0,n⟩) (j+A) ar) (.B v a5.size (j+A) (cj j V g)):=
    Rd.eu (aX.mono (Ko b T)) (i:=o.a.heap.size) (off:=0) bn ak an D (λaB aC aM=>by grind)
   have E:=b.b8 (cl:=λi r=>if i=o.a.heap.size then T[r]? else o.D i r) (bi:=o.a.drew.alloc (.cells (T++X).toArray W)) (eg:=.x W a5.size (j+A) (cj j V g)) (cv:=⟨.slice (f ⟨o.a.heap.size,0,n⟩) (j+A) ar,[o.a.heap.size]⟩) s I
    ⟨λax=>absurd ax J,by omega⟩ D (λi p _=>i6 o.a.drew _ p) (λi p _ r=>by grind) (Ko b T) (Kn b W T X) (λi p=>by
     simp at p;exact bv) a a a ⟨aE,.inr ⟨o.a.heap.size,ar,T++X,a,lZ o.a.drew _,U,λr u=>by
      have s:c T<=r:=by rw[aX.len];exact u
      grind⟩⟩
   refine⟨.value (.slice (f ⟨o.a.heap.size,0,n⟩) (j+A) ar),_,?_,?_,E.1,E.2,i2 (vg q Z G y B.elem b av t aj p B.bytes)⟩
   .simp[au]
   exact tC (L:=⟨.slice (f ⟨o.a.heap.size,0,n⟩) (j+A) ar,[o.a.heap.size]⟩) (W:=W) N N (E.1.box d _ _ N N)
def dz{a:Type}:m Nat->m a->Option (m a)
  |[],_=>f []
  |e::b,d=>match da e d with
    |some h=>match dz b d with
      |some g=>f (h::g)
      |none=>n
    |none=>n
def ln{d:Type}:∀a (e:m d),da a e=e[a]?
  |_,[]=>by simp[da]
  |0,g::_=>by simp[da]
  |a+1,_::b=>by simpa[da]using ln a b
def l_{i:Type}:∀{a:m Nat} {b e:m i},dz a b=f e->c e=c a/\∀(k g:Nat),a[k]?=f g->∃h,e[k]?=f h/\b[g]?=f h
  |[],b,e,d=>by cases d;simp
  |g::a,b,e,d=>by
    simp[dz]at d;cases o:da g b with
    |none=>grind
    |some h=>
      cases j:dz a b with
      |none=>grind
      |some r=>
        simp[o,j]at d;subst d;obtain⟨p,q⟩:=l_ j;grind[ew]
def wc{i o:Type}:∀{a:m Nat} {d h:m i} {kU:m o},dz a d=f h->c kU=c d->∃b,dz a kU=f b
  |[],d,h,kU,_,_=>⟨[],rfl⟩
  |g::a,d,h,kU,r,j=>by
    simp[dz]at r;cases q:da g d with
    |none=>grind
    |some t=>
      cases p:dz a d with
      |none=>grind
      |some s=>
        obtain⟨b,k⟩:=wc (kU:=kU) p j;have e:g<c kU:=by rw[j];exact(cP.1 (ew q)).1
        exact⟨kU[g]::b,by simp[dz,ln,e,k]⟩
def ky(a:m Nat):Q->Q
  |.ptr d i=>match da d a with|some b=>.ptr b i|none=>.any
  |.x d b g e=>match da d a with|some h=>.x h b g e|none=>.c (.B v b g e)
  |.aP d=>match da d a with|some b=>.aP b|none=>.any
  |.O d j=>match da d a with|some b=>.O b j|none=>.any
  |.c k=>.c k
  |.any=>.any
def qQ(a:m Nat):m Q->m Q
  |[]=>[]
  |b::d=>ky a b::qQ a d
def pA(a:m Nat):E1->E1
  |.R d=>.R (ky a d)
  |.agg b=>.agg (qQ a b)
def tE(a:m Nat):m E1->m E1
  |[]=>[]
  |b::d=>pA a b::tE a d
def fm(a:m Nat):y->y
  |.n d=>.n (pA a d)
  |.T b=>.T (tE a b)
  |.any=>.any
def gu(a:m Nat):m y->m y
  |[]=>[]
  |b::d=>fm a b::gu a d
def D_:Q->Bool
  |.c _|.any=>l
  |_=>v
def zh:m Q->Bool
  |[]=>l
  |a::b=>match D_ a with|true=>zh b|false=>v
def v5:ar->Bool
  |.cells _ a=>zh a
  |.loop ..=>v
  |_=>l
def eA:m ar->Bool
  |[]=>l
  |a::b=>match v5 a with|true=>eA b|false=>v
def v6:∀{e:m ar},eA e=l->∀a∈e,v5 a=l
  |[],_,a,aM=>by grind
  |g::h,b,a,aM=>by
    simp[eA]at b;cases d:v5 g with
    |false=>grind
    |true=>
      simp[d]at b;rcases fh.1 aM with rfl|aM
      · exact d
      · exact v6 b a aM
def bP.plain{k aq}{b aF}(j:aF.D=b.D):∀{z:m X} {a:m Q},zh a=l->bP k b z a->bP aq aF z a
  |[],[],_,_=>trivial
  |[],_::_,_,d=>d.elim
  |_::_,[],_,d=>d.elim
  |o::z,g::i,e,d=>by
    simp[zh]at e;cases h:D_ g with
    |false=>grind
    |true=>
      simp[h]at e;refine⟨?_,bP.plain j e d.2⟩;cases g with
      |c p=>have:=d.1;simp[cB]at this⊢;grind
      |any=>exact d.1
      |_=>simp[D_]at h
def eB.plain{k aq}{b aF}(d:aF.D=b.D)(g:aF.a=b.a){e}{L}(m:v5 e=l)(a:eB k b e L):eB aq aF e L:=by
  cases e with
  |cells j p=>
    obtain⟨o,z,i,r,q,x⟩:=a;exact⟨o,z,i,by grind,q.plain d m,λy=>by simp_all⟩
  |x j s t h=>simp[eB,d,g]at a⊢;exact a
  |K H=>simp[eB,d,g]at a⊢;exact a
  |N=>trivial
  |loop w u A=>simp[v5]at m
  |bk=>simp[eB,d,g]at a⊢;exact a
  |q j s t h=>simp[eB,d,g]at a⊢;exact a
def eo:Nat->m Nat->Bool
  |_,[]=>v
  |a,d::b=>match ad a d with|true=>l|false=>eo a b
def fl:m Nat->Bool
  |[]=>l
  |b::a=>match eo b a with|true=>v|false=>fl a
theorem vM:∀{a:Nat} {d:m Nat},a∈d->eo a d=l
  |a,[],b=>by grind
  |a,e::h,b=>by
    simp[eo];cases g:ad a e with
    |true=>rfl
    |false=>
      rcases fh.1 b with rfl|b
      · grind[Nat.beq_refl]
      · exact vM b
def Lr:∀{h:m Nat},fl h=l->∀(b d e:Nat),h[b]?=f e->h[d]?=f e->b=d
  |[],_,b,d,e,a,_=>by grind
  |o::k,g,b,d,e,a,i=>by
    simp[fl]at g;cases p:eo o k with
    |true=>grind
    |false=>
      simp[p]at g;have r:∀j,k[j]?=f o->False:=λj q=>by have:=vM (ca q);grind
      cases b with
      |zero=>
        grind
      |succ b=>
        cases d with
        |zero=>
          grind
        |succ d=>
          simp at a i;rw[Lr g b d e a i]
def l1(a:Nat):Q->Bool
  |.ptr d _|.x d _ _ _|.aP d|.O d _=>ay (d+1) a
  |_=>l
def lp(a:Nat):m Q->Bool
  |[]=>l
  |b::d=>match l1 a b with|true=>lp a d|false=>v
def pp(b:Nat):E1->Bool
  |.R d=>l1 b d
  |.agg a=>lp b a
def oz(a:Nat):m E1->Bool
  |[]=>l
  |b::d=>match pp a b with|true=>oz a d|false=>v
def h0(b:Nat):y->Bool
  |.n d=>pp b d
  |.T a=>oz b a
  |.any=>l
def hk(a:Nat):m y->Bool
  |[]=>l
  |b::d=>match h0 a b with|true=>hk a d|false=>v
section sub
variable {lE:m Loc}
def cB.sub(K:dz aY k=f aq)(Q:dz aY b.t=f lE){m}(O:cB k b aa (ky aY m))(o:l1 (c aY) m=l):cB aq {b with t:=lE} aa m:=by
  obtain⟨T,q⟩:=l_ K;obtain⟨M,p⟩:=l_ Q;cases m with
  |c s=>exact O
  |any=>exact O
  |ptr g R=>
    have a:g<c aY:=fA o;simp[ky,ln,bJ a]at O;obtain⟨d,L,D,e,h,y⟩:=O;obtain⟨s,r,z⟩:=q g _ (bJ a);obtain⟨A,j,i⟩:=p g _ (bJ a);rw[i]at e;cases e;exact⟨λt x=>d t N,L,D,j,h,y⟩
  |x g E I u=>
    have a:g<c aY:=fA o;simp[ky,ln,bJ a]at O;obtain⟨d,e,h⟩:=O;obtain⟨s,r,z⟩:=q g _ (bJ a);obtain⟨A,j,i⟩:=p g _ (bJ a);refine⟨d,by grind,λC F J B x=>?_⟩;grind
  |aP g=>
    have a:g<c aY:=fA o;simp[ky,ln,bJ a]at O;obtain⟨d,L,e,h,y⟩:=O;obtain⟨s,r,z⟩:=q g _ (bJ a);obtain⟨A,j,i⟩:=p g _ (bJ a);rw[i]at e;cases e;exact⟨λt x=>d t N,L,j,h,y⟩
  |O g S=>
    have a:g<c aY:=fA o;simp[ky,ln,bJ a]at O;obtain⟨w,d,e,h⟩:=O;obtain⟨s,r,z⟩:=q g _ (bJ a);obtain⟨A,j,i⟩:=p g _ (bJ a);refine⟨w,d,(cP.1 r).1,λC E I u x=>?_⟩;grind
def cB.cO{fp}{b7}(J:b7.D=b.D)(t:∀(r:Nat) s,k[r]?=f s->∃g,aY[r]?=f g/\fp[g]?=f s)(C:∀(r:Nat) L,b.t[r]?=f L->∃g,aY[r]?=f g/\b7.t[g]?=f L)(O:c b.t=c k){u}(m:cB k b aa u):cB fp b7 aa (ky aY u):=by
  cases u with
  |c R=>simp[ky,cB,J];exact m
  |any=>exact m
  |ptr d M=>
    obtain⟨e,L,E,a,q,B⟩:=m;obtain⟨g,k1,w⟩:=C d L a;have h:d<c k:=N;obtain⟨i,o,I⟩:=t d _ (bJ h);rw[k1]at o;cases o;simp[ky,ln,k1];refine⟨λs A=>?_,L,E,w,q,B⟩;grind
  |x d g K F=>
    obtain⟨e,a,q⟩:=m;obtain⟨k1,y,j⟩:=t d _ (bJ a);simp[ky,ln,y];refine⟨by grind,(cP.1 j).1,λD i z p A=>?_⟩;grind
  |aP d=>
    obtain⟨e,L,a,q,B⟩:=m;obtain⟨g,k1,w⟩:=C d L a;have h:d<c k:=N;obtain⟨i,o,I⟩:=t d _ (bJ h);rw[k1]at o;cases o;simp[ky,ln,k1];refine⟨λs A=>?_,L,w,q,B⟩;grind
  |O d Q=>
    obtain⟨x,e,a,q⟩:=m;obtain⟨k1,y,j⟩:=t d _ (bJ a);simp[ky,ln,y];refine⟨x,e,(cP.1 j).1,λD i z p A=>?_⟩;grind
def bP.sub(e:dz aY k=f aq)(g:dz aY b.t=f lE):∀{z:m X} {a:m Q},bP k b z (qQ aY a)->lp (c aY) a=l->bP aq {b with t:=lE} z a
  |[],[],_,_=>trivial
  |[],_::_,d,_=>d.elim
  |_::_,[],d,_=>d.elim
  |o::z,i::j,d,O=>by
    simp[lp]at O;cases h:l1 (c aY) i with
    |false=>grind
    |true=>simp[h]at O;exact⟨d.1.sub e g h,bP.sub e g d.2 O⟩
def eC.sub(g:dz aY k=f aq)(h:dz aY b.t=f lE){aa}{a}(i:eC k b aa (pA aY a))(O:pp (c aY) a=l):eC aq {b with t:=lE} aa a:=by
  cases a with
  |R m=>exact cB.sub g h i O
  |agg j=>obtain⟨z,d,e⟩:=i;exact⟨z,d,e.sub g h O⟩
def e4.sub(e:dz aY k=f aq)(g:dz aY b.t=f lE):∀{z:m X} {a:m E1},e4 k b z (tE aY a)->oz (c aY) a=l->e4 aq {b with t:=lE} z a
  |[],[],_,_=>trivial
  |[],_::_,d,_=>d.elim
  |_::_,[],d,_=>d.elim
  |o::z,i::j,d,O=>by
    simp[oz]at O;cases h:pp (c aY) i with
    |false=>grind
    |true=>simp[h]at O;exact⟨d.1.sub e g h,e4.sub e g d.2 O⟩
def bx.sub(e:dz aY k=f aq)(g:dz aY b.t=f lE){aa}{O}(i:bx k b aa (fm aY O))(h:h0 (c aY) O=l):bx aq {b with t:=lE} aa O:=by
  cases O with
  |n m=>exact eC.sub e g i h
  |T j=>obtain⟨z,a,d⟩:=i;exact⟨z,a,d.sub e g h⟩
  |any=>trivial
def b5.sub(e:dz aY k=f aq)(g:dz aY b.t=f lE):∀{z:m X} {a:m y},b5 k b z (gu aY a)->hk (c aY) a=l->b5 aq {b with t:=lE} z a
  |[],[],_,_=>trivial
  |[],_::_,d,_=>d.elim
  |_::_,[],d,_=>d.elim
  |o::z,i::j,d,O=>by
    simp[hk]at O;cases h:h0 (c aY) i with
    |false=>grind
    |true=>simp[h]at O;exact⟨d.1.sub e g h,b5.sub e g d.2 O⟩
variable {fp:m ar}{b7:a6}
def bP.cO(p:b7.D=b.D)(o:∀(e:Nat) h,k[e]?=f h->∃g,aY[e]?=f g/\fp[g]?=f h)(j:∀(e:Nat) L,b.t[e]?=f L->∃g,aY[e]?=f g/\b7.t[g]?=f L)(i:c b.t=c k):
    ∀{z:m X} {d:m Q},bP k b z d->bP fp b7 z (qQ aY d)
  |[],[],_=>trivial
  |[],_::_,a=>a.elim
  |_::_,[],a=>a.elim
  |_::_,_::_,a=>⟨a.1.cO p o j i,bP.cO p o j i a.2⟩
def eC.cO(p:b7.D=b.D)(o:∀(a:Nat) (i:ar),k[a]?=f i->∃d,aY[a]?=f d/\fp[d]?=f i)(m:∀(a:Nat) (L:Loc),b.t[a]?=f L->∃d,aY[a]?=f d/\b7.t[d]?=f L)(j:c b.t=c k){aa}{h}(q:eC k b aa h):eC fp b7 aa (pA aY h):=by
  cases h with
  |R s=>exact cB.cO p o m j q
  |agg r=>obtain⟨z,e,g⟩:=q;exact⟨z,e,g.cO p o m j⟩
def e4.cO(p:b7.D=b.D)(o:∀(d:Nat) h,k[d]?=f h->∃e,aY[d]?=f e/\fp[e]?=f h)(j:∀(d:Nat) (L:Loc),b.t[d]?=f L->∃e,aY[d]?=f e/\b7.t[e]?=f L)(i:c b.t=c k):
    ∀{z:m X} {g:m E1},e4 k b z g->e4 fp b7 z (tE aY g)
  |[],[],_=>trivial
  |[],_::_,a=>a.elim
  |_::_,[],a=>a.elim
  |_::_,_::_,a=>⟨a.1.cO p o j i,e4.cO p o j i a.2⟩
def bx.cO(p:b7.D=b.D)(o:∀(a:Nat) (i:ar),k[a]?=f i->∃d,aY[a]?=f d/\fp[d]?=f i)(m:∀(a:Nat) (L:Loc),b.t[a]?=f L->∃d,aY[a]?=f d/\b7.t[d]?=f L)(j:c b.t=c k){aa}{e}(q:bx k b aa e):bx fp b7 aa (fm aY e):=by
  cases e with
  |n s=>exact eC.cO p o m j q
  |T r=>obtain⟨z,g,h⟩:=q;exact⟨z,g,h.cO p o m j⟩
  |any=>trivial
end sub
def dd.cu{a:Type}:Nat->a->m a->m a
  |_,_,[]=>[]
  |0,d,_::b=>d::b
  |e+1,d,g::b=>g::dd.cu e d b
def dd{a:Type}:m Nat->m a->m a->m a
  |[],new,old=>old++new
  |d::b,e::new,old=>dd b new (dd.cu d e old)
  |_::_,[],old=>old
theorem mU{b:Type}:∀d (a:b) (e:m b),dd.cu d a e=e.set d a
  |_,_,[]=>by simp[dd.cu]
  |0,a,_::g=>by simp[dd.cu]
  |d+1,a,h::g=>by simp[dd.cu,mU d a g]
def Ed{g:Type}:∀{aY:m Nat} {new old:m g},fl aY=l->(∀a∈aY,a<c old)->c aY<=c new ->
    c (dd aY new old)=c old+(c new-c aY)/\(∀(b a:Nat),aY[b]?=f a->(dd aY new old)[a]?=new[b]?) /\
    (∀b,(dd aY new old)[c old+b]?=new[c aY+b]?)/\(∀d,d<c old->d∉aY->(dd aY new old)[d]?=old[d]?)
  |[],new,old,_,_,_=>by
    refine⟨by simp[dd],by simp,λb=>?_,λd j _=>?_⟩
    · simp[dd,gQ,cV]
      grind
    · simp[dd,kb j]
  |a::aY,[],old,_,_,o=>by grind
  |a::aY,r::new,old,e,i,t=>by
    have s:=e;simp[fl]at e;cases k:eo a aY with
    |true=>grind
    |false=>
      simp[k]at e;have p:a<c old:=i a D;have u:a∉aY:=λo=>by grind[vM]
      obtain⟨y,w,z,x⟩:=Ed (aY:=aY) (new:=new) (old:=old.set a r) e (λq h=>by grind) N;simp[dd,mU];grind
def Y(k:af P)(i:aZ)(args:m y)(h:m ar)(e:y)(b:m ar):Prop:=
  (∃fn,P.funcs[i]?=f fn/\(fn.name== "runtime.NumGoroutine")=v/\fn.body.isNone=v) /\
  ∀g (z:m X),b5 h g z args->bc h g->∀(j:ag->a6->Prop) d,
    (∀o p a,mg P i o p a->bx b a p e->bc b a->dg h g b a->cg k j (G o d) a)->cg k j (G (Frame.enter P i z.toArray .normal) d) g
def bm(o:af P)(j:aZ)(args:m y)(i:m ar)(e:ι->y)(b:ι->m ar):Prop:=
  (∃fn,P.funcs[j]?=f fn/\(fn.name== "runtime.NumGoroutine")=v/\fn.body.isNone=v) /\
  ∀h (z:m X),b5 i h z args->bc i h->∀(k:ag->a6->Prop) d,
    (∀g p q a,mg P j p q a->bx (b g) a q (e g)->bc (b g) a->dg i h (b g) a->cg o k (G p d) a)->cg o k (G (Frame.enter P j z.toArray .normal) d) h
def Y.tocI{g:af P}{h}{args}{res}(i:Y g h args k res aq):bm (ι:=Unit) g h args k (λ_=>res) (λ_=>aq):=
  ⟨i.1,λm z e d j a b=>i.2 m z e d j a (b ())⟩
def bm.toY{g:af P}{h}{args}{res}(i:bm (ι:=Unit) g h args k (λ_=>res) (λ_=>aq)):Y g h args k res aq:=
  ⟨i.1,λm z e d j a b=>i.2 m z e d j a (λ_=>b)⟩
def oI(b:a6)(d:m Loc):Nat->Prop:=λa=>b.own a∨((∃L∈b.t,a∈L.al)/\∀L∈d,a∉L.al)
def g0(a:Nat):Nat->m Nat
  |0=>[]
  |b+1=>a::g0 (a+1) b
def N1:∀d b a,(g0 b d)[a]?=if a<d then f (b+a)else n
  |0,b,a=>by simp[g0]
  |d+1,b,0=>by simp[g0]
  |d+1,b,a+1=>by simp[g0,n9,N1 d (b+1) a,Nat.add_lt_add_iff_right];grind
def frame{aX}{j}{A}(u:bc k b)(P:dz aY k=f di)(aZ:dz aY b.t=f A)(Z:fl aY=l)(aB:eA aX=l)(D:bc aX j)(i:dg di {b with t:=A,own:=oI b A} aX j)(X:c aY<=c aX){res}(aC:bx aX j aa res):
    ∃b7:a6,b7.a=j.a/\bx (dd aY aX k) b7 aa (fm (aY++g0 (c k) (c aX-c aY)) res)/\bc (dd aY aX k) b7/\dg k b (dd aY aX k) b7/\b7.D=j.D/\b7.own=b.own/\∀L∈b7.t,L∈j.t∨(L∈b.t/\∀h∈L.al,∀p∈A,h∉p.al):=by
  have aQ:∀z∈aY,z<c k:=by intro z y;obtain⟨d,t,rfl⟩:=ha y;obtain⟨aE,_,a1⟩:=(l_ P).2 d _ (bJ t);grind
  have M:∀z∈aY,z<c b.t:=by rw[u.len];omega
  have H:c aY<=c j.t:=by rw[D.len];omega
  obtain⟨an,ao,S,aq⟩:=Ed (new:=aX) (old:=k) Z aQ X;obtain⟨T,ar,U,au⟩:=Ed (new:=j.t) (old:=b.t) Z M H;obtain⟨a0,av⟩:=l_ P;obtain⟨d1,d2⟩:=l_ aZ;let aj:=aY++g0 (c k) (c aX-c aY);have aR:∀d,d<c aX->∃z,aj[d]?=f z/\(dd aY aX k)[z]?=aX[d]?/\(dd aY j.t b.t)[z]?=j.t[d]?:=by
    intro d t;rcases dY d (c aY) with K|ai
    · refine⟨aY[d],?_,ao d _ (bJ K),ar d _ (bJ K)⟩
      grind
    · refine⟨c k+(d-c aY),?_,?_,?_⟩
      · simp[aj]
        rw[ht ai,N1,bl w]
      · rw[S];grind
      · rw[<-u.len,U];grind
  have I:∀g L,(dd aY j.t b.t)[g]?=f L->(∃d,d<c aX/\j.t[d]?=f L/\(∀x,(dd aY aX k)[g]?=f x->aX[d]?=f x)/\(∀z,aY[d]?=f z->z=g)/\(d≥c aY->g=c k+(d-c aY))) ∨
      (g<c k/\g∉aY/\b.t[g]?=f L/\(dd aY aX k)[g]?=k[g]?):=by
    intro g L m;have aS:g<c (dd aY j.t b.t):=(cP.1 m).1;rcases dY g (c k) with K|ai
    · by_cases C:g∈aY
      · obtain⟨d,t,rfl⟩:=ha C
        have y:=bJ t;grind
      · exact .inr ⟨K,C,by rw[<-au g (by rw[u.len];omega) C];exact m,aq g K C⟩
    · rw[T,D.len,u.len]at aS
      refine .inl ⟨c aY+(g-c k),by omega,?_,λx aM=>?_,λz y=>?_,λ_=>by omega⟩
      · rw[<-U,u.len,A5 ai];exact m
      · rw[<-S,A5 ai];exact aM
      grind
  have Q:∀L∈A,L∈b.t:=by intro L m;obtain⟨d,t,rfl⟩:=ha m;have af:d<c aY:=N;obtain⟨aE,aP,R⟩:=d2 d _ (bJ af);grind
  have s:∀g L,g∉aY->b.t[g]?=f L->∀h∈L.al,h<b.a.heap.size/\∀p∈A,h∉p.al:=by intro g L E m h o;refine⟨u.lt L (ca m) h o,λp q r=>?_⟩;obtain⟨d,t,rfl⟩:=ha q;have af:d<c aY:=N;obtain⟨aE,aP,R⟩:=d2 d _ (bJ af);rw[bJ t]at aP;cases aP;have:=u.a3 g aY[d] L _ m R h o r;grind
  have ab:∀h,h<b.a.heap.size->(∀L∈b.t,h∉L.al)->∀L∈A,h∉L.al:=λh _ ah L m=>ah L (Q L m);have V:fz k b (dd aY aX k) ⟨dd aY j.t b.t,j.D,j.a,b.own⟩:=by
    refine⟨i.mem,λg x L aM m=>?_⟩;have K:g<c k:=(cP.1 aM).1;by_cases C:g∈aY
    · obtain⟨d,t,rfl⟩:=ha C
      have y:=bJ t;obtain⟨aE,aP,R⟩:=av d _ y;obtain⟨a9,aG,ae⟩:=d2 d _ y;rw[aM]at R;cases R;rw[m]at ae;cases ae;obtain⟨aO,p,a4,a5,a7⟩:=i.box d x L aP aG;grind
    · exact⟨x,L,by grind,by grind,.refl _ _⟩
  refine⟨⟨dd aY j.t b.t,j.D,j.a,b.own⟩,a,?_,⟨D.mem,?_,?_,?_,?_,?_⟩,⟨i.size,?_,i.mem,?_,?_,V.box,i.os,i.tape,i.output,a⟩,a,a,?_⟩
  · refine bx.cO (b:=j) (b7:=⟨dd aY j.t b.t,j.D,j.a,b.own⟩) (fp:=dd aY aX k) (aY:=aj) a (λd x aM=>?_) (λd L m=>?_) D.len aC
    · grind
    · obtain⟨z,k1,_,a2⟩:=aR d (by rw[<-D.len];grind)
      grind
  · simp only;rw[an,T,D.len,u.len]
  · intro g x L aM m
    rcases I g L m with⟨d,t,B,F,_⟩|⟨E,C,q,aT⟩
    · exact eB.plain (k:=aX) (b:=j) (aF:=⟨dd aY j.t b.t,j.D,j.a,b.own⟩) a a (v6 aB x (ca (F x aM))) (D.box d x L (F x aM) B)
    · rw[aT]at aM
      refine(u.box g x L aM q).ca V u.len λh o=>?_;obtain⟨ak,ag⟩:=s g L C q h o;exact⟨i.a4 h (.inr ⟨⟨L,ca q,o⟩,ag⟩),i.bz h ak ag⟩
  · intro g J L p m q h o r
    rcases I g L m with⟨d,t,B,_,aK,aL⟩|⟨E,C,e,_⟩<;>rcases I J p q with⟨aD,af,aH,_,aw,ax⟩|⟨aN,Y,G,_⟩
    · have a8:=D.a3 d aD L p B aH h o r
      grind
    · obtain⟨ak,ag⟩:=s J p Y G h r
      rcases i.bR L (ca B) h o with ah|⟨O,W,aJ⟩
      · grind
      grind
    · obtain⟨ak,ag⟩:=s g L C e h o
      rcases i.bR p (ca aH) h r with ah|⟨O,W,aJ⟩
      · grind
      grind
    · exact u.a3 g J L p e G h o r
  · intro L m h o
    obtain⟨g,E,rfl⟩:=ha m;rcases I g _ (bJ E)with⟨d,t,B,_⟩|⟨_,_,e,_⟩
    · exact D.lt _ (ca B) h o
    · have:=u.lt _ (ca e) h o
      have:=i.size;grind
  · intro h o
    refine⟨?_,λL m aI=>?_⟩
    · have:=(u.own h o).1
      have:=i.size;grind
    · obtain⟨g,E,rfl⟩:=ha m
      rcases I g _ (bJ E)with⟨d,t,B,_⟩|⟨_,_,e,_⟩
      · have az:j.own h:=by rw[i.own];exact .inl o
        exact(D.own h az).2 _ (ca B) aI
      · exact(u.own h o).2 _ (ca e) aI
  · intro h o
    exact i.a4 h (.inl o)
  · intro h o aV a3
    exact i.bz h o (ab h o aV) a3
  · intro L m h o
    obtain⟨g,E,rfl⟩:=ha m;rcases I g _ (bJ E)with⟨d,t,B,_⟩|⟨_,_,e,_⟩
    · rcases i.bR _ (ca B) h o with ah|⟨O,W,aJ⟩
      · grind
      grind
    grind
  · intro L m
    obtain⟨g,E,rfl⟩:=ha m;rcases I g _ (bJ E)with⟨d,t,B,_⟩|⟨_,C,e,_⟩
    · grind
    grind
def g7:y->Option (aZ×m M)
 |.n (.R (.c (.fn (.func b) [] a)))=>f (b,a)
 |_=>n
theorem nc{k}{b}{d:ae->X}{a:ae->y}(e:∀h,bx k b (d h) (a h)):∀g:m ae,b5 k b (g.map d) (g.map a)
 |[]=>trivial
 |j::i=>⟨e j,nc e i⟩
def b5.append{k}{b}:∀{z e:m X}{g a:m y},b5 k b z g->b5 k b e a->b5 k b (z++e) (g++a)
 |[],_,[],_,_,d=>d
 |[],_,_::_,_,d,_=>d.elim
 |_::_,_,[],_,d,_=>d.elim
 |_::_,_,_::_,_,d,h=>⟨d.1,b5.append d.2 h⟩
def B4:Q->Q
 |.x _ b d a=>.c (.B v b d a)
 |.c (.B _ b d a)=>.c (.B v b d a)
 |e=>e
def H4{d}(a:cB k b aa d):cB k b aa (B4 d):=by
 cases d with
 |x i h j e=>exact a.1
 |c g=>cases g<;>first|exact a|exact Rd.en a
 |_=>exact a
def B6:m Q->m Q
 |[]=>[]
 |a::b=>B4 a::B6 b
def H6{k}{b}:∀{z:m X}{d:m Q},bP k b z d->bP k b z (B6 d)
 |[],[],_=>trivial
 |[],_::_,a=>a.elim
 |_::_,[],a=>a.elim
 |_::_,_::_,a=>⟨H4 a.1,H6 a.2⟩
def B5:y->y
 |.n (.R b)=>.n (.R (B4 b))
 |.n (.agg a)=>.n (.agg (B6 a))
 |d=>d
def H5{a}(d:bx k b aa a):bx k b aa (B5 a):=by
 cases a with
 |n i=>cases i with
  |R m=>exact H4 d
  |agg h=>obtain⟨z,e,g⟩:=d;exact⟨z,e,H6 g⟩
 |T j=>exact d
 |any=>trivial
def lb:m y->m y
 |[]=>[]
 |a::b=>B5 a::lb b
theorem u6{k}{b}:∀{z:m X}{d:m y},b5 k b z d->b5 k b z (lb d)
 |[],[],_=>trivial
 |[],_::_,a=>a.elim
 |_::_,[],a=>a.elim
 |_::_,_::_,a=>⟨H5 a.1,u6 a.2⟩
def fj:m M->m y
 |[]=>[]
 |a::b=>ax a::fj b
theorem qj{k}{b}:∀{z:m X}{a:m M},(∀(g:Nat)d,a[g]?=f d->∃h,z[g]?=f h/\Rd b.D h d)->c z=c a->b5 k b z (fj a)
 |[],[],_,_=>trivial
 |[],_::_,_,e=>by grind
 |_::_,[],_,e=>by grind
 |h::z,d::a,e,p=>by obtain⟨q,i,j⟩:=e 0 d rfl;simp at i;subst i;exact⟨j,qj (λg d o=>by simpa using e (g+1) d N) N⟩
def Ex{a b:m α}(h:dz aY a=f b):∀d∈b,d∈a:=by intro d g;obtain⟨k,e⟩:=l_ h;obtain⟨i,j,rfl⟩:=ha g;obtain⟨q,o,p⟩:=e i _ (bJ w);grind
def bc.sub{m}(h:bc k b)(E:dz aY k=f di)(O:dz aY b.t=f m)(J:eA di=l)(t:fl aY=l):
  bc di {b with t:=m,own:=oI b m}/\e_ b {b with t:=m,own:=oI b m}:=by
 obtain⟨B,s⟩:=l_ E;obtain⟨d1,d2⟩:=l_ O;have y:∀L∈m,L∈b.t:=Ex O;refine⟨⟨h.mem,by grind,?_,?_,?_,?_⟩,⟨a,λ_ _ _ D=>D,λ_ _ _=>rfl,h.mem,?_⟩⟩
 .intro u x L aM d;have j:u<c aY:=N;obtain⟨R,A,K⟩:=s u _ (bJ j);obtain⟨M,p,w⟩:=d2 u _ (bJ j);rw[aM]at A;cases A;simp only at d;rw[d]at p;cases p;exact eB.plain (k:=k) (b:=b) (aF:={b with t:=m,own:=oI b m}) rfl rfl (v6 J x (ca aM)) (h.box _ x L K w)
 .intro u C L r d o i g q;simp only at d o;have j:u<c aY:=N;have F:C<c aY:=N;obtain⟨M,p,w⟩:=d2 u _ (bJ j);obtain⟨Q,z,I⟩:=d2 C _ (bJ F);rw[d]at p;cases p;rw[o]at z;cases z;have:=h.a3 _ _ L r w I i g q;exact Lr t u C aY[u] (bJ j) N
 .intro L d i g;exact h.lt _ (y L d) i g
 .rintro i (g|⟨⟨L,d,g⟩,e⟩)
  .exact⟨(h.own i g).1,λL d=>(h.own i g).2 L (y L d)⟩
  exact⟨h.lt L d i g,e⟩
 rintro i ((g|⟨⟨L,d,g⟩,_⟩)|⟨L,d,g⟩)
 .grind
 .grind
 grind
def e_.cT{aX}{s b7}{i}(u:bc k b)(j:bc aX s)(g:dg di {b with t:=i,own:=oI b i} aX s)(r:b7.a=s.a)(o:b7.D=s.D)(w:b7.own=b.own)(q:∀L∈b7.t,L∈s.t∨(L∈b.t/\∀a∈L.al,∀h∈i,a∉h.al)):e_ s b7:=by
 refine⟨r,λa m p e=>by grind,λa _ m=>by rw[o],λa m p e=>by rw[o]at e;exact j.mem a m p e,?_⟩;rintro a (d|⟨L,x,d⟩)
 .left;rw[g.own];exact .inl N
 rcases q L x with e|⟨e,t⟩
 .grind
 left;rw[g.own];exact .inr ⟨⟨L,e,d⟩,t a d⟩
def Bh{u:af P}{i:aG}{h}{x}{bq}{V}(I:i.kind≠.early)(p:aV[e]?=f r)(N:aO r (yielded aV x.tmps)=l)(T:bc k b)(aD:∀A,(ab x.eval r).run P A=.ok (.enter V z.toArray) A)(Q:∀A,(ab x.eval r).events P A #[]=#[])(ah:bm u V cS di res aX)(aw:b5 k b z (gu aY cS))(aP:hk (c aY) cS=l)(w:dz aY k=f di)(K:eA di=l)(Z:∀d,eA (aX d)=l)(U:fl aY=l)(ar:∀d,c aY<=c (aX d))(E:∀d t aF,bx (dd aY (aX d) k) aF t (fm (aY++g0 (c k) (c (aX d)-c aY)) (res d))->bc (dd aY (aX d) k) aF->dg k b (dd aY (aX d) k) aF->cg u br (G (i.ab (x.put r.dst t) (.inRegion aV bq::h)) ai) aF):
  cg u br (G (i.ab x (.inRegion aV (e::bq)::h)) ai) b:=by
 obtain⟨_,aB⟩:=ah;refine .next a λj an=>?_;have C:=u.bO an;have o:=T.rely C;obtain⟨D,O⟩:=wc (kU:=j.t) w o.len;obtain⟨y,ao⟩:=o.sub w O K U;have av:=aw.mono C.aT.ext T.len;have M:=(av.sub (b:=j) w O aP).mono (k:=di) (b:={j with t:=D}) (aq:=di) (aF:={j with t:=D,own:=oI j D}) ⟨λ_ _ _ E=>E,λaE Y L aM F=>⟨Y,L,aM,F,.refl _ _⟩⟩ y.len;refine⟨_,j,_,tN p N I (aD j.a),?_,.aO ao (aB _ z M y br _ λd au t ax J m g q=>?_)⟩
 .refine⟨⟨k,k,o,o,.refl _ _⟩,dw.seen ?_⟩;rw[Q];exact .nil
 refine uU (ai:=ai) (s:=i.ab x (.inRegion aV (e::bq)::h)) g J λaz R=>?_;have X:=g.rely R;have W:=q.trans R.aT;obtain⟨S,ae,aa,ak,H,ag,aj,aC⟩:=frame o w O U (Z d) X W (ar d) (m.mono R.aT.ext g.len);refine .aO (e_.cT o X W ae ag aj aC) ?_;have B:=qr (i:=i) (x:=x) (h:=h) aV e bq t;rw[p]at B;simp[n7]at B;rw[B];exact E d t S aa ak (C.aT.trans H)
def GV{i:af P}{j:aG}{h}{d}{bq}{aX}{o}{res}(F:j.kind≠.early)(m:aV[e]?=f r)(C:aO r (yielded aV d.tmps)=l)(E:bc k b)(t:∀g,(ab d.eval r).run P g=.ok (.enter o z.toArray) g)(s:∀g,(ab d.eval r).events P g #[]=#[])(B:Y i o cS di res aX)(q:b5 k b z (gu aY cS))(x:hk (c aY) cS=l)(y:dz aY k=f di)(D:eA di=l)(u:eA aX=l)(I:fl aY=l)(A:c aY<=c aX)(w:∀p a,bx (dd aY aX k) a p (fm (aY++g0 (c k) (c aX-c aY)) res)->bc (dd aY aX k) a->dg k b (dd aY aX k) a->cg i br (G (j.ab (d.put r.dst p) (.inRegion aV bq::h)) ai) a):
  cg i br (G (j.ab d (.inRegion aV (e::bq)::h)) ai) b:=
 Bh F m C E t s B.tocI q x y D (λ_=>u) I (λ_=>A) (λ_=>w)
theorem mT(b:r.op=.call {callee:=.value cQ,args:=ah,argTypes:=dt}){d}{fn}(h:P.funcs[d]?=f fn)(m:(fn.name== "runtime.NumGoroutine")=v)(k:fn.body.isNone=v){a:Act}{ai}(i:a.eval cQ=.func (.func d) #[] ai.toArray)(p):
  (ab a.eval r).run P p=.ok (.enter d (ah.toList.map a.eval++ai).toArray) p/\(ab a.eval r).events P p #[]=#[]:=by
 have j:(ah.map a.eval++ai.toArray)=(ah.toList.map a.eval++ai).toArray:=N;have g:fn.name≠ "runtime.NumGoroutine":=N;have e:fn.body≠n:=N;constructor
 .simp[ab,b,resolve,i,Deferred.ofValue,invoke,callFunc,h,g,e,j]
 simp[ab,b,resolve,i,Deferred.ofValue,invoke,callFunc,h,g,e]
def fq.eW{A:af P}{aP:bM->m ar->Prop}(aw:∀k h j,b1 F k h J j->aO r (yielded all.toArray j.tmps)=l)(t:r.op=.call {callee:=.value cQ,args:=ah,argTypes:=dt}){ab:aZ}(x:g7 (bE J cQ)=f (ab,cap))(b:m Nat)(aj:bm A ab cS di res aX)(aI:∀h z,b5 k h z (ah.toList.map (bE J)++fj cap)->b5 k h z (gu b cS))(y:hk (c b) cS=l)(aq:dz b k=f di)(L:eA di=l)(Q:∀d,eA (aX d)=l)(V:fl b=l)(au:∀d,c b<=c (aX d))(D)(av:r.dst=D)(az:∀w,D=f w->w<F)(aH:∀d,fq A F all bq aP (gi D (fm (b++g0 (c k) (c (aX d)-c b)) (res d)) J) (dd b (aX d) k)):fq A F all (r::bq) aP J k:=by
 subst av;intro h j o g aC X C aB idx p a R;cases idx with
 |nil=>exact a.elim
 |cons aQ idx=>
 obtain⟨S,a⟩:=a;have ak:=eM o cQ;unfold g7 at x;split at x
 case h_2=>cases x
 case h_1 vj u7 he=>
  cases x;rw[he]at ak;have ag:=b8 ak;generalize H:j.eval cQ=aF at ag;cases ag with
  |fn I e U s aE E aG K aL Y=>
   have M:I=[]:=jK U;subst M;have aJ:b5 k h e (fj cap):=qj (λd aD T=>⟨E d,K d N,Y d aD T⟩) s;have aM:b5 k h (ah.toList.map j.eval++e) (gu b cS):=by exact aI _ _ ((nc (eM o) ah.toList).append aJ)
   obtain⟨fn,an,ai,ae⟩:=aj.1;refine Bh p S (aw _ _ _ o) g (λaa=>(mT t an ai ae H aa).1) (λaa=>(mT t an ai ae H aa).2) aj aM y aq L Q V au λd aR Z W q i=>?_;refine aH d Z _ ?_ q aC X C aB idx p a λG ao ax B aK f3 O u=>R G ao ax B aK f3 O (i.trans u);cases aN:r.dst with
   |none=>exact o.mono i g.len
   |some w=>exact(o.mono i g.len).put (az w aN) W
def fq.gR{d:af P}{aP:bM->m ar->Prop}(B:∀k j h,b1 F k j J h->aO r (yielded all.toArray h.tmps)=l)(g:r.op=.call {callee:=.value cQ,args:=ah,argTypes:=dt}){i}(A:g7 (bE J cQ)=f (i,cap))(aY)(w:bm d i cS di res aX)(D:lb (ah.toList.map (bE J)++fj cap)=gu aY cS)(q:hk (c aY) cS=l)(s:dz aY k=f di)(x:eA di=l)(p:∀a,eA (aX a)=l)(e:fl aY=l)(t:∀a,c aY<=c (aX a))(b)(y:r.dst=b)(C:∀o,b=f o->o<F)(u:∀a,fq d F all bq aP (gi b (fm (aY++g0 (c k) (c (aX a)-c aY)) (res a)) J) (dd aY (aX a) k)):fq d F all (r::bq) aP J k:=
 fq.eW B g A aY w (λj z E=>by grind[u6]) q s x p e t b y C u
theorem fq.call{b:af P}{aP:bM->m ar->Prop}(z:∀k B g,b1 F k B J g->aO r (yielded all.toArray g.tmps)=l)(e:r.op=.call {callee:=.value cQ,args:=ah,argTypes:=dt}){h}(y:g7 (bE J cQ)=f (h,cap))(aY){aX}{res}(t:Y b h cS di res aX)(j:lb (ah.toList.map (bE J)++fj cap)=gu aY cS)(p:hk (c aY) cS=l)(q:dz aY k=f di)(u:eA di=l)(o:eA aX=l)(d:fl aY=l)(s:c aY<=c aX)(a)(x:r.dst=a)(A:∀i,a=f i->i<F)(w:fq b F all bq aP (gi a (fm (aY++g0 (c k) (c aX-c aY)) res) J) (dd aY aX k)):fq b F all (r::bq) aP J k:=
 fq.gR z e y aY t.tocI j p q u (λ_=>o) d (λ_=>s) a x A (λ_=>w)
def n3.range(all):n3 all (aA all.toArray.size) all:=by
 have key:∀a j,(∀u r,a[u]?=f r->all[j+u]?=f r)->n3 all (List.range' j (c a)) a:=by
  intro a;induction a with
  |nil=>intro j _;trivial
  |cons r a7 x=>
   exact Rb
 grind[List.range_eq_range']
theorem b4.region{q:af P}{aP}{id}(z:fq q F aV.toList aV.toList (λJ k=>aP .normal J k) J k):b4 q F (.region id aV v) aP J k:=by intro C s y d t A i r m j;refine .ctl d a (λ_=>zz) λw b=>?_;have:=z w s (y.rely b d) (d.rely b) t A i r (aA aV.size) m (by simpa using n3.range aV.toList) λe g o h B u x p=>j .normal e g o h B u x (b.aT.trans p);omega
def fq.nil{P:aD}{d:af P}{F}{all}{aP:bM->m ar->Prop}{J}{k}(p:aP J k):fq d F all [] aP J k:=by
 intro u e o b r t h q idx _ g i;cases idx with
 |cons s idx=>exact g.elim
 |nil=>exact .ctl b rfl (λ_=>wd) λj a=>i J k j e p (o.rely a b) (b.rely a) a.aT
def fq.mono{p:af P}{aP q:bM->m ar->Prop}(z:fq p F all bq aP J k)(y:∀J k,aP J k->q J k):fq p F all bq q J k:=
 λb s x i t A e r idx h j g=>z b s x i t A e r idx h j λa aq aF d B u w o=>g a aq aF d (y _ _ B) u w o
def fq.le{P:aD}{i:af P}{F}{all bq}{aP:bM->m ar->Prop}{J dG}{k}(r:fq i F all bq aP dG k)(h:iM J dG):fq i F all bq aP J k:=
 λt o q e p s a j idx d g b=>r t o (q.le h) e p s a j idx d g b
def ib:Nat->m y->bM
 |_,[]=>[]
 |a,b::d=>(a,b)::ib (a+1) d
def yR:∀d(a b:Nat),look (ib a d) b=if a<=b then(d[b-a]?).getD .any else .any
 |[],a,b=>by simp[ib,look]
 |g::e,a,b=>by
  simp only[ib,look];by_cases h:a=b
  .grind [Nat.beq_refl]
  have:ad a b=v:=uj;rw[this];simp[cond,yR e (a+1) b];grind
theorem b5.get{k}{b}:∀{z:m X}{a:m y},b5 k b z a->c z=c a/\∀(u:Nat),bx k b ((z[u]?).getD I) ((a[u]?).getD .any)
 |[],[],_=>⟨rfl,λu=>by simp[bx]⟩
 |[],_::_,d=>d.elim
 |_::_,[],d=>d.elim
 |i::z,h::a,d=>by
  obtain⟨e,g⟩:=b5.get d.2;refine⟨by grind,λu=>?_⟩;cases u with
  |zero=>simpa using d.1
  |succ u=>grind
def oK(a:bM):m ResultVar->Option (m y)
 |[]=>f []
 |.tmp e::d=>match oK a d with
  |some b=>f (look a e::b)
  |none=>n
 |.cell _ _::_=>n
def qW:m y->Option (m E1)
 |[]=>f []
 |.n d::b=>match qW b with
  |some a=>f (d::a)
  |none=>n
 |_::_=>n
def pq:m y->Option y
 |[d]=>f d
 |a=>match qW a with
  |some b=>f (.T b)
  |none=>n
def io(d:Act):ResultVar->Sem X
 |ResultVar.tmp b=>pure (d.tmps.getD b I)
 |ResultVar.cell a b=>do loadVar b (<-asAddr (d.tmps.getD a I))
def Mw(P){F}{k}{b}{J}{g}(j:b1 F k b J g):∀{e:m ResultVar}{a:m y},oK J e=f a ->
  ∃z,(∀p,(e.mapM (io g)).run P p=Result.ok z p)/\b5 k b z a/\dB P (e.mapM (io g))
 |[],a,d=>by cases d;exact⟨[],by simp,B,by rw[List.mapM_nil];exact .pure⟩
 |.tmp h::o,a,d=>by
  simp[oK]at d;cases i:oK J o with
  |none=>grind
  |some u=>
   simp[i]at d;subst d;obtain⟨z,r,s,t⟩:=Mw P j i;refine⟨g.tmps.getD h I::z,?_,⟨j.aK h,s⟩,?_⟩
   .intro p;simp[o7,cK,io,d',c_,r]
   rw[o7];exact .bind .pure λ_=>.bind t λ_=>.pure
 |.cell q h::o,a,d=>by simp[oK]at d
def NM{k}{b}:∀{z:m X}{e:m y}{a:m E1},qW e=f a->b5 k b z e->e4 k b z a
 |[],[],a,d,_=>by cases d;trivial
 |[],_::_,_,_,d=>d.elim
 |_::_,[],_,_,d=>d.elim
 |o::z,.n p::i,a,d,h=>by
  simp[qW]at d;cases g:qW i with
  |none=>grind
  |some j=>simp[g]at d;subst d;exact⟨h.1,NM g h.2⟩
 |_::_,.T _::_,a,d,_=>by simp[qW]at d
 |_::_,.any::_,a,d,_=>by simp[qW]at d
def KI{bf}{h}(d:pq bf=f h)(e:b5 k b z bf):bx k b (if d:c z=1 then z[0]else .tuple z.toArray) h:=by
 unfold pq at d;split at d
 .rename_i C;cases d
  match z,e with
  |[p],e=>simpa using e.1
 rename_i o;cases g:qW bf with
 |none=>grind
 |some j=>
  simp[g]at d;subst d;have m:c z≠1:=by
   intro i;rw[(b5.get e).1]at i
   match bf,i with
   |[q],_=>grind
  rw[dif_neg m];exact⟨z,a,NM g e⟩
def oZ(P:aD)(fn:Func)(k:bM)(p:y):Prop:=∀{o:Nat}{i:m ar}{d:a6}{h:Act},b1 o i d k h->∃j,bx i d j p/\∀g,(∀a b e,d.D a b=f e->g.cell? ⟨a,b,n⟩=f e)->(results fn h.tmps).run P g=.ok j g/\∀q∈(results fn h.tmps).events P g #[],∃a b e,q=⟨.cell ⟨a,b,n⟩,v,v⟩/\d.D a b=f e
def MI{a}(m:b1 F k b J a){fn}{bf}{g}(p:oK J fn.results.toList=f bf)(i:pq bf=f g):
  ∃h,(∀d,(results fn a.tmps).run P d=.ok h d)/\bx k b h g/\dB P (results fn a.tmps):=by
 obtain⟨z,r,j,o⟩:=Mw P m p;refine⟨_,λd=>?_,KI i j,?_⟩
 .have e:(fn.results.mapM (io a)).run P d=Result.ok z.toArray d:=Sa;unfold results;rw[cK];refine(eF (λq=>Result.andThen q _) (Eq.trans ?_ e)).trans ?_
  .congr 2
  simp
 unfold results;have e:dB P (fn.results.mapM (io a)):=by rw[xi];exact .map o
 exact .bind e λ_=>.pure
def oZ.of{fn}{bf}{e}(k:oK J fn.results.toList=f bf)(d:pq bf=f e):oZ P fn J e:=by intro o p s q j;obtain⟨m,a,b,i⟩:=MI (P:=P) j k d;exact⟨m,b,λg _=>⟨a g,λr h=>by rw[i g #[]]at h;grind⟩⟩
section
def bc.d_(a:bc k b):bc (k.map λ_=>.N) b:=by
 refine⟨a.mem,by simp[a.len],λg h L aM e=>?_,a.a3,a.lt,a.own⟩;simp only[ni]at aM;cases d:k[g]? with
 |none=>grind
 |some i=>rw[d]at aM;cases aM;trivial
structure p3(nL:m Nat)(b aF:a6):Prop where
 t:aF.t=b.t
 D:aF.D=b.D
 own:aF.own=b.own
 size:b.a.heap.size<=aF.a.heap.size
 a4:∀i,(b.own i∨∃(d:Nat) (L:Loc),b.t[d]?=f L/\d∉nL/\i∈L.al)->aF.a.heap[i]?=b.a.heap[i]?
 mem:∀i r aa,b.D i r=f aa->aF.a.cell? ⟨i,r,n⟩=f aa
 os:aF.a.os=b.a.os
 tape:aF.a.tape=b.a.tape
 output:aF.a.output=b.a.output
def c0.j7(a:c0 b aF)(nL):p3 nL b aF:=
 ⟨a.t,a.D,a.own,a.size,λh e=>a.a4 h (e.imp id λ⟨i,L,d,_,g⟩=>⟨L,ca d,g⟩),a.mem,a.os,a.tape,a.output⟩
theorem p3.Y{nL}{m b7}(a:p3 [d] b m)(e:p3 nL m b7):p3 (d::nL) b b7:=by refine⟨e.t.trans a.t,e.D.trans a.D,e.own.trans a.own,fY a.size e.size,λg j=>?_,λg q r o=>e.mem g q r (by rw[a.D];exact o),e.os.trans a.os,e.tape.trans a.tape,e.output.trans a.output⟩;rw[e.a4 g,a.a4 g (j.imp id λ⟨k,L,h,i,p⟩=>⟨k,L,h,λs=>i N,p⟩)];rw[a.own,a.t];grind
def ab8{b}(d:p.heap[b]?=f (.deferred (f []))):
  (Instr.takeDeferred b).run P p=.ok [] {p with heap:=p.heap.setIfInBounds b (.deferred n)}/\(Instr.takeDeferred b).events P p #[]=#[⟨.obj b,v,v⟩,⟨.obj b,l,v⟩]:=by
 have e:(getObj b).run P p=.ok (.deferred (f [])) p:=by simp[getObj,Sem.run,d]
 have g:(setObj b (.deferred n)).run P p=.ok () {p with heap:=p.heap.setIfInBounds b (.deferred n)}:=by simp[setObj,Sem.run,d]
 have i:∀a,(getObj b).events P p a=a.push ⟨.obj b,v,v⟩:=λa=>by simp only[getObj,Sem.events,Sem.runT,d];rfl
 have h:∀a,(setObj b (.deferred n)).events P p a=a.push ⟨.obj b,l,v⟩:=λa=>by simp[setObj,Sem.events,Sem.runT,d];rfl
 constructor
 .simp[Instr.takeDeferred,e,g]
 simp[Instr.takeDeferred,e,i,h]
variable {q:af P}{e1:Bool}
def acn{a}{b}{bf}(e:a.mode=.returning)(d:a.defers={target:=.collected b,args:=#[]}::bf)(h:p.heap[b]?=f (.deferred (f []))):
  ap P e1 (G a ai) p=.go (G {a with defers:=bf} ai) {p with heap:=p.heap.setIfInBounds b (.deferred n)} (seen P a.fn #[⟨.obj b,v,v⟩,⟨.obj b,l,v⟩]):=by obtain⟨i,g⟩:=ab8 (P:=P) h;simp[G,ap,unwind,e,d,i,g,GStep.after]
def rl(d:a6):m Deferred->m Nat->Prop
 |[],[]=>True
 |h::e,g::a=>(∃b:Nat,d.t[g]?=f ⟨.int .i64 b,[b]⟩/\d.a.heap[b]?=f (.deferred (f []))/\(∀i,d.D b i=n)/\h={target:=.collected b,args:=#[]})/\g∉a/\rl d e a
 |_,_=>False
def jh.gF{k}{b}(g:bc k b):∀{a:m Deferred}{d:m Nat},jh k b a d->rl b a d
 |[],[],_=>trivial
 |[],_::_,h=>h.elim
 |_::_,[],h=>h.elim
 |y::a,x::d,⟨⟨j,L,h,e,u,s⟩,t,o⟩=>by obtain⟨i,k1,p,q⟩:=g.box x _ L j e;subst k1;simp at u;have r:i=h:=w;subst r;exact⟨⟨i,e,p,q,s⟩,t,jh.gF g o⟩
def rl.mono{b aF}{i}(h:p3 [i] b aF):∀{d:m Deferred}{a:m Nat},i∉a->rl b d a->rl aF d a
 |[],[],_,_=>trivial
 |[],_::_,_,e=>e.elim
 |_::_,[],_,e=>e.elim
 |s::d,r::a,k,⟨⟨e,g,j,t,p⟩,q,o⟩=>by simp[fh,not_or]at k;refine⟨⟨e,by rw[h.t];exact g,by rw[h.a4 e (.inr ⟨r,_,g,by grind,by simp⟩)];exact j,λu=>by rw[h.D];grind,p⟩,q,rl.mono h k.2 o⟩
def Bi:∀o(g:aG)(s:a6)i,bc i s->(∀C∈i,C=.N)->g.mode=.returning->rl s g.defers o ->
  (∀r,p3 o s r->cg q br (G {g with defers:=[]} ai) r)->cg q br (G g ai) s
 |[],g,s,i,J,W,O,x,U=>by
  have A:g.defers=[]:=by
   cases A:g.defers with
   |nil=>rfl
   |cons an E=>rw[A]at x;exact x.elim
  have:=U s ((c0.refl J).j7 _);have aq:{g with defers:=[]}=g:=by cases g;simp_all
  grind
 |V::o,g,s,i,J,W,O,x,U=>by
  cases A:g.defers with
  |nil=>rw[A]at x;exact x.elim
  |cons an E=>
   rw[A]at x;obtain⟨⟨k,K,H,aP,ah⟩,aj,ak⟩:=x;subst ah;refine .next a λj y=>?_;have h:=q.bO y;have u:=J.rely h;have M:j.t[V]?=f ⟨.int .i64 k,[k]⟩:=by rw[h.t];exact K
   have Q:j.a.heap[k]?=f (.deferred (f [])):=by rw[h.a4 k (.inr ⟨_,ca K,by simp⟩)];exact H
   have ao:∀p,j.D k p=n:=λp=>by rw[h.D];grind
   let d:a6:={j with a:={j.a with heap:=j.a.heap.setIfInBounds k (.deferred n)}}
   have F:∀b,b≠k->d.a.heap[b]?=j.a.heap[b]?:=λb e=>by grind
   have aa:∀b p B,j.D b p=f B->d.a.cell? ⟨b,p,n⟩=f B:=by intro b p B R;have ab:b≠k:=N;rw[<-u.mem b p B R];simp[aH];grind
   have ae:bc i d:=by
    refine⟨aa,u.len,λw C L aM m=>?_,u.a3,λL m b e=>?_,λb e=>⟨?_,(u.own b e).2⟩⟩
    .rw[W C (ca aM)];trivial
    .have:=u.lt L m b e;grind
    have:=(u.own b e).1;grind
   have af:∃L∈j.t,k∈L.al:=⟨_,ca M,by simp⟩
   have Y:cO i j i d:=by refine⟨by grind,λb _ e=>F b ?_,λ_ _ _ S=>S,λ_ _ _ _=>rfl,λL m b e=>.inr ⟨L,m,e⟩,λ_ C L S ag=>⟨C,L,S,ag,.refl _ _⟩,rfl,rfl,rfl,rfl⟩;grind
   have I:p3 [V] s d:=by
    refine⟨h.t,h.D,h.own,fY h.size N,λb e=>?_,λb p B R=>aa b p B (by rw[h.D];exact R),h.os,h.tape,h.output⟩;have ab:b≠k:=by
     rintro rfl;rcases e with e|⟨w,t,Z,X,z⟩
     .exact(J.own b e).2 _ (ca K) D
     exact X (by simp;exact J.a3 w V t _ Z K b z D)
    rw[F b ab];exact h.a4 b (e.imp id λ⟨w,t,Z,_,z⟩=>⟨t,ca Z,z⟩)
   refine⟨_,d,_,acn O A Q,⟨⟨i,i,u,ae,Y⟩,dw.seen (.fj ?_ ?_)⟩,?_⟩
   .exact⟨a,.inr af⟩
   .exact⟨a,.inr af⟩
   refine Bi o {g with defers:=E} d i ae W O (ak.mono I aj) λr T=>?_;exact U r (I.Y T)
end
def bs(e:Nat)(b d:Nat->m M):Prop:=∀a,a<e->b a=d a
def e3.cA{h}{dI:Nat->m M}(d:e3 bB h j V z)(g:bs j V dI):e3 bB h j dI z:=
 ⟨d.len,λb a=>by rw[<-g b a];exact d.bF b a,λb a k i e=>d.rd b a k i (by rw[g b a];exact e)⟩
def DA:M->M->Option (m Prop)
 |.int j e,.int b a=>match tg j b with|true=>f [e=a]|false=>n
 |.bool r,.bool h=>f [r=h]
 |.S s,.S k=>f [s=k]
 |.B q j e i,.B g b a d=>match ad j b with
  |true=>match q,g with
   |false,l=>n
   |_,_=>f [e=a,bs e i d]
  |false=>match q,g with
   |true,_=>f [e=0,a=0]
   |_,_=>n
 |.val o,.val p=>f [o=p]
 |o,p=>f [o=p]
def KR{E k}(a:DA E k=f Z)(g:U Z)(e:Rd bB aa E):Rd bB aa k:=by
 unfold DA at a;split at a
 .rename_i h j i d;cases b:tg h i<;>simp[b]at a
  subst a;cases Dv b;cases(show j=d from g);exact e
 .cases a;rename_i m p;cases(show m=p from g);exact e
 .cases a;rename_i m p;cases(show m=p from g);exact e
 .rename_i o h j V q i d dI;cases b:ad h i with
  |true=>
   simp[b]at a;have t:=dp b;subst t;cases o<;>cases q<;>simp at a
   all_goals (subst a;obtain⟨rfl,s⟩:=(show j=d/\bs j V dI from g);first|exact e.cA s|exact e.en.cA s)
  |false=>
   simp[b]at a;cases o<;>simp at a
   subst a;obtain⟨rfl,rfl⟩:=(show j=0/\d=0 from g)
   obtain⟨u,r,z,rfl,_,_,w,_⟩:=e.b1;grind[Rd.dK]
 .cases a;rename_i E k;cases(show E=k from g);exact e
 cases a;cases g;exact e
def vF:Q->Q->Option (m Prop)
 |.c r,.c s=>DA r s
 |.x _ j i d,.c (.B v e h b)=>match ad j e with|true=>f [i=h,bs i d b]|false=>n
 |.x g j i d,.x a e h b=>match ad g a with
  |true=>match ad j e with|true=>f [i=h,bs i d b]|false=>n
  |false=>n
 |.ptr g p,.ptr a k=>match ad g a with|true=>(match ad p k with|true=>f []|false=>n)|false=>n
 |.aP g,.aP a=>match ad g a with|true=>f []|false=>n
 |.O g q,.O a o=>match ad g a with|true=>f [q=o]|false=>n
 |_,.any=>f []
 |_,_=>n
def KP{w x}(e:vF w x=f Z)(r:U Z)(o:cB k b aa w):cB k b aa x:=by
 unfold vF at e;split at e
 .exact KR e r o
 .rename_i h j V g m dI;cases a:ad h g<;>simp[a]at e
  subst e;have u:=dp a;subst u;obtain⟨rfl,s⟩:=(show j=m/\bs j V dI from r)
  exact o.1.cA s
 .rename_i d h j V i g m dI;cases q:ad d i<;>simp[q]at e
  cases a:ad h g<;>simp[a]at e
  subst e;have u:=dp a;have t:=dp q;subst u t;obtain⟨rfl,s⟩:=(show j=m/\bs j V dI from r)
  exact⟨o.1.cA s,o.2.1,o.2.2⟩
 .grind [Nat.eq_of_beq_eq_true]
 .grind [Nat.eq_of_beq_eq_true]
 .rename_i d p i bi;cases q:ad d i<;>simp[q]at e
  have t:=dp q;subst t;subst e;cases(show p=bi from r);exact o
 .exact cB.cell o
 grind
def gT:m Prop->m Prop->m Prop
 |[],a=>a
 |b::d,a=>b::gT d a
@[simp] theorem U.Y{a b}:U (gT a b)↔U a/\U b:=by
 induction a with
 |nil=>simp[gT]
 |cons g e d=>simp[gT,U.cons,d,and_assoc]
def qD:m Q->m Q->Option (m Prop)
 |[],[]=>f []
 |d::a,e::b=>match vF d e with
  |some g=>match qD a b with
   |some h=>f (gT g h)
   |none=>n
  |none=>n
 |_,_=>n
def DB{k}{b}:∀{z:m X}{e g:m Q}{d:m Prop},qD e g=f d->U d->bP k b z e->bP k b z g
 |[],[],[],_,_,_,_=>trivial
 |_::_,[],_,_,_,_,a=>a.elim
 |[],_::_,_,_,_,_,a=>a.elim
 |[],[],_::_,_,a,_,_=>by simp[qD]at a
 |_::_,_::_,[],_,a,_,_=>by simp[qD]at a
 |w::z,r::h,s::i,d,a,j,q=>by
  simp[qD]at a;cases o:vF r s with
  |none=>grind
  |some t=>
   cases p:qD h i with
   |none=>grind
   |some u=>
    simp[o,p]at a;subst a;rw[U.Y]at j;exact⟨KP o j.1 q.1,DB p j.2 q.2⟩
def vG:E1->E1->Option (m Prop)
 |.R d,.R e=>vF d e
 |.agg a,.agg b=>qD a b
 |_,_=>n
def KS{d e}(a:vG d e=f Z)(g:U Z)(h:eC k b aa d):eC k b aa e:=by
 cases d<;>cases e<;>simp[vG,reduceCtorEq]at a
 .exact KP a g h
 obtain⟨z,i,j⟩:=h;exact⟨z,i,DB a g j⟩
def rY:m E1->m E1->Option (m Prop)
 |[],[]=>f []
 |d::a,e::b=>match vG d e with
  |some g=>match rY a b with
   |some h=>f (gT g h)
   |none=>n
  |none=>n
 |_,_=>n
def KT{k}{b}:∀{z:m X}{e g:m E1}{d:m Prop},rY e g=f d->U d->e4 k b z e->e4 k b z g
 |[],[],[],_,_,_,_=>trivial
 |_::_,[],_,_,_,_,a=>a.elim
 |[],_::_,_,_,_,_,a=>a.elim
 |[],[],_::_,_,a,_,_=>by simp[rY]at a
 |_::_,_::_,[],_,a,_,_=>by simp[rY]at a
 |w::z,r::h,s::i,d,a,j,q=>by
  simp[rY]at a;cases o:vG r s with
  |none=>grind
  |some t=>
   cases p:rY h i with
   |none=>grind
   |some u=>
    simp[o,p]at a;subst a;rw[U.Y]at j;exact⟨KS o j.1 q.1,KT p j.2 q.2⟩
def kt:y->y->Option (m Prop)
 |.n d,.n e=>vG d e
 |.T a,.T b=>rY a b
 |_,.any=>f []
 |_,_=>n
theorem pr{d e}(a:kt d e=f Z)(g:U Z)(h:bx k b aa d):bx k b aa e:=by
 cases d<;>cases e<;>simp[kt,reduceCtorEq]at a
 .exact KS a g h
 .trivial
 .obtain⟨z,i,s⟩:=h;exact⟨z,i,KT a g s⟩
 .trivial
 trivial
def i_(a:bM):bM->Option (m Prop)
 |[]=>f []
 |(d,b)::h=>match kt (look a d) b with
  |some e=>match i_ a h with
   |some g=>f (gT e g)
   |none=>n
  |none=>n
def eO{J}:∀{b:bM}{a:m Prop},i_ J b=f a->U a->iM J b
 |[],_,_,_=>λ_ _ _ _ _=>trivial
 |(h,o)::q,a,d,e=>by
  simp[i_]at d;cases p:kt (look J h) o with
  |none=>grind
  |some u=>
   cases g:i_ J q with
   |none=>grind
   |some w=>
    simp[p,g]at d;subst d;rw[U.Y]at e;intro j r s i k;simp[look];cases t:ad h i with
    |true=>
     grind[Nat.eq_of_beq_eq_true,pr]
    |false=>exact eO g e.2 j r s i k
def l8(a:m ar):Bool:=match eA a with|true=>jX a|false=>v
def L5(a:l8 k=l):eA k=l/\jX k=l:=by unfold l8 at a;grind
def jh.e7{k}{b}:∀{e:m Deferred}{d:m Nat},jh k b e d->∀g∈d,k[g]?=f .bk
 |[],[],_,g,a=>by grind
 |[],_::_,i,_,_=>i.elim
 |_::_,[],i,_,_=>i.elim
 |p::e,o::d,⟨⟨h,_⟩,_,j⟩,g,a=>by
  rcases fh.1 a with rfl|a
  .exact h
  exact jh.e7 j g a
def bZ(fn:Func)(p:Nat)(b:y)(d:m ar):fF:=λk o h=>
 (k=.ret∨k=.normal)/\∃a e j g,oK o fn.results.toList=f e/\pq e=f j/\kt j (fm a b)=f g/\U g/\h0 (c a) b=l /\
  dz a h=f d/\l8 d=l/\fl a=l/\(∀i,i<p->a[i]?=f i)
def k9(P:aD)(fn:Func)(o:Nat)(b:y)(d:m ar):fF:=λj k g=>
 (j=.ret∨j=.normal)/\∃a i e,oZ P fn k i/\kt i (fm a b)=f e/\U e/\h0 (c a) b=l /\
  dz a g=f d/\l8 d=l/\fl a=l/\(∀h,h<o->a[h]?=f h)
def bZ.toJ{fn}{g}{res}{h}{aX}(o:bZ fn g res aq h J aX):k9 P fn g res aq h J aX:=by obtain⟨i,d,m,k,e,a,b,j⟩:=o;exact⟨i,d,k,e,oZ.of a b,j⟩
def bm.gx{ab:af P}{S}{fn}{args}{q:ι->m ar}(pm:P.funcs[S]?=f fn)(bj:(fn.name== "runtime.NumGoroutine")=v)(cZ:fn.body=f s)(aL:args.length<=fn.ntmps)(U:∀b a',b1 fn.ntmps k b (ib 0 args) a'->bc k b->∀i bd r (J:ag->a6->Prop),i.kind≠.early->i.roundOf=n ->
  (∀ak C j aF K,(∃y,k9 P fn (c k) (res y) (q y) ak C j)->b1 fn.ntmps j aF C K->bc j aF->dg k b j aF->kP ab J i bd r ak K aF)->cg ab J (G (i.ab a' (.code s::bd)) r) b):bm ab S args k res q:=by
 refine⟨⟨fn,pm,bj,by grind⟩,λb z aN aI J r aD=>?_⟩;obtain⟨aK,aH⟩:=b5.get aN;let i:aG:={fn:=S,tmps:=#[],todo:=[],defers:=[],mode:=.run,kind:=.normal,roundOf:=n}
 have bu:Frame.enter P S z.toArray .normal=i.ab {tmps:=z.toArray++Array.replicate (fn.ntmps-z.toArray.size) I,defers:=[]} [.code s]:=OA;rw[bu];refine U b {tmps:=z.toArray++Array.replicate (fn.ntmps-z.toArray.size) I,defers:=[]} ⟨by grind,⟨[],B⟩,λo=>?_⟩ aI i [] r J (by simp[i]) rfl ?_
 .rw[yR];simp[g5,dx,sD];have:=aH o;rcases dY o (c z) with bb|ba
  .exact Pc
  rw[xa w];trivial
 rintro ak C j a1 O ⟨Z,ah,aR,bw,bt,av,aw,ax,az,aa,bl,aB,bp⟩ au Y a2;obtain⟨a,bn⟩:=L5 bl;have fin:∀g d,c0 a1 d->g.fn=S->g.tmps=O.tmps->g.defers=O.defers->g.mode=.returning->g.kind=.normal->cg ab J (G g r) d:=by
  intro g d e aj an ao R aq;have T:=au.rely e Y;have E:=Y.rely e;have t:=a2.trans e.aT;obtain⟨a3,aZ,a9⟩:=av T;obtain⟨x,ae⟩:=wc (kU:=d.t) aa E.len;have a0:=(pr aw ax aZ).sub aa ae az;obtain⟨bo,ai⟩:=l_ aa;obtain⟨d1,d2⟩:=l_ ae;have M:∀L∈x,L∈d.t:=Ex ae;have Q:bc (q Z) {d with t:=x}:=by obtain⟨F,_⟩:=E.sub aa ae a aB;refine⟨F.mem,F.len,λy X L aM h=>?_,F.a3,F.lt,λi cZ=>⟨(E.own i cZ).1,λL h=>(E.own i cZ).2 L (M L h)⟩⟩;exact eB.plain (k:=q Z) (b:={d with t:=x,own:=oI d x}) (aF:={d with t:=x}) rfl rfl (v6 a X (ca aM)) (F.box y X L aM h)
  have aP:dg k b (q Z) {d with t:=x}:=by refine⟨t.size,t.a4,t.mem,t.bz,λL h i cZ=>t.bR _ (M L h) i cZ,λbf X L aM h=>?_,t.os,t.tape,t.output,t.own⟩;have aK:bf<c k:=(cP.1 aM).1;obtain⟨bh,bk,bq,br,bs⟩:=t.box bf X L aM h;grind
  obtain⟨aS,a8⟩:=T.defers;refine Bi aS g d _ E.d_ D R (by rw[ao];exact a8.gF E) λH p=>?_;have aV:c0 {d with t:=x} {H with t:=x}:=by refine⟨rfl,p.D,p.own,p.size,λi cZ=>p.a4 i (cZ.imp id ?_),p.mem,p.os,p.tape,p.output⟩;rintro⟨L,h,cZ⟩;obtain⟨y,aJ,rfl⟩:=ha h;have a7:y<c aR:=N;obtain⟨bz,a_,a5⟩:=d2 y _ (bJ a7);obtain⟨bx,a4,W⟩:=ai y _ (bJ a7);rw[bJ aJ]at a_;cases a_;refine⟨_,_,a5,λaE=>?_,cZ⟩;rw[a8.e7 _ aE]at W;cases W;exact vO bn _ (ca a4) rfl
  have aC:e_ H {H with t:=x}:=⟨rfl,λ_ _ _ U=>U,λ_ _ _=>rfl,λi u a3 aO=>p.mem i u a3 (by rw[<-p.D];exact aO),λi cZ=>cZ.imp id λ⟨L,h,cZ⟩=>⟨L,by rw[p.t];grind,cZ⟩⟩
  refine .aO aC (aD Z _ a3 _ ⟨aj,R,rfl,aq,fn,by grind,λV aQ=>?_⟩ (a0.mono aV.aT.ext Q.len) (Q.rely aV) (aP.trans aV.aT));show(results fn g.tmps).run P V=_/\∀ak∈(results fn g.tmps).events P V #[],_;rw[an];have bg:∀i u A,d.D i u=f A->V.cell? ⟨i,u,n⟩=f A:=λi u A U=>aQ i u A (by show H.D i u=f A;rw[p.D];exact U);refine⟨(a9 V bg).1,λak ah=>?_⟩;obtain⟨i,u,A,aX,aY⟩:=(a9 V bg).2 ak ah;exact⟨i,u,A,aX,by show H.D i u=f A;rw[p.D];exact aY⟩
 rcases ah with rfl|rfl
 .intro pre;exact .ctl Y rfl (λ_=>EB rfl) λd e=>fin _ d e rfl rfl (hU _) rfl rfl
 exact .ctl Y rfl (λ_=>Ez rfl) λd e=>fin _ d e rfl rfl (hU _) rfl rfl
def bm.hA{w:af P}{r}{fn}{args}{j:ι->m ar}(F:P.funcs[r]?=f fn)(D:(fn.name== "runtime.NumGoroutine")=v)(A:fn.body=f s)(C:args.length<=fn.ntmps)(E:∀i p,b1 fn.ntmps k i (ib 0 args) p->bc k i->∀h u g (o:ag->a6->Prop),h.kind≠.early->h.roundOf=n ->
  (∀q d a b e,(∃t,bZ fn (c k) (res t) (j t) q d a)->b1 fn.ntmps a b d e->bc a b->dg k i a b->kP w o h u g q e b)->cg w o (G (h.ab p (.code s::u)) g) i):bm w r args k res j:=
 bm.gx F D A C λi p r B h u g o x y z=>E i p r B h u g o x y λq d a b e ⟨t,I⟩=>z q d a b e ⟨t,I.toJ⟩
def bm.jb{q:af P}{b}{fn}{args}{aq:ι->m ar}(A:P.funcs[b]?=f fn)(w:(fn.name== "runtime.NumGoroutine")=v)(e:fn.body=f s)(t:args.length<=fn.ntmps)(x:b4 q fn.ntmps s (λu j a=>∃i,k9 P fn k.length (res i) (aq i) u j a) (ib 0 args) k):bm q b args k res aq:=
 bm.gx A w e t λB p b g r z d o h _ y=>x B p b g r z d o h y
def bm.intro{j:af P}{d}{fn}{args}{a:ι->m ar}(B:P.funcs[d]?=f fn)(x:(fn.name== "runtime.NumGoroutine")=v)(g:fn.body=f s)(t:args.length<=fn.ntmps)(y:b4 j fn.ntmps s (λw o b=>∃u,bZ fn k.length (res u) (a u) w o b) (ib 0 args) k):bm j d args k res a:=
 bm.hA B x g t λC q d h r A e p i _ z=>y C q d h r A e p i z
def Y.intro{P}{b:af P}{d}{fn}{s}{args}{k aq}{res}(h:P.funcs[d]?=f fn)(g:(fn.name== "runtime.NumGoroutine")=v)(a:fn.body=f s)(e:args.length<=fn.ntmps)(i:b4 b fn.ntmps s (bZ fn k.length res aq) (ib 0 args) k):Y b d args k res aq:=
 (bm.intro h g a e (b4.mono i λ_ _ _ j=>⟨(),j⟩)).toY
inductive iv where
 |code (s:Code)
 |blk (id:Nat)
 |aj (all bq:List ao)
def g{P}(i:af P)(h:Nat)(a:fF):m iv->fF
 |[],k,b,d=>a k b d
 |.code q::e,.normal,b,d=>b4 i h q (g i h a e) b d
 |.code _::e,k,b,d=>g i h a e k b d
 |.blk id::e,.exit j,b,d=>if j=id then g i h a e .normal b d else g i h a e (.exit j) b d
 |.blk _::e,k,b,d=>g i h a e k b d
 |.aj p o::e,.normal,b,d=>fq i h p o (g i h a e .normal) b d
 |.aj _ _::e,k,b,d=>g i h a e k b d
section
variable {q:af P}{be:fF}{av:m iv}
def g.aQ(a:g q F be [.code s] .normal J k):b4 q F s be J k:=a
theorem g.skip(a:g q F be av .normal J k):g q F be (.code .skip::av) .normal J k:=b4.skip a
theorem g.seq{a b}(i:g q F be (.code a::.code b::av) .normal J k):g q F be (.code (.seq a b)::av) .normal J k:=by refine b4.seq (b4.mono i ?_);intro h d e j;cases h<;>exact j
theorem g.block{id}{s}(e:g q F be (.code s::.blk id::av) .normal J k):g q F be (.code (.block id s)::av) .normal J k:=by refine b4.block (b4.mono e ?_);intro d a b h;cases d<;>exact h
theorem g.ie{id}(a:g q F be av .normal J k):g q F be (.blk id::av) .normal J k:=a
theorem g.region{id}{aV}(a:g q F be (.aj aV.toList aV.toList::av) .normal J k):g q F be (.code (.region id aV v)::av) .normal J k:=b4.region a
theorem g.hE(a:g q F be av .normal J k):g q F be (.aj all []::av) .normal J k:=fq.nil a
def g.dP:∀{av:m iv},be .ret J k->g q F be av .ret J k
 |[],a=>a
 |.code _::av,a=>g.dP (av:=av) a
 |.blk _::av,a=>g.dP (av:=av) a
 |.aj _ _::av,a=>g.dP (av:=av) a
def g.ret(a:be .ret J k):g q F be (.code .ret::av) .normal J k:=b4.ret (g.dP a)
def i4(id:Nat):m iv->Option (m iv)
 |[]=>n
 |.blk b::a=>match ad id b with|true=>f a|false=>i4 id a
 |_::a=>i4 id a
def g.toExit{id}:∀{av e:m iv},i4 id av=f e->g q F be e .normal J k->g q F be av (.exit id) J k
 |[],_,a,_=>by cases a
 |.blk i::av,e,a,d=>by
  simp[i4]at a;cases b:ad id i with
  |true=>
   simp[b]at a;subst a;have h:=dp b;simp[g,h,dx];exact d
  |false=>
   simp[b]at a;have j:id≠i:=λh=>by grind[Nat.beq_refl]
   simp[g,j,dn];exact g.toExit a d
 |.code _::av,e,a,d=>g.toExit (av:=av) a d
 |.aj _ _::av,e,a,d=>g.toExit (av:=av) a d
theorem g.exit{id}{b}(a:i4 id av=f b)(d:g q F be b .normal J k):g q F be (.code (.exit id)::av) .normal J k:=b4.exit (g.toExit a d)
theorem g.cond{s}{b d}{i}{o}(e:s=.tmp o)(a:look J o=ax (.bool i))(j:i=l->g q F be (.code b::av) .normal J k)(h:i=v->g q F be (.code d::av) .normal J k):g q F be (.code (.cond s b d)::av) .normal J k:=b4.cond e a j h
def g.loop{br:Type}{s}(o:br->Prop)(a:br->bM)(b:br->m ar)(p:br->Nat)(d)(w:o d)(t:iM J (a d))(r:b d=k)(round:∀d,o d->g q F (λj e h=>match j with
   |.normal=>∃i,o i/\p i<p d/\iM e (a i)/\h=b i
   |j=>g q F be av j e h) [.code s] .normal (a d) (b d)):g q F be (.code (.loop s)::av) .normal J k:=by refine b4.loop o a b p d w t r λi u=>b4.mono (round i u) ?_;intro j e h x;cases j<;>exact x
end
def e5{a d:Type}:m a->(m a->Option d)->Option d
 |[],b=>b []
 |h::g,b=>e5 g λe=>b (h::e)
theorem hL{b:Type}(d)(a:m α->Option b):e5 d a=a d:=by
 induction d generalizing a with
 |nil=>rfl
 |cons h g e=>simp[e5,e]
def yF(d:bM)(a:m ao)(g:Nat):Option (Option Bool):=
 match da g a with
 |some b=>match b.dst with
  |some e=>match look d e with
   |.n (.R (.c (.bool l)))=>f (f l)
   |.n (.R (.c (.bool v)))=>f (f v)
   |.T []=>f n
   |_=>n
  |none=>n
 |none=>n
def yG{e}(t:yF J all u=f e){x}(g:b1 F k b J x):yielded all.toArray x.tmps u=e:=by
 unfold yF at t;rw[ln]at t;unfold yielded;cases a:all[u]? with
 |none=>grind
 |some d=>
  simp[a]at t;simp[kf,a,n7];cases j:d.dst with
  |none=>grind
  |some O=>
   simp[j]at t;simp[n7];have s:=g.aK O;have key:∀aa,x.tmps.getD O I=aa->aa≠I->x.tmps[O]?=f aa:=by intro aa ak p;simp[hH]at ak;grind
   split at t
   .exact PI
   .exact PI
   .rename_i C;cases t;rw[C]at s;obtain⟨z,o,m⟩:=s;have h:z=[]:=by cases z with
     |nil=>rfl
     |cons _ _=>exact m.elim
    subst h;simp[hH]at o;grind
   grind
def y8(o:m (Nat×cq))(g:bM)(d:m ar)(I:ao):Option (y×m ar×m Prop):=
 match I.op with
 |.move e|.assign e=>f (bE g e,d,[])
 |.pick u t z=>match bE g u with
  |.n (.R (.c (.bool l)))=>f (bE g t,d,[])
  |.n (.R (.c (.bool v)))=>f (bE g z,d,[])
  |_=>n
 |.binOp q _ e E _=>match bE g e,bE g E with
  |.n (.R (.c t)),.n (.R (.c z))=>match xw q t z with
   |some (u,x)=>f (ax u,d,x)
   |none=>n
  |_,_=>n
 |.unOp q _ e=>match bE g e with
  |.n (.R (.c t))=>match zX q t with
   |some u=>f (ax u,d,[])
   |none=>n
  |_=>n
 |.extract e C=>match bE g e with
  |.T D=>match da C D with
   |some p=>f (.n p,d,[])
   |none=>n
  |_=>n
 |.alloc r=>match b0 o r with
  |some j=>e5 (d++[.cells r (j.zero.map Q.c)]) λh=>f (aI (c d) 0,h,[])
  |none=>n
 |.box r e=>match mv (bE g e)with
  |some a=>e5 (d++[.cells r a]) λh=>f (aI (c d) 0,h,[])
  |none=>n
 |.load i e=>match b0 o i with
  |some j=>match bE g e with
   |.n (.R (.ptr k b))=>match da k d with
    |some (.cells _ a)=>match hq j (gg b a)with
     |some p=>f (.n p,d,[])
     |none=>n
    |_=>n
   |.n (.R (.c (.Q a)))=>match hq j (a.map Q.c)with
    |some p=>f (.n p,d,[])
    |none=>n
   |_=>n
  |none=>n
 |.store i e E=>match b0 o i with
  |some j=>match bE g e with
   |.n (.R (.ptr k b))=>match da k d with
    |some (.cells r a)=>match mv (bE g E)with
     |some new=>match ad (c new) j.size with
      |true=>match jb b new a with
       |some w=>e5 (dd.cu k (.cells r w) d) λh=>f (.any,h,[])
       |none=>n
      |false=>n
     |none=>n
    |_=>n
   |_=>n
  |none=>n
 |.fieldAddr i e B=>match lm o i B with
  |some (s,_)=>match bE g e with
   |.n (.R (.ptr k b))=>f (aI k (b+s),d,[])
   |.n (.R (.c (.Q a)))=>f (ax (.Q (gg s a)),d,[])
   |_=>n
  |none=>n
 |.field i e B=>match lm o i B with
  |some (s,C)=>match bE g e with
   |.n (.agg a)=>match hq C (gg s a)with
    |some p=>f (.n p,d,[])
    |none=>n
   |_=>n
  |none=>n
 |.nilCheck e=>match bE g e with
  |.n (.R (.ptr k b))=>f (aI k b,d,[])
  |.n (.R (.c (.Q a)))=>f (ax (.Q a),d,[])
  |_=>n
 |.build i parts=>match xA o (bE g) i parts.toList with
  |some a=>f (.n (.agg a),d,[])
  |none=>n
 |.buildSlice i F parts=>match rZ o (bE g) i F parts.toList with
  |some (s,A)=>f (ax (.B l s F λj=>A.getD j []),d,[])
  |none=>n
 |_=>n
theorem D2{ac}(a0:b3 P ac){m}(a:y8 ac J k r=f (m,aq,cp))(q:U cp):a1 P r (bE J) k m aq:=by
 unfold y8 at a;split at a
 .grind [a1.move]
 .grind [a1.assign]
 .rename_i s t i b;split at a
  .rename_i j;cases a;exact a1.pick b j
  .rename_i j;cases a;exact a1.pick b j
  grind
 .grind [a1.binOp]
 .grind [a1.unOp]
 .grind [a1.extract,ew]
 .grind [hL,a1.alloc]
 .grind [hL,a1.box]
 .rename_i o p b;split at a
  .grind [a1.hi,ew,a1.hj]
  grind
 .rename_i o p x b;split at a
  .rename_i e bp;split at a
   .rename_i d off g;split at a
    .grind [hL,mU,a1.store,ew,Nat.eq_of_beq_eq_true]
    grind
   grind
  grind
 .rename_i o p w b;split at a
  .rename_i h u C;split at a
   .rename_i d off g;cases a;exact a1.g7 a0 b g C
   .grind [a1.g9]
   grind
  grind
 .grind [a1.field]
 .grind [a1.hv,a1.hx]
 .grind [a1.build]
 .grind [a1.buildSlice]
 grind
def ft(a:Nat):Option Nat->Bool
 |some b=>ay (b+1) a
 |none=>l
def lg{b}(e:ft F b=l):∀a,b=f a->a<F:=by intro a d;subst d;exact fA e
theorem jf(b:r.guard=n){a:Act}:aO r (yielded all.toArray a.tmps)=l:=by simp[aO,b]
section
variable {ac:m (Nat×cq)}
def kL(a:ae->y):Option ae->Option (Option Int)
 |none=>f n
 |some d=>match a d with
  |.n (.R (.c (.int _ b)))=>f (f b)
  |_=>n
def kj{a:ae->X}(o:∀d,bx k b (a d) (η d)){g}{i}(e:kL η g=f i):(g.map a=n/\i=n)∨∃j h,g.map a=f (.int j h)/\i=f h:=by
 cases g with
 |none=>cases e;grind
 |some d=>
  right;simp[kL]at e;split at e
  .rename_i j h m;cases e;have:=o d;rw[m]at this;have:=b8 this;generalize p:a d=q at this;cases this;grind
  grind
def bW(a:Nat):Option Int->Nat
 |none=>a
 |some b=>b.toNat
def jq(d:Nat):Option Int->Option Int->m Prop
 |none,n=>[]
 |some b,n=>[0<=b,b<=d]
 |none,f a=>[0<=a,a<=d]
 |some b,f a=>[0<=b,b<=a,a<=d]
def v'{ks}{cap}(t:j<=cap){ff bp}{d a}(m:(ff=n/\d=n)∨∃h g,ff=f (.int h g)/\d=f g)(o:(bp=n/\a=n)∨∃h g,bp=f (.int h g)/\a=f g)(b:U (jq j d a))(p):(aS ks j cap ff bp n).run P p=.ok (bW 0 d,bW j a,cap) p/\bW 0 d<=bW j a/\bW j a<=j:=by
 rcases m with⟨rfl,rfl⟩|⟨k,d,rfl,rfl⟩<;>rcases o with⟨rfl,rfl⟩|⟨s,a,rfl,rfl⟩
 .exact⟨by simp[aS,bW],by simp[bW],by simp[bW]⟩
 .obtain⟨e,i⟩:0<=a/\a<=(j:Int):=b;refine⟨?_,by simp[bW],by simp[bW];omega⟩;simp[aS,bW,run_sliceBound (P:=P) p s a cap _ e w]
 .obtain⟨e,i⟩:0<=d/\d<=(j:Int):=b;refine⟨?_,by simp[bW];omega,by simp[bW]⟩;simp[aS,bW,run_sliceBound (P:=P) p k d j _ e i]
 obtain⟨e,i,r⟩:0<=d/\d<=a/\a<=(j:Int):=b;have q:=rn w;refine⟨?_,by simp[bW];omega,by simp[bW];omega⟩;simp[aS,bW,run_sliceBound (P:=P) p s a cap _ w w,run_sliceBound (P:=P) p k d a.toNat _ e w]
def lk(p)(h)(e)(a:Nat)(code)(b:0<=e)(d:e<=(a:Int))(V):(Instr.sliceBound (.int h e) a code).events P p V=V:=by simp[Instr.sliceBound,asIntOf,b,d]
def vh{ks}{cap}{ff bp}{d a}(y:j<=cap)(q:(ff=n/\d=n)∨∃h g,ff=f (.int h g)/\d=f g)(r:(bp=n/\a=n)∨∃h g,bp=f (.int h g)/\a=f g)(b:U (jq j d a))(p)(V):(aS ks j cap ff bp n).events P p V=V:=by
 have u:∀ks (m:Option X) (o:Nat) p V,m=n->(aS ks j cap n n n).events P p V=V:=λks m o p V _=>by simp[aS]
 rcases q with⟨rfl,rfl⟩|⟨k,d,rfl,rfl⟩<;>rcases r with⟨rfl,rfl⟩|⟨i,a,rfl,rfl⟩
 .simp[aS]
 .obtain⟨e,s⟩:0<=a/\a<=(j:Int):=b;simp[aS,lk (P:=P) p i a cap _ e w]
 .obtain⟨e,s⟩:0<=d/\d<=(j:Int):=b;simp[aS,lk (P:=P) p k d j _ e s]
 obtain⟨e,s,x⟩:0<=d/\d<=a/\a<=(j:Int):=b;have t:=rn w;simp[aS,run_sliceBound (P:=P) p i a cap _ w w,lk (P:=P) p i a cap _ w w,lk (P:=P) p k d a.toNat _ e w]
def mx(a:m UInt8):Option Int->Option Int->m UInt8
 |none,n=>a
 |some d,n=>a.drop d.toNat
 |none,f b=>a.take b.toNat
 |some d,f b=>(a.take b.toNat).drop d.toNat
theorem a1.jW(a0:b3 P ac){s:ae}{ff bp}(B:r.op=.slice o s ff bp n){e}(I:b0 ac o=f e)(K:e.desc=.string){b}{d m}(M:η s=ax (.S b))(q:kL η ff=f d)(D:kL η bp=f m)(F:U (jq (c b) d m)):a1 P r η k (ax (.S (mx b d m))) k:=by
 refine .aR λi w E h=>?_;have g:=h s;rw[M]at g;replace g:=b8 g;generalize x:w s=O at g;cases g with
 |@S a _ C Q=>
 have A:a.size=c b:=by rw[<-C];exact ng.symm
 obtain⟨u,y,z⟩:=v' (P:=P) (ks:=v) (j:=a.size) (cap:=a.size) (bC _) (kj h q) (kj h D) N i.a;have t:=(a0 o e I).run_underlying (p:=i.a);rw[K]at t;have J:=vh (P:=P) (ks:=v) (j:=a.size) (cap:=a.size) (bC _) (kj h q) (kj h D) N i.a;refine⟨.string (a.extract (bW 0 d) (bW a.size m)),?_,Rd.S ?_ ?_,by simp[ab,B,x,Instr.sliceAt,t,Instr.slice,J]⟩
 .simp[ab,B,x,Instr.sliceAt,t,Instr.slice,u]
 .rw[Lib.extract_data,C,A];rw[A]at y z;cases d<;>cases m<;>simp only[mx,bW]at y z⊢
  .simp
  .simp
  .grind [List.take_of_length_le]
  rw[List.drop_take]
 cases d<;>cases m<;>simp[mx,sB,List.length_take]<;>omega
def fJ(d:Nat)(a:Nat->m M):Nat->m M:=λb=>a (d+b)
def xZ(eU:Bool):Option Int->Bool
 |none=>eU
 |some _=>v
theorem a1.jV(a0:b3 P ac){N:ae}{ff a}(S:r.op=.slice o N ff a n){e a5}(ai:b0 ac o=f e)(aj:e.desc=.slice W)(ak:b0 ac W=f a5){eU}{d s}(Z:∀X Y,bx k X Y (η N)->Rd X.D Y (.B eU a5.size j V))(u:kL η ff=f d)(T:kL η a=f s)(A:U (jq j d s)):
  a1 P r η k (ax (.B (xZ eU s) a5.size (bW j s-bW 0 d) (fJ (bW 0 d) V))) k:=by
 refine .aR λg an ag b=>?_;have m:=Z g _ (b N);obtain⟨O,i,z,K,R,Q,M,G,ah⟩:=m.b1;rw[K]at m;obtain⟨t,ao,y⟩:=v' (P:=P) (ks:=l) R (kj b u) (kj b T) A g.a;have F:=(a0 o e ai).run_underlying (p:=g.a);rw[aj]at F;refine⟨.slice (if i=bW 0 d then O else O.map (·.add (bW 0 d*a5.size))) (bW j s-bW 0 d) (i-bW 0 d),?_,?_,by simp[ab,S,K,Instr.sliceAt,F,Instr.slice,t,vh (P:=P) (ks:=l) R (kj b u) (kj b T) A g.a]⟩
 .simp[ab,S,K,Instr.sliceAt,F,Instr.slice,t,(a0 W a5 ak).bc]
 cases m with
 |B aa D af _ _ _ J I x B=>
  refine Rd.B aa (D+bW 0 d*a5.size) (λe C=>af (bW 0 d+e) C) w w ?_ (λe a=>J _ w) (λaq=>?_) (λe a C E q=>?_) (λe a C E q=>B _ w C E q)
  .intro h;cases s with
   |none=>simp[xZ]at h;have:=M h;simp[bW];omega
   |some s=>cases h
  .rw[bj w,I w];simp[g6]
  have:=x (bW 0 d+e) w C E q;grind
def a1.iF(a0:b3 P ac){b dst:an}{i:ae}(x:r.op=.convert b dst i){y m:cq}{h d}{u}(o:b0 ac b=f y)(z:b0 ac dst=f m)(B:m.desc=.int d)(C:η i=ax (.int h u))(e:a8 d u):
  a1 P r η k (ax (.int d u)) k:=by refine .aR λg s A q=>?_;have a:=q i;rw[C]at a;replace a:=b8 a;generalize t:s i=D at a;cases a;have w:=(a0 b y o).run_underlying (p:=g.a);have j:=(a0 dst m z).run_underlying (p:=g.a);rw[B]at j;exact⟨.int d u,by simp[ab,x,t,convert,w,j,Conv.intToInt,si e],Rd.int e,by simp[ab,x,t,convert,w,j,Conv.intToInt]⟩
theorem a1.iG(a0:b3 P ac){a dst:an}{g:ae}(u:r.op=.convert a dst g){w m:cq}{b}(i:b0 ac a=f w)(x:b0 ac dst=f m)(z:m.desc=.string)(A:η g=ax (.S b)):
  a1 P r η k (ax (.S b)) k:=by refine .aR λe o y j=>?_;have d:=j g;rw[A]at d;have t:=b8 d;generalize q:o g=B at t;cases t;have s:=(a0 a w i).run_underlying (p:=e.a);have h:=(a0 dst m x).run_underlying (p:=e.a);rw[z]at h;exact⟨_,by simp[ab,u,q,convert,s,h];rfl,by grind,by simp[ab,u,q,convert,s,h]⟩
def u2(a:Nat->m M):Nat->Nat->Option (m UInt8)
 |_,0=>f []
 |b,d+1=>match a b with
  |[.int .u8 g]=>match u2 a (b+1) d with
   |some e=>f (UInt8.ofNat g.toNat::e)
   |none=>n
  |_=>n
def Hi{bB}{s:Nat->m M}:∀{h e:Nat}{i:m UInt8}{z:m X},u2 s e h=f i->c z=h->(∀g,g<h->∀j,(s (e+g))[0]?=f j->∃o,z[g]?=f o/\Rd bB o j) ->
  ∃b:m Int,z=b.map (Value.int .u8)/\i=b.map (λk=>UInt8.ofNat k.toNat)
 |0,e,i,z,d,p,_=>by cases d;exact⟨[],by grind,a⟩
 |h+1,e,i,[],d,p,_=>by grind
 |h+1,e,i,o::z,d,p,q=>by
  simp[u2]at d;split at d
  .rename_i k C;split at d
   .rename_i D t;cases d;obtain⟨E,r,u⟩:=q 0 w (.int .u8 k) N
    simp at r;subst r;cases u;obtain⟨b,A,y⟩:=Hi (z:=z) t N (λg x j B=>by
     have:=q (g+1) w j N
     simpa using this)
    exact⟨k::b,by grind,by grind⟩
   grind
  grind
def MH{P}(p){e:X->ByteArray->Sem (ForInStep ByteArray)}(g:∀d b,e (.int .u8 d) b=pure (.yield (b.push (UInt8.ofNat d.toNat)))):∀(a:m Int)b,
  (forIn (m:=Sem) (a.map (Value.int .u8)) b e).run P p=.ok ⟨b.data++(a.map λd=>UInt8.ofNat d.toNat).toArray⟩ p
 |[],b=>by simp
 |d::a,b=>by simp only[mm,List.forIn_cons,g,cK,d',c_];rw[MH p g a];congr 2;apply Array.ext';simp[ByteArray.push]
end
def aT(p:af P)(w:Nat)(a:m ao)(s:ao)(u:bM)(i:m ar)(x:y)(e:m ar):Prop:=
  ∀h j,b1 w i h u j->bc i h->∀(k:aG) r g (o:ag->a6->Prop) q b,k.kind≠.early->a.toArray[q]?=f s ->
    (∀t d,bx e d t x->bc e d->dg i h e d->cg p o (G (k.ab (j.put s.dst t) (.inRegion a.toArray b::r)) g) d)->cg p o (G (k.ab j (.inRegion a.toArray (q::b)::r)) g) h
section
variable {q:af P}{dG:bM}{E:y}
theorem aT.aZ(N:∀k A e,b1 F k A J e->aO r (yielded all.toArray e.tmps)=l)(K:a1 P r (bE J) k E aq):aT q F all r J k E aq:=by
  intro A e w i R T D Q S u s t h;refine rz s t (N _ _ _ w) λo j=>?_;have m:=i.rely j;obtain⟨O,b,g,d,p,y,M⟩:=K o e.eval m (eM (w.rely j i));have x:=j.aT.trans (y.too4 m);have z:kG o b ((ab e.eval r).events P o.a #[]):=⟨⟨k,aq,m,p,y⟩,M⟩;cases O with
  |value C=>exact⟨_,b,C,g,.inl rfl,z,h C b d p x⟩
  |skip=>simp[AJ]at d;subst d;exact⟨_,b,I,g,.inr ⟨a,a⟩,z,h I b B p x⟩
  |_=>exact d.elim
def aT.hH(o:∀k j d,b1 F k j J d->aO r (yielded all.toArray d.tmps)=v):aT q F all r J k (.T []) k:=by intro j d s b w y m u x h t g e;exact .ctl b a (λ_=>acj g (o _ _ _ s)) λp i=>e I p ⟨[],a,B⟩ (b.rely i) i.aT
def fq.dj{aP:bM->m ar->Prop}(N:aT q F all r J k E aq)(M:∀p,r.dst=f p->p<F)(Q:fq q F all bq aP (gi r.dst E J) aq):fq q F all (r::bq) aP J k:=by
  intro S D t b C i e B idx g a x;cases idx with
  |nil=>exact a.elim
  |cons O idx=>
  refine N S D t b C i e B O idx g a.1 λT z y h d=>Q z _ ?_ h C i e B idx g a.2 λI o A s R u w j=>x I o A s R u w (d.trans j);cases K:r.dst with
  |none=>exact t.mono d b.len
  |some p=>exact(t.mono d b.len).put (M p K) y
end
abbrev bI:=m y->m ar->Option (y×m ar×m Prop)
def tn:m (Nat×bI)->Nat->Option bI
  |[],_=>n
  | (d,b)::e,a=>cond (ad d a) (f b) (tn e a)
def bL(g:af P)(h:aZ)(i:bI):Prop:=∀args e b d a,i args e=f (b,d,a)->U a->Y g h args e b d
def a'(e:af P)(a:m (Nat×bI)):Prop:=∀b d,tn a b=f d->bL e b d
def a'.nil{a:af P}:a' a []:=λ_ _ b=>by cases b
def a'.cons{d:af P}{e}{C}{CT}(j:bL d e C)(i:a' d CT):a' d ((e,C)::CT):=by
  intro b g a;simp[tn]at a;cases h:ad e b with
  |true=>grind[Nat.eq_of_beq_eq_true]
  |false=>rw[h]at a;exact i b g a
def ob:Q->m Nat->m Nat
  |.ptr b _,a=>cond (eo b a) a (a++[b])
  |.x b _ _ _,a=>cond (eo b a) a (a++[b])
  |.aP b,a=>cond (eo b a) a (a++[b])
  |.O b _,a=>cond (eo b a) a (a++[b])
  |_,a=>a
def Hg:m Q->m Nat->m Nat
  |[],a=>a
  |b::d,a=>Hg d (ob b a)
def qh:y->m Nat->m Nat
  |.n (.R d),a=>ob d a
  |.n (.agg b),a=>Hg b a
  |_,a=>a
def Hf:m y->m Nat->m Nat
  |[],a=>a
  |b::d,a=>Hf d (qh b a)
def tf(b:Nat):m Nat->Nat->Option Nat
  |[],_=>n
  |d::e,a=>match ad d b with|true=>f a|false=>tf b e (a+1)
def KB{d}:∀{b:m Nat} {e g:Nat},tf d b e=f g->e<=g/\b[g-e]?=f d
  |[],_,_,a=>by cases a
  |i::o,e,g,a=>by
    simp[tf]at a;cases h:ad i d with
    |true=>simp_all
    |false=>
      rw[h]at a;obtain⟨j,k⟩:=KB a;grind
def tZ(a:m Nat):Q->Option Q
  |.ptr d e=>match tf d a 0 with|some b=>f (.ptr b e)|none=>n
  |.aP d=>match tf d a 0 with|some b=>f (.aP b)|none=>n
  |.O d g=>match tf d a 0 with|some b=>f (.O b g)|none=>n
  |.x _ _ _ _=>n
  |.c h=>f (.c h)
  |.any=>f .any
def zY(a:m Nat):m Q->Option (m Q)
  |[]=>f []
  |b::g=>match tZ a b with
    |some d=>match zY a g with
      |some e=>f (d::e)
      |none=>n
    |none=>n
def E'(a:m Nat):y->Option y
  |.n (.R e)=>match tZ a e with|some b=>f (.n (.R b))|none=>n
  |.n (.agg d)=>match zY a d with|some b=>f (.n (.agg b))|none=>n
  |.T _=>n
  |.any=>f .any
def t0(a:m Nat):m y->Option (m y)
  |[]=>f []
  |b::g=>match E' a b with
    |some d=>match t0 a g with
      |some e=>f (d::e)
      |none=>n
    |none=>n
def NT{b i}(a:tZ aY b=f i):ky aY i=b/\l1 (c aY) i=l:=by
  cases b with
  |ptr d k=>
    simp[tZ]at a;split at a
    · rename_i e bp
      cases a;exact FS
    grind
  |aP d=>
    simp[tZ]at a;split at a
    · rename_i e bp
      cases a;exact FS
    grind
  |O d m=>
    simp[tZ]at a;split at a
    · rename_i e bp
      cases a;exact FS
    grind
  |x d h j g=>cases a
  |c o=>cases a;exact cX
  |any=>cases a;exact cX
def NW{aY}:∀{d b:m Q},zY aY d=f b->qQ aY b=d/\lp (c aY) b=l
  |[],b,a=>by cases a;exact cX
  |d::p,b,a=>by
    simp[zY]at a;split at a
    · rename_i q k
      split at a
      · rename_i o e
        cases a;obtain⟨i,g⟩:=NT k;obtain⟨j,h⟩:=NW e;exact⟨by simp[qQ,i,j],by simp[lp,g,h]⟩
      grind
    grind
def aeB{b i}(a:E' aY b=f i):fm aY i=b/\h0 (c aY) i=l:=by
  unfold E' at a;split at a
  · rename_i b
    split at a
    · rename_i j e;cases a;obtain⟨d,h⟩:=NT e;exact⟨by simp[fm,pA,d],by exact cX⟩
    grind
  · rename_i g
    split at a
    · rename_i j e;cases a;obtain⟨d,h⟩:=NW e;exact⟨by simp[fm,pA,d],by exact cX⟩
    grind
  · cases a
  · cases a;exact cX
def NV{aY}:∀{d b:m y},t0 aY d=f b->gu aY b=d/\hk (c aY) b=l
  |[],b,a=>by cases a;exact cX
  |d::p,b,a=>by
    simp[t0]at a;split at a
    · rename_i q k
      split at a
      · rename_i o e
        cases a;obtain⟨i,g⟩:=aeB k;obtain⟨j,h⟩:=NV e;exact⟨by simp[gu,i,j],by simp[hk,g,h]⟩
      grind
    grind
def B2(j:m (Nat×bI))(q:bM)(k:m ar)(o:ae)(p:m ae):Option (y×m ar×m Prop):=
  match g7 (bE q o)with
  |none=>n
  |some (r,g)=>match tn j r with
    |none=>n
    |some s=>
      let args:=lb (p.map (bE q)++fj g);let a:=Hf args []
      match t0 a args with
      |none=>n
      |some d=>match dz a k with
        |none=>n
        |some e=>match s d e with
          |none=>n
          |some (i,b,h)=>match eA e,eA b,fl a,ay (c a) (c b) with
            |true,l,l,l=>f (fm (a++g0 (c k) (c b-c a)) i,dd a b k,h)
            |_,_,_,_=>n
theorem aT.gT{I:af P}{CT}(p:a' I CT)(H:∀k g b,b1 F k g J b->aO r (yielded all.toArray b.tmps)=l)(e:r.op=.call {callee:=.value cQ,args:=ah,argTypes:=dt}){i}(h:g7 (bE J cQ)=f (i,cap)){C}(aw:tn CT i=f C){aX}{res}(M:t0 aY (lb (ah.toList.map (bE J)++fj cap))=f cS)(X:dz aY k=f di)(aq:C cS di=f (res,aX,cp))(Z:eA di=l)(av:eA aX=l)(y:fl aY=l)(Y:c aY<=c aX)(ao:U cp):aT I F all r J k (fm (aY++g0 (c k) (c aX-c aY)) res) (dd aY aX k):=by
  obtain⟨ak,W⟩:=NV M;intro g b A t az aj ab ax aB D s u q;have S:=p i C aw _ _ _ _ _ aq ao;have T:=eM A cQ;unfold g7 at h;split at h
  case h_2=>cases h
  case h_1 vj u7 he=>
    cases h;rw[he]at T;have O:=b8 T;generalize G:b.eval cQ=ag at O;cases O with
    |fn m a x d ae j ai o ar B=>
      have Q:m=[]:=jK x;subst Q;have an:b5 k g a (fj cap):=qj (λz aa w=>⟨j z,o z N,B z aa w⟩) d;have au:b5 k g (ah.toList.map b.eval++a) (gu aY cS):=by rw[ak];exact u6 ((nc (eM A) ah.toList).append an)
      obtain⟨fn,V,R,K⟩:=S.1;exact GV s u (H _ _ _ A) t (λE=>(mT e V R K G E).1) (λE=>(mT e V R K G E).2) S au W X Z av y Y q
theorem aT.call{b:af P}{CT}(g:a' b CT){E}(p:∀k j d,b1 F k j J d->aO r (yielded all.toArray d.tmps)=l)(i:r.op=.call {callee:=.value cQ,args:=ah,argTypes:=dt})(a:B2 CT J k cQ ah.toList=f (E,aq,cp))(m:U cp):aT b F all r J k E aq:=by
  unfold B2 at a;split at a
  · cases a
  rename_i q e h;split at a
  · cases a
  rename_i s o;simp only at a;split at a
  · cases a
  grind[aT.gT,Nat.le_of_ble_eq_true]
def Mv{g}(e:h0 0 g=l):fm [] g=g:=by
  have j:∀{a:Q},l1 0 a=l->ky [] a=a:=by intro a d;cases a<;>simp[l1]at d<;>first|rfl|simp_all
  have p:∀{b:m Q},lp 0 b=l->qQ [] b=b:=by
    intro b;induction b with
    |nil=>exact cX
    |cons a q h=>
      intro e;simp[lp]at e;cases d:l1 0 a with
      |false=>grind
      |true=>simp[d]at e;simp[qQ,j d,h e]
  have i:∀{a:E1},pp 0 a=l->pA [] a=a:=by
    intro a d;cases a with
    |R a=>simp[pA,j d]
    |agg o=>simp[pA,p d]
  have k:∀{b:m E1},oz 0 b=l->tE [] b=b:=by
    intro b;induction b with
    |nil=>exact cX
    |cons a q h=>
      intro e;simp[oz]at e;cases d:pp 0 a with
      |false=>grind
      |true=>simp[d]at e;simp[tE,i d,h e]
  cases g with
  |n s=>simp[fm,i e]
  |T r=>simp[fm,k e]
  |any=>rfl
def B3(g:m (Nat×bI))(j:bM)(h:ae)(i:m ae):Option (y×m Prop):=
  match g7 (bE j h)with
  |none=>n
  |some (k,d)=>match tn g k with
    |none=>n
    |some o=>match t0 [] (lb (i.map (bE j)++fj d))with
      |none=>n
      |some a=>match o a []with
        |some (b,[],e)=>match h0 0 b with
          |true=>f (b,e)
          |false=>n
        |_=>n
theorem aT.iy{P:aD}{o:af P}{F}{all}{J}{k}{r}{CT}(h:a' o CT){cQ}{ah}{dt}{E}{cp}(x:∀k y p,b1 F k y J p->aO r (yielded all.toArray p.tmps)=l)(j:r.op=.call {callee:=.value cQ,args:=ah,argTypes:=dt})(b:AM.B3 CT J cQ ah.toList=f (E,cp))(t:U cp):aT o F all r J k E k:=by
  unfold AM.B3 at b;split at b
  · cases b
  rename_i z q i;split at b
  · cases b
  rename_i A u;split at b
  · cases b
  rename_i g e;split at b
  case h_2=>cases b
  rename_i s m d;split at b
  case h_2=>cases b
  rename_i w;cases b;have:=aT.gT (k:=k) h x j i u e a d a a a (bC _) t;simpa[g0,Mv w,dd]using this
structure mf(F:Nat)(k:m ar)(b:a6)(Gw:Nat->y)(x:Act):Prop where
 size:x.tmps.size=F
 defers:∃nL,jh k b x.defers nL
 aK:∀o,bx k b (x.tmps.getD o I) (Gw o)
def mf.fh{e:Nat->y}{g}(d:mf F k b e g)(i:∀a k b h,bx k b h (e a)->bx k b h (look J a)):b1 F k b J g:=
 ⟨d.size,d.defers,λa=>i a _ _ _ (d.aK a)⟩
def eY(a:Edge):Bool:=Region.binds .any a
structure rg{P:aD}(q:af P)(F:Nat)(aV:Array ao)(J:bM)(br:Nat->m ar)(E:Nat->y)(T:Nat->bM)(qv s:Nat->Bool)(A:Nat->Nat->Prop)(idx:Nat->Option Nat)(dG:bM):Prop where
 kh:P.follows Departure.mixedOrders=l
 cT:∀e r,aV[e]?=f r->∀ak∈r.after,eY ak=l->ak.on<e
 e1:∀e r O,aV[e]?=f r->r.dst=f O->idx O=f e/\O<F
 dU:∀O e,idx O=f e->∃r,aV[e]?=f r/\r.dst=f O
 aR:∀e,s e=v->br (e+1)=br e
 R:∀e r,aV[e]?=f r->qv e=v->aT q F aV.toList r (T e) (br e) (E e) (br (e+1))
 all:∀e r,aV[e]?=f r->qv e=l->s e=v/\∀h,aT q F aV.toList r (T e) (br h) (E e) (br h)
 fs:∀L:Nat->Prop,(∀e r,aV[e]?=f r->L e->∀ak∈r.after,eY ak=l->L ak.on)->∀e u,A e u->(L e->L u)/\∃r,aV[e]?=f r/\((∀ak∈r.after,eY ak=l->L ak.on)->L u)
 comp:∀e aj,e<aV.size->aj<aV.size->s aj=l->e≠aj->qv e=v->(aj<e/\A e aj)∨(e<aj/\A aj e)
 e0:∀e r,aV[e]?=f r->∀o k b aa,bx k b aa (match idx o with|some u=>(if ∃ak∈r.after,eY ak=l/\ak.on=u then E u else if ∃vQ,aV[u]?=f vQ/\∃ak∈vQ.after,eY ak=l/\ak.on=e then look J o else .any)|none=>look J o)->bx k b aa (look (T e) o)
 fin:∀o k b aa,bx k b aa (match idx o with|some u=>E u|none=>look J o)->bx k b aa (look dG o)
open Classical in
noncomputable def gL(b:bM)(e:Nat->y)(idx:Nat->Option Nat)(L:Array Bool)(a:Nat):y:=
 match idx a with
 |some d=>if L.getD d v=l then e d else look b a
 |none=>look b a
theorem pt:e∈aL .any aV L↔∃h,aV[e]?=f h/\L.getD e l=v/\∀a∈h.after,eY a=l->L.getD a.on v=l:=by
 unfold aL;simp[jm,rr,cm,jl];constructor
 .rintro⟨b,C,i⟩;rw[iQ b]at i;simp only[lK,ia,Array.all_eq_true',jL,jl]at i;refine⟨aV[e],iQ b,C,λa d g=>?_⟩;rcases i a d with k|k
  .unfold eY at g;grind
  grind
 rintro⟨h,b,C,i⟩;have j:e<aV.size:=(jk.1 b).1;refine⟨j,C,?_⟩;rw[b];simp only[lK,ia,Array.all_eq_true',jL,jl];intro a d;cases g:Region.binds .any a with
 |false=>grind
 |true=>exact .inr (i a d g)
section
variable {q:af P}{dG:bM}{br:Nat->m ar}{E:Nat->y}{T:Nat->bM}{qv s:Nat->Bool}{A:Nat->Nat->Prop}{idx:Nat->Option Nat}
def rg.chain(j:rg q F aV J br E T qv s A idx dG){e}:∀{h:Nat},e<=h->(∀b,e<=b->b<h->s b=v)->br h=br e
 |0,g,_=>by grind
 |h+1,g,i=>by
  rcases dY h e with a|a
  .grind
  rw[j.aR h (i h a w),j.chain (h:=h) a (λb d k=>i b d w)]
def rg.last(j:rg q F aV J br E T qv s A idx dG)(C:∀p,p<aV.size->L.getD p v=l){h}{e}{m}(k:h<=aV.size)(K:∀i,i<aV.size->s i=l->(L.getD i v=l↔i<h))(o:mf F (br h) b (gL J E idx L) m)(a:bc (br h) b)(g:dg (br 0) e (br h) b):
  b1 F (br aV.size) b dG m/\bc (br aV.size) b/\dg (br 0) e (br aV.size) b:=by
 have w:br aV.size=br h:=j.chain k (λD x y=>by grind);rw[<-w]at o a g;refine⟨o.fh λt u b B r=>j.fin t u b B ?_,a,g⟩;unfold gL at r;cases d:idx t with
 |none=>grind
 |some I=>
  simp only[d]at r⊢;obtain⟨M,z,_⟩:=j.dU _ _ d;grind
theorem mF(a:e<L.size):(L.setIfInBounds e l).getD u v=l↔u=e∨L.getD u v=l:=F9
theorem xY:∀{d:m Bool}{e:Nat},d[e]?=f v->c ((d.set e l).filter (λa=>!a))+1=c (d.filter (λa=>!a))
 |[],_,b=>by grind
 |a::g,0,b=>by grind
 |a::g,e+1,b=>by simp at b;have:=xY (d:=g) b;cases a<;>simp[List.set_cons_succ]<;>omega
theorem DF(o)(L):Region.linearise.go .any aV 0 o L []=[]:=by simp[Region.linearise.go]
theorem vI(j o)(L):Region.linearise.go .any aV (j+1) o L []=match(aL .any aV L)[o % c (aL .any aV L)]? with
  |some a=>a::Region.linearise.go .any aV j (o / c (aL .any aV L)) (L.setIfInBounds a l) []
  |none=>[]:=by
 simp only[Region.linearise.go]
 change (match(aL .any aV L)[o % c (aL .any aV L)]? with
   |some a=>Region.linearise.go .any aV j (o / c (aL .any aV L)) (L.setIfInBounds a l) [a]
   |none=>[].reverse)=_
 grind[linearise_go_acc]
def rg.eR(t:rg q F aV J br E T qv s A idx dG){ab:ag->a6->Prop}{r:aG}{z}(I:r.kind≠.early){cH}(aK:∀b d,b1 F (br aV.size) b dG d->bc (br aV.size) b->dg (br 0) cH (br aV.size) b->cg q ab (G (r.ab d z) ai) b):
  ∀O L,L.size=aV.size->c (L.toList.filter (λr=>!r))<=O ->
   (∀e B,aV[e]?=f B->L.getD e v=l->∀m∈B.after,eY m=l->L.getD m.on v=l) ->
   ∀j b d,j<=aV.size->(∀g,g<aV.size->s g=l->(L.getD g v=l↔g<j))->mf F (br j) b (gL J E idx L) d->bc (br j) b->dg (br 0) cH (br j) b ->
   ∀k,cg q ab (G (r.ab d (.inRegion aV (Region.linearise.go .any aV O k L [])::z)) ai) b:=by
 have fin:∀b d,b1 F (br aV.size) b dG d->bc (br aV.size) b->dg (br 0) cH (br aV.size) b->cg q ab (G (r.ab d (.inRegion aV []::z)) ai) b:=
  λb d kH ka Gx=>.ctl ka a (λ_=>wd) λaY aF=>aK aY d (kH.rely aF ka) (ka.rely aF) (Gx.trans aF.aT)
 intro O;induction O with
 |zero=>
  intro L aS aN K j b d bY Dl ox bR b_;have Q:∀e,e<aV.size->L.getD e v=l:=by
   intro e u;have av:L[e]'w∈L.toList:=D;cases I:L[e]'w with
   |true=>simp[hH,iQ (by omega:e<L.size),I]
   |false=>
    have:L[e]'w∈L.toList.filter (λr=>!r):=jm.2 ⟨av,by grind⟩;grind
  intro k;rw[DF];exact O7
 |succ O aX=>
  intro L aS aN K j b d bY Dl ox bR b_;intro k;rw[vI];cases ba:(aL .any aV L)[k % c (aL .any aV L)]? with
  |none=>
   have aR:aL .any aV L=[]:=by
    cases aR:aL .any aV L with
    |nil=>rfl
    |cons bd bb=>
     grind[Nat.mod_lt]
   have Q:∀e,e<aV.size->L.getD e v=l:=by
    intro e;induction e using Nat.strongRecOn with
    |_ e a8=>
     intro u;cases I:L.getD e v with
     |true=>rfl
     |false=>
      have av:e∈aL .any aV L:=pt.2 ⟨aV[e],iQ u,by
       grind,λm X af=>by
       have:=t.cT e _ (iQ u) m X af
       grind⟩
      grind
   exact O7
  |some e=>
   have u:=ca ba;obtain⟨B,x,a5,aO⟩:=pt.1 u;have aE:e<aV.size:=(jk.1 x).1;have H:¬L.getD e v=l:=N;have S:=t.fs (λV=>L.getD V v=l) K;have aC:∀i,A i e->¬L.getD i v=l:=λi an aJ=>H ((S i e an).1 aJ);have a7:∀i,A e i->L.getD i v=l:=λi an=>by grind
   have M:(L.setIfInBounds e l).size=aV.size:=N;have a9:c ((L.setIfInBounds e l).toList.filter (λr=>!r))<=O:=by have h:L.toList[e]?=f v:=RU;grind[xY]
   have a':∀V aB,aV[V]?=f aB->(L.setIfInBounds e l).getD V v=l->∀m∈aB.after,eY m=l->(L.setIfInBounds e l).getD m.on v=l:=wQ
   have ak:b1 F (br j) b (T e) d:=ox.fh λk a_ b Z Y=>t.e0 e B x k a_ b Z (by
    unfold gL at Y;cases bk:idx k with
    |none=>grind
    |some V=>
     simp only[bk]at Y⊢;split
     .grind
     .split
      .grind
      .trivial)
   have aP:∀C o Z,dg (br j) b C o->bx C o Z (E e)->mf F C o (gL J E idx (L.setIfInBounds e l)) (d.put B.dst Z):=by
    intro C o Z W Y;cases aM:B.dst with
    |none=>
     refine⟨ox.size,ox.defers.imp λ_ h=>h.mono W.ext,λk=>?_⟩;have p:=(ox.aK k).mono W.ext bR.len;simp only[Act.put];unfold gL at p⊢;cases bk:idx k with
     |none=>grind
     |some V=>
      exact Py
    |some aI=>
     obtain⟨ar,a4⟩:=t.e1 e B aI x aM;refine⟨by simp[Act.put,ox.size],ox.defers.imp λ_ h=>h.mono W.ext,λk=>?_⟩;simp only[Act.put];by_cases m:aI=k
     .subst m;have ax:aI<d.tmps.size:=by rw[ox.size];omega
      simp only[hH,uP ax,ia];unfold gL;simp only[ar];rw[bl ((mF w).2 (.inl a))];exact Y
     have p:=(ox.aK k).mono W.ext bR.len;simp only[hH]at p⊢;rw[sL m];unfold gL at p⊢;cases bk:idx k with
     |none=>grind
     |some V=>
      exact Py
   have aZ:∀y,y<=aV.size->aT q F aV.toList B (T e) (br j) (E e) (br y)->(∀g,g<aV.size->s g=l->((L.setIfInBounds e l).getD g v=l↔g<y)) ->
     cg q ab (G (r.ab d (.inRegion aV (e::Region.linearise.go .any aV O (k / c (aL .any aV L)) (L.setIfInBounds e l) [])::z)) ai) b:=by intro y au aw U;have:=aw b d ak bR r z ai ab e (Region.linearise.go .any aV O (k / c (aL .any aV L)) (L.setIfInBounds e l) []) I N;simp only[w8]at this;exact this λZ o Y aq W=>aX _ M a9 a' y o _ au U (aP _ _ _ W Y) aq (b_.trans W) _
   have same:s e=v->∀g,g<aV.size->s g=l->((L.setIfInBounds e l).getD g v=l↔g<j):=wQ;cases az:qv e with
   |true=>
    obtain⟨aQ,R⟩:=t.all e B x az;exact aZ j bY (R j) (same aQ)
   |false=>
    have aD:=t.R e B x az;have a2:br e=br j:=by
     rcases Nat.le_total j e with aH|aH
     .refine t.chain aH λi h ae=>?_;cases X:s i with
      |false=>rfl
      |true=>
       exfalso;rcases t.comp e i aE w X w az with⟨_,aa⟩|⟨aa,_⟩
       .grind
       omega
     refine(t.chain aH λi h ae=>?_).symm;cases X:s i with
     |false=>rfl
     |true=>
      exfalso;have a3:=(Dl i w X).2 ae;by_cases ao:i=e
      .grind
      rcases t.comp e i aE w X (λm=>ao m.symm) az with⟨aa,_⟩|⟨_,aa⟩
      .omega
      grind
    rw[a2]at aD;cases a0:s e with
    |false=>
     rw[t.aR e a0,a2]at aD;exact aZ j bY aD (same a0)
    |true=>
     refine aZ (e+1) w aD λg ah aj=>?_;rw[mF w];by_cases a1:g=e
     .grind
     simp only[a1,false_or];rcases t.comp e g aE ah aj (λm=>a1 m.symm) az with⟨h,aa⟩|⟨h,aa⟩
     .grind
     grind
end
def w0(P:aD):m TypeDesc->m Field->Nat->Prop
 |[],[],_=>True
 |e::a,b::d,g=>b.name≠ "_"/\b.offset=g/\P.underlying b.type=f e/\(match e with|.int _|.string|.bool=>True|_=>False)/\w0 P a d (g+1)
 |_,_,_=>False
def vf(g:Nat)(b d:Array X)(a:Field)(_:Option Bool×Unit):Sem (ForInStep (Option Bool×Unit)):=
 if a.name= "_" then pure (ForInStep.yield (n,()))
 else do
  let e<-part a.type b a.offset;let i<-part a.type d a.offset;let h<-aK g a.type e i
  if h=v then pure (ForInStep.done (f v,()))else pure (ForInStep.yield (n,()))
def MG{P}(p)(u)(ah e):∀{h:m TypeDesc}{s:m Field}{g:Nat}{z x:m X}{j:Bool},w0 P h s g->nt h z x=f j->(∀o d,z[o]?=f d->ah[g+o]?=f d)->(∀o d,x[o]?=f d->e[g+o]?=f d) ->
  (Op.eqFields (u+1) ah e s).run P p=.ok j p/\∀b,(forIn s (n,()) (vf (u+1) ah e)).events P p b=b
 |[],[],g,[],[],j,_,i,_,_=>by cases i;simp[Op.eqFields]
 |[],[],g,_::_,_,j,_,i,_,_=>by cases i
 |[],[],g,[],_::_,j,_,i,_,_=>by cases i
 |[],_::_,g,_,_,j,I,_,_,_=>I.elim
 |_::_,[],g,_,_,j,I,_,_,_=>I.elim
 |B::h,k::s,g,[],_,j,_,i,_,_=>by cases i
 |B::h,k::s,g,_::_,[],j,_,i,_,_=>by cases i
 |B::h,k::s,g,d::z,q::K,j,⟨O,U,J,V,G⟩,i,y,M=>by
  simp[nt]at i;cases w:rL B d q with
  |none=>grind
  |some C=>
   cases Q:nt h z K with
   |none=>grind
   |some W=>
    simp[w,Q]at i;subst i;obtain⟨aa,Z⟩:=MG p u ah e G Q (λo d H=>by have:=y (o+1) d N;grind) (λo d H=>by have:=M (o+1) d N;grind);have E:ah[g]?=f d:=by simpa using y 0 d a
    have D:e[g]?=f q:=by simpa using M 0 q a
    have S:(isAgg k.type).run P p=.ok v p:=by unfold isAgg underlying;cases B<;>simp at V<;>simp[J]
    have A:∀r t,r[g]?=f t->(part k.type r k.offset).run P p=.ok t p:=by intro r t F;unfold part;simp[S,U,F]
    have T:∀r t,r[g]?=f t->∀b,(part k.type r k.offset).events P p b=b:=by intro r t F b;unfold part;simp[S,U,F]
    have Y:∀b,(aK (u+1) k.type d q).events P p b=b:=by
     intro b;unfold rL at w;split at w<;>first
      |(cases w;done)
      |(unfold aK;simp[underlying,J];done)
      |(unfold aK;simp[underlying,J];split<;>rfl)
    have R:(aK (u+1) k.type d q).run P p=.ok C p:=by unfold rL at w;grind[run_equalIn_int,run_equalIn_string,run_equalIn_bool]
    refine⟨?_,λb=>?_⟩
    .rw[Op.eqFields.eq_2,bl O];simp[cK,A ah d E,A e q D,R,c_];cases C
     .simp
     grind
    rw[List.forIn_cons];simp[vf,O,dn,aC,cK,A ah d E,A e q D,R,c_,aE,T ah d E,T e q D,Y];cases C
    .simp
    simpa using Z b
def Zl{e:m Field}{bf}(i:P.underlying o=f (.struct e.toArray))(k:P.stoodInHeld o=v)(u:P.eqGuardType P.depth o=v)(p:w0 P bf e 0):
  P.eqGuardType P.depth o=v/\∀d z b g,nt bf z b=f g->(Op.equal o (.agg z.toArray) (.agg b.toArray)).run P d=.ok g d/\∀a,(Op.equal o (.agg z.toArray) (.agg b.toArray)).events P d a=a:=by
 refine⟨u,λd z b g r=>?_⟩;have y:P.fieldsOf o=e.toArray:=by unfold Program.fieldsOf;rw[i]
 have key:=MG d 9998 z.toArray b.toArray p r (λt x q=>by grind) (λt x q=>by grind);refine⟨?_,λa=>?_⟩
 rotate_left
 .show (aK (9999+1) o _ _).events P d a=a;have s:=key.2 a;unfold aK;simp[underlying,i,k];show Result.evThen ((forIn e (n,()) (vf 9999 z.toArray b.toArray)).run P d) ((forIn e (n,()) (vf (9998+1) z.toArray b.toArray)).events P d a) _=a;rw[s];cases(forIn e (n,()) (vf 9999 z.toArray b.toArray)).run P d with
  |ok j h=>obtain⟨w,_⟩:=j;cases w<;>rfl
  |halt A h=>rfl
 show(aK (9999+1) o _ _).run P d=_;grind[run_equalIn_agg]
def qm:m TypeDesc->m Q->m Q->Option Bool
 |[],[],[]=>f l
 |.int _::b,.c (.int j e)::a,.c (.int i g)::d=>match tg j i with
  |true=>match qm b a d with
   |some h=>f ((e==g)&&h)
   |none=>n
  |false=>n
 |.string::b,.c (.S e)::a,.c (.S g)::d=>match qm b a d with
  |some h=>f ((e==g)&&h)
  |none=>n
 |.bool::b,.c (.bool e)::a,.c (.bool g)::d=>match qm b a d with
  |some h=>f ((e==g)&&h)
  |none=>n
 |_,_,_=>n
def Cz:∀{i:m TypeDesc}{g j:m Q}{A:Bool}{z a:m X},qm i g j=f A->bP k b z g->bP k b a j->nt i z a=f A:=by
 intro i;induction i with
 |nil=>
  intro g j A z a o r q;cases g<;>cases j<;>simp only[qm,reduceCtorEq]at o
  cases z<;>cases a<;>first|exact r.elim|exact q.elim|exact cX
 |cons J i s=>
  intro g j A z a o r q;unfold qm at o;split at o
  .grind
  .rename_i d u h t B I e dI heq;cases heq;split at o
   .rename_i bY;cases Dv bY;split at o
    .rename_i D C;cases o;cases z with
     |nil=>exact r.elim
     |cons x z=>cases a with
      |nil=>exact q.elim
      |cons y a=>
       obtain⟨p,w⟩:=r;obtain⟨w1,w2⟩:=q;cases(show Rd b.D x (.int h t)from p);cases(show Rd b.D y (.int h e)from w1);simp[nt,rL,s C w w2]
    grind
   grind
  .rename_i u t B e dI heq;cases heq;split at o
   .rename_i D C;cases o;cases z with
    |nil=>exact r.elim
    |cons x z=>cases a with
     |nil=>exact q.elim
     |cons y a=>
      obtain⟨p,w⟩:=r;obtain⟨w1,w2⟩:=q;cases(show Rd b.D x (.S t)from p)with
      |S E _=>
      cases(show Rd b.D y (.S e)from w1)with
      |S F _=>
      simp[nt,rL,s C w w2];grind[ByteArray.toList_eq]
   grind
  .rename_i u t B e dI heq;cases heq;split at o
   .rename_i D C;cases o;cases z with
    |nil=>exact r.elim
    |cons x z=>cases a with
     |nil=>exact q.elim
     |cons y a=>
      obtain⟨p,w⟩:=r;obtain⟨w1,w2⟩:=q;cases(show Rd b.D x (.bool t)from p);cases(show Rd b.D y (.bool e)from w1);simp[nt,rL,s C w w2]
   grind
  grind
section
variable {ac:m (Nat×cq)}
def ij:BinOp->Bool->Option Bool
 |.eql,a=>f a
 |.neq,a=>f (!a)
 |_,_=>n
def G4{E bD}{i s}(O:match E,bD with|.agg _,.agg _=>True|.bool _,.bool _=>True|_,_=>False)(x:(Op.equal o E bD).run P p=.ok i p)(t:ij op i=f s):
  (binOp op o E bD).run P p=.ok (.bool s) p:=by
 cases op<;>simp[ij,reduceCtorEq,e']at t
 .exact Q_
 exact Q_
def I2{E bD}{i s}(b:match E,bD with|.agg _,.agg _=>True|.bool _,.bool _=>True|_,_=>False)(e:(Op.equal o E bD).run P p=.ok i p)(a:∀V,(Op.equal o E bD).events P p V=V)(d:ij op i=f s)(V):
  (binOp op o E bD).events P p V=V:=by cases op<;>simp[ij,reduceCtorEq,e']at d<;>(cases E<;>cases bD<;>simp only at b<;>simp[binOp,a])
def Vv(op)(o)(d e)(ah a)(p)(b:P.eqGuardType P.depth o=v)(V):(eqGuard op o d e (.agg ah) (.agg a)).events P p V=V:=by cases op<;>simp[eqGuard,b]
theorem a1.j4(a0:b3 P ac){E bD:ae}(w:r.op=.binOp op o E bD ty){e}(p:b0 ac o=f e)(F:e.eq≠[]){ai V}{i s}(J:η E=.n (.agg ai))(I:η bD=.n (.agg V))(q:qm e.eq ai V=f i)(A:ij op i=f s):a1 P r η k (ax (.bool s)) k:=by refine .aR λa K D g=>?_;have b:=g E;have d:=g bD;rw[J]at b;rw[I]at d;obtain⟨z,y,m⟩:=b;obtain⟨h,x,j⟩:=d;obtain⟨t,heq⟩:=(a0 o e p).iK F;have u:=G4 (E:=.agg z.toArray) (bD:=.agg h.toArray) B (heq a.a z h i (Cz q m j)).1 A;have C:=I2 (E:=.agg z.toArray) (bD:=.agg h.toArray) B (heq a.a z h i (Cz q m j)).1 (heq a.a z h i (Cz q m j)).2 A;refine⟨.bool s,?_,Rd.bool,by simp[ab,w,y,x,aC,run_eqGuard_agg a.a op o E bD _ _ t,Vv op o E bD _ _ a.a t,aE,cK,c_,u,C,Sem.events_pure]⟩;simp[ab,w,y,x,cK,run_eqGuard_agg a.a op o E bD _ _ t,c_,u,d']
theorem a1.iw(a0:b3 P ac){E bD:ae}(x:r.op=.binOp op o E bD ty){e}(q:b0 ac o=f e)(F:e.desc=.bool){g i s}(J:η E=ax (.bool g))(I:η bD=ax (.bool i))(z:ij op (g==i)=f s):a1 P r η k (ax (.bool s)) k:=by
 refine .aR λh m C j=>?_;have b:=j E;have d:=j bD;rw[J]at b;rw[I]at d;replace b:=b8 b;replace d:=b8 d;generalize w:m E=K at b;generalize y:m bD=M at d;cases b;cases d;have t:P.underlying o=f .bool:=by rw[(a0 o e q).eg,F]
 have u:=G4 (P:=P) (p:=h.a) (E:=.bool g) (bD:=.bool i) B (run_equal_bool h.a o g i t) z;have D:∀a,(Op.equal o (.bool g) (.bool i)).events P h.a a=a:=λa=>by show(aK (9999+1) o _ _).events P h.a a=a;unfold aK;simp[underlying,t]
 have A:=I2 (P:=P) (p:=h.a) (E:=.bool g) (bD:=.bool i) B (run_equal_bool h.a o g i t) D z;refine⟨.bool s,?_,Rd.bool,by simp[ab,x,w,y,aC,eqGuard_at_bool,Sem.events_pure,d',aE,cK,c_,u,A]⟩;simp[ab,x,w,y,cK,eqGuard_at_bool,d',c_,u]
def a1.j'{m p:ae}(t:r.op=.binOp .xor o m p ty){a i}(C:η m=ax (.int .i64 a))(B:η p=ax (.int .i64 i))(J:0<=a)(x:0<=i):
  a1 P r η k (ax (.int .i64 ((a.toNat ^^^ i.toNat:Nat):Int))) k:=by
 refine .aR λu j y h=>?_;have b:=h m;have d:=h p;rw[C]at b;rw[B]at d;replace b:=b8 b;replace d:=b8 d;generalize q:j m=D at b;generalize s:j p=E at d;cases b with|int e=>
 cases d with|int g=>
 have I:a.toNat ^^^ i.toNat<2 ^ 63:=by apply Nat.xor_lt_two_pow<;>simp[a8]at e g<;>omega
 have z:a8 .i64 ((a.toNat ^^^ i.toNat:Nat):Int):=cX;refine⟨.int .i64 ((a.toNat ^^^ i.toNat:Nat):Int),?_,.int z,?_⟩
 rotate_left
 .simp only[ab,t,q,s,aC,qn,yg,aE,Go.binOp,ea,hI,dn,Op.intBits,cK,c_,d',Sem.events_pure]
 have w:((BitVec.ofInt 64 a) ^^^ (BitVec.ofInt 64 i)).toNat=a.toNat ^^^ i.toNat:=by rw[BitVec.toNat_xor,BitVec.toNat_ofInt,BitVec.toNat_ofInt];simp[a8]at e g;congr 1<;>omega
 have F:(BitVec.ofInt IntKind.i64.bits a ^^^ BitVec.ofInt IntKind.i64.bits i).toNat=a.toNat ^^^ i.toNat:=w;have A:(Go.binOp .xor o (.int .i64 a) (.int .i64 i)).run P u.a=.ok (.int .i64 ((a.toNat ^^^ i.toNat:Nat):Int)) u.a:=by simp only[Go.binOp,ea,hI,dn,Op.intBits,d'];grind[si]
 simp only[ab,t,q,s,cK,qn,c_,A,d']
def a1.iE(a0:b3 P ac){e dst:an}{m:ae}(U:r.op=.convert e dst m){O S h:cq}(I:b0 ac e=f O)(Q:b0 ac dst=f S)(aa:O.desc=.slice W)(ao:S.desc=.string)(L:b0 ac W=f h)(ar:h.desc=.int .u8){eU}{u}(af:∀d T,bx k d T (η m)->Rd d.D T (.B eU 1 j V))(F:u2 V 0 j=f u):a1 P r η k (ax (.S u)) k:=by
 refine .dv λd au s K=>?_;have g:=af d _ (K m);obtain⟨z,H,i⟩:=oL (P:=P) s g;obtain⟨B,o,aB,t,av,az,_⟩:=g.b1;have G:j<=9223372036854775807:=w;have aq:c z=j:=by rw[H.len];omega
 obtain⟨x,D,ah⟩:=Hi (bB:=d.D) (z:=z) F aq (λaj J ag aD=>by
  obtain⟨T,aP,ak⟩:=H.rd aj J 0 ag N
  grind)
 have y:=(a0 e O I).run_underlying (p:=d.a);have E:=(a0 dst S Q).run_underlying (p:=d.a);have R:=(a0 W h L).run_underlying (p:=d.a);rw[aa]at y;rw[ao]at E;rw[ar]at R;have Z:c u<=9223372036854775807:=N;have ai:∃A:ByteArray,(Conv.bytesToString (.slice B j o)).run P d.a=.ok (.string A) d.a/\A.data.toList=u:=by
  cases B with
  |none=>
   have aw:u=[]:=by
    have:z=[]:=by rw[t]at i;have b:=i.1;simp[Builtin.firstCells]at b;grind
    grind
   exact⟨ByteArray.empty,by simp[Conv.bytesToString],by exact bv⟩
  |some C=>
   rw[t]at i;have b:=i.1;simp[Builtin.firstCells,Nat.mul_one]at b;refine⟨⟨#[]++(x.map λm=>UInt8.ofNat m.toNat).toArray⟩,?_,by grind⟩;simp only[Conv.bytesToString,cK,b,c_,D];rw[List.forIn_toArray,MH (P:=P) d.a (λ_ _=>rfl) x ByteArray.empty];rfl
 obtain⟨A,Y,M⟩:=ai;refine⟨.string A,?_,Rd.S M Z,?_⟩
 rotate_left
 .intro aF q;simp only[ab,U,t,aC,convert,y,E,aE,c_,R,Y,cK,events_underlying,Sem.events_pure]at q;cases B with
  |none=>simp[Conv.bytesToString]at q
  |some C=>
   have X:=s5 (P:=P) s (g.cA (λ_ _=>rfl)) (p:=d.a) a;rw[t]at i X;have b:=i.1;simp only[Builtin.firstCells,Nat.mul_one]at b X;unfold Conv.bytesToString at q;simp only at q;rw[aC,b,aE,dB.bind (P:=P) ?_ λ_=>.pure]at q
   .grind [tD]
   rw[List.forIn_toArray];refine dB.g' (λm d=>?_) _ _;split
   .exact .pure
   exact .bind .stuck λ_=>.pure
 simp only[ab,U,t,cK,convert,y,E,c_,R,Y,d']
end
def rH(a:ae->y):m ae->Option (m M)
 |[]=>f []
 |g::e=>match a g with
  |.n (.R (.c b))=>match rH a e with
   |some d=>f (b::d)
   |none=>n
  |_=>n
def Ca{k}{b}{e:ae->X}{i:ae->y}(p:∀s,bx k b (e s) (i s)):∀{d:m ae}{a:m M},rH i d=f a->c d=c a/\∀(h:Nat)j,a[h]?=f j->∃q,(d.map e)[h]?=f q/\Rd b.D q j
 |[],a,g=>by cases g;grind
 |r::B,a,g=>by
  simp[rH]at g;split at g
  .rename_i j u;split at g
   .rename_i A t;cases g;obtain⟨x,w⟩:=Ca p t;refine⟨by grind,λh z o=>?_⟩;cases h with
    |zero=>
     simp at o;subst o;have:=p r;rw[u]at this;exact⟨e r,by simp,b8 this⟩
    |succ h=>grind
   grind
  grind
section
variable {ac:m (Nat×cq)}
theorem a1.makeFunc{fn}{b i}(m:r.op=.makeFunc fn b i){j h}(q:rH η b.toList=f j)(e:rH η i.toList=f h):a1 P r η k (ax (.fn fn j h)) k:=by
 refine .aR λy a s d=>?_;obtain⟨o,p⟩:=Ca d q;obtain⟨w,x⟩:=Ca d e;have t:b.map a=(b.toList.map a).toArray:=N;have u:i.map a=(i.toList.map a).toArray:=N;refine⟨.func fn (b.toList.map a).toArray (i.toList.map a).toArray,?_,?_,by simp only[ab,m,Instr.makeFunc];rfl⟩
 .simp only[ab,m,Instr.makeFunc,t,u];rfl
 refine Rd.fn _ _ N N (λg=>((b.toList.map a)[g]?).getD I) (λg=>((i.toList.map a)[g]?).getD I) N N N ?_;grind
def vD:TypeDesc->Bool
 |.interface _=>l
 |_=>v
def yZ(b:an):y->Option M
 |.n (.R (.c d))=>f (.cg b d)
 |.n (.agg a)=>match ic a with
  |some e=>f (.cE b e)
  |none=>n
 |_=>n
def aaH{g}{s}(a:yZ o g=f s)(d:bx k b aa g):Rd b.D (.iface o aa) s:=by
 unfold yZ at a;split at a
 .cases a;exact Rd.cg (b8 d) (b8 d).cell
 .split at a
  .rename_i q h;cases a;obtain⟨z,rfl,j⟩:=d;have e:=rI h j;refine Rd.cE (by have:=e.cI;grind) (λu=>(z[u]?).getD I) (λu i=>by grind) λu s i=>?_;obtain⟨aa,p,m⟩:=e.get (u:=u) (x:=.c s) N;rw[p];exact m
  grind
 grind
theorem a1.makeInterface(a0:b3 P ac){o}{b}(m:r.op=.makeInterface o b){e}(g:b0 ac o=f e)(a:vD e.desc=v){s}(q:yZ o (η b)=f s):a1 P r η k (ax s) k:=by
 refine .aR λu i t h=>?_;have j:=(a0 o e g).run_underlying (p:=u.a);refine⟨.iface o (i b),?_,aaH q (h b),?_⟩
 rotate_left
 .simp only[ab,m,Instr.makeInterface,aC,cK,j,aE,c_,events_underlying];cases d:e.desc<;>rw[d]at a<;>first|(cases a;done)|simp
 simp[ab,m,Instr.makeInterface,cK,j,c_];cases d:e.desc<;>rw[d]at a<;>first|(cases a;done)|simp
def ua(a:cq):Option E1:=match a.agg with
 |true=>f (.agg (a.zero.map Q.c))
 |false=>n
def afc{e}(p:eQ P o e){j}(g:ua e=f j):∃a,(zeroValue o).run P b.a=.ok a b.a/\eC k b a j:=by
 obtain⟨a,u,i⟩:=p.hN k b;refine⟨a,u,?_⟩;obtain⟨w,m,t,x,A,s,y,⟨h,d⟩,z⟩:=p.cY;have q:m=a:=by
  have:(zeroValue o).run P b.a=.ok m b.a:=by simp[zeroValue,typeInfo,t,s]
  grind
 subst q;unfold ua at g;cases r:e.agg with
 |true=>
  rw[r]at g d;simp[dx]at d;cases g;rw[d]at i⊢;exact⟨h.toList,by simp,by simpa[Value.cells]using i⟩
 |false=>grind
def sN(g:an)(e:cq):M->Option (E1×Bool)
 |.cg a h=>match ad a g with
  |true=>f (.R (.c h),l)
  |false=>match ua e with
   |some b=>f (b,v)
   |none=>n
 |.cE a d=>match ad a g with
  |true=>f (.agg (d.map Q.c),l)
  |false=>match ua e with
   |some b=>f (b,v)
   |none=>n
 |.bD=>match ua e with
  |some b=>f (b,v)
  |none=>n
 |_=>n
theorem a1.typeAssert(a0:b3 P ac){T}{R o}(aa:r.op=.typeAssert T R o l){e}(M:b0 ac o=f e)(y:vD e.desc=v){s}(H:η T=ax s){x}{i}(h:sN o e s=f (x,i)):
  a1 P r η k (.T [x,.R (.c (.bool i))]) k:=by
 refine .aR λb w ah V=>?_;have j:=V T;rw[H]at j;replace j:=b8 j;generalize af:w T=A at j;have F:=(a0 o e M).run_underlying (p:=b.a);have key:∀q i,(Instr.typeAssert A R o l).run P b.a=.ok (.tuple #[q,.bool i]) b.a->eC k b q x->(Instr.typeAssert A R o l).events P b.a #[]=#[]->∃q,(ab w r).run P b.a=.ok (.value q) b.a/\bx k b q (.T [x,.R (.c (.bool i))])/\(ab w r).events P b.a #[]=#[]:=by intro q i j C m;refine⟨.tuple #[q,.bool i],?_,⟨[q,.bool i],a,C,Rd.bool,B⟩,by simp[ab,aa,af,aC,j,m,aE,Sem.events_pure]⟩;simp[ab,aa,af,cK,j,c_,d']
 have fail:∀I,ua e=f I->(∀J,(zeroValue o).run P b.a=.ok J b.a->(Instr.typeAssert A R o l).run P b.a=.ok (.tuple #[J,.bool v]) b.a/\(Instr.typeAssert A R o l).events P b.a #[]=#[])->x=I->i=v->∃q,(ab w r).run P b.a=.ok (.value q) b.a/\bx k b q (.T [x,.R (.c (.bool i))])/\(ab w r).events P b.a #[]=#[]:=by intro I D ak aj g;subst aj g;obtain⟨J,m,ao⟩:=afc (k:=k) (a0 o e M) (b:=b) D;grind
 have E:∀ae,e.desc≠.interface ae:=by intro ae x;rw[x]at y;cases y
 cases j with
 |@cg u q s C ag=>
  simp[sN]at h;cases g:ad u o with
  |true=>
   rw[g]at h;cases h;have U:=dp g;subst U;refine key q l ?_ C ?_<;>
   .unfold Instr.typeAssert;simp only[cK,F,c_,aC,aE,events_underlying];cases t:e.desc<;>first|(exact absurd t (E _))|simp
  |false=>
   rw[g]at h;have X:u≠o:=λx=>by grind[Nat.beq_refl]
   simp only at h;split at h
   .rename_i I D;cases h;refine fail _ D (λJ m=>⟨?_,?_⟩) a a<;>
    .unfold Instr.typeAssert;simp only[cK,F,c_,aC,aE,events_underlying];cases t:e.desc<;>first|(exact absurd t (E _))|simp[X,m]
   grind
 |@cE u z d O aq an G=>
  simp only[sN]at h;cases g:ad u o with
  |true=>
   rw[g]at h;cases h;have U:=dp g;subst U;refine key (.agg z.toArray) l ?_ ⟨z,a,?_⟩ ?_
   rotate_left 2
   .unfold Instr.typeAssert;simp only[F,aC,aE,events_underlying];cases t:e.desc<;>first|(exact absurd t (E _))|simp
   .unfold Instr.typeAssert;simp only[cK,F,c_];cases t:e.desc<;>first|(exact absurd t (E _))|simp
   have go:∀z d,c z=c d->(∀(S:Nat) s,d[S]?=f s->∃q,z[S]?=f q/\Rd b.D q s)->bP k b z (d.map Q.c):=by
    intro z;induction z with
    |nil=>intro d O _;cases d with|nil=>trivial|cons _ _=>grind
    |cons q z W=>
     intro d O K;cases d with
     |nil=>grind
     |cons s d=>
      obtain⟨ar,Z,Y⟩:=K 0 s rfl;simp at Z;subst Z;exact⟨Y,W d N (λS s ai=>by simpa using K (S+1) s N)⟩
   grind
  |false=>
   rw[g]at h;have X:u≠o:=λx=>by grind[Nat.beq_refl]
   simp only at h;split at h
   .rename_i I D;cases h;refine fail _ D (λJ m=>⟨?_,?_⟩) a a<;>
    .unfold Instr.typeAssert;simp only[cK,F,c_,aC,aE,events_underlying];cases t:e.desc<;>first|(exact absurd t (E _))|simp[X,m]
   grind
 |bD=>
  simp only[sN]at h;split at h
  .rename_i I D;cases h;refine fail _ D (λJ m=>⟨?_,?_⟩) a a<;>
   .unfold Instr.typeAssert;simp only[cK,F,c_,aC,aE,events_underlying];cases t:e.desc<;>first|(exact absurd t (E _))|simp[m]
  grind
 |_=>simp[sN]at h
end
def uX(e:BinOp)(g:IntKind)(d:Int)(b:IntKind)(a:Int):Option (Int×m Prop):=
 match g with
 |.u64=>match e with
  |.shl=>f (((d.toNat*2 ^ a.toNat % 18446744073709551616:Nat):Int),[0<=a,a<=64])
  |.shr=>f (((d.toNat / 2 ^ a.toNat:Nat):Int),[0<=a,a<=64])
  |.and=>match b with|.u64=>f (((d.toNat &&& a.toNat:Nat):Int),[])|_=>n
  |.xor=>match b with|.u64=>f (((d.toNat ^^^ a.toNat:Nat):Int),[])|_=>n
  |_=>n
 |_=>n
section
variable {ac:m (Nat×cq)}
theorem G7{a}(b:a8 .u64 a):(BitVec.ofInt IntKind.u64.bits a).toNat=a.toNat:=by rw[BitVec.toNat_ofInt];simp[a8]at b;simp[IntKind.bits];omega
def ab2{h d}{a i s}(o)(b:uX op h a d i=f (s,cp))(e:U cp)(g:a8 h a)(q:a8 d i)(p):
  a8 h s/\(Go.binOp op o (.int h a) (.int d i)).run P p=.ok (.int h s) p/\(Go.binOp op o (.int h a) (.int d i)).events P p #[]=#[]:=by
 unfold uX at b;split at b
 .split at b
  .cases b;obtain⟨m,k⟩:0<=i/\i<=64:=e;have x:a.toNat*2 ^ i.toNat % 18446744073709551616<18446744073709551616:=p7 _ b';simp[a8]at g;refine⟨by simp[a8];omega,?_⟩;have t:IntKind.wrap .u64 (a*2 ^ (min i.toNat IntKind.u64.bits))=((a.toNat*2 ^ i.toNat % 18446744073709551616:Nat):Int):=by have j:min i.toNat IntKind.u64.bits=i.toNat:=Sn;have r:a=(a.toNat:Int):=w;rw[j,r];simp only[IntKind.wrap,IntKind.bits,IntKind.signed,cW];grind
   exact Qh
  .cases b;obtain⟨m,k⟩:0<=i/\i<=64:=e;simp[a8]at g;have u:a.toNat / 2 ^ i.toNat<=a.toNat:=Nat.div_le_self _ _;refine⟨by simp[a8];grind,?_⟩;have t:a.fdiv (2 ^ (min i.toNat IntKind.u64.bits))=((a.toNat / 2 ^ i.toNat:Nat):Int):=by have j:min i.toNat IntKind.u64.bits=i.toNat:=Sn;grind
   exact Qh
  .split at b
   .cases b;have k:a.toNat &&& i.toNat<=a.toNat:=Nat.and_le_left;have O:a8 .u64 ((a.toNat &&& i.toNat:Nat):Int):=by simp[a8]at g⊢;omega
    refine⟨O,?_⟩;have ak:(BitVec.ofInt IntKind.u64.bits a &&& BitVec.ofInt IntKind.u64.bits i).toNat=a.toNat &&& i.toNat:=by grind[G7]
    exact Ql
   grind
  .split at b
   .cases b;have O:a8 .u64 ((a.toNat ^^^ i.toNat:Nat):Int):=by simp[a8]at g q⊢;have:a.toNat ^^^ i.toNat<2 ^ 64:=Nat.xor_lt_two_pow w w;omega
    refine⟨O,?_⟩;have ak:(BitVec.ofInt IntKind.u64.bits a ^^^ BitVec.ofInt IntKind.u64.bits i).toNat=a.toNat ^^^ i.toNat:=by grind[G7]
    exact Ql
   grind
  grind
 grind
theorem a1.bits{j m:ae}{h e}{u i s}(z:r.op=.binOp op o j m ty)(F:η j=ax (.int h u))(D:η m=ax (.int e i))(C:uX op h u e i=f (s,cp))(t:U cp):
  a1 P r η k (ax (.int h s)) k:=by
 refine .aR λI g A d=>?_;have a:=d j;have b:=d m;rw[F]at a;rw[D]at b;replace a:=b8 a;replace b:=b8 b;generalize w:g j=J at a;generalize x:g m=K at b;cases a with|int p=>
 cases b with|int q=>
 obtain⟨E,y,B⟩:=ab2 (P:=P) o C t p q I.a;exact⟨.int h s,by simp[ab,z,cK,w,x,qn,c_,y,d'],.int E,by simp[ab,z,w,x,qn,yg,y,B]⟩
end
def l'(e:Nat)(a:m M)(b:Nat->m M):Nat->m M:=λd=>if d=e then a else b d
def nV(e b:Nat)(g:m M)(a:Nat->m M):Nat->m M:=λd=>if e<=d/\d<b then g else a d
section
variable {ac:m (Nat×cq)}{C:Nat}{h:Nat}
def He(B:bc k b)(q:k[d]?=f (.q W h j V)){m r}(x:cB k b aa (.O d (.bx C m e r)))(E:C=j):
  ∃g i z a,b.t[d]?=f ⟨.slice (f ⟨g,0,n⟩) 0 i,[g]⟩/\aa=.pointer (f ⟨g,e*m+r,n⟩)/\b.a.heap[g]?=f (.cells (z++a).toArray W (0,0))/\c (z++a)=i*h/\j<=i/\i<=9223372036854775807/\e3 b.D h j V z/\∀w,b.D g w=n:=by
 obtain⟨J,⟨g,i,t,y⟩,_,Q⟩:=x;obtain⟨L,s,p⟩:=(Q _ _ _ _ q).2 E;rw[t]at p;rcases B.box d _ L q s with⟨_,rfl⟩|⟨M,hf,z,a,rfl,F,o,I,u,D,A⟩
 .cases p
 cases p;exact⟨g,i,z,a,s,y,F,o,I,u,D,A⟩
def El{C:Nat->X}:∀{bf:m M}{A:Nat},(∀d e,bf[d]?=f e->Rd b.D (C (A+d)) e)->bP k b ((aA (c bf)).map λd=>C (A+d)) (bf.map Q.c)
 |[],A,_=>trivial
 |h::bf,A,g=>by rw[fs,w'];refine⟨g 0 h a,?_⟩;have:=El (bf:=bf) (A:=A+1) (λd e i=>by have:=g (d+1) e N;rwa [show A+1+d=A+(d+1) by omega]);grind[Function.comp_def]
theorem a1.jc(a0:b3 P ac){i j:ae}(O:r.op=.indexAddr o i j){e a5}(m:b0 ac o=f e)(M:e.desc=.slice W)(y:b0 ac W=f a5){t}{u}{q}(H:η i=cE d (.B C a5.size t A))(I:η j=ax (.int q u))(af:0<=u)(R:u<A):a1 P r η k (cE d (.bx C a5.size (t+u.toNat) 0)) k:=by
 refine .aR λF g S b=>?_;have E:=b i;rw[H]at E;have a:=b j;rw[I]at a;replace a:=b8 a;generalize Q:g j=Y at a;cases a;have D:=E;change cB k F (g i) (.O d _)at D;obtain⟨s,⟨ag,N,B,K,J,L,G,aa,Z,V⟩,U,T⟩:=D;obtain⟨z,rfl,rfl⟩:=V w;have x:=(a0 o e m).run_underlying (p:=F.a);rw[M]at x;obtain⟨h,rfl⟩:∃h:Nat,u=h:=⟨u.toNat,by omega⟩
 have X:h<A:=w;refine⟨.pointer (f ⟨z,(t+h)*a5.size,n⟩),?_,⟨s,⟨z,K,Z,by simp⟩,U,T⟩,?_⟩<;>
 simp[ab,O,J,Q,Instr.indexAt,asIntOf,x,(a0 W a5 y).bc,g6,X,jM]
def a1.iO(a0:b3 P ac){b:ae}{q}(s:r.op=.fieldAddr o b q){A i}{u}(F:η b=cE d (.bx C A e i))(t:lm ac o q=f (off,u)):a1 P r η k (cE d (.bx C A e (i+off))) k:=by refine .aR λD j z g=>?_;have a:=g b;rw[F]at a;have m:=a;change cB k D (j b) (.O d _)at m;obtain⟨h,⟨p,E,B,w⟩,y,x⟩:=m;exact⟨.pointer (f ⟨p,e*A+i+off,n⟩),by simp[ab,s,w,zr a0 t],⟨h,⟨p,E,B,by grind⟩,y,x⟩,by simp[ab,s,w,yh a0 t]⟩
theorem a1.jA{b:ae}(o:r.op=.nilCheck b){m p}(u:η b=cE d (.bx C m e p)):a1 P r η k (cE d (.bx C m e p)) k:=by refine .aR λw g s h=>?_;have a:=h b;rw[u]at a;have q:=a;have i:=a;change cB k w (g b) (.O d _)at i;obtain⟨t,⟨x,B,A,j⟩,z,y⟩:=i;exact⟨g b,by simp[ab,o,j],q,by simp[ab,o,j]⟩
theorem a1.jj(a0:b3 P ac){b:ae}(w:r.op=.call {callee:=.builtin .len,args:=#[b],argTypes:=dt})(Q:dt[0]?=f o){e}(g:b0 ac o=f e)(u:e.desc=.slice W){E B}(M:η b=cE d (.B C E B A)):a1 P r η k (ax (.int .i64 A)) k:=by
 refine .aR λs i x h=>?_;have a:=h b;rw[M]at a;have j:=a;change cB k s (i b) (.O d _)at j;obtain⟨z,⟨I,t,m,y,D,S,O,F,R,N⟩,K,J⟩:=j;have q:=(a0 o e g).run_underlying (p:=s.a);rw[u]at q;refine⟨.int .i64 A,?_,Rd.int cX,?_⟩<;>
 simp[ab,w,resolve,invoke,builtin,Builtin.len_,D,q,goInt,Q]
theorem a1.sliceB(a0:b3 P ac){x:ae}{ff bp}(K:r.op=.slice o x ff bp n){e a5}(X:b0 ac o=f e)(M:e.desc=.slice W)(y:b0 ac W=f a5){O}{j u}(H:η x=cE d (.B C a5.size O A))(s:kL η ff=f j)(Q:kL η bp=f u)(t:U (jq A j u)):a1 P r η k (cE d (.B C a5.size (O+bW 0 j) (bW A u-bW 0 j))) k:=by
 refine .aR λg E S b=>?_;have m:=b x;rw[H]at m;have J:=m;change cB k g (E x) (.O d _)at J;obtain⟨D,⟨I,z,h,R,F,N,af,aa,Z,Y⟩,V,T⟩:=J;obtain⟨q,ag,G⟩:=v' (P:=P) (ks:=l) N (kj b s) (kj b Q) t g.a;have B:=(a0 o e X).run_underlying (p:=g.a);rw[M]at B;refine⟨.slice (if h=bW 0 j then I else I.map (·.add (bW 0 j*a5.size))) (bW A u-bW 0 j) (h-bW 0 j),?_,⟨D,⟨_,z,_,R,a,by omega,by omega,aa,Z,λah=>?_⟩,V,T⟩,by simp[ab,K,F,Instr.sliceAt,B,Instr.slice,q,vh (P:=P) (ks:=l) N (kj b s) (kj b Q) t g.a]⟩
 .simp[ab,K,F,Instr.sliceAt,B,Instr.slice,q,(a0 W a5 y).bc]
 obtain⟨i,rfl,rfl⟩:=Y w;exact Rg
def a1.e9(a0:b3 P ac){K:ae}(T:r.op=.load o K){m}{B}{ak}(ag:η K=cE d (.bx C h e m))(x:C=j)(F:k[d]?=f (.q W h j V))(w:b0 ac o=f B)(R:hq B ((gg m (V e)).map Q.c)=f ak)(Z:e<j):a1 P r η k (.n ak) k:=by
 refine .dv λb O E J=>?_;have u:=J K;rw[ag]at u;obtain⟨i,av,z,ar,af,G,ah,H,ao,L,y,aq⟩:=He E F u x;have aP:=y.bF e Z;let C:Nat->X:=λa=>z.getD (e*h+a) I;have x:∀a q,(gg m (V e))[a]?=f q->z[e*h+(m+a)]?=f (C (m+a))/\Rd b.D (C (m+a)) q:=by intro a q g;rw[rK,p6]at g;obtain⟨s,an,au⟩:=y.rd e Z (m+a) q g;grind
 have M:=El (k:=k) (b:=b) (C:=C) (bf:=gg m (V e)) (A:=m) (λa q g=>(x a q g).2);have S:∀a s,((aA (c (gg m (V e)))).map λa=>C (m+a))[a]?=f s->b.a.cell? ⟨i,e*h+m+a,n⟩=f s:=by
  intro a s g;simp[ni]at g;by_cases U:a<c (gg m (V e))
  .simp[U]at g;subst g;have ai:=(x a _ (bJ U)).1;simp[aH,ah];grind
  grind
 obtain⟨s,Y,aa⟩:=tJ (b:=b) (k:=k) (P:=P) (a0 o B w) (i:=i) (off:=e*h+m) (ak:=ak) S M R;refine⟨s,by simp[ab,T,G,Instr.loadAt,Instr.sureAddr,Y],aa,λt p=>?_⟩;have aj:t∈(loadVar o ⟨i,e*h+m,n⟩).events P b.a #[]:=by
  have ak:ab O r=(do pure (.value (<-loadVar o ⟨i,e*h+m,n⟩))):=by simp[ab,T,G,Instr.loadAt,Instr.sureAddr]
  rw[ak]at p;simpa[Y]using p
 obtain⟨a,g,rfl⟩:=pe (a0 o B w) (j:=c (gg m (V e))) (λa g=>⟨_,S a (C (m+a)) N⟩) (by have:=sh R;grind) t aj;exact qo (ca af) D
def e3.put{jF}{b}{gU ci}(m:e3 bB h j V z)(p:e<j)(I:jb b gU (V e)=f ci)(A:c jF=c gU)(D:∀(g:Nat)k,gU[g]?=f k->∃aa,jF[g]?=f aa/\Rd bB aa k):
  e*h+b+c jF<=c z/\e3 bB h j (l' e ci V) (z.take (e*h+b)++jF++z.drop (e*h+b+c jF)):=by
 obtain⟨x,s⟩:=EJ I;have Q:=m.bF e p;have y:e*h+h<=j*h:=by have:=hc h (show e+1<=j by omega);grind
 have K:=m.len;have C:e*h+b+c jF<=c z:=w;have O:∀i,(z.take (e*h+b)++jF++z.drop (e*h+b+c jF))[i]?=if i<e*h+b then z[i]? else if i<e*h+b+c jF then jF[i-(e*h+b)]? else z[i]?:=by
  intro i;have E:c (z.take (e*h+b))=e*h+b:=N;by_cases o:i<e*h+b
  .grind
  rw[bj o];by_cases r:i<e*h+b+c jF
  .grind
  rw[bj r,ht N,p6];grind
 refine⟨C,⟨by grind,λd q=>?_,λd q g k a=>?_⟩⟩
 .simp only[l'];split
  .grind
  exact m.bF d q
 simp[l']at a;rw[O];split at a
 .rename_i u;subst u;rw[s]at a;by_cases o:g<b
  .rw[mq,kb N,iA,bl o]at a;rw[bl w];exact m.rd d p g k a
  by_cases r:g<b+c gU
  .rw[mq,ht N,kb N]at a;obtain⟨aa,t,F⟩:=D _ k a;refine⟨aa,?_,F⟩;rw[bj w,bl w,<-t];congr 1;grind
  rw[ht N,p6]at a;rw[bj w,bj w];refine m.rd d p g k ?_;grind
 rename_i u;have M:g<h:=by have:=(cP.1 a).1;have:=m.bF d q;omega
 rcases dY d e with B|J
 .have:(d+1)*h<=e*h:=hc h B;rw[jM,Nat.one_mul]at this;rw[bl w];exact m.rd d q g k a
 have:(e+1)*h<=d*h:=hc h w;rw[jM,Nat.one_mul]at this;rw[bj w,bj w];exact m.rd d q g k a
def bc.gB(r:bc k b)(t:k[d]?=f (.q W h j V)){q p}{e}(R:b.t[d]?=f ⟨.slice (f ⟨i,0,n⟩) 0 e,[i]⟩)(X:c (z++q)=e*h)(F:j<=e)(I:e<=9223372036854775807){g:Nat->m M}(w:b.a.heap[i]?=f (.cells (z++q).toArray W (0,0)))(Q:e3 b.D h j g p)(U:c p=c z)(K:∀E,b.D i E=n):
  bc (k.set d (.q W h j g)) {b with a:=b.a.setRow i (p++q).toArray}/\cO k b (k.set d (.q W h j g)) {b with a:=b.a.setRow i (p++q).toArray}:=by
 have C:(b.a.setRow i (p++q).toArray).heap[i]?=f (.cells (p++q).toArray W (0,0)):=setRow_heap b.a i _ _ W _ w;have B:∀o,o≠i->(b.a.setRow i (p++q).toArray).heap[o]?=b.a.heap[o]?:=λo s=>setRow_other b.a i o _ s;have S:b.t.set d ⟨.slice (f ⟨i,0,n⟩) 0 e,[i]⟩=b.t:=m6;obtain⟨J,t2⟩:=r.b8 (cl:=b.D) (bi:=b.a.setRow i (p++q).toArray) (eg:=.q W h j g) (cv:=⟨.slice (f ⟨i,0,n⟩) 0 e,[i]⟩) t R ⟨λ_=>rfl,bC _⟩ D
  (λo s A=>B o N) (λ_ _ _ _=>rfl) (λ_ _ _ x=>x) (λo u O y=>by
   have T:o≠i:=N;have:=r.mem o u O y;rw[<-this];simp[aH]
   grind) (λo s=>⟨.inl s,by grind⟩) a a a
  (.inr ⟨i,e,p,q,rfl,C,by grind,F,I,Q,K⟩)
 grind
def M5{e:Type}:∀{new d:m e},c new=c d->jb 0 new d=f new
 |[],[],_=>rfl
 |[],_::_,g=>by grind
 |_::_,[],g=>by grind
 |i::b,h::a,g=>by simp[jb,M5 (new:=b) (d:=a) N]
def a1.hY(a0:b3 P ac){F i:ae}(X:r.op=.store o F i){m}{y}{new}{gU ci}(ak:η F=cE d (.bx C h e m))(ai:C=j)(w:k[d]?=f (.q W h j V))(u:b0 ac o=f y)(aj:mv (η i)=f new)(K:c new=y.size)(G:ic new=f gU)(I:c (V e)=h->jb m gU (V e)=f ci)(aa:e<j):
  a1 P r η k .any (k.set d (.q W h j (l' e ci V))):=by
 intro E b t x;have s:=x F;rw[ak]at s;obtain⟨A,aw,z,p,T,aP,J,H,ag,ah,U,S⟩:=He t w s ai;have B:=u9 aj (x i);have R:=rI G B;have L:=bP.eY R;have aq:(b i).cells.toList.length=c gU:=by have:=R.cI;grind
 replace I:=I (U.bF e aa);obtain⟨av,M⟩:=U.put aa I aq L;have Z:(b i).cells.size=y.size:=by rw[<-K,<-B.cI,ng]
 obtain⟨O,t2⟩:=t.gB w T H ag ah J M N S;have Y:=run_storeCells_at P A (e*h+m) W (b i).cells.toList 0 (z++p).toArray E.a J N B.cell;have af:((z++p).toArray.toList.take (e*h+m+0)++(b i).cells.toList++(z++p).toArray.toList.drop (e*h+m+0+(b i).cells.toList.length))=z.take (e*h+m)++(b i).cells.toList++z.drop (e*h+m+(b i).cells.toList.length)++p:=N;rw[af]at Y;refine⟨.skip,_,?_,a,O,t2,?_⟩
 .simp[ab,X,aP,Instr.storeAt,Instr.sureAddr,storeVar,(a0 o y u).bc,Z,Y]
 intro q g;have an:ab b r=(do storeVar o ⟨A,e*h+m,n⟩ (b i);pure .skip):=by simp[ab,X,aP,Instr.storeAt,Instr.sureAddr]
 rw[an]at g;have ao:q∈(storeCells ⟨A,e*h+m,n⟩ (b i).cells.toList).events P E.a #[]:=by
  simp[storeVar,aC,(a0 o y u).bc,Z,aE,events_sizeOf,ea,hI,dn,cK,c_,Sem.events_pure]at g;generalize(storeCells ⟨A,e*h+m,n⟩ (b i).cells.toList).run P E.a=ar at g;cases ar with
  |ok az Q=>simpa using g
  |halt F Q=>simpa using g
 rcases nu (b i).cells.toList 0 (z++p).toArray E.a #[] J N B.cell q ao with au|⟨ax,_,_,rfl⟩
 .grind
 exact oo (ca T) D (S _)
end
section
def bc.ft(j:bc k b)(q:∀a,b.D i a=n)(r:∀a e,z[a]?=f e->b.a.cell? ⟨i,a,n⟩=f e):
  bc (k.map λ_=>.N) {b with D:=λd a=>if d=i then z[a]? else b.D d a}/\∀d a e,b.D d a=f e->(if d=i then z[a]? else b.D d a)=f e:=by
 have g:=j.d_;refine⟨⟨λd a e h=>?_,g.len,λs p L aM o=>?_,g.a3,g.lt,g.own⟩,λd a e h=>?_⟩
 .by_cases m:d=i
  .grind
  simp[m,dn]at h;exact g.mem d a e h
 .have:=ca aM;simp at this;rw[<-this.2];trivial
 grind
def dw.gH{e}{V}(r:dw {b with D:=e} V){L}(x:L∈b.t)(s:i∈L.al)(w:∀h k g,b.D h k=f g->e h k=f g)(u:∀h k g,e h k=f g->h=i∨b.D h k=f g):dw b V:=by
 intro o q;have d:=r o q;unfold ie at d⊢;split at d
 .obtain⟨kH,ka,a⟩:=d;refine⟨kH,ka,?_⟩;rcases a with a|⟨a,j⟩|⟨a,g,j⟩
  .grind
  .refine .inr (.inl ⟨a,λp=>?_⟩);have:=j p;rename_i m _;cases t:b.D m.block m.off with
   |none=>rfl
   |some g=>grind
  grind
 all_goals exact d
end
def nv(e:Nat)(a:Nat->Nat->X):Nat->m M:=λb=>(aA e).map λd=>.val (a b d)
theorem s7{h}{a:Nat->Nat->X}{s}(b:(nv h a e)[u]?=f s):u<h/\s=.val (a e u):=by
 have d:u<h:=by have:=(cP.1 b).1;simpa[nv]using this
 simp[nv,d]at b;grind
def CX{h}{a:Nat->Nat->X}(b:u<h):(nv h a e)[u]?=f (.val (a e u)):=by simp[nv,b]
def Rd.exact{bB}{aa}{o}{h j}{d:Nat->m M}(D:Rd bB aa (.B o h j d)):
  ∃k:Nat->Nat->X,Rd bB aa (.B o h j (nv h k))/\(∀a,a<j->c (d a)=h)/\∀a,a<j->∀b i,(d a)[b]?=f i->Rd bB (k a b) i:=by
 cases D with
 |B z q k y u x w t E p=>
  have A:∀a,a<j->∀b,b<h->∃i,(d a)[b]?=f i:=λa e b g=>⟨_,bJ N⟩
  refine⟨k,.B z q k y u x (λa _=>by simp[nv]) t (λa e b i g=>?_) (λa e b i g=>?_),w,p⟩
  .grind [s7]
  obtain⟨r,rfl⟩:=s7 g;obtain⟨C,s⟩:=A a e b r;exact .val (p a e b C s).cell
def Ek{h}{L}{e s}{cap}(aM:k[d]?=f (.q W h j V))(p:b.t[d]?=f L)(m:L.v=.slice s 0 cap)(q:j<=cap)(o:cap<=9223372036854775807)(x:0<cap->∃g,s=f ⟨g,0,n⟩/\e=f ⟨g,0,n⟩):cB k b (.slice e j cap) (.O d (.B j h 0 j)):=
 ⟨L.v,⟨e,s,cap,cap,rfl,q,by omega,o,m,λu=>by grind⟩,(cP.1 aM).1,λw r t i a=>by rw[aM]at a;cases a;exact⟨bC _,λ_=>⟨L,p,rfl⟩⟩⟩
def GU{bO bP:ae}{a5}(s:j9 P r bO bP W a5){A}{bz}{o:Nat->m M}{aj:ae->X}(t:bc k b)(br:cB k b (aj bO) (.O d (.B j a5.size 0 j)))(K:k[d]?=f (.q W a5.size j V))(av:Rd b.D (aj bP) (.B bz a5.size A o))(H:(j+A)*a5.bytes<=140737488355328):
  ∃a9 ai,(ab aj r).run P b.a=.ok a9 ai.a/\AJ (k.set d (.q W a5.size (j+A) (cj j V o))) ai a9 (cE d (.B (j+A) a5.size 0 (j+A)))/\bc (k.set d (.q W a5.size (j+A) (cj j V o))) ai/\cO k b (k.set d (.q W a5.size (j+A) (cj j V o))) ai/\dw b ((ab aj r).events P b.a #[]):=by
 obtain⟨bU,t2,g,bR,a4,e,J,aD,aE⟩:=s.op;have bT:=(cP.1 K).1;obtain⟨bS,⟨x,bm,aG,B,a6,bd,bE,bb,a2,bF⟩,_,a8⟩:=br;obtain⟨L,F,ao⟩:=(a8 _ _ _ _ K).2 rfl;rw[a2]at ao;have aY:B=aG:=w;subst aY;have bA:0<B->∃i,bm=f ⟨i,0,n⟩/\x=f ⟨i,0,n⟩:=λs=>by grind
 have aP:=(cP.1 F).1;have bh:=ca F;have bD:=t.box d _ L K F;rw[ll a4,a6];have row:0<B->∃i z p,x=f ⟨i,0,n⟩/\L=⟨.slice (f ⟨i,0,n⟩) 0 B,[i]⟩/\b.a.heap[i]?=f (.cells (z++p).toArray W (0,0))/\c (z++p)=B*a5.size/\e3 b.D a5.size j V z/\∀r,b.D i r=n:=by
  intro y;obtain⟨i,S,Y⟩:=bA y;rcases bD with⟨_,rfl⟩|⟨h,u,z,p,rfl,aa,aL,aM,aN,aO,aQ⟩
  .grind
  grind
 by_cases bq:A=0
 .subst bq;have aw:=zq (P:=P) (ty:=r.type) e J aD aE s.elem t (x:=x) bd av;simp only[kh];have bt:bs j V (cj j V o):=λg e=>by simp[cj,e]
  have aT:eB (k.set d (.q W a5.size j (cj j V o))) ⟨b.t.set d L,b.D,b.a,b.own⟩ (.q W a5.size j (cj j V o)) L:=by
   rcases bD with aa|⟨h,u,z,p,av,aa,aL,aM,aN,aO,aQ⟩
   .exact .inl aa
   exact .inr ⟨h,u,z,p,av,aa,aL,aM,aN,aO.cA bt,aQ⟩
  have au:=t.b8 (cl:=b.D) (bi:=b.a) (eg:=.q W a5.size j (cj j V o)) (cv:=L) K F ⟨λ_=>rfl,bC _⟩ (bC _) (λ_ _ _=>rfl) (λ_ _ _ _=>rfl) (λ_ _ _ s=>s) t.mem
   (λi H=>⟨.inl H,t.lt L bh i H⟩) a a a aT
  refine⟨.value (.slice x j B),_,?_,?_,au.1,au.2,i2 (yd e J aD aE s.elem t bd av)⟩
  .simp[aw]
  exact Ek (W:=W) Fx N ao bd bb bA
 .by_cases aJ:j+A<=B
  .obtain⟨i,z,p,rfl,rfl,hw,G,E,af⟩:=row w;obtain⟨O,an,aw⟩:=Et (P:=P) (ty:=r.type) e J aD aE s.elem t hw G av aJ;have a7:=E.len;have bI:=an.len;have bG:j*a5.size+A*a5.size<=B*a5.size:=by rw[<-jM];exact hc _ aJ
   have ah:((z++p).take (j*a5.size)++O++(z++p).drop (j*a5.size+c O))=(z++O)++p.drop (c O):=by rw[<-a7];simp
   rw[ah]at aw;have az:=setRow_heap b.a i _ ((z++O)++p.drop (c O)).toArray W _ hw;have aB:∀h,h≠i->(b.a.setRow i ((z++O)++p.drop (c O)).toArray).heap[h]?=b.a.heap[h]?:=λh ba=>setRow_other b.a i h _ ba;obtain⟨aC,bg⟩:=t.b8 (cl:=b.D) (bi:=b.a.setRow i ((z++O)++p.drop (c O)).toArray) (eg:=.q W a5.size (j+A) (cj j V o)) (cv:=⟨.slice (f ⟨i,0,n⟩) 0 B,[i]⟩) K F ⟨λ_=>rfl,by omega⟩ D
    (λh ba bQ=>aB h N) (λ_ _ _ _=>rfl) (λ_ _ _ s=>s) (λh bx R a3=>by
     have bH:h≠i:=N;have:=t.mem h bx R a3;rw[<-this];simp[aH]
     grind) (λh ba=>⟨.inl ba,by grind⟩) a a a
    (.inr ⟨i,B,z++O,p.drop (c O),rfl,az,by grind,aJ,bb,E.append an,af⟩)
   refine⟨.value (.slice (f ⟨i,0,n⟩) (j+A) B),_,?_,?_,aC,bg,i2 (CA e J aD aE s.elem t hw G av aJ bh D (λr _=>af r))⟩
   .simp[aw]
   exact Ek (W:=W) Fx (by simp only;rw[iy aP]) a aJ bb λ_=>⟨i,a,a⟩
  .have a0:B<j+A:=w;obtain⟨bp,aK,bN,bL⟩:=av.exact;have aI:∃(cl:Mem) (Z:Nat->Nat->X),bc (k.map λ_=>.N) {b with D:=cl}/\(∀h r R,b.D h r=f R->cl h r=f R)/\Rd cl (.slice x j B) (.B v a5.size j (nv a5.size Z))/\(∀{V},dw {b with D:=cl} V->dw b V) /\
     (∀g,g<j->c (V g)=a5.size)/\∀g,g<j->∀q C,(V g)[q]?=f C->Rd b.D (Z g q) C:=by
    by_cases y:0<B
    .obtain⟨i,z,p,rfl,rfl,hw,G,E,af⟩:=row y;obtain⟨u,T⟩:=t.ft (i:=i) (z:=z) af (λr R a4=>by
      simp only[aH,hw]
      grind)
     have bB:∀g,g<j->∀q C,(V g)[q]?=f C->z[g*a5.size+q]?=f (z.getD (g*a5.size+q) I)/\Rd b.D (z.getD (g*a5.size+q) I) C:=by intro g e q C Q;obtain⟨R,a_,a'⟩:=E.rd g e q C Q;grind
     have aX:∀g,g<j->∀q,q<a5.size->∃C,(V g)[q]?=f C:=λg e q Q=>⟨_,bJ (by rw[E.bF g e];exact Q)⟩
     refine⟨_,λg q=>z.getD (g*a5.size+q) I,u,T,.B i 0 (λg q=>z.getD (g*a5.size+q) I) bd bb D (λg _=>by simp[nv]) bn (λg e q C Q=>?_) (λg e q C Q=>?_),λbu=>?_,E.bF,λg e q C Q=>(bB g e q C Q).2⟩
     .obtain⟨S,_⟩:=s7 Q;grind
     .obtain⟨S,rfl⟩:=s7 Q;obtain⟨bo,Y⟩:=aX g e q S;exact .val (bB g e q bo Y).2.cell
     exact bu.gH (i:=i) bh D T λh r R a6=>by grind
    have S:B=0:=w;have Y:j=0:=w;subst S Y;have aF:=t.d_;exact⟨b.D,λ_ _=>I,⟨aF.mem,aF.len,aF.box,aF.a3,aF.lt,aF.own⟩,λ_ _ _ s=>s,Rd.dK,λs=>s,λg e=>by omega,λg e=>by omega⟩
   obtain⟨cl,Z,u,T,aV,aR,bM,bK⟩:=aI;have ak:=aK.mono T;obtain⟨bj,p,bf,bk,aq,ar,ax,aw⟩:=v_ (P:=P) (b:={b with D:=cl}) (ty:=r.type) e J aD aE s.elem u aV ak a0 H s.bytes;have aZ:=vg (P:=P) (b:={b with D:=cl}) (ty:=r.type) e J aD aE s.elem u aV ak a0 H s.bytes;have aS:e3 b.D a5.size (j+A) (cj j V o) bj:=by
    refine⟨bk.len,λg e=>?_,λg e q C Q=>?_⟩
    .by_cases U:g<j
     .simp only[cj,U,dx];grind
     simp only[cj,U,dn];grind
    by_cases U:g<j
    .simp only[cj,U,dx]at Q;have bl:q<a5.size:=N;obtain⟨R,a_,a'⟩:=bk.rd g e q (.val (Z g q)) (by simp only[cj,U,dx];exact CX bl);grind[Rd.bd]
    simp only[cj,U,dn]at Q;have bl:q<a5.size:=N;obtain⟨R,a_,a'⟩:=bk.rd g e q (.val (bp (g-j) q)) (by simp only[cj,U,dn];exact CX bl);grind[Rd.bd]
   have bw:∀r,b.D b.a.heap.size r=n:=λr=>by
    cases ag:b.D b.a.heap.size r with
    |none=>rfl
    |some R=>have:=t.block ag;omega
   obtain⟨aC,bg⟩:=t.b8 (cl:=b.D) (bi:=b.a.drew.alloc (.cells (bj++p).toArray W)) (eg:=.q W a5.size (j+A) (cj j V o)) (cv:=⟨.slice (f ⟨b.a.heap.size,0,n⟩) 0 bf,[b.a.heap.size]⟩) K F
    ⟨λU=>absurd U w,by omega⟩ D (λi H _=>i6 b.a.drew _ H) (λ_ _ _ _=>rfl) (λ_ _ _ s=>s) (λi r R ag=>by have a1:=t.block ag;rw[<-t.mem i r R ag];simp only[aH];rw[i6 b.a.drew _ a1];rfl) (λi H=>by simp at H;exact bv) a a a (.inr ⟨b.a.heap.size,bf,bj,p,rfl,lZ b.a.drew _,ax,aq,ar,aS,bw⟩)
   refine⟨.value (.slice (f ⟨b.a.heap.size,0,n⟩) (j+A) bf),_,?_,?_,aC,bg,i2 (aR aZ)⟩
   .simp only at aw;simp[aw]
   exact Ek (W:=W) Fx (by simp only;rw[iy aP]) a aq ar λ_=>⟨_,a,a⟩
def a1.h'{q s:ae}{a5}(x:j9 P r q s W a5){b}{p}{a:Nat->m M}(w:η q=cE d (.B j a5.size 0 j))(o:k[d]?=f (.q W a5.size j V))(u:∀g t,bx k g t (η s)->Rd g.D t (.B p a5.size b a))(h:(j+b)*a5.bytes<=140737488355328):
  a1 P r η k (cE d (.B (j+b) a5.size 0 (j+b))) (k.set d (.q W a5.size (j+b) (cj j V a))):=
 λg y i e=>GU x i (by have:=e q;rw[w]at this;exact this) o (u g _ (e s)) h
section
variable {ac:m (Nat×cq)}
def a1.jr(a0:b3 P ac){g:ae}(t:r.op=.call {callee:=.builtin .len,args:=#[g],argTypes:=dt})(s:dt[0]?=f o){e}(b:b0 ac o=f e)(m:e.desc=.slice W){i}{cap}(x:η g=ax (.val (.slice i j cap)))(w:j<=9223372036854775807):a1 P r η k (ax (.int .i64 j)) k:=by
 refine .aR λy z u d=>?_;have a:=d g;rw[x]at a;have q:=Rd.bd (b8 a);have h:=(a0 o e b).run_underlying (p:=y.a);rw[m]at h;refine⟨.int .i64 j,?_,Rd.int cX,?_⟩<;>
 simp[ab,t,resolve,invoke,builtin,Builtin.len_,q,h,goInt,s]
theorem a1.jd(a0:b3 P ac){s h:ae}(B:r.op=.indexAddr o s h){e a5}(m:b0 ac o=f e)(E:e.desc=.slice W)(F:b0 ac W=f a5){cap}{u}{q}(K:η s=ax (.val (.slice (f ⟨i,off,n⟩) j cap)))(J:η h=ax (.int q u))(O:0<=u)(C:u<j):a1 P r η k (ax (.val (.pointer (f ⟨i,off+u.toNat*a5.size,n⟩)))) k:=by
 refine .aR λM t D d=>?_;have x:=d s;rw[K]at x;have I:=Rd.bd (b8 x);have b:=d h;rw[J]at b;replace b:=b8 b;generalize A:t h=N at b;cases b;have y:=(a0 o e m).run_underlying (p:=M.a);rw[E]at y;obtain⟨g,rfl⟩:∃g:Nat,u=g:=⟨u.toNat,by omega⟩
 have z:g<j:=w;refine⟨.pointer (f ⟨i,off+g*a5.size,n⟩),?_,Rd.val a,?_⟩<;>
 simp[ab,B,I,A,Instr.indexAt,asIntOf,y,(a0 W a5 F).bc,g6,z]
def a1.iP(a0:b3 P ac){e:ae}{m}(p:r.op=.fieldAddr o e m){h}{u}(q:η e=ax (.val (.pointer (f ⟨i,off,n⟩))))(j:lm ac o m=f (h,u)):a1 P r η k (ax (.val (.pointer (f ⟨i,off+h,n⟩)))) k:=by refine .aR λw t s d=>?_;have b:=d e;rw[q]at b;have g:=Rd.bd (b8 b);exact⟨.pointer (f ⟨i,off+h,n⟩),by simp[ab,p,g,zr a0 j],Rd.val a,by simp[ab,p,g,yh a0 j]⟩
def a1.jS(a0:b3 P ac){U I J:ae}(Z:r.op=.slice o U n (f I) (f J)){e a5}(M:b0 ac o=f e)(H:e.desc=.slice W)(ai:b0 ac W=f a5){eU}{h}{m q}{u A}(aj:∀aa ag,bx k aa ag (η U)->Rd aa.D ag (.B eU h j V))(L:η I=ax (.int m u))(ah:η J=ax (.int q A))(K:0<=u)(ao:u<=A)(aq:A<=j):a1 P r η k (ax (.B v h u.toNat V)) k:=by
 refine .aR λa F ar i=>?_;have T:=aj a _ (i U);have s:=i I;rw[L]at s;replace s:=b8 s;generalize Q:F I=av at s;cases s;have E:=i J;rw[ah]at E;replace E:=b8 E;generalize af:F J=aw at E;cases E;obtain⟨X,b,z,y,G,aB,aP,aC,au⟩:=T.b1;rw[y]at T;have O:=(a0 o e M).run_underlying (p:=a.a);rw[H]at O;have em:=rn w;have t:(aS l j b n (f (.int m u)) (f (.int q A))).run P a.a=.ok (0,u.toNat,A.toNat) a.a:=by simp[aS,run_sliceBound (P:=P) a.a q A b _ w w,run_sliceBound (P:=P) a.a m u A.toNat _ K w]
 have ak:(aS l j b n (f (.int m u)) (f (.int q A))).events P a.a #[]=#[]:=by simp[aS,run_sliceBound (P:=P) a.a q A b _ w w,run_sliceBound (P:=P) a.a m u A.toNat _ K w,lk (P:=P) a.a q A b _ w w,lk (P:=P) a.a m u A.toNat _ K w]
 refine⟨.slice X u.toNat A.toNat,?_,?_,by simp[ab,Z,y,Q,af,Instr.sliceAt,O,Instr.slice,t,ak]⟩
 .simp[ab,Z,y,Q,af,Instr.sliceAt,O,Instr.slice,t,(a0 W a5 ai).bc];intro _;rcases X with _|⟨Y,d,sp⟩<;>simp[Addr.add]
 cases T with
 |B Y d an _ _ _ S R B C=>
  exact Rd.B Y d an w w D (λe x=>S e w) (λaz=>R w) (λe x u N g=>B e w u N g) (λe x u N g=>C e w u N g)
end
def e3.hI{h a}{kQ:Nat->m M}{jF}(p:e3 bB h j V z)(q:e3 bB h A kQ jF)(u:a+A<=j):
  e3 bB h j (λb=>if a<=b/\b<a+A then kQ (b-a)else V b) (z.take (a*h)++jF++z.drop (a*h+c jF)):=by
 have D:=p.len;have F:=q.len;have C:a*h+A*h<=j*h:=by rw[<-jM];exact hc h u
 have I:c (z.take (a*h))=a*h:=N;have s:∀i,(z.take (a*h)++jF++z.drop (a*h+c jF))[i]?=if i<a*h then z[i]? else if i<a*h+A*h then jF[i-a*h]? else z[i]?:=by
  intro i;by_cases e:i<a*h
  .grind
  rw[bj e];by_cases r:i<a*h+A*h
  .grind
  rw[bj r,ht N,p6];grind
 refine⟨by grind,λb g=>?_,λb g o t d=>?_⟩
 .by_cases k:a<=b/\b<a+A
  .rw[bl k];exact q.bF _ w
  rw[bj k];exact p.bF b g
 rw[s];by_cases k:a<=b/\b<a+A
 .rw[bl k]at d;have B:o<h:=by have:=(cP.1 d).1;rw[q.bF _ w]at this;omega
  have x:=hc h k.1;have y:b*h+h<=a*h+A*h:=by rw[<-jM,<-o5];exact hc h k.2
  rw[bj w,bl w];obtain⟨K,E,J⟩:=q.rd (b-a) w o t d;grind[Nat.sub_mul]
 rw[bj k]at d;have B:o<h:=by have:=(cP.1 d).1;rw[p.bF b g]at this;omega
 have:b*h+o<a*h∨a*h+A*h<=b*h+o:=by
  by_cases e:b<a
  .left;have:b*h+h<=a*h:=by rw[<-o5];exact hc h e
   omega
  right;have:(a+A)*h<=b*h:=hc h w;grind
 rcases this with e|e
 .rw[bl e];exact p.rd b g o _ d
 rw[bj w,bj w];exact p.rd b g o _ d
def DU{W h i}{r:Nat->m M}{e}(u:Rd b.D aa (.B l i 0 r))(k:aq[d]?=f (.q W h 0 V))(s:e[d]?=f ⟨.slice n 0 0,[]⟩):cB aq {b with t:=e} aa (.O d (.B 0 h 0 0)):=by obtain⟨p,j,z,t,_,_,q,_,_⟩:=u.b1;have:=q a;subst this;refine⟨.slice n 0 0,⟨p,n,0,0,t,by omega,a,by omega,a,λg=>absurd g w⟩,(cP.1 k).1,λo x y kQ g=>?_⟩;rw[k]at g;cases g;exact⟨bC _,λ_=>⟨_,s,a⟩⟩
def dw.ji{a}{V}(i:dw {b with t:=a++[⟨aa,[]⟩]} V)(k:b.t=a):dw b V:=by
 intro h g;have e:=i h g;have key:∀d,(∃L∈a++[(⟨aa,[]⟩:Loc)],d∈L.al)->∃L∈b.t,d∈L.al:=λd ⟨L,m,j⟩=>by grind
 unfold ie at e⊢;grind
def a1.ib{j t:ae}{a5}(E:j9 P r j t W a5){h}{s}{e:Nat->m M}(Q:η j=ax (.B l h 0 V))(J:∀b z,bx k b z (η t)->Rd b.D z (.B s a5.size A e))(p:(0+A)*a5.bytes<=140737488355328):
  a1 P r η k (cE (c k) (.B (0+A) a5.size 0 (0+A))) (k++[.q W a5.size (0+A) (cj 0 V e)]):=by intro b u bR i;have g:=i j;rw[Q]at g;have o:=J b _ (i t);obtain⟨I,F⟩:=bR.b0 (bT:=.q W a5.size 0 V) (L:=⟨.slice n 0 0,[]⟩) (.refl _ _) rfl bR (.inl ⟨rfl,rfl⟩) D;have C:cB (k++[.q W a5.size 0 V]) {b with t:=b.t++[⟨.slice n 0 0,[]⟩]} (u j) (.O (c k) (.B 0 a5.size 0 0)):=DU (W:=W) (V:=V) (b8 g) D uh;obtain⟨N,q,K,w,y,x,O⟩:=GU (P:=P) (k:=k++[.q W a5.size 0 V]) (b:={b with t:=b.t++[⟨.slice n 0 0,[]⟩]}) (d:=c k) (V:=V) E I C D o p;have B:(k++[ar.q W a5.size 0 V]).set (c k) (.q W a5.size (0+A) (cj 0 V e))=k++[.q W a5.size (0+A) (cj 0 V e)]:=D;rw[B]at w y x;exact⟨N,q,K,w,y,F.trans x,O.ji a⟩
def qJ(d e g:Nat)(a:Nat->m M):Nat->m M:=λb=>if d<=b/\b<d+g then a (e+(b-d))else a b
def a1.ia{a_ a':ae}{a5}(aD:j9 P r a_ a' W a5)(bz:η a_=cE d (.B j a5.size 0 e))(bA:η a'=cE d (.B j a5.size u A))(t:k[d]?=f (.q W a5.size j V))(Z:e+A<=j)(aN:u+A<=j):
  a1 P r η k (cE d (.B j a5.size 0 (e+A))) (k.set d (.q W a5.size j (qJ e u A V))):=by
 intro b a7 q aT;obtain⟨b3,t2,b4,bS,bx,s,ar,bd,aP⟩:=aD.op;have ao:=aT a_;rw[bz]at ao;change cB k b (a7 a_) (.O d _)at ao;have aq:=aT a';rw[bA]at aq;change cB k b (a7 a') (.O d _)at aq;obtain⟨bD,⟨x,bh,h,y,aV,bg,aK,T,aa,X⟩,_,bG⟩:=ao;obtain⟨L,E,bf⟩:=(bG _ _ _ _ t).2 rfl;rw[aa]at bf;obtain⟨bQ,⟨o,bI,aB,bK,aX,bZ,bp,bq,au,br⟩,_,az⟩:=aq;obtain⟨bV,S,H⟩:=(az _ _ _ _ t).2 rfl;rw[E]at S;cases S;rw[au,bf]at H;cases H;have aG:=ca E;have ax:=s.run_underlying (p:=b.a);have bc:=bd.run_underlying (p:=b.a);rw[ar]at ax;rw[aP]at bc;rw[ll bx,aV,aX];by_cases aO:j=0
 .have an:e=0:=w;have bm:A=0:=w;subst aO an bm;have aw:k.set d (.q W a5.size 0 (qJ 0 u 0 V))=k:=by
   have:qJ 0 u 0 V=V:=by funext bk;exact cX
   rw[this];exact m6
  have aY:Rd b.D (.slice o 0 aB) (.B v a5.size 0 λ_=>[]):=.B 0 0 (λ_ _=>I) w w D (λe s=>by omega) (λaD=>by omega) (λe s=>by omega) (λe s=>by omega);have bF:=zq (P:=P) (ty:=r.type) s ar bd aP aD.elem q (x:=x) bg aY;rw[aw];refine⟨.value (.slice x 0 h),b,?_,?_,q,.refl _ _,i2 (yd s ar bd aP aD.elem q bg aY)⟩
  .simp[bF]
  exact⟨bD,⟨x,bh,h,y,a,bg,aK,T,aa,X⟩,(cP.1 t).1,bG⟩
 rcases q.box d _ L t E with⟨ak,_⟩|⟨i,aj,z,ah,rfl,C,aZ,a0,a2,ag,aI⟩
 .grind
 cases bf;have bW:0<h:=w;obtain⟨b0,an,rfl⟩:=X bW;cases an;have aL:y=h:=w;subst aL;rw[show i=i from a];have bP:=ag.len;have bB:e+A<=y:=w;have bL:e*a5.size+A*a5.size<=j*a5.size:=by rw[<-jM];exact hc _ Z
 have bM:u*a5.size+A*a5.size<=j*a5.size:=by rw[<-jM];exact hc _ aN
 obtain⟨aj,bl⟩:=q.ft (i:=i) (z:=z) aI (λbk aF G=>by
  simp[aH,C]
  grind)
 let m:=(z.drop (u*a5.size)).take (A*a5.size);have aR:c m=A*a5.size:=N;have aQ:∀g,g<A*a5.size->m[g]?=z[u*a5.size+g]?:=λg J=>by grind
 have R:e3 b.D a5.size A (λbk=>V (u+bk)) m:=by
  refine⟨aR,λbk G=>ag.bF _ w,λbk G g bj J=>?_⟩;have bO:g<a5.size:=by have:=(cP.1 J).1;rw[ag.bF _ w]at this;omega
  obtain⟨aF,O,F⟩:=ag.rd (u+bk) w g bj J;refine⟨aF,?_,F⟩;exact RQ
 have bR:=R.cell;have af:Rd (λB bk=>if B=i then z[bk]? else b.D B bk) (.slice o A aB) (.B v a5.size A (nv a5.size λbk g=>z.getD ((u+bk)*a5.size+g) I)):=by
  refine .B i (u*a5.size) (λbk g=>z.getD ((u+bk)*a5.size+g) I) bZ w D (λbk _=>by simp[nv]) (λJ=>N) (λbk G g bj J=>?_) (λbk G g bj J=>?_)
  .obtain⟨a3,_⟩:=s7 J;exact RQ
  obtain⟨a3,rfl⟩:=s7 J;obtain⟨ai,aJ⟩:∃ai,(V (u+bk))[g]?=f ai:=⟨_,bJ (by rw[ag.bF _ w];exact a3)⟩
  obtain⟨aF,O,F⟩:=ag.rd (u+bk) w g ai aJ;have ak:z.getD ((u+bk)*a5.size+g) I=aF:=N;rw[ak];exact .val F.cell
 obtain⟨Q,bH,K,bu⟩:=oL (P:=P) (b:={b with D:=λB bk=>if B=i then z[bk]? else b.D B bk}) aj af;have aS:Q=m:=by
  apply qa;intro g;have bN:=bH.len;by_cases J:g<A*a5.size
  .have bY:0<a5.size:=N;have G:g / a5.size<A:=sA N;have ab:=uG g a5.size;obtain⟨aF,O,F⟩:=bH.rd _ G (g % a5.size) _ (CX (p7 _ bY));rw[ab]at O;rw[O,aQ g J,Rd.bd F];rw[jM,Nat.add_assoc,ab,al,bJ w];rfl
  grind
 subst aS;have aM:=s5 (P:=P) (b:={b with D:=λB bk=>if B=i then z[bk]? else b.D B bk}) aj af (p:=b.a) rfl;replace K:(Builtin.firstCells a5.size A (.slice o A aB)).run P b.a=.ok m.toArray b.a:=K;have bt:e*a5.size+c m<=c (z++ah):=N;have M:=run_storeCells_at P i (e*a5.size) W m 0 (z++ah).toArray b.a C N bR;simp only[kh]at M;have av:((z++ah).toArray.toList.take (e*a5.size)++m++(z++ah).toArray.toList.drop (e*a5.size+c m))=z.take (e*a5.size)++m++z.drop (e*a5.size+c m)++ah:=N;rw[av]at M;have a4:=ag.hI R Z;have bs:(λbk=>if e<=bk/\bk<e+A then(λbk=>V (u+bk)) (bk-e)else V bk)=qJ e u A V:=rfl;rw[bs]at a4;obtain⟨bE,a6⟩:=q.gB t E aZ a0 a2 C a4 N aI;have bT:(Builtin.lenOf (.slice o A aB)).run P b.a=.ok A b.a:=cX;have bX:(Builtin.lenOf (.slice o A aB)).events P b.a #[]=#[]:=cX;refine⟨.value (.slice (f ⟨i,0*a5.size,n⟩) (e+A) y),_,?_,?_,bE,a6,i2 ?_⟩
 .have bF:(Builtin.append_ #[b3,t2] r.type #[.slice (f ⟨i,0*a5.size,n⟩) e y,.slice o A aB]).run P b.a=.ok (.slice (f ⟨i,0*a5.size,n⟩) (e+A) y) (b.a.setRow i (z.take (e*a5.size)++m++z.drop (e*a5.size+c m)++ah).toArray):=by unfold Builtin.append_;simp[kf,mn,n9,cK,ax,bc,c_,aD.elem.bc,d',kg,dn,bT,bB,dx,hT,K,g6,Nat.zero_mul,cV,M]
  grind[Go.Sem.run_bind,Go.Result.andThen_ok,Go.Sem.run_pure]
 .exact⟨.slice (f ⟨i,0,n⟩) 0 y,⟨_,_,y,y,a,bB,by omega,T,a,λ_=>⟨i,a,a⟩⟩,by grind,λbU b1 b2 kQ Y=>by rw[iy (cP.1 t).1]at Y;cases Y;exact⟨bC _,λ_=>⟨_,E,a⟩⟩⟩
 .intro ak bb;unfold Builtin.append_ at bb;simp[kf,mn,n9,aC,cK,ax,bc,aE,aD.elem.bc,d',kg,dn,bT,bX,bB,dx,hT,K,g6,Nat.zero_mul,cV,M,
   sJ,Sem.events_ite,events_underlying,events_sizeOf,Sem.events_pure]at bb
  rcases nu m 0 (z++ah).toArray b.a _ C N bR ak bb with bn|⟨g,_,_,rfl⟩
  .have bo:dw {b with D:=λB bk=>if B=i then z[bk]? else b.D B bk} #[ak]:=dw.R (tD (aM ak bn));exact bo.gH (i:=i) aG D bl (λB bk aF aV=>by grind) ak D
  grind[oo]
section
variable {ac:m (Nat×cq)}
theorem a1.slice3B(a0:b3 P ac){D p E F:ae}(R:r.op=.slice o D (f p) (f E) (f F)){I a5}(y:b0 ac o=f I)(H:I.desc=.slice W)(T:b0 ac W=f a5){C h ai}{aa b s}{e u A}(X:η D=cE d (.B C h ai j))(U:η p=ax (.int aa e))(V:η E=ax (.int b u))(S:η F=ax (.int s A))(av:0<=e)(Z:e<=u)(af:u<=A)(aw:A<=j):a1 P r η k (.n (.R .any)) k:=by
 refine .aR λg q ag m=>?_;have K:=m D;rw[X]at K;change cB k g (q D) (.O d _)at K;obtain⟨ah,⟨O,Y,i,az,G,au,ao,ar,aq,L⟩,_,_⟩:=K;have B:=m p;rw[U]at B;replace B:=b8 B;generalize Q:q p=aj at B;cases B;have t:=m E;rw[V]at t;replace t:=b8 t;generalize M:q E=ak at t;cases t;have x:=m F;rw[S]at x;replace x:=b8 x;generalize N:q F=an at x;cases x;have J:=(a0 o I y).run_underlying (p:=g.a);rw[H]at J;have z:(aS l j i (f (.int aa e)) (f (.int b u)) (f (.int s A))).run P g.a=.ok (e.toNat,u.toNat,A.toNat) g.a:=by simp[aS,run_sliceBound (P:=P) g.a s A i _ w w,run_sliceBound (P:=P) g.a b u A.toNat _ w w,run_sliceBound (P:=P) g.a aa e u.toNat _ w w]
 have aP:(aS l j i (f (.int aa e)) (f (.int b u)) (f (.int s A))).events P g.a #[]=#[]:=by
  simp[aS,run_sliceBound (P:=P) g.a s A i _ w w,run_sliceBound (P:=P) g.a b u A.toNat _ w w,run_sliceBound (P:=P) g.a aa e u.toNat _ w w,
   lk (P:=P) g.a s A i _ w w,lk (P:=P) g.a b u A.toNat _ w w,lk (P:=P) g.a aa e u.toNat _ w w]
 refine⟨.slice (if A.toNat=e.toNat then O else O.map (·.add (e.toNat*a5.size))) (u.toNat-e.toNat) (A.toNat-e.toNat),?_,a,by simp[ab,R,G,Q,M,N,Instr.sliceAt,J,Instr.slice,z,aP]⟩;simp[ab,R,G,Q,M,N,Instr.sliceAt,J,Instr.slice,z,(a0 W a5 T).bc]
end
section drop
variable {aX bq:m ar}
def a6.cut(a:a6)(b:Nat):a6:={a with t:=a.t.take b}
def cB.drop{g}(e:cB (aX++bq) b aa g)(h:l1 (c aX) g=l):cB aX (b.cut (c aX)) aa g:=by
 have lt:∀{d:Nat},ay (d+1) (c aX)=l->d<c aX:=λq=>fA q;cases g with
 |c w=>exact e
 |any=>exact e
 |ptr d t=>
  have gW:=lt h;obtain⟨a,L,o,j,aj⟩:=e;refine⟨λi k=>a i N,L,o,?_,aj⟩;simp[a6.cut,iA,gW,dx];exact j
 |aP d=>
  have gW:=lt h;obtain⟨a,L,j,aj⟩:=e;refine⟨λi k=>a i N,L,?_,aj⟩;simp[a6.cut,iA,gW,dx];exact j
 |O d u=>
  have gW:=lt h;obtain⟨m,a,_,aj⟩:=e;refine⟨m,a,gW,λW gp DT dI k=>?_⟩;exact Q6
 |x d r s p=>
  have gW:=lt h;obtain⟨a,_,aj⟩:=e;refine⟨a,gW,λW gp DT dI k=>?_⟩;exact Q6
def bP.cG:∀{z:m X}{a:m Q},bP (aX++bq) b z a->lp (c aX) a=l->bP aX (b.cut (c aX)) z a
 |[],[],_,_=>trivial
 |[],_::_,d,_=>d.elim
 |_::_,[],d,_=>d.elim
 |i::z,h::a,d,e=>by
  simp[lp]at e;cases g:l1 (c aX) h with
  |false=>grind
  |true=>simp[g]at e;exact⟨d.1.drop g,bP.cG d.2 e⟩
def eC.cG{aa}{a}(h:eC (aX++bq) b aa a)(g:pp (c aX) a=l):eC aX (b.cut (c aX)) aa a:=by
 cases a with
 |R j=>exact cB.drop h g
 |agg i=>obtain⟨z,d,e⟩:=h;exact⟨z,d,bP.cG e g⟩
def e4.cG:∀{z:m X}{a:m E1},e4 (aX++bq) b z a->oz (c aX) a=l->e4 aX (b.cut (c aX)) z a
 |[],[],_,_=>trivial
 |[],_::_,d,_=>d.elim
 |_::_,[],d,_=>d.elim
 |i::z,h::a,d,e=>by
  simp[oz]at e;cases g:pp (c aX) h with
  |false=>grind
  |true=>simp[g]at e;exact⟨eC.cG d.1 g,e4.cG d.2 e⟩
def bx.drop{a}(h:bx (aX++bq) b aa a)(g:h0 (c aX) a=l):bx aX (b.cut (c aX)) aa a:=by
 cases a with
 |n j=>exact eC.cG h g
 |T i=>obtain⟨z,d,e⟩:=h;exact⟨z,d,e4.cG e g⟩
 |any=>trivial
def dg.drop{d}{h}(a:dg d h (aX++bq) b)(s:d.length<=c aX):dg d h aX (b.cut (c aX)):=by refine⟨a.size,a.a4,a.mem,a.bz,λL k r o=>a.bR L (g4 k) r o,?_,a.os,a.tape,a.output,a.own⟩;intro p q L aM k;obtain⟨i,j,e,m,t⟩:=a.box p q L aM k;have g:p<c aX:=eK (cP.1 aM).1 s;rw[kb g]at e;exact⟨i,j,e,by simp[a6.cut,iA,g,dx];exact m,t⟩
def cB.cF{g}(j:c b.t=c k)(e:cB k b aa g):l1 (c k) g=l:=by
 have ok:∀{a:Nat},a<c k->ay (a+1) (c k)=l:=λd=>AT d;have lt:∀{a:Nat} {L:Loc},b.t[a]?=f L->a<c k:=λd=>by grind
 cases g with
 |c t=>rfl
 |any=>rfl
 |ptr a r=>obtain⟨_,L,o,h,_⟩:=e;exact ok (lt h)
 |aP a=>obtain⟨_,L,h,_⟩:=e;exact ok (lt h)
 |O a s=>obtain⟨m,_,d,_⟩:=e;exact ok d
 |x a p q i=>exact ok e.2.1
def bP.cF{k}(e:c b.t=c k):∀{z:m X}{a:m Q},bP k b z a->lp (c k) a=l
 |[],[],_=>rfl
 |[],_::_,d=>d.elim
 |_::_,[],d=>d.elim
 |h::z,g::a,d=>by simp[lp,d.1.cF e];exact bP.cF e d.2
def eC.cF{k}(a:c b.t=c k){aa}{d}(e:eC k b aa d):pp (c k) d=l:=by
 cases d with
 |R i=>exact cB.cF a e
 |agg g=>obtain⟨z,_,h⟩:=e;exact bP.cF a h
def e4.cF{k}(e:c b.t=c k):∀{z:m X}{a:m E1},e4 k b z a->oz (c k) a=l
 |[],[],_=>rfl
 |[],_::_,d=>d.elim
 |_::_,[],d=>d.elim
 |h::z,g::a,d=>by simp[oz,eC.cF e d.1];exact e4.cF e d.2
def bx.cF{k}(a:c b.t=c k){aa}{d}(e:bx k b aa d):h0 (c k) d=l:=by
 cases d with
 |n i=>exact eC.cF a e
 |T h=>obtain⟨z,_,g⟩:=e;exact e4.cF a g
 |any=>rfl
def AA(o:Nat)(d:m ar)(k:Nat)(b:ar):Prop:=(∃h a,b=.cells h a/\lp o a=l)∨d[k]?=f b∨(∃g e i j,b=.loop g e i/\d[k]?=f (.loop g e j))∨((∀h a,b≠.cells h a)/\∀g e i,b≠.loop g e i)
def bc.gY{w}{g}(r:bc g w)(x:g.length=c aX)(O:∀d(s:ar),aX[d]?=f s->AA (c aX) g d s)(j:bc (aX++bq) b):bc aX (b.cut (c aX)):=by
 have E:c aX<=c b.t:=by rw[j.len];simp
 refine⟨j.mem,by simp[a6.cut,E],?_,?_,?_,λh a=>⟨(j.own h a).1,λL e=>(j.own h a).2 L (g4 e)⟩⟩
 .intro d s L aM e;have K:d<c aX:=(cP.1 aM).1;simp[a6.cut,iA,K,dx]at e;have q:=j.box d s L N e;have y:∃A,w.t[d]?=f A:=⟨_,bJ (by rw[r.len,x];exact K)⟩
  obtain⟨A,y⟩:=y;have aa:=r.len.trans x;cases s with
  |cells J S=>
   obtain⟨h,z,k,m,I,F⟩:=q;refine⟨h,z,k,m,bP.cG I ?_,F⟩;rcases O d _ aM with⟨_,_,t,i⟩|i|⟨_,_,_,_,t,_⟩|i
   .grind
   .obtain⟨_,_,_,_,Y,_⟩:=r.box d _ A i y;exact x▸Y.cF r.len
   .cases t
   grind
  |x J T U D=>exact q
  |K H=>exact q
  |N=>trivial
  |loop R Q Z=>
   obtain⟨o,tmps,fn,W,k,m,I,F,X⟩:=q;have key:∃p,g[d]?=f (.loop R Q p):=by
    rcases O d _ aM with⟨_,_,t,_⟩|i|⟨_,_,_,p,t,i⟩|i
    .cases t
    .grind
    .grind
    grind
   obtain⟨p,i⟩:=key;obtain⟨_,_,_,_,_,_,_,V,_⟩:=r.box d _ A i y;exact⟨o,tmps,fn,W,k,m,I,λM=>(F M).drop (x▸(V M).cF r.len),X⟩
  |bk=>exact q
  |q J T U D=>exact q
 .intro d o L B e C h a u;simp only[a6.cut,iA]at e C;split at e<;>split at C<;>first|exact j.a3 d o L B e C h a u|grind|grind
 intro L e h a;exact j.lt L (g4 e) h a
def bc.iC{e}(g:bc aX e)(d:bc (aX++bq) b):bc aX (b.cut (c aX)):=g.gY a (λ_ _ d=>.inr (.inl d)) d
def aT.e4{u:af P}{h}(m:aT u F all r J k (.n (.R (.x (c k) h j V))) (k++[.x W h j V])):aT u F all r J k (ax (.B v h j V)) k:=by
 intro D y A g w s i x C d a p o;refine m D y A g w s i x C d a p λE e q b t=>?_;have B:e_ e (e.cut (c k)):=⟨rfl,λ_ _ _ m=>m,λ_ _ _=>rfl,b.mem,λw a=>a.imp id λ⟨L,z,a⟩=>⟨L,g4 z,a⟩⟩
 exact .aO B (o E (e.cut (c k)) q.1 (g.iC b) (t.drop (bC _)))
end drop
end Go.AM
