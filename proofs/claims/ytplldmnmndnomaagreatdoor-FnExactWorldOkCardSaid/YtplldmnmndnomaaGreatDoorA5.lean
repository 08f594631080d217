/-
  Part 5 of a machine of values without memory, proved sound over the model, and of contracts of the functions that the laws reach. Nothing is taken for granted: no condition.
-/
import Derived.Test.YtplldmnmndnomaaGreatDoorA4
import Derived.Conc.WgGenN2
import Derived.Conc.WgGenN3
import Derived.Lib.FrozenHead
import Derived.Lib.UnsafeStr
import Derived.Lib.MakeNoZero
import Derived.Laws.Externs
import Derived.Lib.Builder
import Derived.Maps.RangeRun
import Derived.Lib.Bytealg
import Derived.Conc.DeferLaws
set_option linter.unusedVariables false
set_option linter.unusedSimpArgs false
set_option linter.defProp false
set_option linter.deprecated false
namespace Go.AM
open Go.Conc Go.RowKit Go.Conc.Lib Go.ConcR.Gen
open Go.ConcN (WgLive)
open Go.ConcR (KK WgAt stA smA rd wr mk DC0)
variable {L:WgLink}
section
variable (P:Program)(R:World->World->Prop)(L:WgLink)(Wg:Nat)(a:Goroutine)
def O6(g:Goroutine)(_:World):Prop:=g.status=.running/\∃ g',(∀ w,stepG P true g w=.go g' w #[mk .enable])/\∀ w1,WgLive L.tWg Wg w1->∃ m,Goes P true R DC0 (λg _=>g=a) m g' w1
def Um(g:Goroutine)(_:World):Prop:=g.status=.running/\∃ g' ad,ad.block=Wg/\(∀ w,stepG P true g w=.go g' w #[mk (.read ad)])/\∀ w1,WgLive L.tWg Wg w1->∃ m,Goes P true R DC0 (O6 P R L Wg a) m g' w1
def QV(g:Goroutine)(w:World):Prop:=g.status=.running/\∀ v:Nat,v<2147483647->WgAt L.tWg Wg w (v*KK) 0 ->
 ∃ g',stepG P true g w=.go g' (w.setCell (stA Wg) (.int .u64 ((v+1)*KK))) #[rd (stA Wg),wr (stA Wg)]/\∃ m,Goes P true R DC0 (λg w=>Um P R L Wg a g w∨O6 P R L Wg a g w) m g' (w.setCell (stA Wg) (.int .u64 ((v+1)*KK)))
def Un(g:Goroutine)(_:World):Prop:=g.status=.running/\∃ g',(∀ w,stepG P true g w=.go g' w #[mk .disable])/\∀ w1,WgLive L.tWg Wg w1->∃ m,Goes P true R DC0 (QV P R L Wg a) m g' w1
end
set_option maxRecDepth 100000 in
set_option maxHeartbeats 2000000 in
theorem GJ{P:Program}(H:WgLib P L){R:World->World->Prop}{Wg:Nat}(c:∀ {w w1},WgLive L.tWg Wg w->R w w1->WgLive L.tWg Wg w1){b₀:Frame}{a₀:Act}{ops₀:Array Oper}{i₀:Nat}{rest₀:List Nat}{k₀:List Item}{cs:List Frame}
  (w:World) (b:WgLive L.tWg Wg w) :
  Goes P true R DC0 (Un P R L Wg (G (b₀.at (a₀.put ((ops₀[i₀]?).bind (·.dst)) (.tuple #[])) (.inRegion ops₀ rest₀::k₀)) cs)) 12
   (G ((base L.add).at ⟨#[.pointer (some ⟨Wg,0,none⟩),.int .i64 1,undef,undef,undef,undef,undef,undef,undef,undef,undef,undef,undef,undef,undef,undef,undef,undef,undef,undef,undef,undef,undef,undef,undef,undef,undef,undef,undef,undef,undef,undef,undef,undef,undef,undef,undef,undef,undef,undef,undef,undef,undef,undef,undef,undef,undef,undef,undef,undef,undef,undef,undef,undef,undef,undef,undef,undef,undef,undef,undef,undef,undef,undef,undef,undef,undef,undef,undef,undef,undef,undef,undef,undef,undef,undef,undef,undef,undef,undef,undef,undef,undef,undef,undef,undef,undef,undef,undef,undef,undef,undef,undef,undef,undef,undef,undef,undef,undef,undef,undef,undef,undef,undef,undef,undef,undef,undef,undef,undef,undef,undef,undef,undef,undef,undef,undef],[]⟩ [.code (body_add L)]) (b₀.at a₀ (.inRegion ops₀ (i₀::rest₀)::k₀)::cs)) w:=by
 lib_facts
 simp only[body_add,addFn,cw]
 repeat (u_c stepG_seq c b)
 u_cond true c b
 repeat (u_c stepG_seq c b)
 u_reg c b
 u_op c b
 u_op c b
 u_c stepG_region_end c b
 repeat (u_c stepG_seq c b)
 u_cond false c b
 u_c stepG_skip c b
 repeat (u_c stepG_seq c b)
 u_reg c b
 refine Goes.stop (λm h=>?_)
 refine⟨rfl,_,λw=>stepG_mark0 .disable (by simp) rfl rfl (by k_ne) rfl H.f_disable (x_disable_n L) (x_disable_b L) (x_disable_x L) (x_disable_f L),λw b=>?_⟩
 clear h;refine⟨40,?_⟩
 walk_nrm
 u_c stepG_region_end c b
 repeat (u_c stepG_seq c b)
 u_reg c b
 u_defer c b
 u_c stepG_region_end c b
 repeat (u_c stepG_seq c b)
 u_reg c b
 u_op c b
 u_c stepG_region_end c b
 repeat (u_c stepG_seq c b)
 u_reg c b
 u_bub c b
 u_c stepG_region_end c b
 repeat (u_c stepG_seq c b)
 u_cond false c b
 u_c stepG_skip c b
 repeat (u_c stepG_seq c b)
 u_reg c b
 u_op c b
 u_op c b
 u_op c b
 u_op c b
 u_op c b
 u_op c b
 u_call H.f_uAdd (nm_uAdd L) uAddFn c b
 repeat (u_c stepG_seq c b)
 u_reg c b
 u_op c b
 u_c stepG_region_end c b
 repeat (u_c stepG_seq c b)
 u_reg c b
 u_op c b
 u_op c b
 u_op c b
 u_op c b
 refine Goes.stop (λf e=>?_)
 replace b:=c b e
 clear e;refine⟨rfl,λv r j=>?_⟩
 have l:KK=4294967296:=rfl;have o:IntKind.u64.wrap ((v:Int)*KK+4294967296)=((v:Int)+1)*KK:=by rw[IntKind.wrap_u64];simp only[l];omega
 refine⟨_,(stepG_add_atomic rfl rfl (by k_ne) rfl H.f_addU64 (x_addU64_n L) (x_addU64_b L) (x_addU64_x L) .u64 (x_addU64_f L) rfl rfl j.cellSt (j.thaw 0)).trans (by rw[o];rfl),110,?_⟩
 replace b:WgLive L.tWg Wg (f.setCell (stA Wg) (.int .u64 (((v:Int)+1)*KK))):=⟨_,_,j.setSt _⟩
 clear j
 walk_nrm
 u_op c b
 u_c stepG_region_end c b
 u_c stepG_ret' c b
 u_leave1 H.f_uAdd c b
 u_op c b
 u_c stepG_region_end c b
 have u:bits .and .u64 (((v:Int)+1)*4294967296) 2147483648=0:=by
  have:=Go.ConcN.st_flag (v+1) 0 (by omega) (by omega)
  simpa using this
 have s:bits .and .u64 (((v:Int)+1)*4294967296) 2147483647=0:=by
  have:=Go.ConcN.st_waiters (v+1) 0 (by omega) (by omega)
  simpa using this
 have t:((v:Int)+1+2147483648) % 4294967296-2147483648=(v:Int)+1:=by omega
 have x:¬((v:Int)+1<0):=by omega
 have q:(0:Int)<(v:Int)+1:=by omega
 repeat (u_c stepG_seq c b)
 u_reg c b
 u_op c b
 u_op c b
 u_op c b
 u_op c b
 u_skip c b
 u_skip c b
 u_op c b
 u_c stepG_region_end c b
 repeat (u_c stepG_seq c b)
 u_cond false c b
 u_c stepG_skip c b
 repeat (u_c stepG_seq c b)
 u_reg c b
 u_op c b
 u_op c b
 u_op c b
 u_op c b
 u_c stepG_region_end c b
 repeat (u_c stepG_seq c b)
 u_reg c b
 u_op c b
 u_op c b
 u_op c b
 u_op c b
 u_c stepG_region_end c b
 by_cases k:(v:Int)+1=1
 ·repeat (u_c stepG_seq c b)
  u_reg c b
  u_op c b
  u_op c b
  u_op c b
  u_op c b
  u_op c b
  u_op c b
  u_op c b
  u_op c b
  u_op c b
  u_op c b
  u_c stepG_region_end c b
  repeat (u_c stepG_seq c b)
  u_cond true c b
  repeat (u_c stepG_seq c b)
  u_reg c b
  u_op c b
  u_op c b
  u_op c b
  u_conv H.underlying_tPU32 H.room_tU32 (Go.ConcN.Gen.WgLive.cell1 b).choose_spec c b
  refine Goes.stop (λn i=>.inl ?_)
  clear i;refine⟨rfl,_,⟨Wg,1,none⟩,rfl,λw=>stepG_markAt .read (by simp) rfl rfl (by k_ne) rfl H.f_raceRead (x_raceRead_n L) (x_raceRead_b L) (x_raceRead_x L) (x_raceRead_f L) (ad:=⟨Wg,1,none⟩) (by simp[Act.eval]),λw b=>⟨50,?_⟩⟩
  walk_nrm
  u_c stepG_region_end c b
  repeat (u_c stepG_seq c b)
  u_reg c b
  u_op c b
  u_op c b
  u_c stepG_region_end c b
  repeat (u_c stepG_seq c b)
  u_cond false c b
  u_c stepG_skip c b
  repeat (u_c stepG_seq c b)
  u_reg c b
  u_op c b
  u_op c b
  u_op c b
  u_skip c b
  u_skip c b
  u_op c b
  u_op c b
  u_skip c b
  u_skip c b
  u_skip c b
  u_skip c b
  u_op c b
  u_c stepG_region_end c b
  repeat (u_c stepG_seq c b)
  u_cond false c b
  u_c stepG_skip c b
  repeat (u_c stepG_seq c b)
  u_reg c b
  u_op c b
  u_op c b
  u_op c b
  u_skip c b
  u_skip c b
  u_op c b
  u_c stepG_region_end c b
  repeat (u_c stepG_seq c b)
  u_cond true c b
  u_c stepG_ret' c b
  refine Goes.stop (λg d=>?_)
  clear d;refine⟨rfl,_,λw=>stepG_unwind_entry (v:=.tuple #[]) (evs:=#[mk .enable]) rfl H.f_enable (x_enable_n L) (x_enable_b L) (x_enable_x L) (x_enable_f L) (by simp[Extern.Race.none_]) (by simp[mk]) (by simp[mk]),λw b=>⟨1,?_⟩⟩
  u_leave0 H.f_add c b
  exact Goes.stop λ_ _=>rfl
 ·have p:((v:Int)+1==1)=false:=by simpa using k
  repeat (u_c stepG_seq c b)
  u_reg c b
  u_op c b
  u_op c b
  u_op c b
  u_op c b
  u_op c b
  u_op c b
  u_op c b
  u_op c b
  u_op c b
  u_op c b
  u_c stepG_region_end c b
  repeat (u_c stepG_seq c b)
  u_cond false c b
  u_c stepG_skip c b
  repeat (u_c stepG_seq c b)
  u_reg c b
  u_op c b
  u_op c b
  u_c stepG_region_end c b
  repeat (u_c stepG_seq c b)
  u_cond false c b
  u_c stepG_skip c b
  repeat (u_c stepG_seq c b)
  u_reg c b
  u_op c b
  u_op c b
  u_op c b
  u_skip c b
  u_skip c b
  u_op c b
  u_op c b
  u_skip c b
  u_skip c b
  u_skip c b
  u_skip c b
  u_op c b
  u_c stepG_region_end c b
  repeat (u_c stepG_seq c b)
  u_cond false c b
  u_c stepG_skip c b
  repeat (u_c stepG_seq c b)
  u_reg c b
  u_op c b
  u_op c b
  u_op c b
  u_skip c b
  u_skip c b
  u_op c b
  u_c stepG_region_end c b
  repeat (u_c stepG_seq c b)
  u_cond true c b
  u_c stepG_ret' c b
  refine Goes.stop (λg d=>.inr ?_)
  clear d;refine⟨rfl,_,λw=>stepG_unwind_entry (v:=.tuple #[]) (evs:=#[mk .enable]) rfl H.f_enable (x_enable_n L) (x_enable_b L) (x_enable_x L) (x_enable_f L) (by simp[Extern.Race.none_]) (by simp[mk]) (by simp[mk]),λw b=>⟨1,?_⟩⟩
  u_leave0 H.f_add c b
  exact Goes.stop λ_ _=>rfl
end Go.AM
namespace Go.AM
open Go.Conc Go.RowKit Go.Conc.Lib Go.ConcR.Gen
open Go.ConcN (WgLive)
open Go.ConcR (KK WgAt stA smA rd wr mk DC0)
section
variable (P:Program)(R:World->World->Prop)(L:WgLink)(Wg:Nat)(a:Goroutine)(b:Goroutine->Prop)
def LZ(g:Goroutine)(_:World):Prop:=g.status=.running/\∃ g',(∀ w,stepG P true g w=.go g' w #[mk (.acquire (stA Wg))])/\∀ w1,WgLive L.tWg Wg w1->∃ m,Goes P true R DC0 (λg _=>g=a) m g' w1
def O7(g:Goroutine)(_:World):Prop:=g.status=.running/\∃ g',(∀ w,stepG P true g w=.go g' w #[mk .enable])/\∀ w1,WgLive L.tWg Wg w1->∃ m,Goes P true R DC0 (LZ P R L Wg a) m g' w1
def QW(g:Goroutine)(w:World):Prop:=g.status=.running/\(WgAt L.tWg Wg w 0 0->∃ g',stepG P true g w=.go g' w #[rd (stA Wg)]/\∃ m,Goes P true R DC0 (O7 P R L Wg a) m g' w)
def QX(g:Goroutine)(w:World):Prop:=g.status=.running/\g.offers=none/\((∃ st,WgAt L.tWg Wg w st 0)->stepG P true g w=.go { g with status:=.blocked } w #[]) /\
 (WgAt L.tWg Wg w 0 1->∃ g',stepG P true g w=.go g' (w.setCell (smA Wg) (.int .u32 0)) (semEvents (smA Wg))/\∃ m,Goes P true R DC0 (QW P R L Wg a) m g' (w.setCell (smA Wg) (.int .u32 0)))
def QY(g:Goroutine)(_:World):Prop:=g.status=.running/\∃ g' ad,ad.block=Wg/\(∀ w,stepG P true g w=.go g' w #[mk (.write ad)])/\∀ w1,WgLive L.tWg Wg w1->∃ m,Goes P true R DC0 (QX P R L Wg a) m g' w1
def QZ(vs:Nat)(g:Goroutine)(w:World):Prop:=g.status=.running/\∀ v:Nat,v<2147483648->WgAt L.tWg Wg w (v*KK) 0 ->
 (v=vs->∃ g',stepG P true g w=.go g' (w.setCell (stA Wg) (.int .u64 (v*KK+1))) #[rd (stA Wg),wr (stA Wg)]/\∃ m,Goes P true R DC0 (QY P R L Wg a) m g' (w.setCell (stA Wg) (.int .u64 (v*KK+1)))) /\
 (v≠vs->∃ g',stepG P true g w=.go g' w #[rd (stA Wg)]/\∃ m,Goes P true R DC0 (λg _=>b g) m g' w)
def Uo(g:Goroutine)(w:World):Prop:=g.status=.running/\∀ v:Nat,v<2147483648->WgAt L.tWg Wg w (v*KK) 0 ->
 ∃ g',stepG P true g w=.go g' w #[rd (stA Wg)]/\(v=0->∃ m,Goes P true R DC0 (O7 P R L Wg a) m g' w)/\(v≠0->∃ m,Goes P true R DC0 (QZ P R L Wg a b v) m g' w)
def Up(g:Goroutine)(_:World):Prop:=g.status=.running/\∃ g',(∀ w,stepG P true g w=.go g' w #[mk .disable])/\∀ w1,WgLive L.tWg Wg w1->∃ m,Goes P true R DC0 (λg _=>b g) m g' w1
end
def Js(L:WgLink)(Wg:Nat)(c:Frame)(cs:List Frame)(g:Goroutine):Prop :=
 ∃ T:Array Value,g=G ((base L.wait).at ⟨T,[]⟩ [.code (L7 L),.inLoop (L7 L),.inBlock 0]) (c::cs)/\T.size=84/\T[0]?=some (.pointer (some ⟨Wg,0,none⟩))
set_option maxRecDepth 100000 in
set_option maxHeartbeats 2000000 in
theorem x7{L:WgLink}{P:Program}(H:WgLib P L){R:World->World->Prop}{Wg:Nat}(b:∀ {w w1},WgLive L.tWg Wg w->R w w1->WgLive L.tWg Wg w1){c:Frame}{cs:List Frame}(w:World)(a:WgLive L.tWg Wg w) :
  Goes P true R DC0 (Up P R L Wg (Js L Wg c cs)) 6 (G ((base L.wait).at ⟨#[.pointer (some ⟨Wg,0,none⟩),undef,undef,undef,undef,undef,undef,undef,undef,undef,undef,undef,undef,undef,undef,undef,undef,undef,undef,undef,undef,undef,undef,undef,undef,undef,undef,undef,undef,undef,undef,undef,undef,undef,undef,undef,undef,undef,undef,undef,undef,undef,undef,undef,undef,undef,undef,undef,undef,undef,undef,undef,undef,undef,undef,undef,undef,undef,undef,undef,undef,undef,undef,undef,undef,undef,undef,undef,undef,undef,undef,undef,undef,undef,undef,undef,undef,undef,undef,undef,undef,undef,undef,undef],[]⟩ [.code (body_wait L)]) (c::cs)) w:=by
 lib_facts
 unfold Js;simp only[L7,body_wait,waitFn,cw]
 repeat (u_c stepG_seq b a)
 u_cond true b a
 repeat (u_c stepG_seq b a)
 u_reg b a
 refine Goes.stop (λe d=>?_)
 clear d;refine⟨rfl,_,λw=>stepG_mark0 .disable (by simp) rfl rfl (by k_ne) rfl H.f_disable (x_disable_n L) (x_disable_b L) (x_disable_x L) (x_disable_f L),λw a=>⟨6,?_⟩⟩
 walk_nrm
 u_c stepG_region_end b a
 repeat (u_c stepG_seq b a)
 u_c stepG_block b a
 u_c stepG_loop b a
 exact Goes.stop λ_ _=>⟨_,rfl,rfl,rfl⟩
end Go.AM
namespace Go.AM
open Go.Conc Go.RowKit Go.Conc.Lib Go.ConcR.Gen
open Go.ConcN (WgLive)
open Go.ConcN.Gen
open Go.ConcR (KK WgAt stA smA rd wr mk DC0)
set_option maxRecDepth 100000 in
set_option maxHeartbeats 4000000 in
theorem x6{L:WgLink}{P:Program}(H:WgLib P L){R:World->World->Prop}{Wg:Nat}(b:∀ {w w1},WgLive L.tWg Wg w->R w w1->WgLive L.tWg Wg w1){b₀:Frame}{a₀:Act}{ops₀:Array Oper}{i₀:Nat}{rest₀:List Nat}{k₀:List Item}{cs:List Frame}
  (g:Goroutine) (J:Js L Wg (b₀.at a₀ (.inRegion ops₀ (i₀::rest₀)::k₀)) cs g) (w:World) (a:WgLive L.tWg Wg w) :
  ∃ m,Goes P true R DC0 (Uo P R L Wg (G (b₀.at (a₀.put ((ops₀[i₀]?).bind (·.dst)) (.tuple #[])) (.inRegion ops₀ rest₀::k₀)) cs) (Js L Wg (b₀.at a₀ (.inRegion ops₀ (i₀::rest₀)::k₀)) cs)) m g w:=by
 lib_facts
 obtain⟨T,rfl,p,s⟩:=J;obtain⟨v0,v1,v2,v3,v4,v5,v6,v7,v8,v9,v10,v11,UR,Y,US,K,U,UT,UU,UW,v20,UX,UY,I,z,UZ,B,U0,U1,F,v30,U2,x,u,U3,U4,D,y,U5,U6,U7,U8,U9,Va,Vb,Vd,Ve,Vf,Vg,Vh,Vi,A,Vj,X,N,Vk,Vl,Vm,Vn,Z,Vo,V,Vp,Vq,C,Vr,Vs,Vt,Vu,E,W,O,Q,Vv,Vw,Vx,Vy,Vz,VA,VB,VC,M,VD,VE,rfl⟩:=array84 T p;simp only[gd,mv,bG] at s;subst s;refine⟨30,?_⟩;unfold Js;simp only[L7,body_wait,waitFn,cw]
 u_c stepG_block b a
 repeat (u_c stepG_seq b a)
 u_reg b a
 u_op b a
 u_op b a
 u_op b a
 u_call H.f_uLoad (nm_uLoad L) uLoadFn b a
 repeat (u_c stepG_seq b a)
 u_reg b a
 u_op b a
 u_c stepG_region_end b a
 repeat (u_c stepG_seq b a)
 u_reg b a
 u_op b a
 u_op b a
 u_op b a
 refine Goes.stop (λo i=>?_)
 replace a:=b a i
 clear i;refine⟨rfl,λv hv d=>?_⟩
 rcases hU v with rfl|VF
 ·replace d:WgAt L.tWg Wg o 0 0:=by simpa using d
  refine⟨_,stepG_load_atomic (v:=0) rfl rfl (by k_ne) rfl H.f_loadU64 (x_loadU64_n L) (x_loadU64_b L) (x_loadU64_x L) .u64 (x_loadU64_f L) rfl d.cellSt,λ_=>⟨80,?_⟩,λh=>absurd rfl h⟩
  clear d
  walk_nrm
  u_op b a
  u_c stepG_region_end b a
  u_c stepG_ret' b a
  u_leave1 H.f_uLoad b a
  u_op b a
  u_c stepG_region_end b a
  repeat (u_c stepG_seq b a)
  u_reg b a
  u_op b a
  u_op b a
  u_op b a
  u_op b a
  u_c stepG_region_end b a
  repeat (u_c stepG_seq b a)
  u_reg b a
  u_op b a
  u_op b a
  u_op b a
  u_op b a
  u_c stepG_region_end b a
  repeat (u_c stepG_seq b a)
  u_reg b a
  u_op b a
  u_op b a
  u_c stepG_region_end b a
  repeat (u_c stepG_seq b a)
  u_cond true b a
  repeat (u_c stepG_seq b a)
  u_cond true b a
  repeat (u_c stepG_seq b a)
  u_reg b a
  refine Goes.stop (λf c=>?_)
  clear c;refine⟨rfl,_,λw=>stepG_mark0 .enable (by simp) rfl rfl (by k_ne) rfl H.f_enable (x_enable_n L) (x_enable_b L) (x_enable_x L) (x_enable_f L),λw a=>⟨20,?_⟩⟩
  walk_nrm
  u_c stepG_region_end b a
  repeat (u_c stepG_seq b a)
  u_reg b a
  u_op b a
  u_conv H.underlying_tWgP H.room_tWg (Go.ConcN.Gen.WgLive.cell0 a).choose_spec b a
  refine Goes.stop (λf c=>?_)
  clear c;refine⟨rfl,_,λw=>stepG_markAt .acquire (by simp) rfl rfl (by k_ne) rfl H.f_acquire (x_acquire_n L) (x_acquire_b L) (x_acquire_x L) (x_acquire_f L) (by simp[Act.eval,stA]),λw a=>⟨40,?_⟩⟩
  walk_nrm
  u_c stepG_region_end b a
  repeat (u_c stepG_seq b a)
  u_reg b a
  u_op b a
  u_op b a
  u_op b a
  u_op b a
  u_op b a
  u_op b a
  u_op b a
  u_op b a
  u_skip b a
  u_skip b a
  u_op b a
  u_c stepG_region_end b a
  repeat (u_c stepG_seq b a)
  u_cond false b a
  u_c stepG_skip b a
  u_c stepG_ret' b a
  u_leave0 H.f_wait b a
  exact Goes.stop λ_ _=>rfl
 ·obtain⟨S,l⟩:∃ S:Int,(v:Int)*KK=S:=⟨_,rfl⟩;have a1:S / 4294967296=(v:Int):=by rw[<-l];simp only[KK];omega
  have b1:bits .and .u64 S 2147483648=0:=by rw[<-l];have:=Go.ConcN.st_flag v 0 (by omega) (by omega);simpa[KK] using this
  have b2:bits .and .u64 S 2147483647=0:=by rw[<-l];have:=Go.ConcN.st_waiters v 0 (by omega) (by omega);simpa[KK] using this
  have c1:IntKind.i32.wrap (v:Int)=(v:Int):=by rw[IntKind.wrap_i32];omega
  have w1:IntKind.u64.wrap (S+1)=S+1:=by rw[IntKind.wrap_u64,<-l];simp only[KK];omega
  have q3:decide ((v:Int)<0)=false:=bR (by omega)
  have q4:decide (0<(v:Int))=true:=aP (by omega)
  have q5:((v:Int)==0)=false:=by simp;omega
  have q6:decide ((v:Int)=0)=false:=bR (by omega)
  rw[l] at d;refine⟨_,stepG_load_atomic (v:=S) rfl rfl (by k_ne) rfl H.f_loadU64 (x_loadU64_n L) (x_loadU64_b L) (x_loadU64_x L) .u64 (x_loadU64_f L) rfl d.cellSt,λh0=>absurd h0 (by omega),λ_=>⟨80,?_⟩⟩
  clear d
  walk_nrm
  u_op b a
  u_c stepG_region_end b a
  u_c stepG_ret' b a
  u_leave1 H.f_uLoad b a
  u_op b a
  u_c stepG_region_end b a
  repeat (u_c stepG_seq b a)
  u_reg b a
  u_op b a
  u_op b a
  u_op b a
  u_op b a
  u_c stepG_region_end b a
  repeat (u_c stepG_seq b a)
  u_reg b a
  u_op b a
  u_op b a
  u_op b a
  u_op b a
  u_c stepG_region_end b a
  repeat (u_c stepG_seq b a)
  u_reg b a
  u_op b a
  u_op b a
  u_c stepG_region_end b a
  repeat (u_c stepG_seq b a)
  u_cnd false b a
  u_c stepG_skip b a
  repeat (u_c stepG_seq b a)
  u_reg b a
  u_op b a
  u_op b a
  u_op b a
  u_op b a
  u_op b a
  u_op b a
  u_call H.f_uCas (nm_uCas L) uCasFn b a
  repeat (u_c stepG_seq b a)
  u_reg b a
  u_op b a
  u_c stepG_region_end b a
  repeat (u_c stepG_seq b a)
  u_reg b a
  u_op b a
  u_op b a
  u_op b a
  u_op b a
  u_op b a
  refine Goes.stop (λf c=>?_)
  replace a:=b a c
  clear c;refine⟨rfl,λv' No d=>⟨λe=>?_,λe=>?_⟩⟩
  ·subst e;rw[l] at d ⊢;refine⟨_,(stepG_cas_hit (v:=S) (n:=S+1) rfl rfl (by k_ne) rfl H.f_casU64 (x_casU64_n L) (x_casU64_b L) (x_casU64_x L) .u64 (x_casU64_f L) rfl rfl rfl d.cellSt (d.thaw 0)).trans (by rfl),90,?_⟩
   replace a:WgLive L.tWg Wg (f.setCell (stA Wg) (.int .u64 (S+1))):=⟨_,_,d.setSt _⟩
   clear d
   walk_nrm
   u_op b a
   u_c stepG_region_end b a
   u_c stepG_ret' b a
   u_leave1 H.f_uCas b a
   u_c stepG_region_end b a
   repeat (u_c stepG_seq b a)
   u_cond true b a
   repeat (u_c stepG_seq b a)
   u_reg b a
   u_op b a
   u_op b a
   u_op b a
   u_op b a
   u_c stepG_region_end b a
   repeat (u_c stepG_seq b a)
   u_cond true b a
   repeat (u_c stepG_seq b a)
   u_reg b a
   u_op b a
   u_op b a
   u_op b a
   u_conv H.underlying_tPU32 H.room_tU32 (Go.ConcN.Gen.WgLive.cell1 a).choose_spec b a
   refine Goes.stop (λf c=>?_)
   clear c;refine⟨rfl,_,⟨Wg,1,none⟩,rfl,λw=>stepG_markAt .write (by simp) rfl rfl (by k_ne) rfl H.f_raceWrite (x_raceWrite_n L) (x_raceWrite_b L) (x_raceWrite_x L) (x_raceWrite_f L) (ad:=⟨Wg,1,none⟩) (by simp[Act.eval]),λw a=>⟨60,?_⟩⟩
   walk_nrm
   u_c stepG_region_end b a
   repeat (u_c stepG_seq b a)
   u_reg b a
   u_op b a
   u_c stepG_region_end b a
   repeat (u_c stepG_seq b a)
   u_reg b a
   u_op b a
   u_op b a
   u_op b a
   u_op b a
   u_skip b a
   u_op b a
   u_c stepG_region_end b a
   repeat (u_c stepG_seq b a)
   u_cond false b a
   u_c stepG_skip b a
   repeat (u_c stepG_seq b a)
   u_reg b a
   u_op b a
   u_op b a
   u_op b a
   u_op b a
   refine Goes.stop (λq k=>?_)
   replace a:=b a k
   clear k;refine⟨rfl,rfl,λ⟨st,d⟩=>stepG_semacquire_wait rfl rfl rfl H.f_semacquire (x_semacquire_n L) (x_semacquire_b L) (x_semacquire_x L) (x_semacquire_f L) (by simp[Act.eval,smA]) d.cellSm,λr=>?_⟩
   refine⟨_,(stepG_semacquire (n:=1) rfl rfl (by k_ne) rfl H.f_semacquire (x_semacquire_n L) (x_semacquire_b L) (x_semacquire_x L) (x_semacquire_f L) (by simp[Act.eval,smA]) r.cellSm (by k_ne) (r.thaw 1)).trans (by rfl),40,?_⟩
   replace a:WgLive L.tWg Wg (q.setCell (smA Wg) (.int .u32 0)):=⟨_,_,r.setSm 0⟩
   clear r
   walk_nrm
   u_c stepG_region_end b a
   repeat (u_c stepG_seq b a)
   u_reg b a
   u_op b a
   u_op b a
   u_op b a
   u_call H.f_uLoad (nm_uLoad L) uLoadFn b a
   repeat (u_c stepG_seq b a)
   u_reg b a
   u_op b a
   u_c stepG_region_end b a
   repeat (u_c stepG_seq b a)
   u_reg b a
   u_op b a
   u_op b a
   u_op b a
   refine Goes.stop (λt j=>?_)
   replace a:=b a j
   clear j;refine⟨rfl,λd=>⟨_,stepG_load_atomic (v:=0) rfl rfl (by k_ne) rfl H.f_loadU64 (x_loadU64_n L) (x_loadU64_b L) (x_loadU64_x L) .u64 (x_loadU64_f L) rfl d.cellSt,40,?_⟩⟩
   clear d
   walk_nrm
   u_op b a
   u_c stepG_region_end b a
   u_c stepG_ret' b a
   u_leave1 H.f_uLoad b a
   u_op b a
   u_op b a
   u_c stepG_region_end b a
   repeat (u_c stepG_seq b a)
   u_cond true b a
   repeat (u_c stepG_seq b a)
   u_reg b a
   refine Goes.stop (λf c=>?_)
   clear c;refine⟨rfl,_,λw=>stepG_mark0 .enable (by simp) rfl rfl (by k_ne) rfl H.f_enable (x_enable_n L) (x_enable_b L) (x_enable_x L) (x_enable_f L),λw a=>⟨20,?_⟩⟩
   walk_nrm
   u_c stepG_region_end b a
   repeat (u_c stepG_seq b a)
   u_reg b a
   u_op b a
   u_conv H.underlying_tWgP H.room_tWg (Go.ConcN.Gen.WgLive.cell0 a).choose_spec b a
   refine Goes.stop (λf c=>?_)
   clear c;refine⟨rfl,_,λw=>stepG_markAt .acquire (by simp) rfl rfl (by k_ne) rfl H.f_acquire (x_acquire_n L) (x_acquire_b L) (x_acquire_x L) (x_acquire_f L) (by simp[Act.eval,stA]),λw a=>⟨40,?_⟩⟩
   walk_nrm
   u_c stepG_region_end b a
   repeat (u_c stepG_seq b a)
   u_reg b a
   u_op b a
   u_c stepG_region_end b a
   repeat (u_c stepG_seq b a)
   u_cond false b a
   u_c stepG_skip b a
   u_c stepG_ret' b a
   u_leave0 H.f_wait b a
   exact Goes.stop λ_ _=>rfl
  ·refine⟨_,stepG_cas_miss (v:=(v':Int)*KK) (old:=S) (n:=S+1) rfl rfl (by k_ne) rfl H.f_casU64 (x_casU64_n L) (x_casU64_b L) (x_casU64_x L) .u64 (x_casU64_f L) rfl rfl rfl d.cellSt (d.thaw 0) (by rw[<-l];simp only[KK];omega),30,?_⟩
   clear d
   walk_nrm
   u_op b a
   u_c stepG_region_end b a
   u_c stepG_ret' b a
   u_leave1 H.f_uCas b a
   u_c stepG_region_end b a
   repeat (u_c stepG_seq b a)
   u_cond false b a
   u_c stepG_skip b a
   u_c stepG_inBlock b a
   u_c stepG_inLoop b a
   exact Goes.stop λ_ _=>⟨_,rfl,by simp,by simp⟩
end Go.AM
namespace Go.AM
open Go.Conc Go.Conc.Lib
open Go.ConcN (WgLive)
open Go.ConcR (KK WgAt stA smA rd wr mk DC0 Payload)
def dg(ty:TypeId)(Wg:Nat)(w w1:World):Prop:=WgLive ty Wg w->WgLive ty Wg w1
theorem dg.refl{ty:TypeId}{Wg:Nat}(w:World):dg ty Wg w w:=id
theorem dg.trans{ty:TypeId}{Wg:Nat}{a b c:World}(h:dg ty Wg a b)(k:dg ty Wg b c):dg ty Wg a c:=λx=>k (h x)
def rR(R:World->World->Prop)(Stop:Goroutine->World->Prop)(g:Goroutine)(w:World):Prop:=∀ w1,R w w1->Stop g w1
theorem Goes.all{P:Program}{main:Bool}{R:World->World->Prop}{D:World->World->Array Event->Prop}{Stop:Goroutine->World->Prop}(k:∀ a b c,R a b->R b c->R a c) :
  ∀ {n:Nat} {g:Goroutine} {w:World},Goes P main R D Stop n g w->Goes P main R D (rR R Stop) n g w
 |0,g,w,h=>λw1 l w2 p=>h w2 (k _ _ _ l p)
 |n+1,g,w,h=>by
  rcases h with h|⟨d,h⟩
  ·exact .inl λw1 l w2 p=>h w2 (k _ _ _ l p)
  ·refine .inr ⟨d,λw1 l=>?_⟩
   have p:=h w1 l;cases j:stepG P main g w1 with
   |go g' w' es =>
    rw[j,goes_go] at p;rw[goes_go];exact⟨p.1,Goes.all k p.2⟩
   |_=>rw[j] at p;exact p.elim
structure Apart (Wg:Nat)(F:St->Prop):Prop where
 rely:∀ s s',F s->aX s s'->F s'
 heap:∀ s,F s->∃ σ,ag σ s
 free:∀ s,F s->¬s.own Wg/\(∀ L∈s.β,Wg∉L.bs)/\∀ o,s.M Wg o=none
section
variable {P:Program}{L:WgLink}{Wg:Nat}{F:St->Prop}
def sG(ty:TypeId)(Wg:Nat)(F:St->Prop)(s:St):Prop:=F s/\WgLive ty Wg s.w
theorem Apart.Ic(A:Apart Wg F){s:St}(h:F s):ee s:=(A.heap s h).choose_spec.mem
theorem Apart.set(A:Apart Wg F){s:St}(h:F s)(a:Addr)(D:a.block=Wg)(v:Value):aX s { s with w:=s.w.setCell a v }:=by
 obtain⟨l,p,y⟩:=A.free s h;have x:∀ b,b≠Wg->(s.w.setCell a v).heap[b]?=s.w.heap[b]?:=λb j=>by
  have:=(aside_setCell s.w a v).block b (by rw[D];exact j)
  exact this
 refine⟨rfl,rfl,rfl,Nat.le_of_eq (aside_setCell s.w a v).size.symm,λb j=>x b ?_,λb o u k=>?_,(aside_setCell s.w a v).os,(aside_setCell s.w a v).tape,(aside_setCell s.w a v).output⟩
 ·rintro rfl;rcases j with j|⟨L,M,j⟩
  ·exact l j
  ·exact p L M j
 ·have C:b≠Wg:=by rintro rfl;rw[y] at k;cases k
  show (s.w.setCell a v).cell? _=_;rw[gm (x b C) o];exact A.Ic h b o u k
theorem Apart.next(A:Apart Wg F){ty:TypeId}{s i:St}(h:sG ty Wg F s)(r:(Cx.lead P ty Wg).rely s i):sG ty Wg F i:=⟨A.rely s i h.1 r.1,r.2 h.2⟩
theorem Apart.here(A:Apart Wg F){ty:TypeId}{s:St}(h:sG ty Wg F s):(Cx.lead P ty Wg).rely s s:=⟨aX.qn (A.Ic h.1),id⟩
theorem Apart.goes(A:Apart Wg F){ty:TypeId}{S:Goroutine->St->Prop}{Stop:Goroutine->World->Prop}(k:∀ g s,sG ty Wg F s->rR (dg ty Wg) Stop g s.w->cz (Cx.lead P ty Wg) (Es Wg) S g s){n:Nat}{g:Goroutine}{s:St}
  (d:sG ty Wg F s) (h:Goes P true (dg ty Wg) DC0 Stop n g s.w):cz (Cx.lead P ty Wg) (Es Wg) S g s:=by
 refine cz.goes (X:=Cx.lead P ty Wg) (R:=dg ty Wg) (D:=DC0) (Stop:=rR (dg ty Wg) Stop) (sG ty Wg F) (λs i hi f=>A.next hi f) (λs i _ f=>f.2) ?_ (λs hi=>A.here hi) k n g s d (Goes.all (λ_ _ _ l p=>l.trans p) h)
 rintro s es hi w' ⟨rfl,rfl⟩;exact⟨rfl,.inl (.quiet (A.heap s hi.1).choose_spec)⟩
end
set_option maxRecDepth 100000 in
theorem x5{P:Program}{L:WgLink}(H:WgLib P L){Wg:Nat}:Frame.enter P L.add #[.pointer (some ⟨Wg,0,none⟩),.int .i64 1] .normal=(base L.add).at ⟨#[.pointer (some ⟨Wg,0,none⟩),.int .i64 1,undef,undef,undef,undef,undef,undef,undef,undef,undef,undef,undef,undef,undef,undef,undef,undef,undef,undef,undef,undef,undef,undef,undef,undef,undef,undef,undef,undef,undef,undef,undef,undef,undef,undef,undef,undef,undef,undef,undef,undef,undef,undef,undef,undef,undef,undef,undef,undef,undef,undef,undef,undef,undef,undef,undef,undef,undef,undef,undef,undef,undef,undef,undef,undef,undef,undef,undef,undef,undef,undef,undef,undef,undef,undef,undef,undef,undef,undef,undef,undef,undef,undef,undef,undef,undef,undef,undef,undef,undef,undef,undef,undef,undef,undef,undef,undef,undef,undef,undef,undef,undef,undef,undef,undef,undef,undef,undef,undef,undef,undef,undef,undef,undef,undef,undef],[]⟩ [.code (Go.ConcR.Gen.body_add L)] :=
 (enter_at (c:=Go.ConcR.Gen.body_add L) _ H.f_add (by kernel_rfl)).trans (by kernel_rfl)
set_option maxRecDepth 100000 in
theorem vO{P:Program}{L:WgLink}(H:WgLib P L){Wg:Nat}:Frame.enter P L.wait #[.pointer (some ⟨Wg,0,none⟩)] .normal=(base L.wait).at ⟨#[.pointer (some ⟨Wg,0,none⟩),undef,undef,undef,undef,undef,undef,undef,undef,undef,undef,undef,undef,undef,undef,undef,undef,undef,undef,undef,undef,undef,undef,undef,undef,undef,undef,undef,undef,undef,undef,undef,undef,undef,undef,undef,undef,undef,undef,undef,undef,undef,undef,undef,undef,undef,undef,undef,undef,undef,undef,undef,undef,undef,undef,undef,undef,undef,undef,undef,undef,undef,undef,undef,undef,undef,undef,undef,undef,undef,undef,undef,undef,undef,undef,undef,undef,undef,undef,undef,undef,undef,undef,undef],[]⟩ [.code (Go.ConcR.Gen.body_wait L)] :=
 (enter_at (c:=Go.ConcR.Gen.body_wait L) _ H.f_wait (by kernel_rfl)).trans (by kernel_rfl)
section
variable [Payload] {P:Program}{L:WgLink}{Y:Lay}{F:St->Prop}{N n:Nat}{val:Nat->Nat->Value}
theorem O5(H:WgLib P L)(A:Apart Y.Wg F){j:Nat}{Next:Goroutine->St->Prop}{b₀:Frame}{a₀:Act}{ops₀:Array Oper}{i₀:Nat}{rest₀:List Nat}{k₀:List Item}{cs:List Frame}
  (k:∀ s,sG L.tWg Y.Wg F s->cz (Cx.lead P L.tWg Y.Wg) (Es Y.Wg) (AtGo P L.tWg Y N val j Next) (G (b₀.at (a₀.put ((ops₀[i₀]?).bind (·.dst)) (.tuple #[])) (.inRegion ops₀ rest₀::k₀)) cs) s)
  {s:St} (d:sG L.tWg Y.Wg F s) :
  cz (Cx.lead P L.tWg Y.Wg) (Es Y.Wg) (AtKdS P L.tWg Y N val j Next) (G (Frame.enter P L.add #[.pointer (some ⟨Y.Wg,0,none⟩),.int .i64 1] .normal) (b₀.at a₀ (.inRegion ops₀ (i₀::rest₀)::k₀)::cs)) s:=by
 have z:∀ g s,sG L.tWg Y.Wg F s->O6 P (dg L.tWg Y.Wg) L Y.Wg (G (b₀.at (a₀.put ((ops₀[i₀]?).bind (·.dst)) (.tuple #[])) (.inRegion ops₀ rest₀::k₀)) cs) g s.w->cz (Cx.lead P L.tWg Y.Wg) (Es Y.Wg) (AtKeS P L.tWg Y N val j Next) g s:=by
  rintro g s d ⟨l,g',p,y⟩;refine⟨.leaf,l,g',p,λi f=>?_⟩
  have a:=A.next d f;obtain⟨m,q⟩:=y i.w a.2;exact A.goes (λg s d h=>by obtain rfl:=h s.w (.refl _);exact k s d) a q
 have o:∀ g s,sG L.tWg Y.Wg F s->rR (dg L.tWg Y.Wg) (QV P (dg L.tWg Y.Wg) L Y.Wg (G (b₀.at (a₀.put ((ops₀[i₀]?).bind (·.dst)) (.tuple #[])) (.inRegion ops₀ rest₀::k₀)) cs)) g s.w->cz (Cx.lead P L.tWg Y.Wg) (Es Y.Wg) (AtA1 P L.tWg Y N val j Next) g s:=by
  rintro g s d h;refine⟨.leaf,(h s.w (.refl _)).1,λi f v J t=>?_⟩
  have a:=A.next d f;obtain⟨g',l,m,q⟩:=(h i.w f.2).2 v J t;have b:sG L.tWg Y.Wg F { i with w:=i.w.setCell (stA Y.Wg) (.int .u64 ((v+1)*KK)) }:=⟨A.rely _ _ a.1 (A.set a.1 _ rfl _),⟨_,_,t.setSt _⟩⟩;refine⟨g',l,A.goes (λg s d h=>?_) b q⟩
  rcases h s.w (.refl _) with h|h
  ·obtain⟨l,g',ad,p,y,Z⟩:=h;refine .step l λi f=>⟨g',i,_,y i.w,.inr ⟨rfl,ad,p,.inl rfl⟩,?_⟩
   have a:=A.next d f;obtain⟨m,q⟩:=Z i.w a.2;exact A.goes (λg s d h=>z g s d (h s.w (.refl _))) a q
  ·exact z g s d h
 have t:=GJ (P:=P) (L:=L) H (R:=dg L.tWg Y.Wg) (Wg:=Y.Wg) (λh r=>r h) (b₀:=b₀) (a₀:=a₀) (ops₀:=ops₀) (i₀:=i₀) (rest₀:=rest₀) (k₀:=k₀) (cs:=cs) s.w d.2
 rw[x5 H];refine A.goes (λg s d h=>?_) d t
 obtain⟨l,g',p,y⟩:=h s.w (.refl _);refine⟨.leaf,l,g',p,λi f=>?_⟩
 have a:=A.next d f;obtain⟨m,q⟩:=y i.w a.2;exact A.goes o a q
section
variable (P L Y F)
def TW(B g:Goroutine)(s:St):Prop:=sG L.tWg Y.Wg F s/\∃ m,Goes P true (dg L.tWg Y.Wg) DC0 (λg _=>g=B) m g s.w
def zN(c:Frame)(cs:List Frame)(g:Goroutine)(s:St):Prop:=sG L.tWg Y.Wg F s/\∃ m,Goes P true (dg L.tWg Y.Wg) DC0 (λg _=>Js L Y.Wg c cs g) m g s.w
end
variable {b₀:Frame}{a₀:Act}{ops₀:Array Oper}{i₀:Nat}{rest₀:List Nat}{k₀:List Item}{cs:List Frame}
omit [Payload] in
theorem LY(H:WgLib P L)(A:Apart Y.Wg F){T I:Goroutine->St->Prop}(O:∀ g s,TW P L Y F (G (b₀.at (a₀.put ((ops₀[i₀]?).bind (·.dst)) (.tuple #[])) (.inRegion ops₀ rest₀::k₀)) cs) g s->T g s)
  (E:∀ g s,zN P L Y F (b₀.at a₀ (.inRegion ops₀ (i₀::rest₀)::k₀)) cs g s->I g s) {g:Goroutine} {s:St} (h:zN P L Y F (b₀.at a₀ (.inRegion ops₀ (i₀::rest₀)::k₀)) cs g s) :
  cz (Cx.lead P L.tWg Y.Wg) (Es Y.Wg) (AtW1 P L.tWg Y T I) g s:=by
 generalize hc:b₀.at a₀ (.inRegion ops₀ (i₀::rest₀)::k₀)=c at *;generalize W:G (b₀.at (a₀.put ((ops₀[i₀]?).bind (·.dst)) (.tuple #[])) (.inRegion ops₀ rest₀::k₀)) cs=B at O;have K:∀ g s,sG L.tWg Y.Wg F s->rR (dg L.tWg Y.Wg) (LZ P (dg L.tWg Y.Wg) L Y.Wg B) g s.w->cz (Cx.lead P L.tWg Y.Wg) (Es Y.Wg) (AtAcq P L.tWg Y T) g s:=by
  intro g s d h;obtain⟨l,g',p,y⟩:=h s.w (.refl _);exact⟨.leaf,l,g',p,λi f=>O _ _ ⟨A.next d f,y i.w (A.next d f).2⟩⟩
 have z:∀ g s,sG L.tWg Y.Wg F s->rR (dg L.tWg Y.Wg) (O7 P (dg L.tWg Y.Wg) L Y.Wg B) g s.w->cz (Cx.lead P L.tWg Y.Wg) (Es Y.Wg) (AtKe P L.tWg Y T) g s:=by
  intro g s d h;obtain⟨l,g',p,y⟩:=h s.w (.refl _);refine⟨.leaf,l,g',p,λi f=>?_⟩
  obtain⟨m,q⟩:=y i.w (A.next d f).2;exact A.goes K (A.next d f) q
 have U:∀ g s,sG L.tWg Y.Wg F s->rR (dg L.tWg Y.Wg) (QW P (dg L.tWg Y.Wg) L Y.Wg B) g s.w->cz (Cx.lead P L.tWg Y.Wg) (Es Y.Wg) (AtW4 P L.tWg Y T) g s:=by
  intro g s d h;refine⟨.leaf,(h s.w (.refl _)).1,λi f t=>?_⟩
  obtain⟨g',l,m,q⟩:=(h i.w f.2).2 t;exact⟨g',l,A.goes z (A.next d f) q⟩
 have S1:∀ g s,sG L.tWg Y.Wg F s->rR (dg L.tWg Y.Wg) (QX P (dg L.tWg Y.Wg) L Y.Wg B) g s.w->cz (Cx.lead P L.tWg Y.Wg) (Es Y.Wg) (AtW3 P L.tWg Y T) g s:=by
  intro g s d h;refine⟨.leaf,(h s.w (.refl _)).1,(h s.w (.refl _)).2.1,λi f=>⟨(h i.w f.2).2.2.1,λt=>?_⟩⟩
  obtain⟨g',l,m,q⟩:=(h i.w f.2).2.2.2 t;exact⟨g',l,A.goes U (s:={ i with w:=i.w.setCell (smA Y.Wg) (.int .u32 0) }) ⟨A.rely _ _ (A.next d f).1 (A.set (A.next d f).1 _ rfl _),⟨_,_,t.setSm 0⟩⟩ q⟩
 have Q:∀ g s,sG L.tWg Y.Wg F s->rR (dg L.tWg Y.Wg) (QY P (dg L.tWg Y.Wg) L Y.Wg B) g s.w->cz (Cx.lead P L.tWg Y.Wg) (Es Y.Wg) (AtW3 P L.tWg Y T) g s:=by
  intro g s d h;obtain⟨l,g',ad,p,y,Z⟩:=h s.w (.refl _);refine .step l λi f=>⟨g',i,_,y i.w,.inr ⟨rfl,ad,p,.inr rfl⟩,?_⟩
  obtain⟨m,q⟩:=Z i.w (A.next d f).2;exact A.goes S1 (A.next d f) q
 have V:∀ (v:Nat) g s,sG L.tWg Y.Wg F s->rR (dg L.tWg Y.Wg) (QZ P (dg L.tWg Y.Wg) L Y.Wg B (Js L Y.Wg c cs) v) g s.w->cz (Cx.lead P L.tWg Y.Wg) (Es Y.Wg) (AtW2 P L.tWg Y T I v) g s:=by
  intro vs g s d h;refine⟨.leaf,(h s.w (.refl _)).1,λi f v J t=>⟨λe=>?_,λe=>?_⟩⟩
  ·obtain⟨g',l,m,q⟩:=((h i.w f.2).2 v J t).1 e;exact⟨g',l,A.goes Q (s:={ i with w:=i.w.setCell (stA Y.Wg) (.int .u64 (v*KK+1)) }) ⟨A.rely _ _ (A.next d f).1 (A.set (A.next d f).1 _ rfl _),⟨_,_,t.setSt _⟩⟩ q⟩
  ·obtain⟨g',l,m,q⟩:=((h i.w f.2).2 v J t).2 e;exact⟨g',l,E _ _ ⟨A.next d f,m,q⟩⟩
 obtain⟨d,m,q⟩:=h;refine A.goes (λg s d h=>?_) d q
 obtain⟨m,t⟩:=x6 (P:=P) (L:=L) H (R:=dg L.tWg Y.Wg) (Wg:=Y.Wg) (λh r=>r h) (b₀:=b₀) (a₀:=a₀) (ops₀:=ops₀) (i₀:=i₀) (rest₀:=rest₀) (k₀:=k₀) (cs:=cs) g (by rw[hc];exact h s.w (.refl _)) s.w d.2
 rw[hc,W] at t;refine A.goes (λg s d h=>?_) d t
 refine⟨.leaf,(h s.w (.refl _)).1,λi f v J t=>?_⟩
 obtain⟨g',l,p,y⟩:=(h i.w f.2).2 v J t;refine⟨g',l,λh0=>?_,λC=>?_⟩
 ·obtain⟨m,q⟩:=p h0;exact A.goes z (A.next d f) q
 ·obtain⟨m,q⟩:=y C;exact A.goes (V v) (A.next d f) q
omit [Payload] in
theorem L5(H:WgLib P L)(A:Apart Y.Wg F){c:Frame}{I:Goroutine->St->Prop}(E:∀ g s,zN P L Y F c cs g s->I g s){s:St}(d:sG L.tWg Y.Wg F s) :
  cz (Cx.lead P L.tWg Y.Wg) (Es Y.Wg) (AtKd P L.tWg Y I) (G (Frame.enter P L.wait #[.pointer (some ⟨Y.Wg,0,none⟩)] .normal) (c::cs)) s:=by
 have t:=x7 (P:=P) (L:=L) H (R:=dg L.tWg Y.Wg) (Wg:=Y.Wg) (λh r=>r h) (c:=c) (cs:=cs) s.w d.2
 rw[vO H];refine A.goes (λg s d h=>?_) d t
 obtain⟨l,g',p,y⟩:=h s.w (.refl _);exact⟨.leaf,l,g',p,λi f=>E _ _ ⟨A.next d f,y i.w (A.next d f).2⟩⟩
end
end Go.AM
namespace Go.AM.R1
open Go.Proofs Go.Conc.Lib
def Il:WgLink:={ add:=126,done:=128,wait:=130,relMerge:=156,disable:=157,enable:=158,inBubble:=159,associate:=160,fatal:=161,uOr:=162,uAdd:=163,raceRead:=164,uLoad:=165,uStore:=166,disassociate:=167,semrelease:=168,acquire:=170,isAssociated:=171,uCas:=172,raceWrite:=173,semacquire:=174,orU64:=193,addU64:=194,loadU64:=195,storeU64:=196,casU64:=199,tWgP:=221,tUP:=223,tAssoc:=225,tWg:=197,tAU:=195,tU64:=188,tUint:=156,tU32:=186,tPU32:=229,tPAU:=262,tPU64:=264,tNoCopy:=191,tANoCopy:=192,tAlign64:=193 }
theorem vZ:WgLib Tryz.prog Il where
 f_add:=Tryz.func126.trans (b5 some (by kernel_rfl))
 f_done:=Tryz.func128.trans (b5 some (by kernel_rfl))
 f_wait:=Tryz.func130.trans (b5 some (by kernel_rfl))
 f_relMerge:=Tryz.func156.trans (b5 some (by kernel_rfl))
 f_disable:=Tryz.func157.trans (b5 some (by kernel_rfl))
 f_enable:=Tryz.func158.trans (b5 some (by kernel_rfl))
 f_inBubble:=Tryz.func159.trans (b5 some (by kernel_rfl))
 f_associate:=Tryz.func160.trans (b5 some (by kernel_rfl))
 f_fatal:=Tryz.func161.trans (b5 some (by kernel_rfl))
 f_uOr:=Tryz.func162.trans (b5 some (by kernel_rfl))
 f_uAdd:=Tryz.func163.trans (b5 some (by kernel_rfl))
 f_raceRead:=Tryz.func164.trans (b5 some (by kernel_rfl))
 f_uLoad:=Tryz.func165.trans (b5 some (by kernel_rfl))
 f_uStore:=Tryz.func166.trans (b5 some (by kernel_rfl))
 f_disassociate:=Tryz.func167.trans (b5 some (by kernel_rfl))
 f_semrelease:=Tryz.func168.trans (b5 some (by kernel_rfl))
 f_acquire:=Tryz.func170.trans (b5 some (by kernel_rfl))
 f_isAssociated:=Tryz.func171.trans (b5 some (by kernel_rfl))
 f_uCas:=Tryz.func172.trans (b5 some (by kernel_rfl))
 f_raceWrite:=Tryz.func173.trans (b5 some (by kernel_rfl))
 f_semacquire:=Tryz.func174.trans (b5 some (by kernel_rfl))
 f_orU64:=Tryz.func193.trans (b5 some (by kernel_rfl))
 f_addU64:=Tryz.func194.trans (b5 some (by kernel_rfl))
 f_loadU64:=Tryz.func195.trans (b5 some (by kernel_rfl))
 f_storeU64:=Tryz.func196.trans (b5 some (by kernel_rfl))
 f_casU64:=Tryz.func199.trans (b5 some (by kernel_rfl))
 underlying_tWgP:=Tryz.underlying221
 runUnderlying_tWgP:=Tryz.runUnderlying221
 sizeOf_tWgP:=Tryz.sizeOf221
 isAgg_tWgP:=Tryz.isAgg221
 zeroValue_tWgP:=Tryz.zeroValue221
 underlying_tUP:=Tryz.underlying223
 runUnderlying_tUP:=Tryz.runUnderlying223
 sizeOf_tUP:=Tryz.sizeOf223
 isAgg_tUP:=Tryz.isAgg223
 zeroValue_tUP:=Tryz.zeroValue223
 underlying_tI32:=Tryz.underlying225
 runUnderlying_tI32:=Tryz.runUnderlying225
 sizeOf_tI32:=Tryz.sizeOf225
 isAgg_tI32:=Tryz.isAgg225
 zeroValue_tI32:=Tryz.zeroValue225
 underlying_tWg:=Tryz.underlying197
 runUnderlying_tWg:=Tryz.runUnderlying197
 sizeOf_tWg:=Tryz.sizeOf197
 isAgg_tWg:=Tryz.isAgg197
 zeroValue_tWg:=Tryz.zeroValue197
 underlying_tAU:=Tryz.underlying195
 runUnderlying_tAU:=Tryz.runUnderlying195
 sizeOf_tAU:=Tryz.sizeOf195
 isAgg_tAU:=Tryz.isAgg195
 zeroValue_tAU:=Tryz.zeroValue195
 underlying_tU64:=Tryz.underlying188
 runUnderlying_tU64:=Tryz.runUnderlying188
 sizeOf_tU64:=Tryz.sizeOf188
 isAgg_tU64:=Tryz.isAgg188
 zeroValue_tU64:=Tryz.zeroValue188
 underlying_tSh:=Tryz.underlying156
 runUnderlying_tSh:=Tryz.runUnderlying156
 sizeOf_tSh:=Tryz.sizeOf156
 isAgg_tSh:=Tryz.isAgg156
 zeroValue_tSh:=Tryz.zeroValue156
 underlying_tU32:=Tryz.underlying186
 runUnderlying_tU32:=Tryz.runUnderlying186
 sizeOf_tU32:=Tryz.sizeOf186
 isAgg_tU32:=Tryz.isAgg186
 zeroValue_tU32:=Tryz.zeroValue186
 underlying_tPU32:=Tryz.underlying229
 runUnderlying_tPU32:=Tryz.runUnderlying229
 sizeOf_tPU32:=Tryz.sizeOf229
 isAgg_tPU32:=Tryz.isAgg229
 zeroValue_tPU32:=Tryz.zeroValue229
 underlying_tPAU:=Tryz.underlying262
 runUnderlying_tPAU:=Tryz.runUnderlying262
 sizeOf_tPAU:=Tryz.sizeOf262
 isAgg_tPAU:=Tryz.isAgg262
 zeroValue_tPAU:=Tryz.zeroValue262
 underlying_tPU64:=Tryz.underlying264
 runUnderlying_tPU64:=Tryz.runUnderlying264
 sizeOf_tPU64:=Tryz.sizeOf264
 isAgg_tPU64:=Tryz.isAgg264
 zeroValue_tPU64:=Tryz.zeroValue264
 underlying_t0:=Tryz.underlying0
 runUnderlying_t0:=Tryz.runUnderlying0
 sizeOf_t0:=Tryz.sizeOf0
 isAgg_t0:=Tryz.isAgg0
 zeroValue_t0:=Tryz.zeroValue0
 underlying_t3:=Tryz.underlying3
 runUnderlying_t3:=Tryz.runUnderlying3
 sizeOf_t3:=Tryz.sizeOf3
 isAgg_t3:=Tryz.isAgg3
 zeroValue_t3:=Tryz.zeroValue3
 underlying_t4:=Tryz.underlying4
 runUnderlying_t4:=Tryz.runUnderlying4
 sizeOf_t4:=Tryz.sizeOf4
 isAgg_t4:=Tryz.isAgg4
 zeroValue_t4:=Tryz.zeroValue4
 underlying_t9:=Tryz.underlying9
 runUnderlying_t9:=Tryz.runUnderlying9
 sizeOf_t9:=Tryz.sizeOf9
 isAgg_t9:=Tryz.isAgg9
 zeroValue_t9:=Tryz.zeroValue9
 underlying_t20:=Tryz.underlying20
 runUnderlying_t20:=Tryz.runUnderlying20
 sizeOf_t20:=Tryz.sizeOf20
 isAgg_t20:=Tryz.isAgg20
 zeroValue_t20:=Tryz.zeroValue20
 underlying_t21:=Tryz.underlying21
 runUnderlying_t21:=Tryz.runUnderlying21
 sizeOf_t21:=Tryz.sizeOf21
 isAgg_t21:=Tryz.isAgg21
 zeroValue_t21:=Tryz.zeroValue21
 room_tWg:=by kernel_rfl
 room_tU32:=by kernel_rfl
end Go.AM.R1
namespace Go.AM
open Go.Conc (G)
structure Dz {P:Program}(X:Cx P)(N:Nat)(ops:Array Oper)(φ:Fr)(σ:List ak)(x:Nat->D)(c:Nat->Fr)(idx:Nat->Option Nat)(last:Nat):Prop where
 back:∀ i o,ops[i]?=some o->∀ e∈o.after,bT e=true->e.on<i
 xF:∀ i o d,ops[i]?=some o->o.dst=some d->idx d=some i/\d<N
 oY:∀ d i,idx d=some i->∃ o,ops[i]?=some o/\o.dst=some d
 one:∀ i o,ops[i]?=some o->i≠last->OA X N ops.toList o (c i) σ (x i) σ
 IM:∀ i o,ops[i]?=some o->i≠last->∀ t σ s v,cd σ s v (match idx t with|some j=>(if ∃ e∈o.after,bT e=true/\e.on=j then x j else .any)|none=>look φ t)->cd σ s v (look (c i) t)
 QU:∀ o,ops[last]?=some o->∀ j,j<ops.size->j≠last->∃ e∈o.after,bT e=true/\e.on=j
 has:last<ops.size
section
variable {P:Program}{X:Cx P}{N:Nat}{ops:Array Oper}{φ:Fr}{σ:List ak}{x:Nat->D}{c:Nat->Fr}{idx:Nat->Option Nat}{last:Nat}
theorem DC{a t:Nat}{L:Array Bool}(h:∀ i,i<ops.size->L.getD i true=true):Region.linearise.go .any ops a t L []=[]:=by
 cases a with
 |zero=>exact qf t L
 |succ n =>
  have b:Region.ready .any ops L=[]:=by
   cases b:Region.ready .any ops L with
   |nil=>rfl
   |cons y g =>
    have f:y∈Region.ready .any ops L:=by rw[b];simp
    obtain⟨o,e,d,_⟩:=mem_ready.1 f;rw[h y (ey.1 e).1] at d;cases d
  rw[lu,b];rfl
theorem Dz.arr(h:Dz X N ops φ σ x c idx last){SS:Goroutine->St->Prop}{b:Frame}{kk:List Item}{cs:List Frame}(z:b.kind≠.early){s0:St}
  (hQ:∀ s a,a.tmps.size=N->(∀ t,cd σ s (a.tmps.getD t undef) (match idx t with|some j=>if j=last then .any else x j|none=>look φ t))->a.defers=[]->ag σ s->bD σ s0 σ s->dk X SS (G (b.aT a (.inRegion ops [last]::kk)) cs) s) :
  ∀ (g:Nat) (L:Array Bool),L.size=ops.size->(L.toList.filter (λb=>!b)).length<=g->¬L.getD last false=true ->
   (∀ i o,ops[i]?=some o->L.getD i false=true->∀ e∈o.after,bT e=true->L.getD e.on false=true) ->
   ∀ (s:St) (a:Act),AA N σ s (dy φ x idx L) a->a.defers=[]->ag σ s->bD σ s0 σ s ->
   ∀ t,dk X SS (G (b.aT a (.inRegion ops (Region.linearise.go .any ops g t L [])::kk)) cs) s:=by
 intro g
 induction g with
 |zero =>
  intro L hs hf m W s a k O hh st t;exfalso;have Z:L[last]'(by have:=h.has;omega)∈L.toList:=by simp
  have J:=h.has;cases z:L[last]'(by omega) with
  |true=>exact m (by simp[bP,b0 (by omega:last<L.size),z])
  |false =>
   have:L[last]'(by omega)∈L.toList.filter (λb=>!b):=pw.2 ⟨Z,by simp[z]⟩
   have:=tz this;omega
 |succ g ih =>
  intro L hs hf m W s a k O hh st t;rw[lu];cases r:(Region.ready .any ops L)[t % (Region.ready .any ops L).length]? with
  |none =>
   exfalso;have hr:Region.ready .any ops L=[]:=by
    cases hr:Region.ready .any ops L with
    |nil=>rfl
    |cons y ys =>
     rw[hr] at r;have J:t % (y::ys).length<(y::ys).length:=jj _ (by simp)
     simp at r;simp at J;omega
   have S:∀ i,i<ops.size->L.getD i false=true:=by
    intro i
    induction i using Nat.strongRecOn with
    |_ i NT =>
     intro hi;cases z:L.getD i false with
     |true=>rfl
     |false =>
      have Z:i∈Region.ready .any ops L:=mem_ready.2 ⟨ops[i],b0 hi,by
       simpa[bP,b0 (by omega:i<L.size)] using z,λe B w=>by
       have:=h.back i _ (b0 hi) e B w;exact NT _ this (by omega)⟩
      rw[hr] at Z;simp at Z
   exact m (S last h.has)
  |some i =>
   have hi:=aH r;obtain⟨o,A,U,q⟩:=mem_ready.1 hi;have J:i<ops.size:=(ey.1 A).1;have V:¬L.getD i false=true:=by
    simp only[bP,b0 (by omega:i<L.size),cw] at U ⊢
    simp[U]
   by_cases I:i=last
   ·subst I;have M:Region.linearise.go .any ops g (t / (Region.ready .any ops L).length) (L.setIfInBounds i true) []=[]:=by
     refine DC λj hj=>?_
     have Y:(L.setIfInBounds i true).getD j false=true:=by
      rw[cr (by omega)]
      by_cases e:j=i
      ·exact .inl e
      ·obtain⟨ed,B,w,rfl⟩:=h.QU o A j hj e;exact .inr (q ed B w)
     simp only[bP,b0 (by simp;omega:j<(L.setIfInBounds i true).size),cw] at Y ⊢
     exact Y
    simp only[M];refine hQ s a k.size (λt=>?_) O hh st
    have:=k.slot t;unfold dy at this;cases f:idx t with
    |none=>simpa[f] using this
    |some j =>
     simp only[f] at this ⊢;obtain⟨oj,p,_⟩:=h.oY _ _ f
     by_cases e:j=i
     ·rw[ar e];trivial
     ·rw[an e];obtain⟨ed,B,w,rfl⟩:=h.QU o A j (ey.1 p).1 e;rw[ar (q ed B w)] at this;exact this
   have C:(L.setIfInBounds i true).size=ops.size:=by simp[hs]
   have H:((L.setIfInBounds i true).toList.filter (λb=>!b)).length<=g:=by
    have h1:L.toList[i]?=some false:=by
     rw[nR,b0 (by omega:i<L.size)]
     simpa[bP,b0 (by omega:i<L.size)] using V
    have:=count_set h1;rw[pU];omega
   have T:∀ j o',ops[j]?=some o'->(L.setIfInBounds i true).getD j false=true->∀ e∈o'.after,bT e=true->(L.setIfInBounds i true).getD e.on false=true:=by
    intro j o' R hj e B z;rw[cr (by omega)] at hj ⊢
    rcases hj with rfl|hj
    ·rw[A] at R;cases R;exact .inr (q e B z)
    ·exact .inr (W j o' R hj e B z)
   have E:¬(L.setIfInBounds i true).getD last false=true:=by
    rw[cr (by omega)]
    rintro(e|e)
    ·exact I e.symm
    ·exact m e
   have NV:br N σ s (c i) a:=k.CI λt σ s v F=>h.IM i o A I t σ s v (by
    unfold dy at F;cases f:idx t with
    |none=>simpa[f] using F
    |some j =>
     simp only[f] at F ⊢;split
     ·rename_i hex
      obtain⟨e,B,z,rfl⟩:=hex;rw[ar (q e B z)] at F;exact F
     ·trivial)
   have Q:∀ (s':St) (v:Value),bD σ s σ s'->cd σ s' v (x i)->AA N σ s' (dy φ x idx (L.setIfInBounds i true)) (a.put o.dst v):=by
    intro s' v n F;cases O:o.dst with
    |none =>
     refine⟨k.size,k.defers.imp λ_ h1=>h1.mono n.ext,λt=>?_⟩
     have l:=(k.slot t).mono n.ext hh.len;simp only[Act.put];unfold dy at l ⊢;cases f:idx t with
     |none=>simpa[f] using l
     |some j =>
      simp only[f] at l ⊢;obtain⟨oj,p,u⟩:=h.oY _ _ f;have K:j≠i:=by rintro rfl;rw[A] at p;cases p;rw[O] at u;cases u
      have:((L.setIfInBounds i true).getD j false=true)↔L.getD j false=true:=by rw[cr (by omega)];simp[K]
      simp only[this];exact l
    |some d =>
     obtain⟨NW,NX⟩:=h.xF i o d A O;refine⟨by simp[Act.put,k.size],k.defers.imp λ_ h1=>h1.mono n.ext,λt=>?_⟩
     simp only[Act.put]
     by_cases e:d=t
     ·subst e;have NY:d<a.tmps.size:=by rw[k.size];exact NX
      simp only[bP,jF NY,cw];unfold dy;simp only[NW];rw[ar ((cr (by omega)).2 (.inl rfl))]
      exact F
     ·have l:=(k.slot t).mono n.ext hh.len;simp only[bP] at l ⊢;rw[hO e];unfold dy at l ⊢;cases f:idx t with
      |none=>simpa[f] using l
      |some j =>
       simp only[f] at l ⊢;obtain⟨oj,p,u⟩:=h.oY _ _ f;have K:j≠i:=by rintro rfl;rw[A] at p;cases p;rw[O] at u;cases u;exact e rfl
       have:((L.setIfInBounds i true).getD j false=true)↔L.getD j false=true:=by rw[cr (by omega)];simp[K]
       simp only[this];exact l
   have:=h.one i o A I s a NV hh b kk cs SS i (Region.linearise.go .any ops g (t / (Region.ready .any ops L).length) (L.setIfInBounds i true) []) z (by simpa using A)
   simp only[nT] at this;exact this λv s' F md n=>ih _ C H E T s' _ (Q _ _ n F) (by cases o.dst <;> exact O) md (st.trans n) _
theorem Dz.region(h:Dz X N ops φ σ x c idx last)(A:P.follows Departure.mixedOrders=true){r:Goroutine->St->Prop}{b:Frame}{kk:List Item}{cs:List Frame}(z:b.kind≠.early){s0:St}{a0:Act}{id:Nat}
  (y:br N σ s0 φ a0) (q:a0.defers=[]) (n:ag σ s0)
  (v:∀ s a,a.tmps.size=N->(∀ t,cd σ s (a.tmps.getD t undef) (match idx t with|some j=>if j=last then .any else x j|none=>look φ t))->a.defers=[]->ag σ s->bD σ s0 σ s->dk X r (G (b.aT a (.inRegion ops [last]::kk)) cs) s) :
  dk X r (G (b.aT a0 (.code (.region id ops true)::kk)) cs) s0:=by
 refine .next rfl λg e=>?_
 have e:=X.fC e;have f:=n.rely e;have l:=y.rely e n;have k:Step σ g σ { g with w:={ g.w with drawn:=g.w.drawn+1 } }:=Step.same rfl rfl rfl rfl;have m:ag σ { g with w:={ g.w with drawn:=g.w.drawn+1 } }:=f.same rfl;have p:=e.stepW.trans (k.mH f);refine⟨_,{ g with w:={ g.w with drawn:=g.w.drawn+1 } },#[],iJ,⟨⟨σ,σ,f,m,k⟩,.nil⟩,?_⟩;simp only[Region.schedule,A,Bool.true_or,aZ];refine h.arr z (s0:=s0) v ops.size _ (by simp) (by simp) ?_ ?_ _ a0 ?_ q m p _
 ·simp[bP,jG];split <;> simp
 ·intro i o B hi;simp[bP,jG] at hi;split at hi <;> simp at hi
 ·have d:=l.mono (k.mH f) f.len;refine⟨d.size,d.defers,λt=>?_⟩
  unfold dy;cases u:idx t with
  |none=>exact d.slot t
  |some j =>
   simp only;rw[an]
   ·exact d.slot t
   ·simp[bP,jG];split <;> simp
end
end Go.AM
namespace Go.AM
open Go.Conc Go.RowKit Go.Conc.Lib Go.ConcR.Gen
open Go.ConcN (WgLive Has RW DWs AtR0 EvW)
open Go.ConcN.Gen
open Go.ConcR (KK WgAt stA smA rd wr mk DC0 Payload)
section
variable {P:Program}{R:World->World->Prop}{D:World->World->Array Event->Prop}{Stop A:Goroutine->World->Prop}
theorem Goes.never(b:∀ w,R w w)(f:∀ g w,Stop g w->∃ g' e,stepG P false g w=.go g' w #[e])(d:∀ n g w,A g w->¬Goes P false R D Stop n g w) :
  ∀ (m n:Nat) (g:Goroutine) (w:World),Goes P false R DC0 A m g w->¬Goes P false R D Stop n g w
 |0,n,g,w,h,k=>d n g w (h w (b w)) k
 |m+1,n,g,w,h,k=>by
  rcases h with h|⟨_,h⟩
  ·exact d n g w (h w (b w)) k
  ·have h1:=h w (b w);cases a:stepG P false g w with
   |go g' w' es =>
    rw[a,goes_go] at h1;obtain⟨⟨rfl,rfl⟩,h2⟩:=h1;have no:¬Stop g w':=λj=>by
     obtain⟨g2,e,i⟩:=f g w' j;rw[i] at a;simp at a
    cases n with
    |zero=>exact no (k w' (b w'))
    |succ n =>
     rcases k with k|⟨_,k⟩
     ·exact no (k w' (b w'))
     ·have k1:=k w' (b w');rw[a,goes_go] at k1;exact Goes.never b f d m n g' w' h2 k1.2
   |_=>rw[a] at h1;exact h1.elim
theorem Goes.meet(b:∀ w,R w w)(i:∀ g w,Stop g w->∃ g' e,stepG P false g w=.go g' w #[e])(d:∀ n g w,A g w->Goes P false R D Stop n g w->∀ w1,R w w1->Stop g w1) :
  ∀ (m n:Nat) (g:Goroutine) (w:World),Goes P false R DC0 A m g w->Goes P false R D Stop n g w->Goes P false R DC0 Stop m g w
 |0,n,g,w,h,k=>d n g w (h w (b w)) k
 |m+1,n,g,w,h,k=>by
  rcases h with h|⟨f,h⟩
  ·exact .inl (d n g w (h w (b w)) k)
  ·refine .inr ⟨f,λw1 hr=>?_⟩
   have h1:=h w1 hr;cases a:stepG P false g w1 with
   |go g' w' es =>
    rw[a,goes_go] at h1;rw[goes_go];obtain⟨⟨rfl,rfl⟩,h2⟩:=h1;have no:¬Stop g w':=λf=>by
     obtain⟨g2,e,j⟩:=i g w' f;rw[j] at a;simp at a
    refine⟨⟨rfl,rfl⟩,?_⟩;cases n with
    |zero=>exact absurd (k w' hr) no
    |succ n =>
     rcases k with k|⟨_,k⟩
     ·exact absurd (k w' hr) no
     ·have k1:=k w' hr;rw[a,goes_go] at k1;exact Goes.meet b i d m n g' w' h2 k1.2
   |_=>rw[a] at h1;exact h1.elim
end
variable [Payload] {L:WgLink}{P:Program}{Wg C n Low x:Nat}{val:Value}{c:Frame}{cs:List Frame}
def Uq(P:Program)(g:Goroutine)(_:World):Prop:=∃ g3,∀ w,stepG P false g w=.go g3 w #[mk .disable]
def Ur(P:Program)(L:WgLink)(Wg C n Low x:Nat)(val:Value)(g:Goroutine)(w:World):Prop :=
 (WgLive L.tWg Wg w/\Has C (x-1) val w)/\∃ a,(∀ w,stepG P false g w=.go a w #[mk (.releaseMerge (stA Wg))])/\∀ w,WgLive L.tWg Wg w/\Has C (x-1) val w->∃ m,Goes P false (RW L.tWg Wg C n Low (x-1)) DC0 (Uq P) m a w
set_option maxRecDepth 100000 in
set_option maxHeartbeats 2000000 in
theorem Fi(H:WgLib P L)(w:World)(a:WgLive L.tWg Wg w/\Has C (x-1) val w) :
  Goes P false (RW L.tWg Wg C n Low (x-1)) DC0 (Ur P L Wg C n Low x val) 23 (G ((baseD L.done).at ⟨#[.pointer (some ⟨Wg,0,none⟩),undef,undef,undef],[]⟩ [.code (body_done L)]) (c::cs)) w:=by
 lib_facts
 simp only[body_done,body_add,doneFn,addFn,cw]
 u_reg kn_rely a
 u_op kn_rely a
 u_in kn_rely a
 refine goes_call rfl rfl (by k_ne) rfl H.f_add (nm_add L) rfl ⟨by u_nil,?_⟩
 walk_nrmf addFn
 repeat (u_c stepG_seq kn_rely a)
 u_cond true kn_rely a
 repeat (u_c stepG_seq kn_rely a)
 u_reg kn_rely a
 u_op kn_rely a
 u_op kn_rely a
 u_c stepG_region_end kn_rely a
 repeat (u_c stepG_seq kn_rely a)
 u_cond true kn_rely a
 u_reg kn_rely a
 u_op kn_rely a
 u_conv H.underlying_tWgP H.room_tWg (Go.ConcN.Gen.WgLive.cell0 a.1).choose_spec kn_rely a
 refine Goes.stop (λd b=>?_)
 replace a:=kn_rely a b
 clear b;refine⟨a,_,λw=>stepG_markAt .releaseMerge (by simp) rfl rfl (by k_ne) rfl H.f_relMerge (x_relMerge_n L) (x_relMerge_b L) (x_relMerge_x L) (x_relMerge_f L) (by simp[Act.eval,stA]),λw a=>⟨10,?_⟩⟩
 walk_nrm
 u_c stepG_region_end kn_rely a
 repeat (u_c stepG_seq kn_rely a)
 u_reg kn_rely a
 exact Goes.stop λd b=>⟨_,λw=>stepG_mark0 .disable (by simp) rfl rfl (by k_ne) rfl H.f_disable (x_disable_n L) (x_disable_b L) (x_disable_x L) (x_disable_f L)⟩
theorem Mo(H:WgLib P L){s:Nat}(f:c.mode=.returning)(z:QuitsD P s 0 (G c cs))(w:World)(d:WgLive L.tWg Wg w/\Has C (x-1) val w) :
  Goes P false (RW L.tWg Wg C n Low (x-1)) DC0 (AtR0 P L.tWg Wg C n Low x val) 23 (G ((baseD L.done).at ⟨#[.pointer (some ⟨Wg,0,none⟩),undef,undef,undef],[]⟩ [.code (body_done L)]) (c::cs)) w:=by
 have E:=doneN (Own:=λ_ _=>False) (Rd:=λ_ _=>False) (Low:=Low) (n:=n) H f z w d
 have p:∀ g w,AtR0 P L.tWg Wg C n Low x val g w->∃ g' e,stepG P false g w=.go g' w #[e]:=λg w h=>by
  obtain⟨_,_,g',i,_⟩:=h;exact⟨g',_,i⟩
 have y:(mk (.releaseMerge (stA Wg)):Event)≠mk .disable:=by simp[mk]
 refine Goes.meet (λw=>.refl w) p ?_ _ _ _ _ (Fi H w d) E
 intro j g w h k w1 hr;obtain⟨d,v,i,B⟩:=h;have a:AtR0 P L.tWg Wg C n Low x val g w1∨∃ q,Goes P false (RW L.tWg Wg C n Low (x-1)) (DWs Wg (λ_ _=>False) (λ_ _=>False) C n x) (AtR0 P L.tWg Wg C n Low x val) q v w1:=by
  cases j with
  |zero=>exact .inl (k w1 hr)
  |succ j =>
   rcases k with k|⟨_,k⟩
   ·exact .inl (k w1 hr)
   ·have k1:=k w1 hr;rw[i w1,goes_go] at k1;exact .inr ⟨j,k1.2⟩
 rcases a with h|⟨q,h⟩
 ·exact h
 ·exfalso;obtain⟨m,u⟩:=B w1 (kn_rely d hr);refine Goes.never (λw=>.refl w) p ?_ _ _ _ _ u h
  rintro r g4 w4 ⟨g5,l⟩ k;have b:∀ w,¬AtR0 P L.tWg Wg C n Low x val g4 w:=λw t=>by
   obtain⟨_,_,F,o,_⟩:=t;rw[l w] at o;simp[mk] at o
  cases r with
  |zero=>exact b w4 (k w4 (.refl w4))
  |succ r =>
   rcases k with k|⟨_,k⟩
   ·exact b w4 (k w4 (.refl w4))
   ·have k1:=k w4 (.refl w4);rw[l w4,goes_go] at k1;have:=(k1.1.2 _ (Array.mem_singleton.2 rfl)).2.1;exact this rfl
end Go.AM
namespace Go.AM.R1
open Go.Proofs Go.Conc Go.Conc.Lib
open Go.ConcN (WgLive PayAt Has RW AtR0)
open Go.ConcR (KK WgAt stA smA rd wr mk Payload DC0)
instance pay:Payload:=⟨200⟩
def iX(f:Int):bE:=λargs σ=>match args,σ with
 |[.e (.one (.c (.int .i64 k))),g,.e (.one (.c (.int .i64 n)))],[]=>match jz 2 g with
  |none=>none
  |some (b,d)=>some (Nx (b6 k (cP.list b d) n),[],[cP.fits b d,k=f])
 |_,_=>none
noncomputable def Im:Code:=(Tryz.f127.body).getD .skip
noncomputable def D3:Array Oper:=match Im with|.seq (.region _ o _) _=>o|_=>#[]
noncomputable def D4:Array Oper:=match Im with|.seq _ (.region _ o _)=>o|_=>#[]
theorem D5:Tryz.f127.body=some (.seq (.region 0 D3 false) (.region 1 D4 true)):=by kernel_rfl
def oW(d:Option Nat)(op:Op)(ty:TypeId)(b:Array Edge):Oper:={ dst:=d,op:=op,type:=ty,pos:= "l12_snap.go:82",after:=b,guard:=none }
def o8:List Oper:=[oW (some 6) (.load 189 (.tmp 4)) 189 #[],oW (some 7) (.load 3 (.tmp 5)) 3 #[],oW (some 8) (.load 3 (.tmp 1)) 3 #[],oW (some 9) (.load 37 (.tmp 2)) 37 #[],oW (some 10) (.load 3 (.tmp 3)) 3 #[],
 oW (some 11) (.call { callee:=.value (.func 129),args:=#[.tmp 8,.tmp 9,.tmp 10],argTypes:=#[3,37,3] }) 200 #[⟨2,.data⟩,⟨3,.data⟩,⟨4,.data⟩],
 oW (some 12) (.indexAddr 189 (.tmp 6) (.tmp 7)) 0 #[⟨0,.data⟩,⟨1,.data⟩,⟨0,.phase⟩,⟨1,.phase⟩,⟨2,.phase⟩,⟨3,.phase⟩,⟨4,.phase⟩,⟨5,.phase⟩],
 oW none (.store 200 (.tmp 12) (.tmp 11)) 0 #[⟨6,.data⟩,⟨5,.data⟩,⟨5,.chain⟩,⟨0,.phase⟩,⟨1,.phase⟩,⟨2,.phase⟩,⟨3,.phase⟩,⟨4,.phase⟩,⟨5,.phase⟩]]
theorem G0:D4=o8.toArray:=by kernel_rfl
theorem kM{i:Nat}{o:Oper}(h:o8[i]?=some o):i<8:=(aF.1 h).1
section
variable (k:Int)(ps:List aV) (a:Int)(n x C:Nat)
def Mm(b:Value):Fr:=[(0,.e (.one (.v b))),(1,.e (.one (.c (.rp [.int .i64 k])))),(2,.e (.one (.c (.rp [.sl false 2 ps.length (cP.fn ps)])))),(3,.e (.one (.c (.rp [.int .i64 a])))),(4,.e (.one (.c (.rp [.val (.slice (some ⟨C,0,none⟩) n n)])))),(5,.e (.one (.c (.rp [.int .i64 x]))))]
def xW:Nat->D
 |0=>.e (.one (.v (.slice (some ⟨C,0,none⟩) n n)))
 |1=>dI x
 |2=>dI k
 |3=>cP.sl ps
 |4=>dI a
 |5=>Nx (b6 k ps a)
 |6=>.e (.one (.v (.pointer (some ⟨C,x*2,none⟩))))
 |_=>.any
def yn:Nat->Option Nat
 |6=>some 0|7=>some 1|8=>some 2|9=>some 3|10=>some 4|11=>some 5|12=>some 6|_=>none
def Q4(b:Value):Nat->Fr
 |5=>[(8,dI k),(9,cP.sl ps),(10,dI a)]
 |6=>[(6,.e (.one (.v (.slice (some ⟨C,0,none⟩) n n)))),(7,dI x)]
 |_=>Mm k ps a n x C b
end
theorem G1{X:Cx Tryz.prog}{n x C:Nat}(h:x<n):OA X 13 o8 (oW (some 12) (.indexAddr 189 (.tmp 6) (.tmp 7)) 0 #[⟨0,.data⟩,⟨1,.data⟩,⟨0,.phase⟩,⟨1,.phase⟩,⟨2,.phase⟩,⟨3,.phase⟩,⟨4,.phase⟩,⟨5,.phase⟩]) [(6,.e (.one (.v (.slice (some ⟨C,0,none⟩) n n)))),(7,dI x)] [] (.e (.one (.v (.pointer (some ⟨C,x*2,none⟩))))) []:=by
 refine .jg (λ_ _ _ _=>de rfl) (aG.quiet λs i m f=>?_)
 have c:=f (.tmp 6);have d:=f (.tmp 7);have l:bw [(6,D.e (.one (.v (.slice (some ⟨C,0,none⟩) n n)))),(7,dI x)] (.tmp 6)=.e (.one (.v (.slice (some ⟨C,0,none⟩) n n))):=rfl;have j:bw [(6,D.e (.one (.v (.slice (some ⟨C,0,none⟩) n n)))),(7,dI x)] (.tmp 7)=dI x:=rfl;rw[l] at c;rw[j] at d;have c:=Rd.fD c;have d:=ei d;generalize b:i (.tmp 7)=vy at d;cases d;have g:=(tok 189 i189 rfl).run_underlying (w:=s.w);refine⟨.pointer (some ⟨C,x*2,none⟩),?_,Rd.val rfl,?_⟩
 ·simp[execOp,oW,c,b,Instr.indexAt,asIntOf,g,i189,(tok 200 i200 rfl).run_sizeOf,i200,ck,h]
 ·simp[execOp,oW,c,b,Instr.indexAt,asIntOf,g,i189,ck,h]
theorem Mn{X:Cx Tryz.prog}{k:Int}(m:bO X 129 (iX k))(ps:List aV) (a:Int)(n x C:Nat)(w:x<n)(l:Value) :
  Dz X 13 o8.toArray (Mm k ps a n x C l) [] (xW k ps a n x C) (Q4 k ps a n x C l) yn 7:=by
 have q:aM X [(129,iX k)]:=aM.cons m aM.nil;have g:∀ (i:Nat) (o:Oper) (φ:Fr) (d:D) (obs:List Prop),o8[i]?=some o->zq tt [(129,iX k)] [] o8 φ [] o=some (d,none,obs)->aa obs->OA X 13 o8 o φ [] d [] :=
  λi o φ d obs _ h b=>kG tok q h b
 refine⟨?_,?_,?_,?_,?_,?_,by decide⟩
 ·intro i o b e p _;simp only[gd] at b;have hi:=kM b
  match i,hi with
  |0,_|1,_|2,_|3,_|4,_|5,_|6,_|7,_ =>
   cases b;simp[oW] at p
   try (rcases p with rfl|rfl|rfl|rfl|rfl|rfl|rfl|rfl|rfl <;> decide)
   try (rcases p with rfl|rfl|rfl <;> decide)
 ·intro i o d b u;simp only[gd] at b;have hi:=kM b
  match i,hi with
  |0,_|1,_|2,_|3,_|4,_|5,_|6,_|7,_ =>
   cases b;cases u
   try exact⟨rfl,by decide⟩
 ·intro d i h;unfold yn at h;split at h <;> cases h <;> exact⟨_,rfl,rfl⟩
 ·intro i o b c;simp only[gd] at b;have hi:=kM b
  match i,hi with
  |0,_=>cases b;exact g 0 _ _ _ _ rfl rfl ab
  |1,_=>cases b;exact g 1 _ _ _ _ rfl rfl ab
  |2,_=>cases b;exact g 2 _ _ _ _ rfl rfl ab
  |3,_=>cases b;exact g 3 _ _ _ _ rfl rfl ab
  |4,_=>cases b;exact g 4 _ _ _ _ rfl rfl ab
  |5,_ =>
   cases b;have:=g 5 _ (Q4 k ps a n x C l 5) _ _ rfl rfl (by simp[aa,cP.ae])
   rw[cP.list_fn] at this;exact this
  |6,_=>cases b;exact G1 w
  |7,_=>exact absurd rfl c
 ·intro i o b c t σ s v f;simp only[gd] at b;have hi:=kM b
  match i,hi with
  |0,_|1,_|2,_|3,_|4,_ =>
   match t with
   |0|1|2|3|4|5=>exact f
   |t+6=>trivial
  |5,_ =>
   cases b
   match t with
   |8=>exact(show cd σ s v (xW k ps a n x C 2) from by simpa[yn,oW,bT,Region.binds] using f)
   |9=>exact(show cd σ s v (xW k ps a n x C 3) from by simpa[yn,oW,bT,Region.binds] using f)
   |10=>exact(show cd σ s v (xW k ps a n x C 4) from by simpa[yn,oW,bT,Region.binds] using f)
   |0|1|2|3|4|5|6|7=>trivial
   |t+11=>trivial
  |6,_ =>
   cases b
   match t with
   |6=>exact(show cd σ s v (xW k ps a n x C 0) from by simpa[yn,oW,bT,Region.binds] using f)
   |7=>exact(show cd σ s v (xW k ps a n x C 1) from by simpa[yn,oW,bT,Region.binds] using f)
   |0|1|2|3|4|5=>trivial
   |t+8=>trivial
  |7,_=>exact absurd rfl c
 ·intro o b j r c;simp only[gd] at b;cases b
  match j,r with
  |0,_=>exact⟨⟨0,.phase⟩,by simp[oW],rfl,rfl⟩
  |1,_=>exact⟨⟨1,.phase⟩,by simp[oW],rfl,rfl⟩
  |2,_=>exact⟨⟨2,.phase⟩,by simp[oW],rfl,rfl⟩
  |3,_=>exact⟨⟨3,.phase⟩,by simp[oW],rfl,rfl⟩
  |4,_=>exact⟨⟨4,.phase⟩,by simp[oW],rfl,rfl⟩
  |5,_=>exact⟨⟨5,.phase⟩,by simp[oW],rfl,rfl⟩
  |6,_=>exact⟨⟨6,.data⟩,by simp[oW],rfl,rfl⟩
  |7,_=>exact absurd rfl c
noncomputable def pa:Frame:={ (default:Frame) with fn:=Tryz.prog.funcs.size,defers:=[],mode:=.panicking [goexitEntry] }
def qR(vs:Array Value):Deferred:={ target:=.fn (.func 127) vs,args:=#[] }
theorem Bd(v0 v1 v2 v3 v4 v5:Value)(w:World):stepG Tryz.prog false (born Tryz.prog (qR #[v0,v1,v2,v3,v4,v5])) w =
  .go (G ((baseD 127).at ⟨#[v0,v1,v2,v3,v4,v5,undef,undef,undef,undef,undef,undef,undef],[]⟩ [.code (.seq (.region 0 D3 false) (.region 1 D4 true))]) [pa]) w #[]:=by
 have c:=D5;have d:Tryz.f127.ntmps=13:=by kernel_rfl
 have b:¬Tryz.f127.name= "runtime.NumGoroutine":=by
  have:(Tryz.f127.name== "runtime.NumGoroutine")=false:=by kernel_rfl
  simpa using this
 simp[born,qR,stepG,unwind,callDeferred,invoke,callFunc,Tryz.func127,c,d,b,seen,GStep.after,G,Frame.enter,Frame.at,baseD,pa]
end Go.AM.R1
namespace Go.AM.R1
open Go.Proofs
variable {X:Cx Tryz.prog}
abbrev pk(ps:List aV)(i:Nat):aV:=ps.getD i (0,[])
theorem DW{k n:Int}{ps:List aV}{i:Nat}{r:Bs}(hi:i<ps.length)(h:cj k (pk ps i) n=some r)(a:∀ j,j<i->cj k (pk ps j) n=none):b6 k ps n=some r:=by
 unfold b6
 induction ps generalizing i with
 |nil=>simp at hi
 |cons p ps ih =>
  cases i with
  |zero=>simp only[pk,List.getD_cons_zero] at h;simp[tI,h]
  |succ i =>
   have b:=a 0 (by omega)
   simp only[pk,List.getD_cons_zero] at b;simp only[tI,b];exact ih (i:=i) (by simpa using hi) (by simpa[pk] using h) λj c=>by have:=a (j+1) (by omega);simpa[pk] using this
theorem yg{k n:Int}{ps:List aV}(a:∀ j,j<ps.length->cj k (pk ps j) n=none):b6 k ps n=none:=by
 unfold b6;rw[List.findSome?_eq_none_iff];intro p c;obtain⟨j,b,rfl⟩:=dV c;have:=a j b;simpa[pk,List.getD_eq_getElem?_getD,aj b] using this
theorem vp.Nf{P:Program}{φ:Fr}{σ:List ak}{T:List (Nat×TI)}(k:bV P T){fn:Func}{c:Nat}{res:D}{σ':List ak}(ks:List Nat){ps:List Prop}(h:Gd T fn.results.toList ks φ res=some ps)(f:aa ps)(i:jT ks σ=some σ')(b:kC σ'=true)(l:dn ks=true)(e:∀ j,j<c->ks[j]?=some j) :
  vp P fn c res σ' .ret φ σ:=by
 refine⟨.inl rfl,ks,?_⟩;unfold Gd at h;split at h
 ·rename_i ds CF
  split at h
  ·rename_i d g
   split at h
   ·rename_i a
    exact⟨d,ps,vo.Nf k CF g,h,f,a,i,b,l,e⟩
   ·cases h
  ·cases h
 ·cases h
theorem Mh{a:List Nat}:∀ j,j<0->a[j]?=some j:=λ_ h=>absurd h (fR _)
theorem DX(b:bO X 148 lF) (k:Int)(ps:List aV) (n:Int)(l:bJ k=true):Ev X 129 [dI k,cP.sl ps,dI n] [] (Nx (b6 k ps n)) []:=by
 refine Ev.kR Tryz.func129 rfl rfl rfl λo=>?_
 have m:=o.sl 1 rfl;have f:aM X [(169,Ci aI (mS cG) aI (λk p n=>uD (cj k p n)) λk _ _=>[bJ k=true])]:=.cons (JE b) .nil
 refine af f [] 100 rfl ab ?_;refine AK.bU 1 (λi=>i<=ps.length/\∀ j,j<i->cj k (pk ps j) n=none) (λi:Nat=>[(0,dI k),(2,dI n),(6,.e (.one (.ptr 0 0))),(11,cP.sl ps),(12,dI ps.length),(13,dI i)]) (λ_=>[.cells 200 [.c (.str []),.c (.bool false)]]) (λi=>ps.length-i) 0 rfl ?_ rfl ?_ rfl ⟨by omega,by omega⟩ ?_
 ·simp[aa.cat,aa,aw.same]
 ·simp[aa.cat,aa]
 rintro i ⟨hi,a⟩
 by_cases h:i<ps.length
 ·cases d:cj k (pk ps i) n with
  |some r =>
   refine af f [(14,true),(24,true)] 100 rfl ?_ (AK.freeze 6 0 rfl rfl rfl (AK.cR ?_))
   ·simp only[aa,az,cG.list_fn];refine⟨?_,cG.ae _,l,by omega,by omega,aP (by omega)⟩
    show (cj k (pk ps i) n).isSome=true;rw[d];rfl
   ·refine vp.Nf tok [] rfl ?_ rfl rfl rfl Mh;rw[DW h d a];simp only[az,cG.list_fn];have e:cj k ((ps.getD i cP.bx).1,(ps.getD i cP.bx).2) n=some r:=d;rw[e];simp[aa.cat,aa]
  |none =>
   refine af f [(14,true),(24,false)] 100 rfl ?_ (AK.aA (i+1) rfl ?_ rfl rfl rfl ?_ rfl ?_ ?_)
   ·simp only[aa,az,cG.list_fn];refine⟨by simp only[aB];omega,?_,cG.ae _,l,by omega,by omega,aP (by omega)⟩
    show (cj k (pk ps i) n).isSome=false;rw[d];rfl
   ·simp[aa.cat,aa,aw.same]
   ·simp[aa.cat,aa]
   ·refine⟨by omega,λj g=>?_⟩
    rcases dC.1 g with g|rfl
    ·exact a j g
    ·exact d
   ·show ps.length-(i+1)<ps.length-i;omega
 ·refine af f [(14,false)] 100 rfl (by simp[aa];omega) (AK.leaveD rfl rfl ?_)
  refine af f [] 100 rfl ab ?_;refine AK.freeze 6 0 rfl rfl rfl ?_;refine AK.oX tok [] rfl ?_ rfl rfl rfl Mh;rw[yg λj g=>a j (by omega)]
  simp[aa.cat,aa]
theorem JF(a:bO X 148 lF){k:Int}(b:bJ k=true):bO X 129 (iX k):=by
 intro args σ res σ' obs h d;unfold iX at h;split at h
 ·rename_i k1 da n
  split at h
  ·cases h
  ·rename_i g f e
   cases h;obtain⟨c,rfl⟩:=d;exact(DX a _ _ n b).args λs vs=>bX.imp (λ_ r=>r) (bX.imp (λ_ r=>cP.iW e c r) (bX.imp (λ_ r=>r) (λ_ r=>r))) vs
 ·cases h
def A0:bE:=λargs σ=>match args,σ with
 |[.e (.one (.c (.str [46]))),.e (.one (.c (.int .i64 c)))],[]=>some (dS (List.replicate c.toNat 46),[],[0<=c/\c<=3])
 |_,_=>none
theorem t191:bO X 191 (fZ aI (λn=>dI (bm n.toNat)) λn=>[0<=n/\n<=4000000]):=.je λn h=>by
 have a:0<=n/\n<=4000000:=h;obtain⟨m,rfl⟩:∃ m:Nat,n=m:=⟨n.toNat,by omega⟩
 exact vT (X:=X) m (by omega)
theorem DY{n:Nat}(a:1<=n)(b:n<=8):n<=bm n/\bm n<=n+3:=by
 unfold bm;split
 ·omega
 ·split
  ·omega
  ·split <;> omega
theorem DZ(b:bO X 190 A0)(p:Bs):Ev X 148 [dS p] [] (dS (gE p)) []:=by
 refine Ev.body Tryz.func148 rfl rfl rfl λf=>?_
 have d:aM X [(147,fZ aS (λs=>dB (a9 s)) λ_=>[]),(191,fZ aI (λn=>dI (bm n.toNat)) λn=>[0<=n/\n<=4000000]),(190,A0)]:=.cons t147 (.cons t191 (.cons b .nil))
 by_cases a:a9 p=true
 ·have c:=a;simp only[a9,bA,aD] at c;have e:=DY c.1.1 c.1.2;refine af d [(5,false)] 100 rfl ?_ (AK.au rfl ?_)
  ·simp[aa,a,aB];omega
  ·simp[aa,aa.cat,gE,a]
 ·refine af d [(5,true)] 100 rfl ?_ (AK.au rfl ?_)
  ·simp[aa,a]
  ·simp[aa,aa.cat,gE,a]
theorem Mc(a:bO X 190 A0):bO X 148 lF:=.je λp _=>DZ a p
theorem GU:Ev X 190 [dS [46],dI 0] [] (dS []) []:=by
 refine Ev.body Tryz.func190 rfl rfl rfl λa=>?_
 refine aE [(12,true)] 100 rfl ?_ (AK.au rfl ?_)
 ·simp[aa]
 ·simp[aa,aa.cat]
theorem GV:Ev X 190 [dS [46],dI 1] [] (dS [46]) []:=by
 refine Ev.body Tryz.func190 rfl rfl rfl λa=>?_
 refine aE [(12,false),(14,true)] 100 rfl ?_ (AK.au rfl ?_)
 ·simp[aa]
 ·simp[aa,aa.cat]
theorem Ma(b:Ev X 190 [dS [46],dI 2] [] (dS [46,46]) [])(d:Ev X 190 [dS [46],dI 3] [] (dS [46,46,46]) []):bO X 190 A0:=by
 intro args σ res σ' obs h a;unfold A0 at h;split at h
 ·rename_i c
  cases h;have:c=0∨c=1∨c=2∨c=3:=by have:0<=c/\c<=3:=a;omega
  rcases this with rfl|rfl|rfl|rfl
  ·exact GU
  ·exact GV
  ·exact b
  ·exact d
 ·cases h
end Go.AM.R1
namespace Go.AM.R1
open Go.Proofs
theorem yj{P:Program}{o:Oper}{n:Operand->D}{σ:List ak}{op:BinOp}{t ty:TypeId}{x y:Operand}(h:o.op=.binOp op t x y ty){e:TypeId}(C:P.underlying t=some (.pointer e)){b c:Bool}
  (A:∀ s u v,ag σ s->cd σ s u (n x)->cd σ s v (n y)->∃ p q,u=.pointer p/\v=.pointer q/\(p==q)=b/\(eqGuard op t x y u v).run P s.w=.ok () s.w/\(∀ es,(eqGuard op t x y u v).events P s.w es=es) /\
   (Op.equal t u v).run P s.w=.ok b s.w/\∀ es,(Op.equal t u v).events P s.w es=es)
  (l:iR op b=some c):aG P o n σ (.e (.one (.c (.bool c)))) σ:=by
 refine .quiet λs B z r=>?_
 obtain⟨p,q,f,g,E,i,k,j,m⟩:=A s _ _ z (r x) (r y);rw[f,g] at i j;have a:=k #[];have d:=m #[];rw[f,g] at a d;cases op <;> simp only[iR,reduceCtorEq,bG] at l
 ·subst l;exact⟨.bool b,by simp[execOp,h,f,g,i,binOp,j],Rd.bool,by simp[execOp,h,f,g,i,a,binOp,j,d]⟩
 ·subst l;exact⟨.bool (!b),by simp[execOp,h,f,g,i,binOp,j],Rd.bool,by simp[execOp,h,f,g,i,a,binOp,j,d]⟩
theorem Ju{P:Program}{o:Oper}{i:Operand->D}{σ:List ak}{op:BinOp}{t ty:TypeId}{x:Operand}(h:o.op=.binOp op t x (.const (.pointer none)) ty){e:TypeId}(f:P.underlying t=some (.pointer e)){c:Bool}
  (m:i x=.e (.one (.c .ll))) (l:i (.const (.pointer none))=.e (.one (.c .ll))) (j:iR op true=some c):aG P o i σ (.e (.one (.c (.bool c)))) σ:=by
 refine yj h f (b:=true) ?_ j;intro s u v _ d a;rw[m] at d;rw[l] at a
 replace d:=ei d
 replace a:=ei a
 cases d;cases a;have k:(Op.equal t (.pointer none) (.pointer none)).run P s.w=.ok true s.w:=by
  show (Op.equalIn (9999+1) t _ _).run P s.w=_;unfold Op.equalIn;simp[underlying,f]
 have g:∀ es,(Op.equal t (.pointer none) (.pointer none)).events P s.w es=es:=λes=>by
  show (Op.equalIn (9999+1) t _ _).events P s.w es=es;unfold Op.equalIn;simp[underlying,f]
 exact⟨none,none,rfl,rfl,rfl,by cases op <;> simp[eqGuard],λes=>by cases op <;> simp[eqGuard],k,g⟩
theorem Jv{P:Program}{o:Oper}{g:Operand->D}{σ:List ak}{op:BinOp}{t ty:TypeId}{x:Operand}(h:o.op=.binOp op t x (.const (.pointer none)) ty){e:TypeId}(d:P.underlying t=some (.pointer e)){c:Bool}{l off:Nat}
  (n:g x=.e (.one (.ptr l off))) (m:g (.const (.pointer none))=.e (.one (.c .ll))) (j:iR op false=some c):aG P o g σ (.e (.one (.c (.bool c)))) σ:=by
 refine yj h d (b:=false) ?_ j;intro s u v _ i a;rw[n] at i;rw[m] at a
 replace a:=ei a
 cases a;obtain⟨_,L,b,_,_,rfl⟩:=(i:fz σ s u (.ptr l off));have k:(Op.equal t (.pointer (some ⟨b,off,none⟩)) (.pointer none)).run P s.w=.ok false s.w:=by
  show (Op.equalIn (9999+1) t _ _).run P s.w=_;unfold Op.equalIn;simp[underlying,d]
 have f:∀ es,(Op.equal t (.pointer (some ⟨b,off,none⟩)) (.pointer none)).events P s.w es=es:=λes=>by
  show (Op.equalIn (9999+1) t _ _).events P s.w es=es;unfold Op.equalIn;simp[underlying,d]
 exact⟨_,none,rfl,rfl,rfl,by cases op <;> simp[eqGuard],λes=>by cases op <;> simp[eqGuard],k,f⟩
theorem GL{P:Program}{o:Oper}{j:Operand->D}{σ:List ak}{op:BinOp}{t ty:TypeId}{x y:Operand}(h:o.op=.binOp op t x y ty){e:TypeId}(f:P.underlying t=some (.pointer e)){n:Nat}(r:n≠0)
  (p:∀ w,(sizeOf e).run P w=.ok n w) (g:∀ w es,(sizeOf e).events P w es=es) {c:Bool} {l off:Nat}
  (E:j x=.e (.one (.ptr l off))) (C:j y=.e (.one (.ptr l off))) (z:iR op true=some c):aG P o j σ (.e (.one (.c (.bool c)))) σ:=by
 refine yj h f (b:=true) ?_ z;intro s u v _ q m;rw[E] at q;rw[C] at m;obtain⟨_,L,b,A,k,rfl⟩:=(q:fz σ s u (.ptr l off));obtain⟨_,G,F,d,a,rfl⟩:=(m:fz σ s v (.ptr l off));rw[A] at d;cases d;rw[k] at a;cases a;have B:(Op.equal t (.pointer (some ⟨b,off,none⟩)) (.pointer (some ⟨b,off,none⟩))).run P s.w=.ok true s.w:=by
  show (Op.equalIn (9999+1) t _ _).run P s.w=_;unfold Op.equalIn;simp[underlying,f,p,r,sameAddr]
 have i:∀ es,(Op.equal t (.pointer (some ⟨b,off,none⟩)) (.pointer (some ⟨b,off,none⟩))).events P s.w es=es:=λes=>by
  show (Op.equalIn (9999+1) t _ _).events P s.w es=es;unfold Op.equalIn;simp[underlying,f,p,g,r,sameAddr]
 exact⟨_,_,rfl,rfl,by simp,by cases op <;> simp[eqGuard],λes=>by cases op <;> simp[eqGuard],B,i⟩
end Go.AM.R1
namespace Go.AM
open Go.Conc (G)
def Jl{P:Program}(X:Cx P)(N:Nat)(all:List Oper)(o:Oper)(φ:Fr)(σ:List ak){ι:Type}(x:ι->D)(σ':ι->List ak):Prop :=
 ∀ s a,br N σ s φ a->ag σ s->∀ (b:Frame) (k:List Item) (cs:List Frame) (S:Goroutine->St->Prop) (i:Nat) (rest:List Nat),b.kind≠.early->all.toArray[i]?=some o ->
  (∀ j v s',cd (σ' j) s' v (x j)->ag (σ' j) s'->bD σ s (σ' j) s'->dk X S (G (b.aT (a.put o.dst v) (.inRegion all.toArray rest::k)) cs) s')->dk X S (G (b.aT a (.inRegion all.toArray (i::rest)::k)) cs) s
def uw:List Oper->Nat->(Nat->D)->List (Option Nat×D)
 |[],_,_=>[]
 |o::r,i,x=>(o.dst,x i)::uw r (i+1) x
theorem qy{x:Nat->D}:∀ {l:List Oper}{k j:Nat},(uw l k x)[j]?=(l[j]?).map λo=>(o.dst,x (k+j))
 |[],k,j=>by simp[uw]
 |o::r,k,0=>by simp[uw]
 |o::r,k,j+1=>by
  simp only[uw,nO];rw[qy,show k+1+j=k+(j+1) by omega]
def rQ(all:List Oper)(φ:Fr)(x:Nat->D)(i:Nat):Fr:=fT (λj=>fE j (bt (all.getD i jN).after.toList)) 0 (uw all 0 x) (oZ all φ)
def Ib(all:List Oper)(φ:Fr)(x:Nat->D):Fr:=fT (λ_=>true) 0 (uw all 0 x) (oZ all φ)
def qz(N:Nat):List Oper->Bool
 |[]=>true
 |o::r=>match ij N o.dst with|true=>qz N r|false=>false
theorem sz{N:Nat}:∀ {l:List Oper},qz N l=true->∀ (i:Nat)(o:Oper),l[i]?=some o->ij N o.dst=true
 |[],_,i,o,h=>by simp at h
 |p::r,h,i,o,hi=>by
  simp only[qz] at h;split at h
  ·rename_i a
   cases i with
   |zero=>simp at hi;subst hi;exact a
   |succ i=>exact sz h i o (by simpa using hi)
  ·cases h
def vJ:List Oper->Nat->Bool
 |[],_=>true
 |o::r,i=>match KN i (bt o.after.toList) with|true=>vJ r (i+1)|false=>false
theorem vK:∀ {l:List Oper}{k:Nat},vJ l k=true->∀ (i:Nat)(o:Oper),l[i]?=some o->∀ e∈bt o.after.toList,e<k+i
 |[],_,_,i,o,h=>by simp at h
 |p::r,k,h,i,o,hi=>by
  simp only[vJ] at h;split at h
  ·rename_i a
   cases i with
   |zero=>simp at hi;subst hi;exact xG a
   |succ i=>intro e b;have:=vK h i o (by simpa using hi) e b;omega
  ·cases h
def ux(pre:Nat->Bool):List Nat->Bool
 |[]=>false
 |e::r=>match pre e with|true=>ux pre r|false=>true
theorem sA{pre:Nat->Bool}:∀ {l:List Nat},ux pre l=true->∃ e∈l,pre e=false
 |[],h=>by cases h
 |e::r,h=>by
  simp only[ux] at h;split at h
  ·obtain⟨a,d,c⟩:=sA h;exact⟨a,nS _ d,c⟩
  ·rename_i b;exact⟨e,by simp,b⟩
def vL(pre:Nat->Bool)(m:Nat):List Oper->Nat->Bool
 |[],_=>true
 |o::r,i=>match pre i with
  |true=>vL pre m r (i+1)
  |false=>match Nat.beq i m with
   |true=>vL pre m r (i+1)
   |false=>match ux pre (bt o.after.toList) with|true=>vL pre m r (i+1)|false=>false
theorem zJ{pre:Nat->Bool}{m:Nat}:∀ {l:List Oper}{k:Nat},vL pre m l k=true->∀ (i:Nat)(o:Oper),l[i]?=some o->pre (k+i)=false->k+i≠m->∃ e∈bt o.after.toList,pre e=false
 |[],_,_,i,o,h=>by simp at h
 |p::r,k,h,i,o,hi=>by
  intro a c;simp only[vL] at h;cases i with
  |zero =>
   simp at hi;subst hi;simp only[eg] at a c;have b:Nat.beq k m=false:=by
    cases b:Nat.beq k m with
    |true=>exact absurd (bn b) c
    |false=>rfl
   simp only[a,b] at h;split at h
   ·rename_i g;exact sA g
   ·cases h
  |succ i =>
   have d:vL pre m r (k+1)=true:=by
    split at h
    ·exact h
    ·split at h
     ·exact h
     ·split at h
      ·exact h
      ·cases h
   exact zJ d i o (by simpa using hi) (by rw[show k+1+i=k+(i+1) by omega];exact a) (by omega)
section
variable {P:Program}{X:Cx P}{N:Nat}{ops:Array Oper}{φ:Fr}{σ:List ak}{ι:Type}{x:Nat->D}{f:ι->Nat->D}{σ':ι->List ak}{idx:Nat->Option Nat}{m:Nat}{pre:Nat->Bool}
structure LV {P:Program}(X:Cx P)(N:Nat)(ops:Array Oper)(φ:Fr)(σ:List ak){ι:Type}(x:Nat->D)(f:ι->Nat->D)(σ':ι->List ak)(idx:Nat->Option Nat)(m:Nat)(pre:Nat->Bool):Prop where
 back:∀ i o,ops[i]?=some o->∀ e∈o.after,bT e=true->e.on<i
 xF:∀ i o d,ops[i]?=some o->o.dst=some d->idx d=some i/\d<N
 oY:∀ d i,idx d=some i->∃ o,ops[i]?=some o/\o.dst=some d
 has:m<ops.size
 pm:pre m=false
 cl:∀ i o,ops[i]?=some o->pre i=false->i≠m->∃ e∈o.after,bT e=true/\pre e.on=false
 same:∀ j i,pre i=true->f j i=x i
 one:∀ i o,ops[i]?=some o->pre i=true->OA X N ops.toList o (rQ ops.toList φ x i) σ (x i) σ
 two:∀ j i o,ops[i]?=some o->i≠m->OA X N ops.toList o (rQ ops.toList φ (f j) i) (σ' j) (f j i) (σ' j)
 x2:∀ o,ops[m]?=some o->Jl X N ops.toList o (rQ ops.toList φ x m) σ (λj=>f j m) σ'
 IM:∀ (x:Nat->D) i o,ops[i]?=some o->∀ t σ s v,cd σ s v (match idx t with|some j=>(if ∃ e∈o.after,bT e=true/\e.on=j then x j else .any)|none=>look φ t)->cd σ s v (look (rQ ops.toList φ x i) t)
 fin:∀ (x:Nat->D) t σ s v,cd σ s v (match idx t with|some j=>x j|none=>look φ t)->cd σ s v (look (Ib ops.toList φ x) t)
theorem zK{x:Nat->D}{s:St}{a:Act}{L:Array Bool}{i:Nat}{o:Oper}(k:∀ t σ s v,cd σ s v (match idx t with|some j=>(if ∃ e∈o.after,bT e=true/\e.on=j then x j else .any)|none=>look φ t)->cd σ s v (look (rQ ops.toList φ x i) t))
  (h:AA N σ s (dy φ x idx L) a) (b:∀ e∈o.after,bT e=true->L.getD e.on false=true):br N σ s (rQ ops.toList φ x i) a:=h.CI λt σ s v d=>k t σ s v (by
 unfold dy at d;cases c:idx t with
 |none=>simpa[c] using d
 |some j =>
  simp only[c] at d ⊢;split
  ·rename_i g
   obtain⟨e,n,l,rfl⟩:=g;rw[ar (b e n l)] at d;exact d
  ·trivial)
theorem n9{x y:Nat->D}{σ2:List ak}{s s':St}{a:Act}{v:Value}{L:Array Bool}{i:Nat}{o:Oper}(r:∀ d,o.dst=some d->idx d=some i/\d<N)(n:∀ d j,idx d=some j->∃ o,ops[j]?=some o/\o.dst=some d)
  (F:ops[i]?=some o) (E:i<L.size) (C:∀ j,L.getD j false=true->y j=x j) (q:s.β.length=σ.length) (st:bD σ s σ2 s') (c:AA N σ s (dy φ x idx L) a) (G:cd σ2 s' v (y i)):AA N σ2 s' (dy φ y idx (L.setIfInBounds i true)) (a.put o.dst v):=by
 have old:∀ t,idx t≠some i->cd σ2 s' (a.tmps.getD t undef) (dy φ y idx (L.setIfInBounds i true) t):=by
  intro t H;have b:=(c.slot t).mono st.ext q;unfold dy at b ⊢;cases p:idx t with
  |none=>simpa[p] using b
  |some j =>
   simp only[p] at b ⊢;have w:j≠i:=by rintro rfl;exact H p
   have e:((L.setIfInBounds i true).getD j false=true)↔L.getD j false=true:=by rw[cr E];simp[w]
   by_cases l:L.getD j false=true
   ·rw[ar (e.2 l),C j l];rw[ar l] at b;exact b
   ·rw[an (λh=>l (e.1 h))];rw[an l] at b;exact b
 cases l:o.dst with
 |none =>
  refine⟨c.size,c.defers.imp λ_ z=>z.mono st.ext,λt=>?_⟩
  refine old t λh=>?_
  obtain⟨I,k,g⟩:=n _ _ h;rw[F] at k;cases k;rw[l] at g;cases g
 |some d =>
  obtain⟨u,A⟩:=r d l;refine⟨by simp[Act.put,c.size],c.defers.imp λ_ z=>z.mono st.ext,λt=>?_⟩
  simp only[Act.put]
  by_cases e:d=t
  ·subst e;have B:d<a.tmps.size:=by rw[c.size];exact A
   simp only[bP,jF B,cw];unfold dy;simp only[u];rw[ar ((cr E).2 (.inl rfl))];exact G
  ·have:=old t (λh=>by
    obtain⟨I,k,g⟩:=n _ _ h;rw[F] at k;cases k;rw[l] at g;cases g;exact e rfl)
   simp only[bP] at this ⊢;rw[hO e];exact this
theorem vM{back:∀ i o,ops[i]?=some o->∀ e∈o.after,bT e=true->e.on<i}{L:Array Bool}(j:L.size=ops.size)(d:Region.ready .any ops L=[]):∀ i,i<ops.size->L.getD i false=true:=by
 intro i
 induction i using Nat.strongRecOn with
 |_ i b =>
  intro hi;cases g:L.getD i false with
  |true=>rfl
  |false =>
   have c:i∈Region.ready .any ops L:=mem_ready.2 ⟨ops[i],b0 hi,by
    simpa[bP,b0 (by omega:i<L.size)] using g,λe h a=>by
    have:=back i _ (b0 hi) e h a;exact b _ this (by omega)⟩
   rw[d] at c;simp at c
theorem qA{L:Array Bool}{t:Nat}(a:(Region.ready .any ops L)[t % (Region.ready .any ops L).length]?=none):Region.ready .any ops L=[]:=by
 cases d:Region.ready .any ops L with
 |nil=>rfl
 |cons y c =>
  rw[d] at a;have b:t % (y::c).length<(y::c).length:=jj _ (by simp)
  simp at a;simp at b;omega
theorem nB{L:Array Bool}(e:L.size=ops.size)(d:(L.toList.filter (λb=>!b)).length<=0):∀ i,i<ops.size->L.getD i false=true:=by
 intro i hi;have c:L[i]'(by omega)∈L.toList:=by simp
 cases a:L[i]'(by omega) with
 |true=>simp[bP,b0 (by omega:i<L.size),a]
 |false =>
  have:L[i]'(by omega)∈L.toList.filter (λb=>!b):=pw.2 ⟨c,by simp[a]⟩
  have:=tz this;omega
theorem LV.O2(h:LV X N ops φ σ x f σ' idx m pre){K:Goroutine->St->Prop}{b:Frame}{kk:List Item}{cs:List Frame}(J:b.kind≠.early)(j:ι){s0:St}
  (T:∀ s a,br N (σ' j) s (Ib ops.toList φ (f j)) a->ag (σ' j) s->bD σ s0 (σ' j) s->dk X K (G (b.aT a kk) cs) s) :
  ∀ (c:Nat) (L:Array Bool),L.size=ops.size->(L.toList.filter (λb=>!b)).length<=c->L.getD m false=true ->
   (∀ i o,ops[i]?=some o->L.getD i false=true->∀ e∈o.after,bT e=true->L.getD e.on false=true) ->
   ∀ (s:St) (a:Act),AA N (σ' j) s (dy φ (f j) idx L) a->ag (σ' j) s->bD σ s0 (σ' j) s ->
   ∀ t,dk X K (G (b.aT a (.inRegion ops (Region.linearise.go .any ops c t L [])::kk)) cs) s:=by
 have fin:∀ (L:Array Bool) (s:St) (a:Act),(∀ i,i<ops.size->L.getD i false=true)->AA N (σ' j) s (dy φ (f j) idx L) a->ag (σ' j) s->bD σ s0 (σ' j) s->dk X K (G (b.aT a (.inRegion ops []::kk)) cs) s:=by
  intro L s a z g hh st;have H:br N (σ' j) s (Ib ops.toList φ (f j)) a:=g.CI λt σ s v w=>h.fin (f j) t σ s v (by
   unfold dy at w;cases hi:idx t with
   |none=>simpa[hi] using w
   |some k =>
    simp only[hi] at w ⊢;obtain⟨o,l,_⟩:=h.oY _ _ hi;rw[ar (z k (ey.1 l).1)] at w;exact w)
  exact .ctl hh rfl (λ_=>et) λY u=>T Y a (H.rely u hh) (hh.rely u) (st.trans u.stepW)
 intro c
 induction c with
 |zero =>
  intro L F H M C s a g hh st t;rw[qf];exact fin L s a (nB F H) g hh st
 |succ c V =>
  intro L F H M C s a g hh st t;rw[lu];cases p:(Region.ready .any ops L)[t % (Region.ready .any ops L).length]? with
  |none=>exact fin L s a (vM (back:=h.back) F (qA p)) g hh st
  |some i =>
   have hi:=aH p;obtain⟨o,l,B,q⟩:=mem_ready.1 hi;have U:i<ops.size:=(ey.1 l).1;have r:¬L.getD i false=true:=by
    simp only[bP,b0 (by omega:i<L.size),cw] at B ⊢
    simp[B]
   have Q:i≠m:=by rintro rfl;exact r M
   have n:((L.setIfInBounds i true).toList.filter (λb=>!b)).length<=c:=by
    have h1:L.toList[i]?=some false:=by
     rw[nR,b0 (by omega:i<L.size)]
     simpa[bP,b0 (by omega:i<L.size)] using r
    have:=count_set h1;rw[pU];omega
   have A:∀ j I,ops[j]?=some I->(L.setIfInBounds i true).getD j false=true->∀ e∈I.after,bT e=true->(L.setIfInBounds i true).getD e.on false=true:=by
    intro j I y hj e S J;rw[cr (by omega)] at hj ⊢
    rcases hj with rfl|hj
    ·rw[l] at y;cases y;exact .inr (q e S J)
    ·exact .inr (C j I y hj e S J)
   have R:br N (σ' j) s (rQ ops.toList φ (f j) i) a:=zK (h.IM (f j) i o l) g q;have:=h.two j i o l Q s a R hh b kk cs K i (Region.linearise.go .any ops c (t / (Region.ready .any ops L).length) (L.setIfInBounds i true) []) J (by simpa using l)
   simp only[nT] at this;exact this λv s' w O E=>V _ (by simp[F]) n ((cr (by omega)).2 (.inr M)) A s' _
    (n9 (λd W=>h.xF i o d l W) h.oY l (by omega) (λ_ _=>rfl) hh.len E g w) O (st.trans E) _
theorem LV.O3(h:LV X N ops φ σ x f σ' idx m pre){Q:Goroutine->St->Prop}{b:Frame}{kk:List Item}{cs:List Frame}(A:b.kind≠.early){s0:St}
  (U:∀ j s a,br N (σ' j) s (Ib ops.toList φ (f j)) a->ag (σ' j) s->bD σ s0 (σ' j) s->dk X Q (G (b.aT a kk) cs) s) :
  ∀ (c:Nat) (L:Array Bool),L.size=ops.size->(L.toList.filter (λb=>!b)).length<=c->¬L.getD m false=true->(∀ i,L.getD i false=true->pre i=true) ->
   (∀ i o,ops[i]?=some o->L.getD i false=true->∀ e∈o.after,bT e=true->L.getD e.on false=true) ->
   ∀ (s:St) (a:Act),AA N σ s (dy φ x idx L) a->ag σ s->bD σ s0 σ s ->
   ∀ t,dk X Q (G (b.aT a (.inRegion ops (Region.linearise.go .any ops c t L [])::kk)) cs) s:=by
 intro c
 induction c with
 |zero =>
  intro L B T J K H s a p hh st t;exact absurd (nB B T m h.has) J
 |succ c W =>
  intro L B T J K H s a p hh st t;rw[lu];cases r:(Region.ready .any ops L)[t % (Region.ready .any ops L).length]? with
  |none=>exact absurd (vM (back:=h.back) B (qA r) m h.has) J
  |some i =>
   have hi:=aH r;obtain⟨o,l,E,n⟩:=mem_ready.1 hi;have V:i<ops.size:=(ey.1 l).1;have F:¬L.getD i false=true:=by
    simp only[bP,b0 (by omega:i<L.size),cw] at E ⊢
    simp[E]
   have g:((L.setIfInBounds i true).toList.filter (λb=>!b)).length<=c:=by
    have h1:L.toList[i]?=some false:=by
     rw[nR,b0 (by omega:i<L.size)]
     simpa[bP,b0 (by omega:i<L.size)] using F
    have:=count_set h1;rw[pU];omega
   have u:∀ j M,ops[j]?=some M->(L.setIfInBounds i true).getD j false=true->∀ e∈M.after,bT e=true->(L.setIfInBounds i true).getD e.on false=true:=by
    intro j M y hj e O A;rw[cr (by omega)] at hj ⊢
    rcases hj with rfl|hj
    ·rw[l] at y;cases y;exact .inr (n e O A)
    ·exact .inr (H j M y hj e O A)
   have I:br N σ s (rQ ops.toList φ x i) a:=zK (h.IM x i o l) p n
   by_cases w:i=m
   ·subst w;have:=h.x2 o l s a I hh b kk cs Q i (Region.linearise.go .any ops c (t / (Region.ready .any ops L).length) (L.setIfInBounds i true) []) A (by simpa using l)
    simp only[nT] at this;exact this λj v s' hv md kF=>h.O2 A j (λs a=>U j s a) c _ (by simp[B]) g ((cr (by omega)).2 (.inl rfl)) u s' _
     (n9 (λd R=>h.xF i o d l R) h.oY l (by omega) (λk z=>h.same j k (K k z)) hh.len kF p hv) md (st.trans kF) _
   ·have q:pre i=true:=by
     cases q:pre i with
     |true=>rfl
     |false =>
      obtain⟨e,O,S,C⟩:=h.cl i o l q w;rw[K e.on (n e O S)] at C;cases C
    have:=h.one i o l q s a I hh b kk cs Q i (Region.linearise.go .any ops c (t / (Region.ready .any ops L).length) (L.setIfInBounds i true) []) A (by simpa using l)
    simp only[nT] at this;refine this λv s' hv md kF=>W _ (by simp[B]) g ?_ ?_ u s' _
     (n9 (λd R=>h.xF i o d l R) h.oY l (by omega) (λ_ _=>rfl) hh.len kF p hv) md (st.trans kF) _
    ·rw[cr (by omega)]
     rintro(e|e)
     ·exact w e.symm
     ·exact J e
    ·intro k z;rw[cr (by omega)] at z
     rcases z with rfl|z
     ·exact q
     ·exact K k z
theorem AW.x2(hf:P.follows Departure.mixedOrders=true){all:List Oper}(m:Nat)(pre:Nat->Bool)(x:Nat->D)(f:ι->Nat->D)(σ':ι->List ak)
  (J:mh all=true) (K:vJ all 0=true) (S:qz N all=true) (hm:Nat.blt m all.length=true) (SW:pre m=false) (xu:vL pre m all 0=true) (same:∀ j i,pre i=true->f j i=x i)
  (one:∀ i o,all[i]?=some o->pre i=true->OA X N all o (rQ all φ x i) σ (x i) σ)
  (two:∀ j i o,all[i]?=some o->i≠m->OA X N all o (rQ all φ (f j) i) (σ' j) (f j i) (σ' j))
  (x2:∀ o,all[m]?=some o->Jl X N all o (rQ all φ x m) σ (λj=>f j m) σ') {Q:Post} (hQ:∀ j,Q .normal (Ib all φ (f j)) (σ' j)) (id:Nat) :
  AW X N (.region id all.toArray true) Q φ σ:=by
 have g:∀ i:Nat,all.toArray[i]?=all[i]?:=λi=>by simp
 let idx:Nat->Option Nat:=λt=>(List.range all.length).find? (λi=>decide ((all.getD i jN).dst=some t))
 have n:∀ t j,idx t=some j->∃ o,all[j]?=some o/\o.dst=some t:=by
  intro t j hj;have h1:=List.find?_some hj;have h2:j<all.length:=by simpa using List.mem_of_find?_eq_some hj
  refine⟨all[j],aj h2,?_⟩;simpa[aj h2] using h1
 have q:∀ i o d,all[i]?=some o->o.dst=some d->idx d=some i:=by
  intro i o d k H;have hi:i<all.length:=(aF.1 k).1;cases hx:idx d with
  |none =>
   have:=List.find?_eq_none.1 hx i (by simpa using hi)
   simp[k,H] at this
  |some j =>
   obtain⟨p,U,IP⟩:=n d j hx;rw[nW J U k IP H]
 have u:∀ t,lx t all=true↔∃ j,idx t=some j:=by
  intro t
  constructor
  ·intro h;obtain⟨i,o,h1,h2⟩:=lZ h;exact⟨i,q i o t h1 h2⟩
  ·rintro⟨j,hj⟩;obtain⟨o,h1,h2⟩:=n t j hj;exact nd h1 h2
 have R:∀ i o,all[i]?=some o->all.getD i jN=o:=λi o h=>by simp[List.getD_eq_getElem?_getD,h]
 have H:LV X N all.toArray φ σ x f σ' idx m pre:=by
  refine⟨?_,?_,?_,?_,SW,?_,same,?_,?_,?_,?_,?_⟩
  ·intro i o k e Z Y;rw[g] at k;have:=vK K i o k e.on (dK.2 ⟨e,by simpa using Z,Y,rfl⟩)
   omega
  ·intro i o d k H;rw[g] at k;exact⟨q i o d k H,gY (sz S i o k) d H⟩
  ·intro d i h;obtain⟨o,h1,h2⟩:=n d i h;exact⟨o,by rw[g];exact h1,h2⟩
  ·have:m<all.length:=c6 hm;simpa using this
  ·intro i o k V G;rw[g] at k;obtain⟨e,Z,h1⟩:=zJ xu i o k (by simpa using V) (by simpa using G)
   obtain⟨e',q1,q2,q3⟩:=dK.1 Z;exact⟨e',by simpa using q1,q2,by rw[q3];exact h1⟩
  ·intro i o k V;rw[g] at k;exact one i o k V
  ·intro j i o k G;rw[g] at k;exact two j i o k G
  ·intro o k;rw[g] at k;exact x2 o k
  ·intro x i o k t σ s v E;rw[g] at k;show cd σ s v (look (rQ all φ x i) t);unfold rQ;rw[R i o k];rcases j1 (m:=λj=>fE j (bt o.after.toList)) (φ:=oZ all φ) (t:=t) (l:=uw all 0 x) (i:=0) with⟨j,y,h1,h2,L⟩|L
   ·rw[L];rw[qy] at h1;cases hj:all[j]? with
    |none=>simp[hj] at h1
    |some oj =>
     simp only[hj,gG,bG,kp,ay] at h1;rw[q j oj t hj h1.1] at E;simp only at E;rw[ar] at E
     ·rw[<-h1.2];exact E
     ·simp only[ay] at h2;obtain⟨e,a,b,c⟩:=dK.1 (IN h2);exact⟨e,by simpa using a,b,c⟩
   ·rw[L,iA];split
    ·trivial
    ·rename_i F
     cases z:idx t with
     |some j=>exact absurd ((u t).2 ⟨j,z⟩) F
     |none=>simpa[z] using E
  ·intro x t σ s v E;show cd σ s v (look (Ib all φ x) t);unfold Ib;rcases j1 (m:=λ_=>true) (φ:=oZ all φ) (t:=t) (l:=uw all 0 x) (i:=0) with⟨j,y,h1,h2,L⟩|L
   ·rw[L];rw[qy] at h1;cases hj:all[j]? with
    |none=>simp[hj] at h1
    |some oj =>
     simp only[hj,gG,bG,kp,ay] at h1;rw[q j oj t hj h1.1] at E;rw[<-h1.2];exact E
   ·rw[L,iA];split
    ·trivial
    ·rename_i F
     cases z:idx t with
     |some j=>exact absurd ((u t).2 ⟨j,z⟩) F
     |none=>simpa[z] using E
 intro s a T hh b kk cs SS Y Of;refine .next rfl λC A=>?_
 have A:=X.fC A;have B:=hh.rely A;have M:=T.rely A hh;have I:Step σ C σ { C with w:={ C.w with drawn:=C.w.drawn+1 } }:=Step.same rfl rfl rfl rfl;have O:ag σ { C with w:={ C.w with drawn:=C.w.drawn+1 } }:=B.same rfl;have W:=A.stepW.trans (I.mH B);refine⟨_,{ C with w:={ C.w with drawn:=C.w.drawn+1 } },#[],iJ,⟨⟨σ,σ,B,O,I⟩,.nil⟩,?_⟩;simp only[Region.schedule,hf,Bool.true_or,aZ];refine H.O3 Y (s0:=s) (λj s2 a2 f2 h2 na=>Of .normal _ _ s2 a2 (hQ j) f2 h2 na) all.toArray.size _ (by simp) (by simp) ?_ ?_ ?_ _ a ?_ O W _
 ·simp[bP,jG];split <;> simp
 ·intro i hi;simp[bP,jG] at hi;split at hi <;> simp at hi
 ·intro i o k hi;simp[bP,jG] at hi;split at hi <;> simp at hi
 ·have r:=M.mono (I.mH B) B.len;refine⟨r.size,r.defers,λt=>?_⟩
  unfold dy;cases z:idx t with
  |none=>exact r.slot t
  |some j =>
   simp only;rw[an]
   ·exact r.slot t
   ·simp[bP,jG];split <;> simp
end
def me(xs:List UInt8):List Value:=xs.map λx=>.int .u8 x.toNat
theorem lV{xs:List UInt8}:(me xs).length=xs.length:=by simp[me]
theorem F5{xs b:List UInt8}:me (xs++b)=me xs++me b:=by simp[me]
def lk(bf:Option (Nat×Nat))(n:Nat):Value:=match bf with|none=>.slice none 0 0|some (g,cap)=>.slice (some ⟨g,0,none⟩) n cap
def BB(T E:TypeId)(a:Bool)(v1:Value)(bf:Option (Nat×Nat))(xs:List UInt8)(f:Nat):Value->(Nat->Option Obj)->Prop:=λv d =>
 ∃ b,v=.pointer (some ⟨b,0,none⟩)/\cJ v1=true/\d b=some (.cells #[if a then v else .pointer none,v1] T (0,0)) /\
 match bf with
 |none=>xs=[]/\∀ c,(d c).isSome=true↔c=b
 |some (g,cap)=>g≠b/\xs.length<=cap/\0<cap/\cap<=9223372036854775807/\f<=xs.length/\(∃ e,(me xs++e).length=cap/\d g=some (.cells (me xs++e).toArray E (0,f)))/\∀ c,(d c).isSome=true↔c=b∨c=g
section
variable {P:Program}{X:Cx P}{N:Nat}{m:List (Nat×TI)}{o:Oper}{k:Operand->D}{σ:List ak}{l:Nat}{T E:TypeId}{a:Bool}{v1:Value}{bf:Option (Nat×Nat)}{xs:List UInt8}{f:Nat}{s:St}
structure p0 (P:Program)(σ:List ak)(s:St)(l:Nat)(T E:TypeId)(a:Bool)(v1:Value)(bf:Option (Nat×Nat))(xs:List UInt8)(f:Nat)(L:Loc)(b:Nat)(ch:Nat->Option Obj):Prop where
 β:s.β[l]?=some L
 v:L.v=.pointer (some ⟨b,0,none⟩)
 bb:BB T E a v1 bf xs f L.v ch
 heap:∀ (b:Nat) (o:Obj),ch b=some o->s.w.heap[b]?=some o
 bs:∀ b,b∈L.bs↔(ch b).isSome=true
 M:∀ b∈L.bs,∀ o,s.M b o=none
 ch:ch b=some (.cells #[if a then L.v else .pointer none,v1] T (0,0))
 cell:cJ v1=true
theorem BB.row(hh:ag σ s)(hl:σ[l]?=some (.eB (BB T E a v1 bf xs f))):∃ L b ch,p0 P σ s l T E a v1 bf xs f L b ch:=by
 have c:l<s.β.length:=by rw[hh.len];exact(aF.1 hl).1
 have e:=aj c;generalize s.β[l]=L at e;obtain⟨ch,g,h1,h2,i⟩:=hh.box l _ L hl e;have d:=g;obtain⟨b,j,h,n,_⟩:=d;exact⟨L,b,ch,e,j,g,h1,h2,i,n,h⟩
theorem p0.mem{L:Loc}{b:Nat}{ch:Nat->Option Obj}(r:p0 P σ s l T E a v1 bf xs f L b ch):b∈L.bs:=(r.bs b).2 (by rw[r.ch];rfl)
theorem p0.ptr{L:Loc}{b:Nat}{ch:Nat->Option Obj}(r:p0 P σ s l T E a v1 bf xs f L b ch){v:Value}{off:Nat}(h:cd σ s v (.e (.one (.ptr l off)))):v=.pointer (some ⟨b,off,none⟩):=by
 obtain⟨_,d,c,h1,h2,rfl⟩:=(h:fz σ s v (.ptr l off));rw[r.β] at h1;cases h1;rw[r.v] at h2;cases h2;rfl
theorem Cr(F:bV P m){t:TypeId}{x:Operand}{i:TI}(h:o.op=.load t x)(hi:aJ m t=some i)(C:i.agg=false)(K:σ[l]?=some (.eB (BB T E a v1 bf xs f))){off:Nat}{d:D}(M:k x=.e (.one (.ptr l off)))
  (J:∀ s L b ch,ag σ s->p0 P σ s l T E a v1 bf xs f L b ch->∃ v,(#[if a then L.v else .pointer none,v1]:Array Value)[off]?=some v/\cd σ s v d):aG P o k σ d σ:=by
 refine .kA λs H z G=>?_
 obtain⟨L,b,ch,r⟩:=BB.row (P:=P) z K;have A:=r.ptr (by have:=G x;rwa [M] at this)
 obtain⟨v,u,y⟩:=J s L b ch z r;have c:s.w.cell? ⟨b,off,none⟩=some v:=by
  simp only[World.cell?,r.heap _ _ r.ch];simpa using u
 have g:(loadVar t ⟨b,off,none⟩).run P s.w=.ok v s.w:=by
  simp[loadVar,(F t i hi).iz,C,run_load,c]
 refine⟨v,by simp[execOp,h,A,Instr.loadAt,Instr.sureAddr,g],y,λB q=>?_⟩
 have p:B∈(loadVar t ⟨b,off,none⟩).events P s.w #[]:=by
  have e:execOp H o=(do pure (.value (<-loadVar t ⟨b,off,none⟩))):=by simp[execOp,h,A,Instr.loadAt,Instr.sureAddr]
  rw[e] at q;simpa[g] using q
 obtain⟨j,I,rfl⟩:=iL (F t i hi) (n:=1) (λj I=>by
  rw[show j=0 by omega];exact⟨v,c⟩) (by simp[C]) B p
 exact m7 (aH r.β) r.mem
theorem aG.c9(c:bV P m){t:TypeId}{x:Operand}{i:TI}(h:o.op=.load t x)(hi:aJ m t=some i)(g:i.agg=false)(hl:σ[l]?=some (.eB (BB T E a v1 bf xs f)))(d:k x=.e (.one (.ptr l 1))):aG P o k σ (.e (.one (.v v1))) σ :=
 Cr c h hi g hl d λs L b ch hh r=>⟨v1,by simp,Rd.val r.cell⟩
theorem F6{H:Value->(Nat->Option Obj)->Prop}(b:σ[l]?=some (.eB H)):∀ B,σ[l]?=some B->B.gr=false:=by intro B h;rw[b] at h;cases h;rfl
theorem aG.Cs(c:bV P m){t:TypeId}{x:Operand}{i:TI}(h:o.op=.load t x)(hi:aJ m t=some i)(g:i.agg=false)(hl:σ[l]?=some (.eB (BB T E true v1 bf xs f)))(d:k x=.e (.one (.ptr l 0))):aG P o k σ (.e (.one (.ptr l 0))) σ :=
 Cr c h hi g hl d λs L b ch hh r=>⟨L.v,by simp,F6 hl,L,b,r.β,r.v,r.v⟩
theorem aG.IG(d:bV P m){t:TypeId}{x:Operand}{i:TI}(h:o.op=.load t x)(hi:aJ m t=some i)(j:i.agg=false)(hl:σ[l]?=some (.eB (BB T E false v1 bf xs f)))(g:k x=.e (.one (.ptr l 0))):aG P o k σ (.e (.one (.c .ll))) σ :=
 Cr d h hi j hl g λs L b ch hh r=>⟨.pointer none,by simp,Rd.ll⟩
theorem setRow_size(w:World)(b:Nat)(row:Array Value):(w.setRow b row).heap.size=w.heap.size:=by simp[World.setRow]
theorem Ct(hT:bV P m){t:TypeId}{x y:Operand}{i:TI}(h:o.op=.store t x y)(hi:aJ m t=some i)(S:i.size=1)(hl:σ[l]?=some (.eB (BB T E a v1 bf xs f))){off:Nat}{c:Bool}{n:Value}(hx:k x=.e (.one (.ptr l off)))(ho:off<2)(hc:cJ n=true)
  (hd:∀ s L b ch v,ag σ s->p0 P σ s l T E a v1 bf xs f L b ch->cd σ s v (k y)->cJ v=true/\(#[if a then L.v else .pointer none,v1]:Array Value).setIfInBounds off v=#[if c then L.v else .pointer none,n]):aG P o k σ .any (σ.set l (.eB (BB T E c n bf xs f))):=by
 intro s A hh hr;obtain⟨L,b,ch,r⟩:=BB.row (P:=P) hh hl;have K:=r.ptr (by have:=hr x;rwa [hx] at this)
 obtain⟨U,J⟩:=hd s L b ch (A y) hh r (hr y);have z:(A y).cells=#[A y]:=by cases Z:A y <;> simp[Z,cJ,Value.cells] at U ⊢
 have F:∀ v∈[A y],v.oneCell'=true:=by
  intro v K;simp at K;subst K;cases Z:A y <;> simp[Z,cJ,Value.oneCell'] at U ⊢
 have u:=r.heap _ _ r.ch;have R:=run_storeCells_at P b off T [A y] 0 _ s.w u (by simp;omega) F
 have H:((#[if a then L.v else .pointer none,v1]:Array Value).toList.take (off+0)++[A y]++(#[if a then L.v else .pointer none,v1]:Array Value).toList.drop (off+0+[A y].length)).toArray=#[if c then L.v else .pointer none,n]:=by
  rw[<-J]
  match off,ho with
  |0,_=>apply fH;simp
  |1,_=>apply fH;simp
 rw[H] at R;have Q:(s.w.setRow b #[if c then L.v else .pointer none,n]).heap[b]?=some (.cells #[if c then L.v else .pointer none,n] T (0,0)):=setRow_heap s.w b _ _ T _ u
 have G:∀ d,d≠b->(s.w.setRow b #[if c then L.v else .pointer none,n]).heap[d]?=s.w.heap[d]?:=λd q=>setRow_other s.w b d _ q
 obtain⟨t1,t2⟩:=hh.jf (l:=l) (H':=BB T E c n bf xs f) (L':=L) (w':=s.w.setRow b #[if c then L.v else .pointer none,n]) hl r.β rfl (by rw[setRow_size];exact aq _)
  (λd q hn=>G d (by rintro rfl;exact hn r.mem)) (λd q=>.inl q)
  ⟨λd=>if d=b then some (.cells #[if c then L.v else .pointer none,n] T (0,0)) else ch d,by
   obtain⟨V,W,q2,q3,q4⟩:=r.bb;have:V=b:=by rw[r.v] at W;simpa using W.symm
   subst this;have C:∀ d,(if d=V then some (Obj.cells #[if c then L.v else .pointer none,n] T (0,0)) else ch d).isSome=true↔(ch d).isSome=true:=by
    intro d
    by_cases e:d=V
    ·subst e;simp[r.ch]
    ·simp[e]
   refine⟨V,W,hc,by simp,?_⟩
   cases bf with
   |none=>exact⟨q4.1,λd=>(C d).trans (q4.2 d)⟩
   |some p =>
    obtain⟨g,cap⟩:=p;obtain⟨a1,a2,a3,a4,a5,⟨zs,a6,a7⟩,a8⟩:=q4;exact⟨a1,a2,a3,a4,a5,⟨zs,a6,by simp[a1,a7]⟩,λd=>(C d).trans (a8 d)⟩,λd o' q=>by
   by_cases e:d=b
   ·subst e;simp only[aZ] at q;cases q;exact Q
   ·simp only[e,aQ] at q;rw[G d e];exact r.heap _ _ q,λd=>by
   rw[r.bs d]
   by_cases e:d=b
   ·subst e;simp[r.ch]
   ·simp[e]⟩ rfl rfl rfl
 have O:s.β.set l L=s.β:=by
  apply k8
  intro j
  by_cases e:l=j
  ·subst e;rw[bo (aF.1 r.β).1,r.β]
  ·rw[b7 e]
 rw[O] at t1 t2;refine⟨.skip,{ s with w:=s.w.setRow b #[if c then L.v else .pointer none,n] },?_,rfl,t1,t2,?_⟩
 ·simp[execOp,h,K,Instr.storeAt,Instr.sureAddr,storeVar,(hT t i hi).run_sizeOf,S,z,R]
 ·intro ev B;have e:execOp A o=(do storeVar t ⟨b,off,none⟩ (A y);pure .skip):=by simp[execOp,h,K,Instr.storeAt,Instr.sureAddr]
  rw[e] at B;have I:ev∈(storeCells ⟨b,off,none⟩ [A y]).events P s.w #[]:=by
   simp only[storeVar,Sem.events_bind,(hT t i hi).run_sizeOf,z,S,Result.evThen_ok,events_sizeOf,b9,eW,aQ,aU,bh,Sem.events_pure,my,fi] at B;generalize (storeCells ⟨b,off,none⟩ [A y]).run P s.w=r at B;cases r with
   |ok v w'=>simpa using B
   |halt x w'=>simpa using B
  rcases dH [A y] 0 _ s.w #[] u (by simp;omega) F ev I with Y|⟨j,_,_,rfl⟩
  ·simp at Y
  ·exact lS (aH r.β) r.mem (r.M _ r.mem _)
theorem aG.tP(n:bV P m){t:TypeId}{x y:Operand}{i:TI}(h:o.op=.store t x y)(hi:aJ m t=some i)(d:i.size=1)(hl:σ[l]?=some (.eB (BB T E a v1 bf xs f))){c:Value}(q:k x=.e (.one (.ptr l 1)))(p:k y=.e (.one (.v c)))(g:cJ c=true):aG P o k σ .any (σ.set l (.eB (BB T E a c bf xs f))) :=
 Ct n h hi d hl q (by omega) g λs L b ch v hh r j=>by
  rw[p] at j;have:=Rd.fD j;subst this;exact⟨g,rfl⟩
theorem aG.F7(j:bV P m){t:TypeId}{x y:Operand}{i:TI}(h:o.op=.store t x y)(hi:aJ m t=some i)(c:i.size=1)(hl:σ[l]?=some (.eB (BB T E a v1 bf xs f)))(p:k x=.e (.one (.ptr l 0)))(n:k y=.e (.one (.ptr l 0)))(g:cJ v1=true):aG P o k σ .any (σ.set l (.eB (BB T E true v1 bf xs f))) :=
 Ct j h hi c hl p (by omega) g λs L b ch v hh r d=>by
  rw[n] at d;have:=r.ptr d;subst this;refine⟨rfl,?_⟩;rw[<-r.v];rfl
theorem aG.IH{T:TypeId}(h:o.op=.alloc T)(p:∀ w,(zeroValue T).run P w=.ok (.agg #[.pointer none,.slice none 0 0]) w)(j:∀ w es,(zeroValue T).events P w es=es):aG P o k σ (.e (.one (.ptr σ.length 0))) (σ++[.eB (BB T E false (.slice none 0 0) none [] 0)]):=by
 intro s x hh hr
 let w':=s.w.alloc (.cells #[.pointer none,.slice none 0 0] T)
 obtain⟨g1,g2⟩:=hh.grow (M':=s.M) (w':=w') (by simp[w']) (λb q=>bK s.w _ q) (λ_ _ _=>rfl) (λb q o v i=>by have:=hh.block i;omega) rfl rfl rfl
 have u:w'.heap.size=s.w.heap.size+1:=by simp[w']
 have g:w'.heap[s.w.heap.size]?=some (.cells #[.pointer none,.slice none 0 0] T (0,0)):=cB s.w _;obtain⟨t,r⟩:=g1.hY g2 rfl hh (B:=.eB (BB T E false (.slice none 0 0) none [] 0)) (L:=⟨.pointer (some ⟨s.w.heap.size,0,none⟩),[s.w.heap.size]⟩)
  ⟨λd=>if d=s.w.heap.size then some (.cells #[.pointer none,.slice none 0 0] T (0,0)) else none,⟨s.w.heap.size,rfl,rfl,by simp,rfl,λd=>by by_cases e:d=s.w.heap.size <;> simp[e]⟩,λd n c=>by
   by_cases e:d=s.w.heap.size
   ·subst e;simp only[aZ] at c;cases c;exact g
   ·simp[e] at c,λd=>by by_cases e:d=s.w.heap.size <;> simp[e],λd c n=>by
   simp at c;subst c;show s.M _ _=none;cases i:s.M s.w.heap.size n with
   |none=>rfl
   |some v=>have:=hh.block i;omega⟩ (λd c=>by simp at c;subst c;exact⟨aq _,by show _<w'.heap.size;omega⟩)
 refine⟨.value (.pointer (some ⟨s.w.heap.size,0,none⟩)),_,?_,⟨by simp,⟨.pointer (some ⟨s.w.heap.size,0,none⟩),[s.w.heap.size]⟩,s.w.heap.size,?_,rfl,rfl⟩,t,r,?_⟩
 ·simp[execOp,h,Instr.alloc,p,Go.newVar,newRow,Value.cells,w']
 ·simp[<-hh.len]
 ·simp[execOp,h,Instr.alloc,p,j,Go.newVar,newRow];exact .nil
end
section
variable {P:Program}{X:Cx P}{N:Nat}{z:List (Nat×TI)}{o:Oper}{q:Operand->D}{σ:List ak}{l:Nat}{T E:TypeId}{d:Bool}{v1:Value}{bf:Option (Nat×Nat)}{xs:List UInt8}{k:Nat}{s:St}
theorem ln{P:Program}{b o:Nat}{t:TypeId}{k:Nat×Nat}:∀ (vs:List Value)(i:Nat)(a:Array Value)(w:World)(es:Array Event),w.heap[b]?=some (.cells a t k)->k.2<=o+i->o+i+vs.length<=a.size->(∀ v∈vs,v.oneCell'=true) ->
  ∀ e∈(storeCells ⟨b,o,none⟩ vs i).events P w es,e∈es∨∃ j,i<=j/\j<i+vs.length/\e=Aw b (o+j)
 |[],_,_,_,_,_,_,_,_=>λe h=>.inl (by simpa[storeCells] using h)
 |v::rest,i,a,w,es,g,r,y,n=>λe h=>by
  have hi:o+i<a.size:=by simp at y;omega
  have c:w.cell? ⟨b,o+i,none⟩=some a[o+i]:=by simp[World.cell?,g,hi]
  have f:w.frozen? ⟨b,o+i,none⟩=false:=by
   obtain⟨lo,A⟩:=k;simp only[World.frozen?,g,mU,aY]
   right
   simp only at r;omega
  have x:(store (⟨b,o+i,none⟩:Addr) v).run P w=.ok () (w.setRow b (a.setIfInBounds (o+i) v)):=by
   rw[run_store P w _ v _ (n v (by simp)),c]
   simp[f,setCell_eq_setRow w b (o+i) a t k v g]
  have p:(store (⟨b,o+i,none⟩:Addr) v).events P w es=es.push (Aw b (o+i)):=by
   rw[events_store P w es _ v _ (n v (by simp)),c]
   simp only[f,fQ,aQ];rfl
  simp only[storeCells,Sem.events_bind,ck,x,p,Result.evThen_ok] at h;rcases ln rest (i+1) (a.setIfInBounds (o+i) v) _ _ (setRow_heap _ _ _ _ _ _ g) (by omega) (by simp at y ⊢;omega) (λu C=>n u (by simp[C])) e h with m|⟨j,F,B,rfl⟩
  ·rcases mZ.1 m with m|rfl
   ·exact .inl m
   ·exact .inr ⟨i,aq _,by simp,rfl⟩
  ·exact .inr ⟨j,by omega,by simp at B ⊢;omega,rfl⟩
theorem p0.at{L:Loc}{b g cap:Nat}{ch:Nat->Option Obj}(r:p0 P σ s l T E d v1 (some (g,cap)) xs k L b ch) :
  g≠b/\xs.length<=cap/\0<cap/\cap<=9223372036854775807/\k<=xs.length/\(∃ a,(me xs++a).length=cap/\ch g=some (.cells (me xs++a).toArray E (0,k)))/\(∀ e,(ch e).isSome=true↔e=b∨e=g)/\g∈L.bs:=by
 obtain⟨t,h,_,_,u,i,j,p,n,c,m⟩:=r.bb;have:t=b:=by rw[r.v] at h;simpa using h.symm
 subst this;obtain⟨a,c,f⟩:=c;exact⟨u,i,j,p,n,⟨a,c,f⟩,m,(r.bs g).2 (by rw[f];rfl)⟩
theorem Cu{L:Loc}(h:s.β[l]?=some L):s.β.set l L=s.β:=by
 apply k8
 intro j
 by_cases e:l=j
 ·subst e;rw[bo (aF.1 h).1,h]
 ·rw[b7 e]
theorem p0.jf{L:Loc}{b g cap:Nat}{ch:Nat->Option Obj}(hh:ag σ s)(hl:σ[l]?=some (.eB (BB T E d v1 (some (g,cap)) xs k)))(r:p0 P σ s l T E d v1 (some (g,cap)) xs k L b ch){xs':List UInt8}{fz':Nat}{zs':List Value}{w':World}
  (f:(me xs'++zs').length=cap) (u:xs'.length<=cap) (t:fz'<=xs'.length) (G:w'.heap.size=s.w.heap.size) (j:∀ a,a≠g->w'.heap[a]?=s.w.heap[a]?) (A:w'.heap[g]?=some (.cells (me xs'++zs').toArray E (0,fz'))) (F:w'.os=s.w.os) (y:w'.tape=s.w.tape) (B:w'.output=s.w.output) :
  ag (σ.set l (.eB (BB T E d v1 (some (g,cap)) xs' fz'))) { s with w:=w' }/\Step σ s (σ.set l (.eB (BB T E d v1 (some (g,cap)) xs' fz'))) { s with w:=w' }:=by
 obtain⟨i,J,x,H,Q,⟨K,O,C⟩,p,h⟩:=r.at;obtain⟨n,m⟩:=hh.jf (l:=l) (H':=BB T E d v1 (some (g,cap)) xs' fz') (L':=L) (w':=w') hl r.β rfl (by omega)
  (λa c I=>j a (by rintro rfl;exact I h)) (λa c=>.inl c)
  ⟨λa=>if a=g then some (.cells (me xs'++zs').toArray E (0,fz')) else ch a,⟨b,r.v,r.cell,(show (if b=g then _ else ch b)=_ from (an λe=>i e.symm).trans r.ch),i,u,x,H,t,⟨zs',f,by simp⟩,λa=>by
   by_cases e:a=g
   ·subst e;simp
   ·simp only[e,aQ];exact(p a).trans (by simp[e])⟩,λa M c=>by
   by_cases e:a=g
   ·subst e;simp only[aZ] at c;cases c;exact A
   ·simp only[e,aQ] at c;rw[j a e];exact r.heap _ _ c,λa=>by
   rw[r.bs a]
   by_cases e:a=g
   ·subst e;simp[C]
   ·simp[e]⟩ F y B
 rw[Cu r.β] at n m;exact⟨n,m⟩
theorem aG.F8{t R:TypeId}{x y:Operand}(ho:o.op=.call { callee:=.builtin .append,args:=#[x,y],argTypes:=#[t,R] }){V:TypeInfo}(ht:P.underlying t=some (.slice E))(K:P.underlying R=some .string)(u:P.info? E=some V)(C:V.size=1)
  {g cap n:Nat} (hl:σ[l]?=some (.eB (BB T E d v1 (some (g,cap)) xs k))) (hx:q x=.e (.one (.v (lk (some (g,cap)) n)))) (hn:xs.length=n) {str:List UInt8} (hy:q y=.e (.one (.c (.str str)))) (RJ:n+str.length<=cap) :
  aG P o q σ (.e (.one (.v (lk (some (g,cap)) (n+str.length))))) (σ.set l (.eB (BB T E d v1 (some (g,cap)) (xs++str) k))):=by
 intro s ρ hh hr;subst hn;obtain⟨L,b,ch,r⟩:=BB.row (P:=P) hh hl;obtain⟨a1,a2,a3,a4,Z,⟨a,a6,a7⟩,a8,F⟩:=r.at;have A:=hr x;rw[hx] at A;have A:=Rd.fD A;have G:=hr y;rw[hy] at G;have G:=ei G;generalize O:ρ y=vy at G;cases G with
 |@str sb _ hs RK =>
 have J:sb.size=str.length:=by rw[<-hs,fj];rfl
 have Q:=r.heap _ _ a7;have f:(me xs++a).toArray.size=cap:=by simpa using a6
 have H:=Lib.run_append_room_stringF (P:=P) s.w t R o.type E V ht K u C g xs.length cap _ _ Q Z sb (by omega) (by rw[f];omega)
 have p:((me xs++a).toArray.toList.take xs.length++Lib.strCells sb++(me xs++a).toArray.toList.drop (xs.length+sb.size))=me (xs++str)++a.drop str.length:=by
  have e1:(me xs++a).take xs.length=me xs:=by rw[<-lV (xs:=xs)];simp
  have e2:(me xs++a).drop (xs.length+sb.size)=a.drop str.length:=by
   rw[List.drop_append,lV,tA (by rw[lV];omega),J]
   simp
  have e3:Lib.strCells sb=me str:=by simp[Lib.strCells,me,hs]
  rw[tG,e1,e2,e3,F5]
 rw[p,J] at H;have Uv:a.length=cap-xs.length:=by simp[lV] at a6;omega
 have m:(me (xs++str)++a.drop str.length).length=cap:=by simp[lV];omega
 have B:(s.w.setRow g (me (xs++str)++a.drop str.length).toArray).heap[g]?=some (.cells (me (xs++str)++a.drop str.length).toArray E (0,k)):=setRow_heap s.w g _ _ E _ Q;obtain⟨t1,S⟩:=r.jf (fz':=k) (w':=s.w.setRow g (me (xs++str)++a.drop str.length).toArray) hh hl m (by simp;omega) (by simp;omega) (setRow_size _ _ _) (λb' U=>setRow_other s.w g b' _ U) B rfl rfl rfl
 refine⟨.value (.slice (some ⟨g,0,none⟩) (xs.length+str.length) cap),_,?_,Rd.val rfl,t1,S,?_⟩
 ·rw[dJ ho,A,O];simp only[aU,b8];have I:(Builtin.append_ #[t,R] o.type #[lk (some (g,cap)) xs.length,.string sb]).run P s.w=_:=H;rw[I];rfl
 ·rw[dJ ho,A,O];refine dx λe he=>?_
  have hf:=Lib.run_firstCells_string (P:=P) s.w 1 sb;have Y:=run_storeCells_atF P g xs.length E (0,k) (Lib.strCells sb) 0 _ s.w Q (by simpa using Z) (by rw[Lib.strCells_length,f];omega) (Lib.strCells_oneCell sb)
  have i:xs.length+sb.size<=cap:=by omega
  have W:(Builtin.firstCells 1 sb.size (.string sb)).events P s.w #[]=#[]:=rfl;simp[lk,Builtin.append_,run_underlying ht,run_underlying K,sizeOf,typeInfo,u,C,Builtin.lenOf,i,hf,W,ck,Y] at he;rcases ln (Lib.strCells sb) 0 _ s.w _ Q (by simpa using Z) (by rw[Lib.strCells_length,f];omega) (Lib.strCells_oneCell sb) e he with h|⟨j,h1,h2,rfl⟩
  ·simp at h
  ·exact lS (aH r.β) F (r.M _ F _)
theorem aG.Cv{t p:TypeId}{x y:Operand}(A:o.op=.call { callee:=.builtin .append,args:=#[x,y],argTypes:=#[t,p] }){m:TypeInfo}(r:P.underlying t=some (.slice E))(h:P.underlying p=some .string)(b:P.info? E=some m)
  (G:q x=.e (.one (.v (lk none 0)))) (F:q y=.e (.one (.c (.str [])))):aG P o q σ (.e (.one (.v (lk none 0)))) σ:=by
 refine .quiet λs B hh hr=>?_
 have g:=hr x;rw[G] at g;have g:=Rd.fD g;have i:=hr y;rw[F] at i;have i:=ei i;generalize f:B y=vy at i;cases i with
 |@str sb _ C u =>
 have a:sb.size=0:=by
  have:sb.data.toList.length=0:=by rw[C];rfl
  rw[fj] at this;exact this
 have j:=Lib.run_firstCells_string (P:=P) s.w m.size sb;rw[a] at j;have n:(Builtin.firstCells m.size 0 (.string sb)).events P s.w #[]=#[]:=rfl;refine⟨.slice none 0 0,?_,Rd.val rfl,?_⟩
 ·rw[dJ A,g,f];simp[lk,Builtin.append_,run_underlying r,run_underlying h,sizeOf,typeInfo,b,Builtin.lenOf,a,j]
 ·rw[dJ A,g,f];simp[lk,Builtin.append_,run_underlying r,run_underlying h,sizeOf,typeInfo,b,Builtin.lenOf,a,j,n]
theorem K3{f:FuncId}{fn:Func}{ps:Array TypeId}{t:TypeId}(ht:P.underlying t=some (.slice E))(hf:P.funcs[f]?=some fn)(A:(fn.name== "runtime.NumGoroutine")=false)
  (hb:fn.body.isNone=true) (hn:Extern.findNext fn=none) (S:Extern.find fn=some (Extern.BytealgMakeNoZero.makeNoZero ps #[t])) {Q x:Operand} {Z:Array TypeId} (ho:o.op=.call { callee:=.value Q,args:=#[x],argTypes:=Z })
  (RL:q Q=.e (.one (.c (.fn (.func f) [] [])))) {n:Nat} (hx:q x=.e (.one (.c (.int .i64 n)))) (h0:0<n) (RM:n<=140737488355328) (hl:σ[l]?=some (.eB (BB T E d v1 none xs k))) :
  ∀ s F,ag σ s->(∀ y,cd σ s (F y) (q y))->∃ (j:{ p:Nat×Nat // n<=p.2 }) (s':St) (v:Value),(execOp F o).run P s.w=.ok (.value v) s'.w/\cd (σ.set l (.eB (BB T E d v1 (some j.1) [] 0))) s' v (.e (.one (.v (lk (some j.1) n)))) /\
   ag (σ.set l (.eB (BB T E d v1 (some j.1) [] 0))) s'/\Step σ s (σ.set l (.eB (BB T E d v1 (some j.1) [] 0))) s'/\eP s ((execOp F o).events P s.w #[]):=by
 intro s F hh hr;obtain⟨L,b,ch,r⟩:=BB.row (P:=P) hh hl;have H:F Q=.func (.func f) #[] #[]:=by
  have i:=hr Q;rw[RL] at i;have i:=ei i;generalize F Q=v at i;cases i with
  |fn fs cs a b f1 f2 c1 c2 d1 d2 =>
   have:fs=[]:=fO a;subst this;have:cs=[]:=fO b;subst this;rfl
 have I:F x=.int .i64 n:=by
  have i:=hr x;rw[hx] at i;have i:=ei i;generalize F x=v at i;cases i;rfl
 obtain⟨cs,i,h2,h3⟩:=Lib.run_makeNoZero (P:=P) s.w ps t E ht n (by omega)
 have h3:=h3 (by simp only[maxLen];omega)
 have G:(callFunc f #[.int .i64 n]).run P s.w=.ok (.value (.slice (some ⟨s.w.heap.size,0,none⟩) n cs.size)) (s.w.drew.drew.alloc (.cells cs E)):=by
  rw[run_callFunc_extern hf A hb hn S,i];rfl
 let w':World:=s.w.drew.drew.alloc (.cells cs E)
 have R:w'.heap[s.w.heap.size]?=some (.cells cs E (0,0)):=cB s.w.drew.drew _;have Cq:w'.heap.size=s.w.heap.size+1:=by show (s.w.drew.drew.heap.push _).size=_;simp
 obtain⟨B,q1,q2,q3,q4⟩:=r.bb;have V:B=b:=by rw[r.v] at q1;simpa using q1.symm
 subst V;have O:B<s.w.heap.size:=hh.lt L (aH r.β) B r.mem;have C:s.w.heap.size≠B:=by omega
 obtain⟨t1,t2⟩:=hh.jf (l:=l) (H':=BB T E d v1 (some (s.w.heap.size,cs.size)) [] 0) (L':=⟨L.v,[B,s.w.heap.size]⟩) (w':=w') hl r.β rfl (by omega)
  (λu g hn=>bK s.w.drew.drew _ g) (λu g=>by
   simp at g;rcases g with rfl|rfl
   ·exact .inl r.mem
   ·exact .inr ⟨aq _,by omega⟩)
  ⟨λu=>if u=B then some (.cells #[if d then L.v else .pointer none,v1] T (0,0)) else if u=s.w.heap.size then some (.cells cs E (0,0)) else none,⟨B,r.v,r.cell,by simp,C,by simp,by omega,by simp only[maxLen] at h3;omega,by simp,⟨cs.toList,by simp[me],by simp[C,me]⟩,λu=>by
   by_cases e:u=B
   ·simp[e]
   ·by_cases J:u=s.w.heap.size <;> simp[e,J,C]⟩,λu o' g=>by
   by_cases e:u=B
   ·subst e;simp only[aZ] at g;have:w'.heap[u]?=s.w.heap[u]?:=bK s.w.drew.drew _ O;rw[this,<-g];exact r.heap _ _ r.ch
   ·simp only[e,aQ] at g
    by_cases J:u=s.w.heap.size
    ·subst J;simp only[aZ] at g;cases g;exact R
    ·simp[J] at g,λu=>by
   by_cases e:u=B
   ·simp[e]
   ·by_cases J:u=s.w.heap.size <;> simp[e,J,C]⟩ rfl rfl rfl
 refine⟨⟨(s.w.heap.size,cs.size),h2⟩,_,_,?_,Rd.val rfl,t1,t2,?_⟩
 ·simp[execOp,ho,resolve,Deferred.ofValue,invoke,H,I,G,w',lk]
 ·intro ev M;simp only[execOp,ho,resolve,Deferred.ofValue,invoke,H,I] at M;have K:ev∈(callFunc f #[.int .i64 n]).events P s.w #[]:=by
   simpa[H,I] using M
  have W:fn.name≠ "runtime.NumGoroutine":=by simpa using A
  have Y:fn.body=none:=by simpa using hb
  have key:∀ es:Array Event,∀ e∈(Extern.BytealgMakeNoZero.makeNoZero ps #[t] #[.int .i64 n]).events P s.w es,e∈es∨∃ m,e=⟨.mark m,false,true⟩/\Go.Conc.Neutral m:=by
   intro es e S
   change e∈Sem.events P (underlying _ >>= _) _ _ at S
   have i:¬(n:Int)<0:=by omega
   have h2:¬(281474976710656:Int)<(n:Int):=by omega
   have U:e∈(askRoom (grownCap s.w n 0 E)).events P s.w.drew es:=by
    simpa[run_underlying ht,i,h2,Question.forced,newRow,grownCap] using S
   exact Go.Conc.events_askRoom _ _ _ e U
  have:ev∈(Extern.BytealgMakeNoZero.makeNoZero ps #[t] #[.int .i64 n]).events P s.w ((#[]:Array Event).push ⟨.mark (.extern f),false,true⟩):=by
   have e:callFunc f #[.int .i64 n]=callFunc f #[.int .i64 n]:=rfl;simpa[callFunc,hf,W,Y,hn,S,i] using K
  rcases key _ _ this with h|⟨m,rfl,hm⟩
  ·simp at h;subst h;exact .inr ⟨f,rfl⟩
  ·exact .inl hm
theorem K4{F M:TypeId}{x y:Operand}(ho:o.op=.call { callee:=.builtin .unsafeString,args:=#[x,y],argTypes:=#[F,M] })(hp:P.underlying F=some (.pointer E))(G:P.cellsOf E=1)
  {g cap:Nat} (hl:σ[l]?=some (.eB (BB T E d v1 (some (g,cap)) xs k))) (hx:q x=.e (.one (.v (.pointer (some ⟨g,0,none⟩))))) (hy:q y=.e (.one (.c (.int .i64 xs.length)))) :
  aG P o q σ (.e (.one (.c (.str xs)))) (σ.set l (.eB (BB T E d v1 (some (g,cap)) xs xs.length))):=by
 intro s R hh hr;obtain⟨L,b,ch,r⟩:=BB.row (P:=P) hh hl;obtain⟨a1,U,a3,a4,a5,⟨V,a6,a7⟩,a8,RN⟩:=r.at;have A:=hr x;rw[hx] at A;have A:=Rd.fD A;have t:R y=.int .i64 xs.length:=by
  have O:=hr y;rw[hy] at O;have O:=ei O;generalize R y=v at O;cases O;rfl
 have K:=r.heap _ _ a7;have p:execOp R o=(do pure (.value (<-Builtin.unsafeString_ #[F,M] o.type #[R x,R y]))):=by simp[execOp,ho,resolve,invoke,builtin]
 have I:(me xs++V).toArray.size=cap:=by simpa using a6
 by_cases h0:xs=[]
 ·subst h0;have m:=Lib.run_unsafeString_none (P:=P) s.w F M o.type (some ⟨g,0,none⟩);obtain⟨t1,t2⟩:=r.jf (xs':=[]) (fz':=0) (zs':=V) (w':=s.w) hh hl a6 U (by simp) rfl (λ_ _=>rfl) (by have e:k=0:=(by simpa using a5);rw[e] at K;exact K) rfl rfl rfl
  refine⟨.value (.string .empty),_,?_,Rd.str rfl (by simp),t1,t2,?_⟩
  ·rw[p,A,t];simp only[aU,b8];have:(Builtin.unsafeString_ #[F,M] o.type #[.pointer (some ⟨g,0,none⟩),.int .i64 ([]:List UInt8).length]).run P s.w=_:=m;rw[this];rfl
  ·rw[p,A,t];refine dx ?_
   change eP s (Sem.events P (asInt (.int .i64 0) >>= _) _ _)
   simp[asInt,asIntOf,IntKind.max];exact .nil
 ·have i:∀ j x,xs[j]?=some x->s.w.cell? ((⟨g,0,none⟩:Addr).add j)=some (.int .u8 x.toNat):=by
   intro j x H;rw[ck];simp only[World.cell?,K,ay];have W:j<xs.length:=(aF.1 H).1;have:(me xs)[j]?=some (.int .u8 x.toNat):=by simp[me,H]
   simp[bS (by rw[lV];exact W:j<(me xs).length),this]
  have u:s.w.shape? g=some (E,cap):=by simp only[World.shape?,K];rw[I]
  have m:=Lib.run_unsafeString_row (P:=P) s.w F M o.type E hp G g cap u xs h0 U (by omega) i
  have f:xs.length≠0:=by simpa using h0
  have RO:(s.w.freeze ⟨g,0,none⟩ xs.length).heap[g]?=some (.cells (me xs++V).toArray E (0,xs.length)):=by
   simp only[World.freeze,f,aQ,tD,aZ,K,gG]
   by_cases Z:k=0
   ·subst Z;simp
   ·have e1:((0:Nat)==k)=false:=by
     simp only[eU,b9];omega
    simp only[e1,fQ,aQ,Nat.min_self,ay];rw[Nat.max_eq_right a5]
  obtain⟨t1,t2⟩:=r.jf (xs':=xs) (fz':=xs.length) (zs':=V) (w':=s.w.freeze ⟨g,0,none⟩ xs.length) hh hl a6 U (aq _) (by simp[World.freeze,f]) (λb' Cw=>by
   simp only[World.freeze,f,aQ,tD];rw[an (λe=>Cw e.symm)]) RO (by simp[World.freeze,f]) (by simp[World.freeze,f]) (by simp[World.freeze,f])
  refine⟨.value (.string ⟨xs.toArray⟩),_,?_,Rd.str (by simp) (by omega),t1,t2,?_⟩
  ·rw[p,A,t];simp only[aU,b8,m];rfl
  ·rw[p,A,t];refine dx λe B=>?_
   have J:¬(xs.length:Int)<0:=by omega
   have RP:¬(9223372036854775807:Int)<(xs.length:Int):=by omega
   have n:=Lib.liesAt_bytes (P:=P) G (cap / P.cellsOf E) xs.length (by rw[G];simpa using U)
   have Q:IntKind.i64.max=9223372036854775807:=rfl;have RQ:=Lib.run_loadBytes (P:=P) s.w xs ⟨g,0,none⟩ .empty i;have Y:∀ (S:List UInt8) (a:Nat) (acc:ByteArray) (es:Array Event),(∀ j x,S[j]?=some x->s.w.cell? ⟨g,a+j,none⟩=some (.int .u8 x.toNat))->∀ e∈(loadBytes ⟨g,a,none⟩ acc S.length).events P s.w es,e∈es∨∃ j,e=tL g j:=by
    intro S
    induction S with
    |nil=>intro a acc es _ e B;exact .inl (by simpa[loadBytes] using B)
    |cons y S ih =>
     intro a acc es G e B;have C:=G 0 y rfl;simp only[eg] at C;have RR:(load ⟨g,a,none⟩).run P s.w=.ok (.int .u8 y.toNat) s.w:=by simp[run_load,C]
     simp only[ft,loadBytes,Sem.events_bind,RR,Result.evThen_ok,tQ C,ck] at B;rcases ih (a+1) _ _ (λj x H=>by have:=G (j+1) x (by simpa using H);rwa [show a+1+j=a+(j+1) by omega]) e B with h|h
     ·rcases mZ.1 h with h|rfl
      ·exact .inl h
      ·exact .inr ⟨a,rfl⟩
     ·exact .inr h
   have RS:(variablesAt ⟨g,0,none⟩ E xs.length).run P s.w=.ok true s.w:=by simp[variablesAt,u,n]
   have RU:∀ es,(variablesAt ⟨g,0,none⟩ E xs.length).events P s.w es=es:=λes=>by simp[variablesAt,u,n]
   have HQ:e∈(loadBytes ⟨g,0,none⟩ .empty xs.length).events P s.w #[]:=by
    change e∈Sem.events P (asInt (.int .i64 (xs.length:Int)) >>= _) _ _ at B
    simpa[asInt,asIntOf,Q,J,RP,f,elemOf,run_underlying hp,RS,RU,RQ] using B
   rcases Y xs 0 .empty #[] (λj x H=>by have:=i j x H;rwa [ck] at this) e HQ with h|⟨j,rfl⟩
   ·simp at h
   ·exact m7 (aH r.β) RN
end
section
variable {P:Program}{X:Cx P}{N:Nat}{q:List (Nat×TI)}{o:Oper}{g:Operand->D}{σ:List ak}{l:Nat}{T E:TypeId}{i:Bool}{v1:Value}{bf:Option (Nat×Nat)}{xs:List UInt8}{p:Nat}{s:St}
theorem aG.exact{x:Operand}{v r:Value}{d:D}(f:g x=.e (.one (.v v)))(h:∀ (a:Operand->Value) w,a x=v->(execOp a o).run P w=.ok (.value r) w/\(execOp a o).events P w #[]=#[])(c:∀ σ s,cd σ s r d):aG P o g σ d σ:=by
 refine .quiet λs a hh hr=>?_
 have b:=hr x;rw[f] at b;have b:=Rd.fD b;obtain⟨h1,h2⟩:=h a s.w b;exact⟨r,h1,c _ _,h2⟩
theorem aG.oT{x:Operand}{b:Array TypeId}{t E:TypeId}(h:o.op=.call { callee:=.builtin .len,args:=#[x],argTypes:=b })(j:b[0]?=some t)(d:P.underlying t=some (.slice E)){a:Option Addr}{n c:Nat}(k:g x=.e (.one (.v (.slice a n c))))(r:n<=9223372036854775807):aG P o g σ (.e (.one (.c (.int .i64 n)))) σ :=
 .exact k (λm w f=>by constructor <;> simp[execOp,h,resolve,invoke,builtin,Builtin.len_,f,run_underlying d,goInt,j]) (λ_ _=>Rd.int (by simp only[aB];omega))
theorem aG.F9{x:Operand}{b:Array TypeId}{t E:TypeId}(h:o.op=.call { callee:=.builtin .cap,args:=#[x],argTypes:=b })(j:b[0]?=some t)(d:P.underlying t=some (.slice E)){a:Option Addr}{n c:Nat}(k:g x=.e (.one (.v (.slice a n c))))(r:c<=9223372036854775807):aG P o g σ (.e (.one (.c (.int .i64 c)))) σ :=
 .exact k (λm w f=>by constructor <;> simp[execOp,h,resolve,invoke,builtin,Builtin.cap_,f,run_underlying d,goInt,j]) (λ_ _=>Rd.int (by simp only[aB];omega))
theorem aG.K5{x:Operand}{a:Array TypeId}(h:o.op=.call { callee:=.builtin .unsafeSliceData,args:=#[x],argTypes:=a }){n c:Nat}(d:g x=.e (.one (.v (.slice none n c)))):aG P o g σ (.e (.one (.v (.pointer none)))) σ :=
 .exact d (λf w b=>by
  have e:Builtin.unsafeSliceData_ a o.type #[.slice none n c]=pure (.pointer none):=rfl
  constructor <;> simp[execOp,h,resolve,invoke,builtin,b,e]) (λ_ _=>Rd.val rfl)
theorem aG.K6{x:Operand}{b:Array TypeId}(h:o.op=.call { callee:=.builtin .unsafeSliceData,args:=#[x],argTypes:=b }){a:Addr}{n c:Nat}(j:g x=.e (.one (.v (.slice (some a) n c))))(d:c≠0):aG P o g σ (.e (.one (.v (.pointer (some a))))) σ :=
 .exact j (λk w f=>by
  obtain⟨m,rfl⟩:=Nat.exists_eq_succ_of_ne_zero d;have e:Builtin.unsafeSliceData_ b o.type #[.slice (some a) n (m+1)]=pure (.pointer (some a)):=rfl
  constructor <;> simp[execOp,h,resolve,invoke,builtin,f,e]) (λ_ _=>Rd.val rfl)
theorem aG.K7{t E:TypeId}{x y:Operand}(h:o.op=.slice t x none (some y) none)(z:P.underlying t=some (.slice E)){G:TypeInfo}(hi:P.info? E=some G){a:Addr}{n c k:Nat}(I:g x=.e (.one (.v (.slice (some a) n c))))(H:g y=.e (.one (.c (.int .i64 k))))(C:k<=n)(B:n<=c)(r:c≠0)(F:a.add 0=a):aG P o g σ (.e (.one (.v (.slice (some a) k c)))) σ:=by
 refine .quiet λs u hh hr=>?_
 have b:=hr x;rw[I] at b;have b:=Rd.fD b;have d:u y=.int .i64 k:=by
  have h1:=hr y;rw[H] at h1;have h1:=ei h1;generalize u y=v at h1;cases h1;rfl
 have hl:((none:Option Value)=none/\(none:Option Int)=none)∨∃ k j,(none:Option Value)=some (.int k j)/\(none:Option Int)=some j:=.inl ⟨rfl,rfl⟩;have hh:(some (Value.int .i64 k)=none/\(some (k:Int))=none)∨∃ k' j,some (Value.int .i64 k)=some (.int k' j)/\(some (k:Int))=some j:=.inr ⟨_,_,rfl,rfl⟩;have A:aa (ib n none (some (k:Int))):=by simp[aa,ib,C]
 obtain⟨m,_,_⟩:=kB (P:=P) (isS:=true) B hl hh A s.w;have f:=lW (P:=P) (isS:=true) B hl hh A s.w;simp only[cy,az] at m;refine⟨.slice (some a) k c,?_,Rd.val rfl,?_⟩
 ·simp[execOp,h,b,d,Instr.sliceAt,run_underlying z,Instr.slice,m,sizeOf,typeInfo,hi,r,F]
 ·simp[execOp,h,b,d,Instr.sliceAt,run_underlying z,Instr.slice,m,f,sizeOf,typeInfo,hi,r]
theorem aG.copyV{t E j:TypeId}{x y:Operand}(h:o.op=.call { callee:=.builtin .copy,args:=#[x,y],argTypes:=#[t,j] })(f:P.underlying t=some (.slice E)){k:TypeInfo}(hi:P.info? E=some k){a:Addr}{c:Nat}(n:g x=.e (.one (.v (.slice (some a) 0 c))))(m:g y=.e (.one (.v (.slice none 0 0)))):aG P o g σ (.e (.one (.c (.int .i64 0)))) σ:=by
 refine .quiet λs r hh hr=>?_
 have b:=hr x;rw[n] at b;have b:=Rd.fD b;have d:=hr y;rw[m] at d;have d:=Rd.fD d;refine⟨.int .i64 0,?_,Rd.int (by simp[aB]),?_⟩ <;>
 simp[execOp,h,resolve,invoke,builtin,Builtin.copy_,b,d,run_underlying f,sizeOf,typeInfo,hi,Builtin.lenOf,Builtin.firstCells,storeCells,goInt]
theorem aG.K8{k j:TypeId}{x y:Operand}(n:o.op=.call { callee:=.builtin .unsafeString,args:=#[x,y],argTypes:=#[k,j] })(r:g x=.e (.one (.v (.pointer none))))(m:g y=.e (.one (.c (.int .i64 ((0:Nat):Int))))):aG P o g σ (.e (.one (.c (.str [])))) σ:=by
 refine .kA λs a hh hr=>?_
 have b:=hr x;rw[r] at b;have b:=Rd.fD b;have h:a y=.int .i64 0:=by
  have h1:=hr y;rw[m] at h1;have h1:=ei h1;generalize a y=v at h1;cases h1;rfl
 have d:execOp a o=(do pure (.value (<-Builtin.unsafeString_ #[k,j] o.type #[a x,a y]))):=by simp[execOp,n,resolve,invoke,builtin]
 have f:=Lib.run_unsafeString_none (P:=P) s.w k j o.type none;refine⟨.string .empty,?_,Rd.str rfl (by simp),?_⟩
 ·rw[d,b,h];simp only[aU,b8,f];rfl
 ·rw[d,b,h];refine dx ?_
  change eP s (Sem.events P (asInt (.int .i64 0) >>= _) _ _)
  simp[asInt,asIntOf,IntKind.max];exact .nil
theorem aG.RV(m:σ[l]?=some (.eB (BB T E i v1 bf xs p))){d dst:TypeId}{x:Operand}(h:o.op=.convert d dst x)(u:P.underlying d=some (.pointer T))(t:P.underlying dst=some .unsafePointer){j:TypeInfo}(hj:P.info? T=some j)(k:j.size≠0)(y:g x=.e (.one (.ptr l 0))):aG P o g σ (.e (.one (.ptr l 0))) σ:=by
 refine .quiet λs v hh hr=>?_
 obtain⟨L,b,ch,r⟩:=BB.row (P:=P) hh m;have c:=hr x;rw[y] at c;have n:=r.ptr c;have f:s.w.shape? b=some (T,2):=by simp[World.shape?,r.heap _ _ r.ch]
 have a:=Lib.run_to_unsafe (P:=P) s.w ⟨b,0,none⟩ u t hj k f (by simp)
 refine⟨v x,by simp[execOp,h,n,a],c,?_⟩
 have:(convert d dst (.pointer (some ⟨b,0,none⟩))).events P s.w #[]=#[]:=by
  simp[convert,run_underlying u,run_underlying t,Conv.unsafePointer,Conv.seenAt,viewAt,cellsIn,f,sizeOf,typeInfo,hj,k]
 simp[execOp,h,n,a,this]
theorem aG.K9(m:σ[l]?=some (.eB (BB T E i v1 bf xs p))){f dst:TypeId}{x:Operand}(h:o.op=.convert f dst x)(v:P.underlying f=some .unsafePointer)(u:P.underlying dst=some (.pointer T)){j:TypeInfo}(hj:P.info? T=some j)(n:j.size≠0)(a:liesAt P P.depth T (2 / P.cellsOf T) 0 T 1=true)(z:g x=.e (.one (.ptr l 0))):aG P o g σ (.e (.one (.ptr l 0))) σ:=by
 refine .quiet λs y hh hr=>?_
 obtain⟨L,b,ch,r⟩:=BB.row (P:=P) hh m;have d:=hr x;rw[z] at d;have t:=r.ptr d;have k:s.w.shape? b=some (T,2):=by simp[World.shape?,r.heap _ _ r.ch]
 have c:=Lib.run_from_unsafe (P:=P) s.w ⟨b,0,none⟩ v u hj k a;refine⟨y x,by simp[execOp,h,t,c],d,?_⟩
 have:(convert f dst (.pointer (some ⟨b,0,none⟩))).events P s.w #[]=#[]:=by
  simp[convert,run_underlying v,run_underlying u,Conv.unsafePointer,Conv.seenAt,viewAt,variablesAt,k,sizeOf,typeInfo,hj,n,a]
 simp[execOp,h,t,c,this]
theorem aG.La{f:FuncId}{fn:Func}(C:P.funcs[f]?=some fn)(j:(fn.name== "runtime.NumGoroutine")=false)(z:fn.body.isNone=true)(F:Extern.findNext fn=none)(B:Extern.find fn=some Extern.AbiNoEscape.same)
  {r x:Operand} {t:Array TypeId} (A:o.op=.call { callee:=.value r,args:=#[x],argTypes:=t }) (u:g r=.e (.one (.c (.fn (.func f) [] [])))) {d:D} (G:g x=d):aG P o g σ d σ:=by
 refine .kA λs m hh hr=>?_
 have n:m r=.func (.func f) #[] #[]:=by
  have h1:=hr r;rw[u] at h1;have h1:=ei h1;generalize m r=v at h1;cases h1 with
  |fn fs cs a b J H c1 c2 d1 d2 =>
   have:fs=[]:=fO a;subst this;have:cs=[]:=fO b;subst this;rfl
 have k:(callFunc f #[m x]).run P s.w=.ok (.value (m x)) s.w:=by
  rw[run_callFunc_extern C j z F B];rfl
 have y:=iM (P:=P) C j z F B #[m x] (λ_ _=>rfl) s.w #[]
 refine⟨m x,?_,by have:=hr x;rwa [G] at this,λI h=>?_⟩
 ·simp[execOp,A,resolve,Deferred.ofValue,invoke,n,k]
 ·simp[execOp,A,resolve,Deferred.ofValue,invoke,n,y] at h;subst h;exact .inr ⟨_,rfl⟩
end
end Go.AM
namespace Go.AM.R1
open Go.Proofs
variable {X:Cx Tryz.prog}
abbrev bB(a:Bool)(v1:Value)(bf:Option (Nat×Nat))(xs:Bs)(b:Nat):ak:=.eB (BB 239 5 a v1 bf xs b)
theorem vP(v1:Value)(c:cJ v1=true)(bf:Option (Nat×Nat))(xs:Bs)(a:Nat):Ev X 200 [.e (.one (.ptr 0 0))] [bB false v1 bf xs a] (.eY []) [bB true v1 bf xs a]:=by
 refine Ev.body Tryz.func200 rfl rfl rfl λd=>?_
 refine bq rfl ab ?_;refine AK.law (aG.IG tok rfl rfl rfl rfl rfl) rfl rfl ?_;refine AK.law (Ju rfl Tryz.underlying236 rfl rfl rfl) rfl rfl ?_;refine bq rfl ab ?_;refine AK.law (aG.RV rfl rfl Tryz.underlying236 Tryz.underlying223 (av Tryz.type239) (by simp[Tryz.t239]) rfl) rfl rfl ?_
 refine AK.law (aG.La Tryz.func211 (by kernel_rfl) (by kernel_rfl) (by kernel_rfl) (by kernel_rfl) rfl rfl rfl) rfl rfl ?_
 refine AK.law (aG.K9 rfl rfl Tryz.underlying223 Tryz.underlying236 (av Tryz.type239) (by simp[Tryz.t239]) (by kernel_rfl) rfl) rfl rfl ?_
 refine bq rfl ab ?_;refine AK.law (aG.F7 tok rfl rfl rfl rfl rfl rfl c) rfl rfl ?_;refine bq rfl ab ?_;exact aR.oa [0] rfl ab rfl rfl rfl (λj b=>by
  have:j=0:=by simpa using b
  subst this;rfl)
theorem vQ(v1:Value)(bf:Option (Nat×Nat))(xs:Bs)(a:Nat):Ev X 200 [.e (.one (.ptr 0 0))] [bB true v1 bf xs a] (.eY []) [bB true v1 bf xs a]:=by
 refine Ev.body Tryz.func200 rfl rfl rfl λc=>?_
 refine bq rfl ab ?_;refine AK.law (aG.Cs tok rfl rfl rfl rfl rfl) rfl rfl ?_;refine AK.law (Jv rfl Tryz.underlying236 rfl rfl rfl) rfl rfl ?_;refine bq rfl ab ?_;refine AK.law (aG.Cs tok rfl rfl rfl rfl rfl) rfl rfl ?_;refine bq rfl ab ?_;refine AK.law (GL rfl Tryz.underlying236 (n:=2) (by decide) (λw=>by simp[sizeOf,typeInfo,av Tryz.type239,Tryz.t239]) (λw es=>by simp[sizeOf,typeInfo,av Tryz.type239]) rfl rfl rfl) rfl rfl ?_
 refine bq rfl ab ?_;exact aR.oa [0] rfl ab rfl rfl rfl (λj b=>by
  have:j=0:=by simpa using b
  subst this;rfl)
end Go.AM.R1
namespace Go.AM
open Go.Conc (G)
section
variable {P:Program}{X:Cx P}{N:Nat}{all:List Oper}{φ:Fr}{σ:List ak}{o:Oper}
theorem Jl.jg{ι:Type}{x:ι->D}{σ':ι->List ak}(n:o.guard=none)(h:∀ s e,ag σ s->(∀ y,cd σ s (e y) (bw φ y))->∃ (j:ι)(s':St)(v:Value),(execOp e o).run P s.w=.ok (.value v) s'.w/\cd (σ' j) s' v (x j)/\ag (σ' j) s'/\Step σ s (σ' j) s'/\eP s ((execOp e o).events P s.w #[])):Jl X N all o φ σ x σ':=by
 intro s a f hh b k cs S i rest hb hi hK;refine xU hb hi (de n) λp c=>?_
 have d:=hh.rely c;obtain⟨j,s',v,h1,h2,l,g,m⟩:=h p a.eval d (fJ (f.rely c hh));exact⟨_,s',v,h1,.inl rfl,⟨⟨σ,σ' j,d,l,g⟩,m⟩,hK j v s' h2 l (c.stepW.trans (g.mH d))⟩
theorem Jl.uu{x:D}{σ':List ak}(h:OA X N all o φ σ x σ'):Jl X N all o φ σ (λ_:Unit=>x) (λ_=>σ') :=
 λs a f hh b k cs S i rest hb hi hK=>h s a f hh b k cs S i rest hb hi λv s'=>hK () v s'
theorem OA.law{x:D}{σ':List ak}(h:aG P o (bw φ) σ x σ')(a:o.guard=none):OA X N all o φ σ x σ':=.jg (λ_ _ _ _=>de a) h
theorem OA.eval{T:List (Nat×TI)}{CT:List (Nat×bE)}{ds:List (Nat×Bool)}{x:D}{obs:List Prop}(a:bV P T)(hC:aM X CT)(h:zq T CT ds all φ σ o=some (x,none,obs))(b:aa obs):OA X N all o φ σ x σ:=kG a hC h b
theorem OA.dA{T:List (Nat×TI)}{CT:List (Nat×bE)}{x:D}(a:bV P T)(hC:aM X CT)(h:zq T CT [] all φ σ o=some (x,none,[])):OA X N all o φ σ x σ:=kG a hC h ab
def qB(X:Cx P)(N:Nat)(all:List Oper)(φ:Fr)(σ:List ak)(x:Nat->D)(pre:Nat->Bool):List Oper->Nat->Prop
 |[],_=>True
 |o::r,i=>(match pre i with|true=>OA X N all o (rQ all φ x i) σ (x i) σ|false=>True)/\qB X N all φ σ x pre r (i+1)
def qC(X:Cx P)(N:Nat)(all:List Oper)(φ:Fr)(σ:List ak)(x:Nat->D)(m:Nat):List Oper->Nat->Prop
 |[],_=>True
 |o::r,i=>(match Nat.beq i m with|true=>True|false=>OA X N all o (rQ all φ x i) σ (x i) σ)/\qC X N all φ σ x m r (i+1)
theorem qB.get{x:Nat->D}{pre:Nat->Bool}:∀ {l:List Oper}{k:Nat},qB X N all φ σ x pre l k->∀ (i:Nat)(o:Oper),l[i]?=some o->pre (k+i)=true->OA X N all o (rQ all φ x (k+i)) σ (x (k+i)) σ
 |[],_,_,i,o,h=>by simp at h
 |p::r,k,h,0,o,hi=>λa=>by
  simp at hi;subst hi;have h1:=h.1;simp only[eg] at a;rw[a] at h1;exact h1
 |p::r,k,h,i+1,o,hi=>λa=>by
  have:=qB.get h.2 i o (by simpa using hi) (by rw[show k+1+i=k+(i+1) by omega];exact a)
  rwa [show k+1+i=k+(i+1) by omega] at this
theorem qC.get{x:Nat->D}{m:Nat}:∀ {l:List Oper}{k:Nat},qC X N all φ σ x m l k->∀ (i:Nat)(o:Oper),l[i]?=some o->k+i≠m->OA X N all o (rQ all φ x (k+i)) σ (x (k+i)) σ
 |[],_,_,i,o,h=>by simp at h
 |p::r,k,h,0,o,hi=>λa=>by
  simp at hi;subst hi;have h1:=h.1;simp only[eg] at a;have b:Nat.beq k m=false:=by
   cases b:Nat.beq k m with
   |true=>exact absurd (bn b) a
   |false=>rfl
  rw[b] at h1;exact h1
 |p::r,k,h,i+1,o,hi=>λa=>by
  have:=qC.get h.2 i o (by simpa using hi) (by omega)
  rwa [show k+1+i=k+(i+1) by omega] at this
def Dp{ι:Type}(pre:Nat->Bool)(x:Nat->D)(y:ι->Nat->D)(j:ι)(i:Nat):D:=match pre i with|true=>x i|false=>y j i
theorem AK.x2{ι:Type}(l:P.follows Departure.mixedOrders=true)(m:Nat)(pre:Nat->Bool)(x:Nat->D)(y:ι->Nat->D)(σ':ι->List ak){ops:Array Oper}{id:Nat}{K:List It}{Qf:Post}
  (a:mh ops.toList=true) (b:vJ ops.toList 0=true) (c:qz N ops.toList=true) (h:Nat.blt m ops.toList.length=true) (d:pre m=false) (e:vL pre m ops.toList 0=true)
  (one:qB X N ops.toList φ σ x pre ops.toList 0) (two:∀ j,qC X N ops.toList φ (σ' j) (Dp pre x y j) m ops.toList 0)
  (x2:Jl X N ops.toList (ops.toList.getD m jN) (rQ ops.toList φ x m) σ (λj=>Dp pre x y j m) σ') (k:∀ j,AK X N Qf K .normal (Ib ops.toList φ (Dp pre x y j)) (σ' j)):AK X N Qf (.code (.region id ops true)::K) .normal φ σ:=by
 have:=AW.x2 (X:=X) (N:=N) (φ:=φ) (σ:=σ) l (all:=ops.toList) m pre x (Dp pre x y) σ' a b c h d e (λj i f=>by simp only[Dp,f])
  (λi o hi f=>by have:=one.get i o hi (by rwa [ay]);rwa [ay] at this) (λj i o hi sj=>by have:=(two j).get i o hi (by rwa [ay]);rwa [ay] at this)
  (λo g=>by rw[show ops.toList.getD m jN=o by simp[List.getD_eq_getElem?_getD,g]] at x2;exact x2) (Q:=AK X N Qf K) k id
 rw[nT] at this;exact this
end
end Go.AM
namespace Go.AM.R1
open Go.Proofs
variable {X:Cx Tryz.prog}
abbrev bb(a:Bool)(bf:Option (Nat×Nat))(xs:Bs)(b:Nat):ak:=bB a (lk bf xs.length) bf xs b
theorem mL:∀ j,j<1->([0]:List Nat)[j]?=some j:=λj a=>by
 have:j=0:=by omega
 subst this;rfl
theorem uB(a:Bool)(bf:Option (Nat×Nat))(xs:Bs)(b:Nat)(d:xs.length<=9223372036854775807)(c:bf=none->xs=[]):Ev X 210 [.e (.one (.ptr 0 0))] [bb a bf xs b] (dI xs.length) [bb a bf xs b]:=by
 refine Ev.body Tryz.func210 rfl rfl rfl λf=>?_
 refine bq rfl ab ?_;refine AK.law (aG.c9 tok rfl rfl rfl rfl rfl) rfl rfl ?_;cases bf with
 |none =>
  have:=c rfl;subst this;refine AK.law (aG.oT rfl rfl Tryz.underlying237 rfl (by simp)) rfl rfl ?_
  refine bq rfl ab (AK.eF [0] rfl ?_ rfl rfl rfl mL);simp[aa]
 |some p =>
  refine AK.law (aG.oT rfl rfl Tryz.underlying237 rfl d) rfl rfl ?_;refine bq rfl ab (AK.eF [0] rfl ?_ rfl rfl rfl mL);simp[aa]
theorem x8(g cap:Nat)(xs s:Bs)(a:Nat)(f:s.length<=9223372036854775807)(b:xs.length+s.length<=cap):Ev X 176 [.e (.one (.ptr 0 0)),dS s] [bb true (some (g,cap)) xs a] (.eY [.one (.c (.int .i64 s.length)),.one (.c .mf)]) [bb true (some (g,cap)) (xs++s) a]:=by
 refine Ev.body Tryz.func176 rfl rfl rfl λd=>?_
 refine bq rfl ab ?_;refine AK.aO (vQ (lk (some (g,cap)) xs.length) (some (g,cap)) xs a) [0] rfl rfl rfl rfl rfl rfl rfl rfl rfl rfl rfl ?_;refine bq rfl ab ?_;refine AK.law (aG.c9 tok rfl rfl rfl rfl rfl) rfl rfl ?_;refine bq rfl ab ?_;refine AK.law (aG.F8 (l:=0) (g:=g) (cap:=cap) (xs:=xs) rfl Tryz.underlying237 Tryz.underlying9 (av Tryz.type5) (by simp[Tryz.t5]) rfl rfl rfl rfl b) rfl rfl ?_
 refine bq rfl ab ?_;refine AK.law (aG.tP tok rfl rfl rfl rfl rfl rfl rfl) rfl rfl ?_;have e:bb true (some (g,cap)) (xs++s) a=.eB (BB 239 5 true (lk (some (g,cap)) (xs.length+s.length)) (some (g,cap)) (xs++s) a):=by simp[bb,bB]
 rw[e];refine bq rfl ab (AK.eF [0] rfl ?_ rfl rfl rfl mL);simp[aa,aa.cat]
theorem Jw:Ev X 176 [.e (.one (.ptr 0 0)),dS []] [bb true none [] 0] (.eY [.one (.c (.int .i64 0)),.one (.c .mf)]) [bb true none [] 0]:=by
 refine Ev.body Tryz.func176 rfl rfl rfl λa=>?_
 refine bq rfl ab ?_;refine AK.aO (vQ (lk none 0) none [] 0) [0] rfl rfl rfl rfl rfl rfl rfl rfl rfl rfl rfl ?_;refine bq rfl ab ?_;refine AK.law (aG.c9 tok rfl rfl rfl rfl rfl) rfl rfl ?_;refine bq rfl ab ?_;refine AK.law (aG.Cv rfl Tryz.underlying237 Tryz.underlying9 (av Tryz.type5) rfl rfl) rfl rfl ?_;refine bq rfl ab ?_;refine AK.law (aG.tP tok rfl rfl rfl rfl rfl rfl rfl) rfl rfl ?_;refine bq rfl ab (AK.eF [0] rfl ?_ rfl rfl rfl mL);simp[aa,aa.cat]
abbrev dp:D:=.e (.one (.ptr 0 0))
abbrev FX:D:=.e (.one (.ptr 0 1))
theorem x9(g cap:Nat)(xs:Bs)(c:Nat)(a:xs.length<=9223372036854775807)(b:cap≠0):Ev X 177 [.e (.one (.ptr 0 0))] [bb true (some (g,cap)) xs c] (dS xs) [bb true (some (g,cap)) xs xs.length]:=by
 refine Ev.body Tryz.func177 rfl rfl rfl λd=>?_
 refine aE [(1000001,true)] 100 rfl ab ?_;refine AK.x2 di 10 (λi=>Nat.ble i 9) (λi=>[dp,dp,FX,.e (.one (.v (.slice (some ⟨g,0,none⟩) xs.length cap))),.e (.one (.v (.pointer (some ⟨g,0,none⟩)))),dp,dp,FX,.e (.one (.v (.slice (some ⟨g,0,none⟩) xs.length cap))),dI xs.length].getD i .any) (λ(_:Unit) _=>dS xs)
  (λ_=>[bb true (some (g,cap)) xs xs.length]) rfl rfl rfl rfl rfl rfl ?_ ?_ ?_ ?_
 ·refine⟨.dA tok aM.nil rfl,.dA tok aM.nil rfl,.dA tok aM.nil rfl,?_,?_,.dA tok aM.nil rfl,.dA tok aM.nil rfl,.dA tok aM.nil rfl,?_,?_,ab,ab,ab⟩
  ·exact .law (aG.c9 (l:=0) tok rfl rfl rfl rfl rfl) rfl
  ·exact .law (aG.K6 rfl rfl b) rfl
  ·exact .law (aG.c9 (l:=0) tok rfl rfl rfl rfl rfl) rfl
  ·exact .law (aG.oT rfl rfl Tryz.underlying237 rfl a) rfl
 ·intro _;refine⟨.dA tok aM.nil rfl,.dA tok aM.nil rfl,.dA tok aM.nil rfl,?_,?_,.dA tok aM.nil rfl,.dA tok aM.nil rfl,.dA tok aM.nil rfl,?_,?_,ab,.dA tok aM.nil rfl,ab⟩
  ·exact .law (aG.c9 (l:=0) tok rfl rfl rfl rfl rfl) rfl
  ·exact .law (aG.K6 rfl rfl b) rfl
  ·exact .law (aG.c9 (l:=0) tok rfl rfl rfl rfl rfl) rfl
  ·exact .law (aG.oT rfl rfl Tryz.underlying237 rfl a) rfl
 ·exact .uu (.law (K4 (l:=0) rfl Tryz.underlying270 (by kernel_rfl) rfl rfl rfl) rfl)
 ·intro _;refine bq rfl ab (AK.eF [0] rfl ?_ rfl rfl rfl mL);simp[aa]
theorem L9{o:Oper}{d:Operand->D}{σ:List ak}{t ty:TypeId}{x y:Operand}(h:o.op=.binOp .add t x y ty){b:Int}(f:d x=dI 0)(e:d y=dI b)(a:aB .i64 b):aG Tryz.prog o d σ (dI b) σ:=by
 have:=aG.binOp (P:=Tryz.prog) (σ:=σ) h f e (c:=.int .i64 (0+b)) (obs:=[aB .i64 (0+b)]) rfl (by rw[Int.zero_add];exact a)
 rwa [Int.zero_add] at this
theorem fK.Ie{ι:Type}{f:FuncId}{fn:Func}{c:Code}{args:List D}{σ:List ak}{σ':ι->List ak}{res:ι->D}(g:Tryz.prog.funcs[f]?=some fn)(b:(fn.name== "runtime.NumGoroutine")=false)(d:fn.body=some c)(a:Nat.ble args.length fn.ntmps=true)
  (h:AK X fn.ntmps (λe φ σ1=>∃ j,aR fn σ.length (res j) (σ' j) e φ σ1) [.code c] .normal (iO 0 args) σ):fK X f args σ res σ' :=
 fK.intro g b d (c6 a) (AK.of_code h)
theorem GM:Ev X 177 [.e (.one (.ptr 0 0))] [bb true none [] 0] (dS []) [bb true none [] 0]:=by
 refine Ev.body Tryz.func177 rfl rfl rfl λa=>?_
 refine aE [(1000001,true)] 100 rfl ab ?_;refine AK.x2 di 10 (λi=>Nat.ble i 9) (λi=>[dp,dp,FX,.e (.one (.v (.slice none 0 0))),.e (.one (.v (.pointer none))),dp,dp,FX,.e (.one (.v (.slice none 0 0))),dI (0:Nat)].getD i .any) (λ(_:Unit) _=>dS [])
  (λ_=>[bb true none [] 0]) rfl rfl rfl rfl rfl rfl ?_ ?_ ?_ ?_
 ·refine⟨.dA tok aM.nil rfl,.dA tok aM.nil rfl,.dA tok aM.nil rfl,?_,?_,.dA tok aM.nil rfl,.dA tok aM.nil rfl,.dA tok aM.nil rfl,?_,?_,ab,ab,ab⟩
  ·exact .law (aG.c9 (l:=0) tok rfl rfl rfl rfl rfl) rfl
  ·exact .law (aG.K5 rfl rfl) rfl
  ·exact .law (aG.c9 (l:=0) tok rfl rfl rfl rfl rfl) rfl
  ·exact .law (aG.oT rfl rfl Tryz.underlying237 rfl (by decide)) rfl
 ·intro _;refine⟨.dA tok aM.nil rfl,.dA tok aM.nil rfl,.dA tok aM.nil rfl,?_,?_,.dA tok aM.nil rfl,.dA tok aM.nil rfl,.dA tok aM.nil rfl,?_,?_,ab,.dA tok aM.nil rfl,ab⟩
  ·exact .law (aG.c9 (l:=0) tok rfl rfl rfl rfl rfl) rfl
  ·exact .law (aG.K5 rfl rfl) rfl
  ·exact .law (aG.c9 (l:=0) tok rfl rfl rfl rfl rfl) rfl
  ·exact .law (aG.oT rfl rfl Tryz.underlying237 rfl (by decide)) rfl
 ·exact .uu (.law (aG.K8 rfl rfl rfl) rfl)
 ·intro _;refine bq rfl ab (AK.eF [0] rfl ?_ rfl rfl rfl mL);simp[aa]
theorem GN(n:Nat)(b:0<n)(d:n<=140737488355328):fK (ι:={ p:Nat×Nat // n<=p.2 }) X 201 [.e (.one (.ptr 0 0)),dI n] [bb true none [] 0] (λ_=>.eY []) (λj=>[bb true (some j.1) [] 0]):=by
 refine fK.Ie Tryz.func201 rfl rfl rfl ?_;refine aE [(1000000,true)] 100 rfl ab ?_;have a:aB .i64 (n:Int):=by simp only[aB];omega
 have v0:D:=.e (.one (.v (.slice none 0 0)));refine AK.x2 (ι:={ p:Nat×Nat // n<=p.2 }) di 8 (λi=>Nat.ble i 7||(Nat.ble 9 i&&Nat.ble i 13)) (λi=>[dp,dp,FX,.e (.one (.v (.slice none 0 0))),dI (0:Nat),dI 0,dI n,dI n,.any,dp,dp,FX,.e (.one (.v (.slice none 0 0))),dI (0:Nat)].getD i .any)
  (λj i=>[.e (.one (.v (lk (some j.1) n))),.any,.any,.any,.any,.any,.e (.one (.v (.slice (some ⟨j.1.1,0,none⟩) 0 j.1.2))),.e (.one (.v (.slice (some ⟨j.1.1,0,none⟩) 0 j.1.2)))].getD (i-8) .any)
  (λj=>[bB true (.slice none 0 0) (some j.1) [] 0]) rfl rfl rfl rfl rfl rfl ?_ ?_ ?_ ?_
 ·refine⟨.dA tok aM.nil rfl,.dA tok aM.nil rfl,.dA tok aM.nil rfl,?_,?_,?_,.dA tok aM.nil rfl,?_,ab,.dA tok aM.nil rfl,.dA tok aM.nil rfl,.dA tok aM.nil rfl,?_,?_,ab,ab,ab⟩
  ·exact .law (aG.c9 (l:=0) tok rfl rfl rfl rfl rfl) rfl
  ·exact .law (aG.F9 rfl rfl Tryz.underlying237 rfl (by decide)) rfl
  ·exact .law (DI 0 rfl rfl rfl (by simp[aB]) (λw=>rfl) (λw=>rfl)) rfl
  ·exact .law (L9 rfl rfl rfl a) rfl
  ·exact .law (aG.c9 (l:=0) tok rfl rfl rfl rfl rfl) rfl
  ·exact .law (aG.oT rfl rfl Tryz.underlying237 rfl (by decide)) rfl
 ·intro j;have c:j.1.2≠0:=by have:=j.2;omega
  refine⟨.dA tok aM.nil rfl,.dA tok aM.nil rfl,.dA tok aM.nil rfl,?_,?_,?_,.dA tok aM.nil rfl,?_,ab,.dA tok aM.nil rfl,.dA tok aM.nil rfl,.dA tok aM.nil rfl,?_,?_,?_,.dA tok aM.nil rfl,ab⟩
  ·exact .law (aG.c9 (l:=0) tok rfl rfl rfl rfl rfl) rfl
  ·exact .law (aG.F9 rfl rfl Tryz.underlying237 rfl (by decide)) rfl
  ·exact .law (DI 0 rfl rfl rfl (by simp[aB]) (λw=>rfl) (λw=>rfl)) rfl
  ·exact .law (L9 rfl rfl rfl a) rfl
  ·exact .law (aG.c9 (l:=0) tok rfl rfl rfl rfl rfl) rfl
  ·exact .law (aG.oT rfl rfl Tryz.underlying237 rfl (by decide)) rfl
  ·exact .law (aG.K7 (k:=0) rfl Tryz.underlying237 (av Tryz.type5) rfl rfl (lP _) j.2 c (ck _ _ _)) rfl
 ·exact .jg rfl (K3 (l:=0) (ps:=#[3]) Tryz.underlying237 Tryz.func212 (by kernel_rfl) (by kernel_rfl) (by kernel_rfl) (by kernel_rfl) rfl rfl rfl b d rfl)
 ·intro j;refine bq rfl ab ?_;refine AK.law (aG.c9 (l:=0) tok rfl rfl rfl rfl rfl) rfl rfl ?_;refine AK.law (aG.copyV rfl Tryz.underlying237 (av Tryz.type5) rfl rfl) rfl rfl ?_;refine bq rfl ab ?_;refine AK.law (aG.tP (l:=0) tok rfl rfl rfl rfl rfl rfl rfl) rfl rfl ?_;refine bq rfl ab ?_;exact⟨j,aR.oa [0] rfl ab rfl rfl rfl mL⟩
theorem zP(n:Nat)(a:0<n)(b:n<=140737488355328):fK (ι:={ p:Nat×Nat // n<=p.2 }) X 175 [.e (.one (.ptr 0 0)),dI n] [bb false none [] 0] (λ_=>.eY []) (λj=>[bb true (some j.1) [] 0]):=by
 refine fK.Ie Tryz.func175 rfl rfl rfl ?_;refine bq rfl ab ?_;refine AK.aO (vP (lk none 0) rfl none [] 0) [0] rfl rfl rfl rfl rfl rfl rfl rfl rfl rfl rfl ?_;refine aE [(7,false),(1000003,true)] 100 rfl ?_ ?_
 ·simp[aa]
 refine AK.x2 di 4 (λi=>Nat.ble i 3||(Nat.ble 5 i&&Nat.ble i 9)||Nat.beq i 11) (λi=>[dp,dp,FX,.e (.one (.v (.slice none 0 0))),.any,dp,dp,FX,.e (.one (.v (.slice none 0 0))),dI (0:Nat),.any,dI n].getD i .any)
  (λ(_:Unit) i=>[dI (0:Nat),.any,.any,.any,.any,.any,dI (0-0),.any,dB true].getD (i-4) .any)
  (λ_=>[bb true none [] 0]) rfl rfl rfl rfl rfl rfl ?_ ?_ ?_ ?_
 ·refine⟨.dA tok aM.nil rfl,.dA tok aM.nil rfl,.dA tok aM.nil rfl,?_,ab,.dA tok aM.nil rfl,.dA tok aM.nil rfl,.dA tok aM.nil rfl,?_,?_,ab,.dA tok aM.nil rfl,ab,ab⟩
  ·exact .law (aG.c9 (l:=0) tok rfl rfl rfl rfl rfl) rfl
  ·exact .law (aG.c9 (l:=0) tok rfl rfl rfl rfl rfl) rfl
  ·exact .law (aG.oT rfl rfl Tryz.underlying237 rfl (by decide)) rfl
 ·intro _;refine⟨.dA tok aM.nil rfl,.dA tok aM.nil rfl,.dA tok aM.nil rfl,?_,ab,.dA tok aM.nil rfl,.dA tok aM.nil rfl,.dA tok aM.nil rfl,?_,?_,?_,.dA tok aM.nil rfl,?_,ab⟩
  ·exact .law (aG.c9 (l:=0) tok rfl rfl rfl rfl rfl) rfl
  ·exact .law (aG.c9 (l:=0) tok rfl rfl rfl rfl rfl) rfl
  ·exact .law (aG.oT rfl rfl Tryz.underlying237 rfl (by decide)) rfl
  ·exact .eval (ds:=[]) tok aM.nil (obs:=[aB .i64 (((0:Nat):Int)-((0:Nat):Int))]) rfl (by simp[aa,aB])
  ·exact .eval (ds:=[(21,true)]) tok aM.nil (obs:=[decide ((0:Int)-0<(n:Int))=true]) rfl (by simp[aa];omega)
 ·exact .uu (.law (aG.F9 rfl rfl Tryz.underlying237 rfl (by decide)) rfl)
 ·intro _;refine bq rfl ab ?_;refine AK.pD (GN n a b) [0] rfl rfl rfl rfl rfl rfl rfl (λ_=>rfl) rfl (λ_=>rfl) rfl λj=>?_
  refine bq rfl ab ?_;exact⟨j,aR.oa [0] rfl ab rfl rfl rfl mL⟩
theorem DJ:Ev X 175 [.e (.one (.ptr 0 0)),dI (0:Nat)] [bb false none [] 0] (.eY []) [bb true none [] 0]:=by
 refine Ev.body Tryz.func175 rfl rfl rfl λa=>?_
 refine bq rfl ab ?_;refine AK.aO (vP (lk none 0) rfl none [] 0) [0] rfl rfl rfl rfl rfl rfl rfl rfl rfl rfl rfl ?_;refine aE [(7,false),(1000003,true)] 100 rfl ?_ ?_
 ·simp[aa]
 refine AK.x2 di 4 (λi=>Nat.ble i 3||(Nat.ble 5 i&&Nat.ble i 9)||Nat.beq i 11) (λi=>[dp,dp,FX,.e (.one (.v (.slice none 0 0))),.any,dp,dp,FX,.e (.one (.v (.slice none 0 0))),dI (0:Nat),.any,dI (0:Nat)].getD i .any)
  (λ(_:Unit) i=>[dI (0:Nat),.any,.any,.any,.any,.any,dI (0-0),.any,dB false].getD (i-4) .any)
  (λ_=>[bb true none [] 0]) rfl rfl rfl rfl rfl rfl ?_ ?_ ?_ ?_
 ·refine⟨.dA tok aM.nil rfl,.dA tok aM.nil rfl,.dA tok aM.nil rfl,?_,ab,.dA tok aM.nil rfl,.dA tok aM.nil rfl,.dA tok aM.nil rfl,?_,?_,ab,.dA tok aM.nil rfl,ab,ab⟩
  ·exact .law (aG.c9 (l:=0) tok rfl rfl rfl rfl rfl) rfl
  ·exact .law (aG.c9 (l:=0) tok rfl rfl rfl rfl rfl) rfl
  ·exact .law (aG.oT rfl rfl Tryz.underlying237 rfl (by decide)) rfl
 ·intro _;refine⟨.dA tok aM.nil rfl,.dA tok aM.nil rfl,.dA tok aM.nil rfl,?_,ab,.dA tok aM.nil rfl,.dA tok aM.nil rfl,.dA tok aM.nil rfl,?_,?_,?_,.dA tok aM.nil rfl,?_,ab⟩
  ·exact .law (aG.c9 (l:=0) tok rfl rfl rfl rfl rfl) rfl
  ·exact .law (aG.c9 (l:=0) tok rfl rfl rfl rfl rfl) rfl
  ·exact .law (aG.oT rfl rfl Tryz.underlying237 rfl (by decide)) rfl
  ·exact .eval (ds:=[]) tok aM.nil (obs:=[aB .i64 (((0:Nat):Int)-((0:Nat):Int))]) rfl (by simp[aa,aB])
  ·exact .eval (ds:=[(21,false)]) tok aM.nil (obs:=[decide ((0:Int)-0<((0:Nat):Int))=false]) rfl (by simp[aa])
 ·exact .uu (.law (aG.F9 rfl rfl Tryz.underlying237 rfl (by decide)) rfl)
 ·intro _;refine bq rfl ab ?_;exact aR.oa [0] rfl ab rfl rfl rfl mL
theorem DK{o:Oper}{a:Operand->D}{σ:List ak}(h:o.op=.alloc 239):aG Tryz.prog o a σ (.e (.one (.ptr σ.length 0))) (σ++[bb false none [] 0]) :=
 aG.IH h (λw=>by simp[zeroValue,typeInfo,av Tryz.type239,Tryz.t239]) (λw es=>by simp)
theorem DL{o:Oper}{n:Operand->D}{σ:List ak}{x y z:Operand}{p:Array TypeId}{a b c:Int} (m:Int)(h:o.op=.call { callee:=.builtin .min,args:=#[x,y,z],argTypes:=p })(w:n x=dI a)(v:n y=dI b)(t:n z=dI c)(u:min (min a b) c=m)(r:aB .i64 m):aG Tryz.prog o n σ (dI m) σ:=by
 refine .quiet λs q A d=>?_
 have i:=d x;have f:=d y;have j:=d z;rw[w] at i;rw[v] at f;rw[t] at j
 replace i:=ei i
 replace f:=ei f
 replace j:=ei j
 generalize l:q x=vx at i;generalize g:q y=vy at f;generalize k:q z=vz at j;cases i;cases f;cases j;have e:(if c<(if b<a then b else a) then c else if b<a then b else a)=m:=by
  rw[<-u];split <;> split <;> omega
 exact⟨.int .i64 m,by simp[execOp,h,resolve,invoke,builtin,l,g,k,Builtin.min_,Builtin.min2,e],.int r,by simp[execOp,h,resolve,invoke,builtin,l,g,k,Builtin.min_,Builtin.min2]⟩
theorem DM(n:Nat)(o:2<=n)(p:n<=3):Ev X 190 [dS [46],dI n] [] (dS (List.replicate n 46)) []:=by
 refine Ev.body Tryz.func190 rfl rfl rfl λq=>?_
 have a:aM X [(209,Jx)]:=.cons t209 .nil;refine af a [(13,false),(15,false),(18,false),(30,false),(33,false),(40,false),(44,false),(45,false),(46,false),(47,false),(48,false),(96,false),(1000035,true)] 200 rfl ?_ ?_
 ·have h:(n:Int)=2∨(n:Int)=3:=by omega
  have e:(fw [46] 0).toNat=46:=rfl;simp[aa,aB,e,h];omega
 refine AK.region ?_;refine AK.law (DK rfl) rfl rfl ?_;refine af a [] 200 rfl ab ?_;refine AK.pD (zP n (by omega) (by omega)) [0] rfl rfl rfl rfl rfl rfl rfl (λ_=>rfl) rfl (λ_=>rfl) rfl λj=>?_
 obtain⟨⟨g,cap⟩,b⟩:=j;have b:n<=cap:=b;refine af a [] 200 rfl ab ?_;refine AK.aO (x8 g cap [] [46] 0 (by simp) (by simp;omega)) [0] rfl rfl rfl rfl rfl rfl rfl rfl rfl rfl rfl ?_
 refine af a [] 200 rfl ab ?_;refine AK.dX (λk=>1<=k/\k<=n) (λk:Nat=>[(0,dS [46]),(7,dI n),(8,dI n),(9,.e (.one (.ptr 0 0)))]) (λk=>[bb true (some (g,cap)) (List.replicate k 46) (k-1)]) (λk=>n-k) 1 rfl ?_ rfl ?_ ⟨by omega,by omega⟩ ?_
 ·simp[aa,aa.cat]
 ·exact aa.cat.2 ⟨rfl,ab⟩
 rintro k ⟨c,i⟩;refine af a [] 200 rfl ab ?_;refine AK.aO (uB true (some (g,cap)) (List.replicate k 46) (k-1) (by simp;omega) (by simp)) [0] rfl rfl rfl rfl rfl rfl rfl rfl rfl rfl rfl ?_
 by_cases l:k<n
 ·refine af a [(113,true)] 200 rfl ?_ ?_
  ·simp[aa];omega
  refine AK.aO (uB true (some (g,cap)) (List.replicate k 46) (k-1) (by simp;omega) (by simp)) [0] rfl rfl rfl rfl rfl rfl rfl rfl rfl rfl rfl ?_
  refine af a [] 200 rfl ?_ ?_
  ·simp[aa,aB];omega
  refine AK.aO (uB true (some (g,cap)) (List.replicate k 46) (k-1) (by simp;omega) (by simp)) [0] rfl rfl rfl rfl rfl rfl rfl rfl rfl rfl rfl ?_
  refine af a [] 200 rfl ab ?_;refine AK.law (DL 1 rfl rfl rfl rfl (by simp;omega) (by simp[aB])) rfl rfl ?_
  refine af a [] 200 rfl ab ?_;refine AK.aO (x9 g cap (List.replicate k 46) (k-1) (by simp;omega) (by omega)) [0] rfl rfl rfl rfl rfl rfl rfl rfl rfl rfl rfl ?_
  have d:nk (List.replicate k (46:UInt8)) none (some 1)=[46]:=by
   obtain⟨m,rfl⟩:∃ m,k=m+1:=⟨k-1,by omega⟩
   simp[nk,List.replicate_succ]
  refine af a [] 200 rfl ?_ ?_
  ·simp[aa];omega
  rw[d];refine AK.aO (x8 g cap (List.replicate k 46) [46] (List.replicate k 46).length (by simp) (by simp;omega)) [0] rfl rfl rfl rfl rfl rfl rfl rfl rfl rfl rfl ?_
  have f:List.replicate k (46:UInt8)++[46]=List.replicate (k+1) 46:=by rw[List.replicate_succ']
  rw[f];refine af a [] 200 rfl ab (AK.cN (k+1) rfl ?_ rfl ?_ ⟨by omega,by omega⟩ (by omega))
  ·simp[aa,aa.cat]
  ·refine aa.cat.2 ⟨?_,ab⟩;simp[aa]
 ·refine af a [(113,false)] 200 rfl ?_ (AK.leave rfl rfl ?_)
  ·simp[aa];omega
  have e:k=n:=by omega
  subst e;refine af a [] 200 rfl ab ?_;refine AK.aO (x9 g cap (List.replicate k 46) (k-1) (by simp;omega) (by omega)) [0] rfl rfl rfl rfl rfl rfl rfl rfl rfl rfl rfl ?_
  refine af a [] 200 rfl ab (AK.au rfl ?_);simp[aa,aa.cat]
theorem Pa:bO X 190 A0:=Ma (DM 2 (by omega) (by omega)) (DM 3 (by omega) (by omega))
theorem Mb:bO X 148 lF:=Mc Pa
def Room(bf:Option (Nat×Nat))(n:Nat):Prop:=match bf with|none=>n=0|some (_,cap)=>n<=cap/\0<cap
theorem _root_.Go.AM.fK.re{P:Program}{ι b:Type}{X:Cx P}{f:FuncId}{args:List D}{σ:List ak}{res:ι->D}{σ':ι->List ak}{a:b->D}{σ2:b->List ak}(h:fK X f args σ res σ')(g:ι->b)(d:∀ i,a (g i)=res i)(c:∀ i,σ2 (g i)=σ' i):fK X f args σ a σ2 :=
 ⟨h.1,λs vs h1 h2 S cs hS=>h.2 s vs h1 h2 S cs λi fr v s' k1 k2 k3 k4=>hS (g i) fr v s' k1 (by rw[c,d];exact k2) (by rw[c];exact k3) (by rw[c];exact k4)⟩
theorem DN(n:Nat)(a:n<=140737488355328):fK (ι:={ bf:Option (Nat×Nat) // Room bf n }) X 175 [.e (.one (.ptr 0 0)),dI n] [bb false none [] 0] (λ_=>.eY []) (λj=>[bb true j.1 [] 0]):=by
 by_cases h:n=0
 ·subst h;exact DJ.Lc.re (λ_=>⟨none,rfl⟩) (λ_=>rfl) (λ_=>rfl)
 ·exact(zP n (by omega) a).re (λp=>⟨some p.1,p.2,by have:n<=p.1.2:=p.2;show 0<p.1.2;omega⟩) (λ_=>rfl) (λ_=>rfl)
theorem ya(bf:Option (Nat×Nat))(xs s:Bs)(d:s.length<=9223372036854775807)(h:Room bf (xs.length+s.length)):Ev X 176 [.e (.one (.ptr 0 0)),dS s] [bb true bf xs 0] (.eY [.one (.c (.int .i64 s.length)),.one (.c .mf)]) [bb true bf (xs++s) 0]:=by
 cases bf with
 |none =>
  have h:xs.length+s.length=0:=h;have a:xs=[]:=fO (by omega)
  have b:s=[]:=fO (by omega)
  subst a;subst b;exact Jw
 |some p=>exact x8 p.1 p.2 xs s 0 d h.1
def shown(bf:Option (Nat×Nat))(xs:Bs):Nat:=match bf with|none=>0|some _=>xs.length
theorem GO(bf:Option (Nat×Nat))(xs:Bs)(a:xs.length<=9223372036854775807)(h:Room bf xs.length):Ev X 177 [.e (.one (.ptr 0 0))] [bb true bf xs 0] (dS xs) [bb true bf xs (shown bf xs)]:=by
 cases bf with
 |none =>
  have h:xs.length=0:=h;have b:xs=[]:=fO h;subst b;exact GM
 |some p=>exact x9 p.1 p.2 xs 0 a (by have:=h.2;omega)
def tot(l:List Bs)(i:Nat):Bs:=(l.take i).flatten
theorem DO{l:List Bs}{i:Nat}(h:i<l.length):tot l (i+1)=tot l i++l.getD i []:=by
 unfold tot;rw[k7,aj h,tH];simp[List.getD_eq_getElem?_getD,aj h]
theorem Md{l:List Bs}:tot l l.length=l.flatten:=by simp[tot]
theorem DQ{l:List Bs}(i:Nat):(tot l i).length<=l.flatten.length:=by
 have e:l.flatten=(l.take i).flatten++(l.drop i).flatten:=by rw[<-tH,jH]
 rw[e,bd];simp only[tot];omega
theorem GP(l:List Bs)(s:l.flatten.length<=140737488355328):Ev X 131 [cS.sl l,dS []] [] (dS l.flatten) []:=by
 refine Ev.body Tryz.func131 rfl rfl rfl λq=>?_
 have o:=q.sl 0 rfl
 by_cases d:l=[]
 ·subst d;refine aE [(14,true)] 100 rfl ?_ (AK.au rfl ?_)
  ·simp[aa]
  ·simp[aa]
 by_cases r:l.length=1
 ·obtain⟨x,rfl⟩:=List.length_eq_one_iff.1 r;refine aE [(14,false),(16,true)] 100 rfl ?_ (AK.au rfl ?_)
  ·simp[aa]
  ·simp[aa,aa.cat,cS,jd.fn]
 have u:2<=l.length:=by
  have:l.length≠0:=by simpa using d
  omega
 refine aE [(14,false),(16,false),(22,false)] 100 rfl ?_ ?_
 ·simp[aa,d];omega
 refine AK.dX (λi=>i<=l.length) (λi:Nat=>[(0,cS.sl l),(1,dS []),(5,dI (tot l i).length),(39,cS.sl l),(40,dI l.length),(41,dI i)]) (λ_=>[]) (λi=>l.length-i) 0 rfl ?_ rfl ab (by omega) ?_
 ·simp[aa,aa.cat,aw.same,tot]
 ·intro i hi;have v:=DQ (l:=l) i
  by_cases h:i<l.length
  ·have k:=DQ (l:=l) (i+1);rw[DO h,bd] at k;refine aE [(42,true),(49,false)] 100 rfl ?_ (AK.cN (i+1) rfl ?_ rfl ab (by omega) (by omega))
   ·have e:(l.getD (i:Int).toNat cS.bx)=l.getD i []:=rfl;simp only[aa,aB,e];refine⟨by omega,by omega,bR (by omega),by omega,by omega,by omega,aP (by omega)⟩
   ·have e:(l.getD (i:Int).toNat cS.bx)=l.getD i []:=rfl;rw[DO h];rw[e];simp[aa,aa.cat,aw.same]
  ·have e:i=l.length:=by omega
   subst e;refine aE [(42,false),(1000018,true)] 100 rfl ?_ (AK.leave rfl rfl ?_)
   ·simp[aa]
   refine aE [(1000018,true)] 100 rfl ab ?_;refine AK.region ?_;refine AK.law (DK rfl) rfl rfl ?_;refine eQ rfl ab ?_;rw[Md];refine AK.pD (DN l.flatten.length s) [0] rfl rfl rfl rfl rfl rfl rfl (λ_=>rfl) rfl (λ_=>rfl) rfl λj=>?_
   obtain⟨bf,f⟩:=j;refine eQ rfl ?_ ?_
   ·exact⟨by omega,show (0:Int)<(l.length:Int) by omega⟩
   have room:∀ n,n<=l.flatten.length->Room bf n:=λn t=>by
    cases bf with
    |none =>
     have:l.flatten.length=0:=f;show n=0;omega
    |some p=>exact⟨gf t f.1,f.2⟩
   have m:tot l 1=l.getD 0 []:=by rw[DO (by omega)];simp[tot]
   have b:=DQ (l:=l) 1;rw[m] at b;refine AK.aO (ya bf [] (l.getD 0 []) (by omega) (room _ (by simpa using b))) [0] rfl rfl rfl rfl rfl rfl rfl rfl rfl rfl rfl ?_
   refine eQ rfl ?_ ?_
   ·exact⟨by omega,show (1:Int)<=(l.length:Int) by omega⟩
   refine AK.dX (λi=>i+1<=l.length) (λi:Nat=>[(1,dS []),(8,.e (.one (.ptr 0 0))),(63,.e (.one (.c (.sl false 1 (l.length-1) (n3 1 (cS.fn l)))))),(64,dI (l.length-1:Nat)),(65,dI i)]) (λi=>[bb true bf (tot l (i+1)) 0]) (λi=>l.length-i) 0 rfl ?_ rfl ?_ (by omega) ?_
   ·simp[aa,aa.cat,cy,aw.same]
   ·refine aa.cat.2 ⟨?_,ab⟩;rw[ay,m];exact rfl
   intro i hi;have g:=DQ (l:=l) (i+1)
   by_cases h:i+1<l.length
   ·have a:=DQ (l:=l) (i+2);rw[DO h,bd] at a;refine aE [(66,true)] 100 rfl ?_ ?_
    ·exact⟨by omega,by omega,aP (by omega)⟩
    refine AK.aO (ya bf (tot l (i+1)) [] (by simp) (room _ (by simpa using g))) [0] rfl rfl rfl rfl rfl rfl rfl rfl rfl rfl rfl ?_
    rw[iE];refine bq rfl ab ?_;refine AK.aO (ya bf (tot l (i+1)) (l.getD (1+i) []) (by rw[iu 1 i];omega) (room _ (by rw[iu 1 i];exact a))) [0] rfl rfl rfl rfl rfl rfl rfl rfl rfl rfl rfl ?_
    refine bq rfl ?_ (AK.cN (i+1) rfl ?_ rfl ?_ (by omega) (by omega))
    ·simp only[aa,aB];omega
    ·simp[aa,aa.cat,aw.same]
    ·refine aa.cat.2 ⟨?_,ab⟩;rw[DO h,iu 1 i];exact rfl
   ·have e:i+1=l.length:=by omega
    refine aE [(66,false)] 100 rfl ?_ (AK.leave rfl rfl ?_)
    ·exact bR (by omega)
    rw[e,Md];refine bq rfl ab ?_;refine AK.aO (GO bf l.flatten (by omega) (room _ (by omega))) [0] rfl rfl rfl rfl rfl rfl rfl rfl rfl rfl rfl ?_
    refine bq rfl ab (AK.au rfl ?_);simp[aa,aa.cat]
theorem A4{s:Bs}(h:bl s=true)(i:Nat)(hi:i<s.length):97<=bc s i/\bc s i<=122:=by
 have a:=List.all_eq_true.1 h (s.getD i 0) (by rw[List.getD_eq_getElem?_getD,aj hi];exact hX hi)
 simp only[cT,bA,aD] at a;unfold bc;omega
theorem vW(s:Bs)(i:Nat)(b:bl s=true)(f:3<=i)(hi:i<=s.length)(k:s.length<=4000000):Ev X 213 [dS s,dI i] [] (dB (jf s i)) []:=by
 refine Ev.body Tryz.func213 rfl rfl rfl λl=>?_
 have h:=A4 b (i-1) (by omega)
 have j:=A4 b (i-2) (by omega)
 have g:=A4 b (i-3) (by omega)
 have c:((fw s ((i:Int)-1)).toNat:Int)=bc s (i-1):=by rw[bj,show ((i:Int)-1).toNat=i-1 by omega]
 have e:((fw s ((i:Int)-2)).toNat:Int)=bc s (i-2):=by rw[bj,show ((i:Int)-2).toNat=i-2 by omega]
 have d:((fw s ((i:Int)-3)).toNat:Int)=bc s (i-3):=by rw[bj,show ((i:Int)-3).toNat=i-3 by omega]
 refine bq rfl ?_ (AK.au rfl ?_)
 ·simp only[aa,aB,c,e,d];omega
 ·simp only[aa,aa.cat,c,e,d,jf,dl,ah];rw[k9 (a:=bc s (i-1)-97) (by omega) (by omega),k9 (a:=bc s (i-2)-97) (by omega) (by omega),k9 (a:=bc s (i-3)-97) (by omega) (by omega)]
theorem A5:bO X 213 (gb aS aI (λs i=>dB (jf s i.toNat)) λs i=>[bl s=true,3<=i,i<=s.length,s.length<=4000000]):=.gO λs i h=>by
 obtain⟨a,c,d,b⟩:=h;obtain⟨m,rfl⟩:∃ m:Nat,i=m:=⟨i.toNat,by omega⟩
 exact vW s m a (by omega) (by omega) b
theorem yk{o:Oper}{k:Operand->D}{σ:List ak}{x y:Operand}{j:Array TypeId}{a b:Int} (m:Int)(h:o.op=.call { callee:=.builtin .min,args:=#[x,y],argTypes:=j })(r:k x=dI a)(q:k y=dI b)(p:min a b=m)(n:aB .i64 m):aG Tryz.prog o k σ (dI m) σ:=by
 refine .quiet λs l t f=>?_
 have g:=f x;have c:=f y;rw[r] at g;rw[q] at c
 replace g:=ei g
 replace c:=ei c
 generalize i:l x=vx at g;generalize d:l y=vy at c;cases g;cases c;have e:(if b<a then b else a)=m:=by
  rw[<-p];split <;> omega
 exact⟨.int .i64 m,by simp[execOp,h,resolve,invoke,builtin,i,d,Builtin.min_,Builtin.min2,e],.int n,by simp[execOp,h,resolve,invoke,builtin,i,d,Builtin.min_,Builtin.min2]⟩
theorem D1{t:Bs}{f j:Nat}(h:t.length<=f+3+j)(c:j<=5):og t f (5-j)=min (f+8) t.length:=by
 rcases bC j 5 with b|b
 ·obtain⟨k,a⟩:∃ k,5-j=k+1:=⟨4-j,by omega⟩
  rw[a];simp only[og];rw[ar (by omega)]
  omega
 ·rw[show 5-j=0 by omega];rfl
theorem A6(t:Bs)(f:Nat)(m:bl t=true)(o:f<=t.length)(r:t.length<=4000000):Ev X 203 [dS t,dI f] [] (dI (cutAt t f)) []:=by
 refine Ev.body Tryz.func203 rfl rfl rfl λp=>?_
 have a:aM X [(213,gb aS aI (λs i=>dB (jf s i.toNat)) λs i=>[bl s=true,3<=i,i<=s.length,s.length<=4000000])]:=.cons A5 .nil
 refine af a [] 100 rfl ?_ ?_
 ·simp[aa,aB];omega
 refine AK.dX (λj=>j<=5/\og t f (5-j)=cutAt t f) (λj:Nat=>[(0,dS t),(1,dI f),(5,dI (f+3+j))]) (λ_=>[]) (λj=>5-j) 0 rfl ?_ rfl ab ⟨by omega,rfl⟩ ?_
 ·simp[aa,aa.cat]
 rintro j ⟨q,b⟩
 by_cases h:j<5/\f+3+j<t.length
 ·obtain⟨k,n⟩:∃ k,5-j=k+1:=⟨4-j,by omega⟩
  have d:f+(7-k)=f+3+j:=by omega
  rw[n] at b;simp only[og,d] at b;rw[an (by omega)] at b
  have e:((f:Int)+3+j).toNat=f+3+j:=by omega
  cases c:jf t (f+3+j) with
  |true =>
   rw[c,ar rfl] at b;refine af a [(11,true),(16,true),(22,true)] 100 rfl ?_ (AK.dN (aR.zero rfl ?_))
   ·simp only[aa,aB,e,c,m,aD,eq_self,ai,ah];omega
   ·simp[aa,aa.cat,<-b]
  |false =>
   rw[c,an (by simp)] at b
   refine af a [(11,true),(16,true),(22,false)] 100 rfl ?_ (AK.cN (j+1) rfl ?_ rfl ab ⟨by omega,by rw[<-b];congr 1;omega⟩ (by omega))
   ·simp only[aa,aB,e,c,m,aD,eq_self,ai,ah];omega
   ·simp[aa,aa.cat];omega
 ·have e:cutAt t f=min (f+8) t.length:=by
   rw[<-b];rcases bC j 5 with g|g
   ·exact D1 (by omega) (by omega)
   ·rw[show 5-j=0 by omega];rfl
  have l:aB .i64 ((min (f+8) t.length:Nat):Int):=by simp only[aB];omega
  rcases bC j 5 with g|g
  ·refine af a [(11,true),(16,false)] 100 rfl ?_ (AK.leave rfl rfl ?_)
   ·simp only[aa,aB,aD,aY];omega
   refine af a [] 100 rfl ?_ ?_
   ·simp only[aa,aB];omega
   refine AK.law (yk ((min (f+8) t.length:Nat):Int) rfl rfl rfl (by omega) l) rfl rfl ?_
   refine af a [] 100 rfl ab (AK.au rfl ?_);simp[aa,e]
  ·refine af a [(11,false)] 100 rfl ?_ (AK.leave rfl rfl ?_)
   ·simp only[aa,aB,aD,aY];omega
   refine af a [] 100 rfl ?_ ?_
   ·simp only[aa,aB];omega
   refine AK.law (yk ((min (f+8) t.length:Nat):Int) rfl rfl rfl (by omega) l) rfl rfl ?_
   refine af a [] 100 rfl ab (AK.au rfl ?_);simp[aa,e]
theorem JH:bO X 203 (gb aS aI (λs i=>dI (cutAt s i.toNat)) λs i=>[bl s=true,0<=i,i<=s.length,s.length<=4000000]):=.gO λs i h=>by
 obtain⟨a,c,d,b⟩:=h;obtain⟨m,rfl⟩:∃ m:Nat,i=m:=⟨i.toNat,by omega⟩
 exact A6 s m a (by omega) b
end Go.AM.R1
namespace Go.AM
theorem mJ{B:ak}{r:List ak}(h:B≠.nN)(k:jZ r=true):jZ (B::r)=true:=by
 cases B <;> first|exact k|exact absurd rfl h
section
variable {P:Program}{X:Cx P}{N:Nat}{Qf:Post}{φ:Fr}{σ:List ak}
theorem AK.fG{Q a:Post}(h:∀ e φ σ,Q e φ σ->a e φ σ):∀ {K:List It}{e:Exit}{φ:Fr}{σ:List ak},AK X N Q K e φ σ->AK X N a K e φ σ
 |[],e,φ,σ,q=>h e φ σ q
 |.code c::K,.normal,φ,σ,q=>AW.mono q λ_ _ _ q=>AK.fG h q
 |.code c::K,.exit _,φ,σ,q=>AK.fG (K:=K) h q
 |.code c::K,.ret,φ,σ,q=>AK.fG (K:=K) h q
 |.code c::K,.panic _,φ,σ,q=>AK.fG (K:=K) h q
 |.code c::K,.goto _,φ,σ,q=>AK.fG (K:=K) h q
 |.code c::K,.outgrown,φ,σ,q=>AK.fG (K:=K) h q
 |.blk id::K,.exit Ch,φ,σ,q=>by
  simp only[AK] at q ⊢;split
  ·rename_i e;rw[ar e] at q;exact AK.fG (K:=K) h q
  ·rename_i e;rw[an e] at q;exact AK.fG (K:=K) h q
 |.blk id::K,.normal,φ,σ,q=>AK.fG (K:=K) h q
 |.blk id::K,.ret,φ,σ,q=>AK.fG (K:=K) h q
 |.blk id::K,.panic _,φ,σ,q=>AK.fG (K:=K) h q
 |.blk id::K,.goto _,φ,σ,q=>AK.fG (K:=K) h q
 |.blk id::K,.outgrown,φ,σ,q=>AK.fG (K:=K) h q
 |.ops all rest::K,.normal,φ,σ,q=>gB.mono q λ_ _ q=>AK.fG h q
 |.ops all rest::K,.exit _,φ,σ,q=>AK.fG (K:=K) h q
 |.ops all rest::K,.ret,φ,σ,q=>AK.fG (K:=K) h q
 |.ops all rest::K,.panic _,φ,σ,q=>AK.fG (K:=K) h q
 |.ops all rest::K,.goto _,φ,σ,q=>AK.fG (K:=K) h q
 |.ops all rest::K,.outgrown,φ,σ,q=>AK.fG (K:=K) h q
theorem AK.Ji{id:Nat}{A:Fr->List ak->Prop}{c a b:List It}(h1:g7 id c=none)(h2:g7 id a=some b)(k:AK X N Qf b .normal φ σ) :
  AK X N (zE A (AK X N Qf a)) (.code (.exit id)::c) .normal φ σ :=
 AK.fG (λe φ' σ' q=>by cases e <;> exact q) (AK.leave (X:=X) (N:=N) (Qr:=Qf) (A:=A) (φ:=φ) (σ:=σ) h1 h2 k)
end
end Go.AM
namespace Go.AM.R1
open Go.Proofs
variable {X:Cx Tryz.prog}
abbrev Ij(t:Bs):C:=.fn (.func 202) [] [.rp [.str t]]
theorem GW(t:Bs):Ev X 179 [dS t] [] (.e (.one (.c (Ij t)))) []:=by
 refine Ev.body Tryz.func179 rfl rfl rfl λa=>?_
 refine aE [] 5 rfl ab ?_;refine AK.freeze 1 0 rfl rfl rfl ?_;refine bq rfl ab (AK.au rfl ?_);simp[aa]
theorem A7{T:Type}(text:Bs)(u:bl text=true)(v:text.length<=4000000){l:Nat}{a:Fr}{k:Loop}(g B1 B2:T->ak)(R:Nat->T->Prop)(j:T)(q:R 0 j)(n:∀ t,g t≠.nN/\B1 t≠.nN/\B2 t≠.nN)
  (b:∀ f t,f<text.length->R f t->Yields (ι:={ d:T // R (cutAt text f) d }) X 3 [dI f,dI (cutAt text f)] [g t,B1 t,B2 t,.loop l a k] true (λd=>[g d.1,B1 d.1,B2 d.1,.loop l a k])) :
  fK (ι:={ t:T // R text.length t }) X 202 [.e (.one (.ref 3)),.e (.one (.c (.rp [.str text])))] [g j,B1 j,B2 j,.loop l a k] (λ_=>.eY []) (λi=>[g i.1,B1 i.1,B2 i.1,.loop l a k]):=by
 refine fK.Jf Tryz.func202 rfl rfl rfl (AK.of_code ?_);have m:aM X [(203,gb aS aI (λs i=>dI (cutAt s i.toNat)) λs i=>[bl s=true,0<=i,i<=s.length,s.length<=4000000])]:=.cons JH .nil
 refine af m [] 100 rfl ab ?_;show AW X _ (.loop _) _ _ _;refine AW.loop (S:=T×Nat) (λx=>x.2<=text.length/\R x.2 x.1) (λx=>[(0,.e (.one (.ref 3))),(1,.e (.one (.c (.rp [.str text])))),(3,dI x.2)]) (λx=>[g x.1,B1 x.1,B2 x.1,.loop l a k]) (λx=>text.length-x.2) (j,0) ⟨lP _,q⟩ (cg rfl (by simp[aa,aa.cat])) rfl ?_
 rintro⟨t,f⟩ ⟨r,p⟩;simp only at r p;refine AK.of_code ?_
 by_cases h:f<text.length
 ·have o:=lI text f h;refine af m [(8,true)] 100 rfl ?_ ?_
  ·simp only[aa,u,aD,eq_self,ai,ah];omega
  refine AK.yield (b f t h p) rfl rfl rfl rfl rfl rfl λd=>?_
  refine af m [(16,false)] 100 rfl ?_ ?_
  ·simp[aa]
  refine⟨(d.1,cutAt text f),⟨o.2.1,d.2⟩,?_,cg rfl (by simp[aa,aa.cat]),rfl⟩
  simp only;omega
 ·have e:f=text.length:=by omega
  subst e;refine af m [(8,false)] 100 rfl ?_ ?_
  ·simp[aa]
  refine AK.Ji rfl rfl ?_;exact⟨⟨t,p⟩,.inr rfl,rfl,mJ (n t).1 (mJ (n t).2.1 (mJ (n t).2.2 rfl)),[],.eY [],[],rfl,rfl,rfl,ab⟩
theorem pL{l:List Bs}{i:Nat}(h:i<l.length):l.getD i []=l[i]:=by simp[List.getD_eq_getElem?_getD,aj h]
theorem Jz(a b:List Bs):Ev X 133 [cS.sl a,cS.sl b] [] (dB (a==b)) []:=by
 refine Ev.body Tryz.func133 rfl rfl rfl λm=>?_
 have k:=m.sl 0 rfl
 by_cases f:a.length=b.length
 ·refine aE [(10,false)] 100 rfl (by simp[aa,f]) ?_
  refine AK.dX (λi=>i<=a.length/\∀ j,j<i->a.getD j []=b.getD j []) (λi:Nat=>[(0,cS.sl a),(1,cS.sl b),(12,dI a.length),(13,dI i)]) (λ_=>[]) (λi=>a.length-i) 0 rfl ?_ rfl ab ⟨by omega,by omega⟩ ?_
  ·simp[aa.cat,aa,aw.same]
  rintro i ⟨hi,c⟩
  by_cases h:i<a.length
  ·by_cases d:a.getD i []=b.getD i []
   ·refine aE [(14,true),(24,false)] 100 rfl ?_ (AK.cN (i+1) rfl ?_ rfl ab ?_ ?_)
    ·simp only[aa,az];have e:(a.getD i cS.bx==b.getD i cS.bx)=true:=gg.2 d;exact⟨by simp only[aB];omega,by rw[e];rfl,by omega,by omega,by omega,by omega,aP (by omega)⟩
    ·simp[aa.cat,aa,aw.same]
    ·refine⟨by omega,λj g=>?_⟩
     rcases dC.1 g with g|rfl
     ·exact c j g
     ·exact d
    ·omega
   ·refine aE [(14,true),(24,true)] 100 rfl ?_ (AK.dN (aR.zero rfl ?_))
    ·simp only[aa,az];have e:(a.getD i cS.bx==b.getD i cS.bx)=false:=eU.2 d;exact⟨by rw[e];rfl,by omega,by omega,by omega,by omega,aP (by omega)⟩
    ·have:(a==b)=false:=eU.2 (by rintro rfl;exact d rfl)
     simp[aa,this]
  ·refine aE [(14,false)] 100 rfl (by simp[aa];omega) (AK.leave rfl rfl ?_)
   refine bq rfl ab (AK.au rfl ?_);have:a=b:=pv f λj d l=>by rw[<-pL d,<-pL l];exact c j (by omega)
   simp[aa,this]
 ·refine aE [(10,true)] 100 rfl ?_ (AK.au rfl ?_)
  ·simp[aa];omega
  ·have:(a==b)=false:=eU.2 (by rintro rfl;exact f rfl)
   simp[aa,this]
theorem ix:∀ (l:List UInt8)(c:UInt8),Lib.indexByte l c<l.length∨Lib.indexByte l c=-1
 |[],c=>.inr (by rw[Lib.indexByte.eq_def])
 |b::l,c=>by
  have e:=ix l c;rw[Lib.indexByte.eq_def];simp only[ft];split
  ·left;omega
  ·split
   ·right;rfl
   ·rename_i d a
    left
    simp at a;omega
set_option maxRecDepth 20000 in
theorem uU(s:Bs)(c:UInt8):Ev X 220 [dS s,dU c.toNat] [] (dI (Lib.indexByte s c)) []:=by
 refine Ev.body Tryz.func220 rfl rfl rfl λq=>?_
 have t:=q.str 0 rfl;refine bq rfl ab ?_;refine AK.one (x:=dI (Lib.indexByte s c)) (σ':=[]) ?_ rfl ?_
 ·refine OA.jg (λ_ _ _ _=>de (by rfl)) ?_
  refine aG.kA λst ρ B l=>?_
  have n:=ei (l (.tmp 5));have p:=ei (l (.tmp 6));generalize g:ρ (.tmp 5)=v1 at n;generalize j:ρ (.tmp 6)=v2 at p;cases n with
  |str e1 l1 =>
  cases p with
  |int l2 =>
  have h:ρ (.func 227)=.func (.func 227) #[] #[]:=by
   have:=ei (l (.func 227));generalize ρ (.func 227)=v at this;cases this with
   |fn fs cs a b A z y c2 d1 d2 =>
    have:fs=[]:=fO a;subst this;have:cs=[]:=fO b;subst this;rfl
  have f:(callFunc 227 #[.string ‹ByteArray›,.int .u8 c.toNat]).run Tryz.prog st.w=.ok (.value (.int .i64 (Lib.indexByte s c))) st.w:=by
   rw[run_callFunc_extern Tryz.func227 (by kernel_rfl) (by kernel_rfl) (by kernel_rfl) (e:=Extern.BytealgIndexByte.indexByte) (by kernel_rfl),Lib.run_indexByteString]
   subst e1;simp
  have k:bH Tryz.prog (Extern.BytealgIndexByte.indexByte #[.string ‹ByteArray›,.int .u8 c.toNat]):=by
   refine bH.bind (m:=Extern.Bytes.bytesOf (.string ‹ByteArray›)) (λ_ _=>rfl) λb=>bH.bind (m:=Extern.Bytes.asByte (.int .u8 c.toNat)) (λ_ _=>?_) λd=>?_
   ·simp[Extern.Bytes.asByte]
   ·skip
    split <;> exact .pure
  have i:=iM Tryz.func227 (by kernel_rfl) (by kernel_rfl) (by kernel_rfl) (e:=Extern.BytealgIndexByte.indexByte) (by kernel_rfl) _ k st.w #[]
  refine⟨.int .i64 (Lib.indexByte s c),?_,Rd.int ?_,?_⟩
  rotate_left 2
  ·intro r o;simp[execOp,resolve,Deferred.ofValue,invoke,g,j,h,i] at o;subst o;exact .inr ⟨_,rfl⟩
  ·simp[execOp,resolve,Deferred.ofValue,invoke,g,j,h,f]
  ·have C:=Lib.indexByte_ge s c;have u:=ix s c;simp only[aB];omega
 ·refine bq rfl ab (AK.au rfl ?_);simp[aa]
end Go.AM.R1
namespace Go.AM
abbrev Hq(a b:Bs)(c:Bool):D:=.eY [.one (.c (.str a)),.one (.c (.str b)),.one (.c (.bool c))]
namespace R1
open Go.Proofs
variable {X:Cx Tryz.prog}
theorem r6(s:Bs) (c:Int)(h:0<=c/\c<=255):Ev X 220 [dS s,dU c] [] (dI (Lib.indexByte s (UInt8.ofNat (Int.toNat c)))) []:=by
 have e:c=((UInt8.ofNat c.toNat).toNat:Int):=by
  rw[UInt8.toNat_ofNat'];omega
 have:=uU (X:=X) s (UInt8.ofNat c.toNat);rw[<-e] at this;exact this
def Km:bE:=λargs σ=>match args,σ with
 |[.e (.one (.c (.str a))),.e (.one (.c (.int .u8 b)))],[]=>some (dI (Lib.indexByte a (UInt8.ofNat (Int.toNat b))),[],[0<=b/\b<=255])
 |_,_=>none
theorem t220:bO X 220 Km:=by
 intro args σ res σ' obs h a;unfold Km at h;split at h
 ·cases h;exact(r6 _ _ (a)).args (λ_ _ r=>r)
 ·cases h
def MQ:List (Nat×bE):=(220,Km)::Rp
theorem EO:aM X MQ:=aM.cons t220 (Qi)
def ff(s:Bs):Int:=Lib.indexByte s 47
theorem EP(s:Bs):Ev X 214 [dS s,dS [47]] [] (dI (ff s)) []:=by
 refine Ev.body Tryz.func214 rfl rfl rfl λa=>?_
 by_cases h:s=[47]
 ·subst h;refine af EO [(18,false),(22,true)] 100 rfl ?_ (AK.au rfl ?_)
  ·simp[aa]
  ·simp[aa,ff,Lib.indexByte.eq_def]
 ·refine af EO [(18,false),(22,false),(26,true)] 100 rfl ?_ (AK.au rfl ?_)
  ·simp[aa,bj,bc];exactλe=>h e.symm
  ·simp[aa,ff,fw]
def Kn:bE:=λargs σ=>match args,σ with
 |[.e (.one (.c (.str a))),.e (.one (.c (.str [47])))],[]=>some (dI (ff a),[],[])
 |_,_=>none
theorem t214:bO X 214 Kn:=by
 intro args σ res σ' obs h a;unfold Kn at h;split at h
 ·cases h;exact EP _
 ·cases h
def MR:List (Nat×bE):=(214,Kn)::MQ
theorem ER:aM X MR:=aM.cons t214 (EO)
def ga(s:Bs):Bs:=if 0<=ff s then s.take (ff s).toNat else s
def jB(s:Bs):Bs:=if 0<=ff s then s.drop ((ff s).toNat+1) else []
def gF(s:Bs):Bool:=decide (0<=ff s)
theorem ES(s:Bs):Ev X 204 [dS s,dS [47]] [] (Hq (ga s) (jB s) (gF s)) []:=by
 refine Ev.body Tryz.func204 rfl rfl rfl λb=>?_
 have d:=b.str 0 rfl;have a:=ix s 47
 change ff s<s.length∨ff s=-1 at a
 by_cases h:0<=ff s
 ·have c:(ff s+1).toNat=(ff s).toNat+1:=by omega
  refine af ER [(12,true)] 100 rfl ?_ (AK.au rfl ?_)
  ·simp[aa,h,aB];omega
  ·simp[aa,aa.cat,ga,jB,gF,h,nk,c]
 ·refine af ER [(12,false)] 100 rfl ?_ (AK.au rfl ?_)
  ·simp[aa];omega
  ·simp[aa,aa.cat,ga,jB,gF,h]
def Ko:bE:=λargs σ=>match args,σ with
 |[.e (.one (.c (.str a))),.e (.one (.c (.str [47])))],[]=>some (Hq (ga a) (jB a) (gF a),[],[])
 |_,_=>none
theorem t204:bO X 204 Ko:=by
 intro args σ res σ' obs h a;unfold Ko at h;split at h
 ·cases h;exact ES _
 ·cases h
def MS:List (Nat×bE):=(204,Ko)::MR
theorem Iy:aM X MS:=aM.cons t204 (ER)
theorem Kp(s:Bs):Ev X 180 [dS s,dS [47]] [] (Hq (ga s) (jB s) (gF s)) []:=by
 refine Ev.body Tryz.func180 rfl rfl rfl λa=>?_
 refine af Iy [] 100 rfl ab (AK.au rfl ?_);simp[aa,aa.cat]
def Kq:bE:=λargs σ=>match args,σ with
 |[.e (.one (.c (.str a))),.e (.one (.c (.str [47])))],[]=>some (Hq (ga a) (jB a) (gF a),[],[])
 |_,_=>none
theorem t180:bO X 180 Kq:=by
 intro args σ res σ' obs h a;unfold Kq at h;split at h
 ·cases h;exact Kp _
 ·cases h
def bg(s:Bs):Bool:=decide (s.length=1)&&decide (97<=bc s 0)&&decide (bc s 0<=101)
theorem pg(s:Bs):Ev X 181 [dS s] [] (dB (bg s)) []:=by
 refine Ev.body Tryz.func181 rfl rfl rfl λc=>?_
 by_cases a:s.length=1
 ·by_cases b:97<=bc s 0
  ·refine aE [(5,true),(9,true)] 100 rfl ?_ (AK.au rfl ?_)
   ·simp only[aa,aD];simp[a,bj,b]
   ·show decide (bc s 0<=101)=bg s;simp[bg,a,b]
  ·refine aE [(5,true),(9,false)] 100 rfl ?_ (AK.au rfl ?_)
   ·simp only[aa,aY];simp[a,bj];omega
   ·simp[aa,bg,b]
 ·refine aE [(5,false)] 100 rfl ?_ (AK.au rfl ?_)
  ·simp[aa];omega
  ·simp[aa,bg,a]
def Kr:bE:=λargs σ=>match args,σ with
 |[.e (.one (.c (.str a)))],[]=>some (dB (bg a),[],[])
 |_,_=>none
theorem t181:bO X 181 Kr:=by
 intro args σ res σ' obs h a;unfold Kr at h;split at h
 ·cases h;have _:=a;exact(pg _ ).args (λ_ _ r=>r)
 ·cases h
def MT:List (Nat×bE):=(180,Kq)::(181,Kr)::MS
theorem Ac:aM X MT:=aM.cons t180 (aM.cons t181 (Iy))
def cV(s:Bs):Bool:=bg (ga s)&&(!gF s||bg (jB s))
theorem yL(s:Bs):Ev X 135 [dS s] [] (dB (cV s)) []:=by
 refine Ev.body Tryz.func135 rfl rfl rfl λc=>?_
 cases a:bg (ga s) with
 |false =>
  refine af Ac [(13,false)] 100 rfl ?_ (AK.au rfl ?_)
  ·simp[aa,a]
  ·simp[aa,cV,a]
 |true =>
  cases b:gF s with
  |false =>
   refine af Ac [(13,true),(15,false)] 100 rfl ?_ (AK.au rfl ?_)
   ·simp[aa,a,b]
   ·simp[aa,cV,a,b]
  |true =>
   refine af Ac [(13,true),(15,true)] 100 rfl ?_ (AK.au rfl ?_)
   ·simp[aa,a,b]
   ·simp[aa,cV,a,b]
def Ks:bE:=λargs σ=>match args,σ with
 |[.e (.one (.c (.str a)))],[]=>some (dB (cV a),[],[])
 |_,_=>none
theorem t135:bO X 135 Ks:=by
 intro args σ res σ' obs h a;unfold Ks at h;split at h
 ·cases h;have _:=a;exact(yL _ ).args (λ_ _ r=>r)
 ·cases h
theorem wO(s:Bs):Ev X 178 [dS s] [] (dB (bl s)) []:=by
 refine Ev.body Tryz.func178 rfl rfl rfl λe=>?_
 have k:=e.str 0 rfl;refine bq rfl ab ?_;refine AK.dX (λi=>i<=s.length/\∀ j,j<i->cT (s.getD j 0)=true) (λi:Nat=>[(0,dS s),(5,dI s.length),(6,dI i)]) (λ_=>[]) (λi=>s.length-i) 0 rfl ?_ rfl ab ⟨by omega,by omega⟩ ?_
 ·simp[aa.cat,aa]
 rintro i ⟨hi,a⟩
 by_cases h:i<s.length
 ·generalize c:s.getD i 0=b
  by_cases g:b.toNat<97
  ·refine aE [(7,true),(12,true)] 100 rfl ?_ (AK.dN (aR.zero rfl ?_))
   ·simp only[aa,gJ,aD,c];omega
   ·rw[aa,gR h (by rw[c];simp only[cT,mU,aY];omega)]
  ·by_cases f:b.toNat>122
   ·refine aE [(7,true),(12,false),(17,true)] 100 rfl ?_ (AK.dN (aR.zero rfl ?_))
    ·simp only[aa,gJ,aD,aY,c];omega
    ·rw[aa,gR h (by rw[c];simp only[cT,mU,aY];omega)]
   ·refine aE [(7,true),(12,false),(17,false)] 100 rfl ?_ (AK.cN (i+1) rfl ?_ rfl ab ?_ ?_)
    ·simp only[aa,gJ,aD,aY,c,aB];omega
    ·simp[aa.cat,aa]
    ·refine⟨by omega,λj d=>?_⟩
     rcases dC.1 d with d|rfl
     ·exact a j d
     ·rw[c];simp only[cT,bA,aD];omega
    ·omega
 ·refine aE [(7,false)] 100 rfl (by simp[aa];omega) (AK.leave rfl rfl ?_)
  refine bq rfl ab (AK.au rfl ?_);rw[aa,nH (λj d=>a j (by omega))]
def Kt:bE:=λargs σ=>match args,σ with
 |[.e (.one (.c (.str a)))],[]=>some (dB (bl a),[],[])
 |_,_=>none
theorem t178:bO X 178 Kt:=by
 intro args σ res σ' obs h a;unfold Kt at h;split at h
 ·cases h;have _:=a;exact(wO _ ).args (λ_ _ r=>r)
 ·cases h
def MU:List (Nat×bE):=(135,Ks)::(178,Kt)::MT
theorem ET:aM X MU:=aM.cons t135 (aM.cons t178 (Ac))
theorem qP(s:Bs):Ev X 132 [dS s] [] (dB (db s)) []:=by
 refine Ev.body Tryz.func132 rfl rfl rfl λb=>?_
 by_cases a:s.length<=40
 ·refine af ET [(5,true)] 100 rfl ?_ (AK.au rfl ?_)
  ·simp[aa];omega
  ·simp[aa,db,a]
 ·refine af ET [(5,false)] 100 rfl ?_ (AK.au rfl ?_)
  ·simp[aa];omega
  ·simp[aa,db,a]
def Ku:bE:=λargs σ=>match args,σ with
 |[.e (.one (.c (.str a)))],[]=>some (dB (db a),[],[])
 |_,_=>none
theorem t132:bO X 132 Ku:=by
 intro args σ res σ' obs h a;unfold Ku at h;split at h
 ·cases h;have _:=a;exact(qP _ ).args (λ_ _ r=>r)
 ·cases h
def ic(s p:Bs):Bool:=decide (p.length<=s.length)&&(s.take p.length==p)
theorem wP(s p:Bs):Ev X 183 [dS s,dS p] [] (dB (ic s p)) []:=by
 refine Ev.body Tryz.func183 rfl rfl rfl λb=>?_
 by_cases a:p.length<=s.length
 ·refine aE [(9,true)] 100 rfl ?_ (AK.au rfl ?_)
  ·simp[aa,a]
  ·simp[aa,ic,a,nk]
 ·refine aE [(9,false)] 100 rfl ?_ (AK.au rfl ?_)
  ·simp[aa];omega
  ·simp[aa,ic,a]
def Kv:bE:=λargs σ=>match args,σ with
 |[.e (.one (.c (.str a))),.e (.one (.c (.str b)))],[]=>some (dB (ic a b),[],[])
 |_,_=>none
theorem t183:bO X 183 Kv:=by
 intro args σ res σ' obs h a;unfold Kv at h;split at h
 ·cases h;have _:=a;exact(wP _ _ ).args (λ_ _ r=>r)
 ·cases h
def MV:List (Nat×bE):=(132,Ku)::(183,Kv)::MU
theorem Iz:aM X MV:=aM.cons t132 (aM.cons t183 (ET))
theorem BM(s p:Bs):Ev X 138 [dS s,dS p] [] (dB (ic s p)) []:=by
 refine Ev.body Tryz.func138 rfl rfl rfl λa=>?_
 refine af Iz [] 100 rfl ab (AK.au rfl ?_);simp[aa]
def Kw:bE:=λargs σ=>match args,σ with
 |[.e (.one (.c (.str a))),.e (.one (.c (.str b)))],[]=>some (dB (ic a b),[],[])
 |_,_=>none
theorem t138:bO X 138 Kw:=by
 intro args σ res σ' obs h a;unfold Kw at h;split at h
 ·cases h;have _:=a;exact(BM _ _ ).args (λ_ _ r=>r)
 ·cases h
def MW:List (Nat×bE):=(138,Kw)::MV
theorem IA:aM X MW:=aM.cons t138 (Iz)
end R1
theorem jd.EU{α:Type}(c:jd α)(l:List α)(k n:Nat)(h:k+n<=l.length):c.list n (n3 k (c.fn l))=(l.drop k).take n:=by
 apply pv
 ·simp[jd.list];omega
 ·intro i h1 h2;have hi:i<n:=by simpa[jd.list] using h1
  simp[jd.list,n3,jd.fn,Cj,List.getD_eq_getElem?_getD,aj (by omega:k+i<l.length),c.inv]
theorem jd.EV{α:Type}(c:jd α)(l:List α){k n:Nat}:c.fits n (n3 k (c.fn l)):=λi _=>by simp[n3,jd.fn,Cj,c.inv]
abbrev dR(p x:Bs):D:=.e (.one (.c (.rp [.str p,.str x])))
namespace R1
open Go.Proofs
variable {X:Cx Tryz.prog}
def under(p q:Bs):Bool:=ic p (q++[47])
theorem EW(a:dq)(p x:Bs)(h:a.1.length<=4000000):Ev X 137 [dP a,dR p x] [] (dB (under p a.1)) []:=by
 refine Ev.body Tryz.func137 rfl rfl rfl λb=>?_
 refine af IA [] 100 rfl ?_ (AK.au rfl ?_)
 ·simp[aa];omega
 ·simp[aa,under]
def Kx:bE:=λargs σ=>match args,σ with
 |[.e (.agg [.c (.str a0),.c (.str a1)]),.e (.one (.c (.rp [.str p,.str x])))],[]=>some (dB (under p a0),[],[a0.length<=4000000/\a1=a1/\x=x])
 |_,_=>none
theorem t137:bO X 137 Kx:=by
 intro args σ res σ' obs h b;unfold Kx at h;split at h
 ·rename_i a c p x
  cases h;exact EW (a,c) p x b.1
 ·cases h
def MX:List (Nat×bE):=(137,Kx)::MW
theorem te:aM X MX:=aM.cons t137 (IA)
abbrev EX(p x:Bs):D:=.e (.one (.c (.fn (.func 137) [] [.rp [.str p,.str x]])))
def ow(t:List dq)(p:Bs):Int:=match t.findIdx? (λf=>under p f.1) with|some i=>i|none=>-1
theorem Hr{t:List dq}{p:Bs}{i:Nat}(hi:i<t.length)(h:under p (dY t i)=true)(a:∀ j,j<i->under p (dY t j)=false):ow t p=i:=by
 have:t.findIdx? (λf=>under p f.1)=some i:=by
  rw[tq];refine⟨hi,?_,λj b=>?_⟩
  ·rw[fileAt hi];exact h
  ·rw[fileAt (by omega:j<t.length)];simp[a j b]
 rw[ow,this]
theorem tf{t:List dq}{p:Bs}(a:∀ j,j<t.length->under p (dY t j)=false):ow t p=-1:=by
 have:t.findIdx? (λf=>under p f.1)=none:=by
  rw[mr];intro f c;obtain⟨j,b,rfl⟩:=dV c;rw[fileAt b];exact a j b
 rw[ow,this]
theorem Hs(t:List dq)(p x:Bs)(e:∀ j,j<t.length->(dY t j).length<=4000000):Ev X 182 [cF.sl t,EX p x] [] (dI (ow t p)) []:=by
 refine Ev.body Tryz.func182 rfl rfl rfl λg=>?_
 have d:=g.sl 0 rfl;refine af te [] 100 rfl ab ?_;refine AK.dX (λi=>i<=t.length/\∀ j,j<i->under p (dY t j)=false) (λi:Nat=>[(0,cF.sl t),(1,EX p x),(7,dI t.length),(8,dI i)]) (λ_=>[]) (λi=>t.length-i) 0 rfl ?_ rfl ab ⟨by omega,by omega⟩ ?_
 ·simp[aa.cat,aa,aw.same]
 rintro i ⟨hi,a⟩
 by_cases h:i<t.length
 ·have f:=e i h;cases b:under p (dY t i) with
  |true =>
   refine af te [(9,true),(16,true)] 100 rfl ?_ (AK.dN (aR.zero rfl ?_))
   ·simp[-List.getD_eq_getElem?_getD,aa,h,gz,b];omega
   ·simp[aa,Hr h b a]
  |false =>
   refine af te [(9,true),(16,false)] 100 rfl ?_ (AK.cN (i+1) rfl ?_ rfl ab ?_ ?_)
   ·simp[-List.getD_eq_getElem?_getD,aa,h,gz,b,aB];omega
   ·simp[aa.cat,aa,aw.same]
   ·refine⟨by omega,λj c=>?_⟩
    rcases dC.1 c with c|rfl
    ·exact a j c
    ·exact b
   ·omega
 ·refine af te [(9,false)] 100 rfl (by simp[aa];omega) (AK.leave rfl rfl ?_)
  refine af te [] 100 rfl ab (AK.au rfl ?_);simp[aa,tf (λj c=>a j (by omega))]
def uV(t:List dq):Prop:=∀ j,j<t.length->(dY t j).length<=4000000
def Ky:bE:=λargs σ=>match args,σ with
 |[d,.e (.one (.c (.fn (.func 137) [] [.rp [.str p,.str x]])))],[]=>match jz 2 d with
  |none=>none
  |some (n,es)=>some (dI (ow (cF.list n es) p),[],[cF.fits n es,uV (cF.list n es),x=x])
 |_,_=>none
theorem t182:bO X 182 Ky:=by
 intro args σ res σ' obs h a;unfold Ky at h;split at h
 ·rename_i d p x
  split at h
  ·cases h
  rename_i n es hd
  cases h;exact(Hs _ p x a.2.1).args (λ_ vs=>bX.imp (λ_=>cF.iW hd a.1) (bX.imp (λ_ r=>r) (λ_ r=>r)) vs)
 ·cases h
def MY:List (Nat×bE):=(182,Ky)::MX
theorem IB:aM X MY:=aM.cons t182 (te)
theorem Ht(t:List dq)(p x:Bs)(a:uV t):Ev X 136 [cF.sl t,EX p x] [] (dB (decide (0<=ow t p))) []:=by
 refine Ev.body Tryz.func136 rfl rfl rfl λb=>?_
 refine af IB [] 100 rfl ?_ (AK.au rfl ?_)
 ·simp[aa,cF.ae,cF.list_fn,a]
 ·simp[aa,cF.list_fn]
def Kz:bE:=λargs σ=>match args,σ with
 |[d,.e (.one (.c (.fn (.func 137) [] [.rp [.str p,.str x]])))],[]=>match jz 2 d with
  |none=>none
  |some (n,es)=>some (dB (decide (0<=ow (cF.list n es) p)),[],[cF.fits n es,uV (cF.list n es),x=x])
 |_,_=>none
theorem t136:bO X 136 Kz:=by
 intro args σ res σ' obs h a;unfold Kz at h;split at h
 ·rename_i d p x
  split at h
  ·cases h
  rename_i n es hd
  cases h;exact(Ht _ p x a.2.1).args (λ_ vs=>bX.imp (λ_=>cF.iW hd a.1) (bX.imp (λ_ r=>r) (λ_ r=>r)) vs)
 ·cases h
def Qj:List (Nat×bE):=(136,Kz)::MY
theorem mo:aM X Qj:=aM.cons t136 (IB)
def fN(t:List dq)(i:Nat):Bool :=
 cV (dY t i)&&db (Ha t i)&&(i==0||!(Op.bytesLess (dY t i) (dY t (i-1))||dY t i==dY t (i-1)))&&(List.range i).all λj=>!under (dY t i) (dY t j)
def kN(t:List dq):Bool:=(List.range t.length).all (fN t)&&decide (t.length<=6)
theorem gT{t:List dq}{i:Nat}(hi:i<t.length)(h:fN t i=false):kN t=false:=by
 cases a:kN t with
 |false=>rfl
 |true =>
  simp only[kN,bA] at a;rw[ba.1 a.1 i hi] at h;cases h
theorem oM{s:Bs}(h:cV s=true):s.length<=3:=by
 simp only[cV,bg,bA,ko,aD,iC] at h;obtain⟨⟨⟨d,_⟩,_⟩,a⟩:=h;have c:=ix s 47
 change ff s<s.length∨ff s=-1 at c
 by_cases b:0<=ff s
 ·simp only[ga,b,aZ,List.length_take] at d;rcases a with a|a
  ·simp[gF,b] at a
  ·have:=a.1.1;simp only[jB,b,aZ,la] at this;omega
 ·simp only[ga,b,aQ] at d;omega
theorem yM{t:List dq}{p:Bs}{i:Nat}(hi:i<=t.length):decide (0<=ow (t.take i) p)=!(List.range i).all λj=>!under p (dY t j):=by
 have e:∀ j,j<i->dY (t.take i) j=dY t j:=by
  intro j a;simp[dY,List.getD_eq_getElem?_getD,a]
 cases l:(List.range i).all λj=>!under p (dY t j) with
 |true =>
  have:=ba.1 l;rw[tf (λj a=>by
   have b:j<i:=by simp at a;omega
   rw[e j b];simpa using this j b)]
  simp
 |false =>
  have g:∃ j,j<i/\under p (dY t j)=true:=by
   cases Classical.em (∃ j,j<i/\under p (dY t j)=true) with
   |inl h=>exact h
   |inr h =>
    have:(List.range i).all (λj=>!under p (dY t j))=true:=ba.2 (λj a=>by
     cases d:under p (dY t j) with
     |false=>rfl
     |true=>exact absurd ⟨j,a,d⟩ h)
    rw[l] at this;cases this
  have:∃ k:Nat,ow (t.take i) p=k:=by
   unfold ow;cases m:(t.take i).findIdx? (λf=>under p f.1) with
   |some k=>exact⟨k,rfl⟩
   |none =>
    obtain⟨j,a,d⟩:=g;rw[mr] at m;have c:j<(t.take i).length:=by simp;omega
    have:=m _ (hX c);rw[fileAt c] at this;simp only at this;rw[e j a,d] at this;cases this
  obtain⟨k,n⟩:=this;rw[n];simp
theorem ym(t:List dq):Ev X 97 [cF.sl t] [] (dB (kN t)) []:=by
 refine Ev.body Tryz.func97 rfl rfl rfl λz=>?_
 have w:=z.sl 0 rfl;refine af mo [] 100 rfl ab ?_;refine AK.bU 0 (λi=>i<=t.length/\∀ j,j<i->fN t j=true) (λi:Nat=>[(0,cF.sl t),(5,cF.sl t),(6,dI t.length),(7,dI i)]) (λ_=>[]) (λi=>t.length-i) 0 rfl ?_ rfl ab rfl ⟨by omega,by omega⟩ ?_
 ·simp[aa.cat,aa,aw.same]
 rintro i ⟨hi,b⟩
 by_cases h:i<t.length
 ·cases m:cV (dY t i) with
  |false =>
   refine af mo [(8,true),(14,false)] 200 rfl ?_ (AK.cR (aR.zero rfl ?_))
   ·simp[-List.getD_eq_getElem?_getD,aa,h,gz,m]
   ·simp[aa,gT h (by simp[fN,m])]
  |true =>
   cases o:db (Ha t i) with
   |false =>
    refine af mo [(8,true),(14,true),(19,false)] 200 rfl ?_ (AK.cR (aR.zero rfl ?_))
    ·simp[-List.getD_eq_getElem?_getD,aa,h,gz,lL,m,o]
    ·simp[aa,gT h (by simp[fN,o])]
   |true =>
    have q:uV (t.take i):=by
     intro j n;simp only[List.length_take] at n;have e:dY (t.take i) j=dY t j:=by simp[dY,List.getD_eq_getElem?_getD,(by omega:j<i)]
     rw[e];have:=b j (by omega)
     simp only[fN,bA] at this;have:=oM this.1.1.1;omega
    have d:cF.list ((i:Int).toNat-0) (n3 0 (cF.fn t))=t.take i:=by rw[cF.EU t 0 _ (by simp;omega)];simp
    cases k:(i==0||!(Op.bytesLess (dY t i) (dY t (i-1))||dY t i==dY t (i-1))) with
    |false =>
     have a:fN t i=false:=by simp only[fN,k];simp
     have r:i≠0:=by rintro rfl;simp at k
     have v:(Op.bytesLess (dY t i) (dY t (i-1))||dY t i==dY t (i-1))=true:=by
      simp only[Bool.or_eq_false_iff,Bool.not_eq_false'] at k;exact k.2
     have g:aB .i64 ((i:Int)-1):=by simp only[aB];omega
     have u:((i:Int)-1).toNat=i-1:=by omega
     refine af mo [(8,true),(14,true),(19,true),(24,true),(34,true)] 200 rfl ?_ (AK.cR (aR.zero rfl ?_))
     ·simp only[aa,gz,lL,az,u,v,m,o,aD,g];simp;omega
     ·simp[aa,gT h a]
    |true =>
     have a:fN t i=(List.range i).all λj=>!under (dY t i) (dY t j):=by simp only[fN,k,m,o];simp
     apply AK.join [(0,cF.sl t),(3,dI i),(5,cF.sl t),(6,dI t.length),(7,dI i),(4,.e (.one (.ptr 0 0)))] [.cells 148 [.c (.str (dY t i)),.c (.str (Ha t i))]]
     ·intro x
      by_cases r:i=0
      ·refine af mo [(8,true),(14,true),(19,true),(24,false),(1000006,true)] 200 rfl ?_ (x _ _ rfl ?_)
       ·simp only[aa,gz,lL,az,m,o,aD,aY];simp;omega
       ·simp[aa.cat,aa,aw.same]
      ·have v:(Op.bytesLess (dY t i) (dY t (i-1))||dY t i==dY t (i-1))=false:=by
        simp only[ko,iC,gg] at k;exact k.resolve_left r
       have g:aB .i64 ((i:Int)-1):=by simp only[aB];omega
       have u:((i:Int)-1).toNat=i-1:=by omega
       refine af mo [(8,true),(14,true),(19,true),(24,true),(34,false),(1000006,true)] 200 rfl ?_ (x _ _ rfl ?_)
       ·simp only[aa,gz,lL,az,u,v,m,o,aD,g];simp;omega
       ·simp[aa.cat,aa,aw.same]
     ·refine AK.freeze 4 0 rfl rfl rfl ?_;have s:=yM (t:=t) (p:=dY t i) (i:=i) hi;have f:cF.fits ((i:Int).toNat-0) (n3 0 (cF.fn t)):=cF.EV t;cases y:(List.range i).all λj=>!under (dY t i) (dY t j) with
      |false =>
       rw[y] at s a;refine af mo [(41,true)] 200 rfl ?_ (AK.cR (aR.zero rfl ?_))
       ·simp only[aa,cy];have l:decide (0<=ow (cF.list ((i:Int).toNat-0) (n3 0 (cF.fn t))) (dY t i))=true:=by rw[d];exact s
        exact⟨f,by rw[d];exact q,ab,l,by omega,by omega⟩
       ·simp[aa,gT h a]
      |true =>
       rw[y] at s a;refine af mo [(41,false)] 200 rfl ?_ (AK.aA (i+1) rfl ?_ rfl rfl rfl ?_ rfl ?_ ?_)
       ·simp only[aa,cy];have l:decide (0<=ow (cF.list ((i:Int).toNat-0) (n3 0 (cF.fn t))) (dY t i))=false:=by rw[d];exact s
        exact⟨by simp only[aB];omega,f,by rw[d];exact q,ab,l,by omega,by omega⟩
       ·simp[aa.cat,aa,aw.same]
       ·trivial
       ·refine⟨by omega,λj n=>?_⟩
        rcases dC.1 n with n|rfl
        ·exact b j n
        ·exact a
       ·omega
 ·have:i=t.length:=by omega
  subst this;refine af mo [(8,false)] 100 rfl (by simp[aa]) (AK.leaveD rfl rfl ?_)
  refine af mo [] 100 rfl ab (AK.au rfl ?_);simp only[aa,kN];rw[ba.2 (λj n=>b j n)]
  simp;omega
end R1
end Go.AM
namespace Go.AM.R1
open Go.Proofs
variable {X:Cx Tryz.prog}
def iv(t:Bs):List Bs:=if db t then pieces t else []
def Ik(t:Bs)(f:Nat)(acc:List Bs):Prop:=∃ k,eN t t.length 0=acc++eN t k f/\t.length<=f+k/\acc.length<=f
theorem zR:bO X 132 (fZ aS (λs=>dB (db s)) λ_=>[]):=.je λs _=>qP s
def D2:bE:=λargs σ=>match args,σ with
 |[.e (.one (.c (.str t)))],[]=>some (.e (.one (.c (Ij t))),[],[])
 |_,_=>none
theorem JI:bO X 179 D2:=by
 intro args σ res σ' obs h a;unfold D2 at h;split at h
 ·cases h;exact GW _
 ·cases h
theorem A8(t:Bs):Ev X 134 [dS t] [] (cS.sl (iv t)) []:=by
 refine(fK.xX (ι:=Unit) (σ':=λ_=>[]) (res:=λ_=>cS.sl (iv t)) Tryz.func134 rfl rfl rfl λv=>?_).CC
 have m:aM X [(132,fZ aS (λs=>dB (db s)) λ_=>[])]:=.cons zR .nil
 refine mg.seq (AW.top (AK.of_code ?_));refine af m [] 100 rfl ab ?_;refine mg.seq (AW.top (AK.of_code ?_));cases d:db t with
 |false =>
  refine af m [(8,true)] 100 rfl ?_ (AK.ret ⟨(),aR.zero rfl ?_⟩)
  ·simp[aa,d]
  ·simp[aa,aa.cat,iv,d]
 |true =>
  have g:=d;simp only[db,bA,aD] at g;refine af m [(8,false)] 100 rfl ?_ ?_
  ·simp[aa,d]
  refine mg.seq (AW.top (AK.of_code ?_));refine af m [] 100 rfl ab ?_;refine mg.seq (mg.seq (AW.top (AK.of_code (AK.As 1 0 9 1 (cS.fn []) rfl rfl ?_))));refine af (.cons JI .nil) [] 100 rfl ab ?_;refine mg.block ?_;refine mg.rangeFunc (capD:=jq [.rp [.str t]]) (br.callee rfl) (A7 (T:=List Bs) t g.2 (by omega) (λ_=>.cells 9 [.c (.str t)]) (λacc=>.cells 144 [.vec 2 1 acc.length (cS.fn acc)]) (λacc=>.vec 9 1 acc.length (cS.fn acc)) (Ik t) [] ?_ (λt=>⟨by simp,by simp,by simp⟩) ?_) (λi=>⟨rfl,by simp⟩) λi=>⟨.normal,rfl,?_⟩
  ·exact⟨t.length,by simp,by omega,by simp⟩
  ·rintro f acc hf hR;have b:=lI t f hf;refine Yields.intro (j:=none) rfl rfl rfl rfl (AK.of_code ?_);refine bq rfl ab ?_;refine⟨rfl,rfl,AK.of_code ?_⟩;refine bq rfl ?_ ?_
   ·obtain⟨k,_,_,o⟩:=hR;have u:=b.1;have q:=b.2.1;refine⟨rfl,rfl,?_,Int.natCast_nonneg _,Int.ofNat_le.2 (Nat.le_of_lt u),Int.ofNat_le.2 q⟩;show (acc.length+1)*16<=_;omega
   have n:Ik t (cutAt t f) (acc++[(t.drop f).take (cutAt t f-f)]):=by
    obtain⟨k,l,r,o⟩:=hR;obtain⟨k',rfl⟩:∃ k',k=k'+1:=⟨k-1,by omega⟩
    refine⟨k',?_,by omega,by simp only[bd,fi];omega⟩
    rw[l];simp only[eN];rw[ar hf];simp
   refine⟨rfl,rfl,⟨_,n⟩,ju rfl ?_⟩;have e:nk t (some (f:Int)) (some (cutAt t f:Int))=(t.drop f).take (cutAt t f-f):=by simp[nk,List.drop_take]
   have p:aw (acc.length+1) (cx acc.length (cS.fn acc) λi=>[[C.str (nk t (some (f:Int)) (some (cutAt t f:Int)))]].getD i []) (cS.fn (acc++[(t.drop f).take (cutAt t f-f)])):=by
    rw[e];exact jd.eO cS acc _
   have a:acc.length+1=(acc++[(t.drop f).take (cutAt t f-f)]).length:=by simp
   refine aa.cat.2 ⟨by simp[aa,aa.cat],aa.cat.2 ⟨aa.cat.2 ⟨⟨a,p⟩,ab⟩,aa.cat.2 ⟨⟨a,p⟩,aa.cat.2 ⟨rfl,ab⟩⟩⟩⟩
  ·obtain⟨acc,k,l,r,o⟩:=i;have h:eN t k t.length=[]:=by cases k <;> simp[eN]
   rw[h,iE] at l;have e:iv t=acc:=by simp only[iv,d,aZ,pieces,l]
   rw[e];show mg X _ _ _ _ _;refine AW.top (AK.of_code ?_);refine bq rfl ab ?_;refine AK.ret ⟨(),aR.zero rfl ?_⟩;exact⟨rfl,aw.same⟩
theorem GX:bO X 134 (fZ aS (λs=>cS.sl (iv s)) λ_=>[]):=.je λs _=>A8 s
theorem Mk:bO X 131 (gb (aL cS) aS (λl _=>dS l.flatten) λl s=>[s=[],l.flatten.length<=140737488355328]):=.gO λl s h=>by
 obtain⟨rfl,h⟩:=h;exact GP l h
def GY:bE:=gb (aL cS) (aL cS) (λa b=>dB (a==b)) λ_ _=>[]
theorem Pd:bO X 133 GY:=.gO λa b _=>Jz a b
theorem yl(l:List Bs)(h:l.flatten.length<=140737488355328):Ev X 96 [cS.sl l] [] (uD (dO l)) []:=by
 refine Ev.body Tryz.func96 rfl rfl rfl λd=>?_
 have c:aM X [(131,gb (aL cS) aS (λl _=>dS l.flatten) λl s=>[s=[],l.flatten.length<=140737488355328]),(132,fZ aS (λs=>dB (db s)) λ_=>[]),(133,GY),(134,fZ aS (λs=>cS.sl (iv s)) λ_=>[])]:=.cons Mk (.cons zR (.cons Pd (.cons GX .nil)))
 have el:cS.list l.length (cS.fn l)=l:=cS.list_fn l;cases a:db l.flatten with
 |false =>
  refine af c [(8,false),(9,true),(16,true)] 100 rfl ?_ (AK.au rfl ?_)
  ·simp only[aa,el,a,cS.ae,eq_self,ai,ah];simp[h,-List.length_flatten]
  ·simp[aa,aa.cat,dO,a]
 |true =>
  cases b:(pieces l.flatten==l) with
  |false =>
   refine af c [(8,true),(9,false),(14,false),(16,true)] 100 rfl ?_ (AK.au rfl ?_)
   ·simp only[aa,el,cS.list_fn,a,cS.ae];simp[h,iv,a,b,-List.length_flatten]
   ·simp[aa,aa.cat,dO,b]
  |true =>
   refine af c [(8,true),(9,false),(14,true),(16,false)] 100 rfl ?_ (AK.au rfl ?_)
   ·simp only[aa,el,cS.list_fn,a,cS.ae];simp[h,iv,a,b,-List.length_flatten]
   ·simp[aa,aa.cat,dO,a,b,el]
end Go.AM.R1
namespace Go.AM.R1
open Go.Proofs Go.Conc Go.Conc.Lib Go.ConcR.Gen
open Go.ConcN (WgLive PayAt Has RW AtR0)
open Go.ConcN.Gen
open Go.ConcR (KK WgAt stA smA rd wr mk Payload DC0)
theorem D6:D3=#[{ dst:=none,op:=.defer { callee:=.value (.func 128),args:=#[.tmp 0],argTypes:=#[197] },type:=0,pos:= "l12_snap.go:81",after:=#[],guard:=none }]:=by kernel_rfl
def bW(a:Value):Frame:={ baseD 127 with defers:=[dcall 128 #[a]] }
abbrev tW(v0 v1 v2 v3 v4 v5:Value):Array Value:=#[v0,v1,v2,v3,v4,v5,undef,undef,undef,undef,undef,undef,undef]
theorem JK(v0 v1 v2 v3 v4 v5:Value)(w:World):Goes Tryz.prog false (λ_ _=>True) DC0 (λg _=>g=G ((bW v0).aT ⟨tW v0 v1 v2 v3 v4 v5,[]⟩ [.code (.region 1 D4 true)]) [pa]) 8 (born Tryz.prog (qR #[v0,v1,v2,v3,v4,v5])) w:=by
 have a:True:=ab;have b:True->True->True:=λ_ _=>trivial
 refine Goes.step rfl (λw1 h1=>?_)
 rw[Bd];simp only[goes_go];refine⟨⟨rfl,rfl⟩,?_⟩;clear h1;rw[D6]
 u_c stepG_seq b a
 u_reg b a
 u_defer b a
 u_c stepG_region_end b a
 exact Goes.stop λ_ _=>rfl
theorem Pe(T:Array Value):QuitsD Tryz.prog 2 0 (G { (baseD 127).at ⟨T,[]⟩ [] with mode:=.returning } [pa]):=by
 have a:Tryz.f127.results=#[]:=by kernel_rfl
 refine QuitsD.ctl (g':=G pa []) rfl (λw=>?_) ?_
 ·simp[G,stepG,unwind,doReturn,results,Frame.at,baseD,pa,Tryz.func127,a,seen,GStep.after,goexitEntry]
 refine QuitsD.ctl (g':={ G pa [] with status:=.finished }) rfl (λw=>?_) ⟨rfl,rfl⟩
 simp[G,stepG,unwind,pa,goexitEntry,Frame.catches];rfl
section
variable {Y:Lay}{n:Nat}{val:Nat->Nat->Value}
theorem tailW(x:Nat)(b:Y.kc=2)(T:Array Value)(w:World)(a:WgLive 197 Y.Wg w/\Has Y.C (Y.kc*x+1-1) (val x 0) w) :
  ∃ m,Goes Tryz.prog false (RW 197 Y.Wg Y.C (2*n) 0 (Y.kc*x+1-1)) DC0 (AtR0 Tryz.prog 197 Y.Wg Y.C (2*n) 0 (Y.kc*x+1) (val x 0)) m (G ((bW (.pointer (some ⟨Y.Wg,0,none⟩))).aT ⟨T,[]⟩ [.inRegion o8.toArray []]) [pa]) w:=by
 refine⟨26,?_⟩;have e:(bW (.pointer (some ⟨Y.Wg,0,none⟩))).aT ⟨T,[]⟩ [.inRegion o8.toArray []]=(baseD 127).at ⟨T,[dcall 128 #[.pointer (some ⟨Y.Wg,0,none⟩)]]⟩ [.inRegion o8.toArray []]:=rfl;rw[e]
 u_c stepG_region_end kn_rely a
 u_c stepG_end kn_rely a
 u_in kn_rely a
 rw[stepG_unwind_enter (c:=body_done Il) rfl vZ.f_done (by kernel_rfl) (by kernel_rfl)]
 simp only[goes_go];refine⟨by u_nil,?_⟩
 have d:=Mo (P:=Tryz.prog) (L:=Il) (Wg:=Y.Wg) (C:=Y.C) (n:=2*n) (Low:=0) (x:=Y.kc*x+1) (val:=val x 0) (c:={ (baseD 127).at ⟨T,[]⟩ [] with mode:=.returning }) (cs:=[pa]) vZ rfl (Pe T) _ a;exact d
theorem rd_str{M:Mem}{v:Value}{l:Bs}(h:Rd M v (.str l)):v=.string ⟨l.toArray⟩:=by
 cases h with
 |str h1 h2=>rw[<-h1]
theorem rd_bool{M:Mem}{v:Value}{b:Bool}(h:Rd M v (.bool b)):v=.bool b:=by cases h;rfl
def KS:Oper:=oW none (.store 200 (.tmp 12) (.tmp 11)) 0 #[⟨6,.data⟩,⟨5,.data⟩,⟨5,.chain⟩,⟨0,.phase⟩,⟨1,.phase⟩,⟨2,.phase⟩,⟨3,.phase⟩,⟨4,.phase⟩,⟨5,.phase⟩]
set_option maxHeartbeats 1000000 in
theorem Mp{x:Nat}(hx:x<n)(p:Y.kc=2){k:Int}{ps:List aV}{N:Int}(K:val x 0=.string ⟨((b6 k ps N).getD []).toArray⟩)(F:val x 1=.bool (b6 k ps N).isSome){s:St}{T:Array Value}
  (q:cd [] s (T.getD 12 undef) (xW k ps N n x Y.C 6)) (r:cd [] s (T.getD 11 undef) (Nx (b6 k ps N))) :
  C1 Tryz.prog 197 Y (2*n) val x (G ((bW (.pointer (some ⟨Y.Wg,0,none⟩))).aT ⟨T,[]⟩ [.inRegion o8.toArray [7]]) [pa]) s:=by
 have q:T.getD 12 undef=.pointer (some ⟨Y.C,x*2,none⟩):=Rd.fD q;have r:T.getD 11 undef=.agg #[val x 0,val x 1]:=by
  obtain⟨vs,X,g⟩:=r
  match vs,g with
  |[],g=>exact g.elim
  |[_],g=>exact g.2.elim
  |_::_::_::_,g=>exact g.2.2.elim
  |[u0,u1],g =>
   rw[X,rd_str g.1,rd_bool g.2.1,K,F]
 refine⟨rfl,λw1 hr C8 D7=>?_⟩
 obtain⟨cs,c,R⟩:=C8;have y:Y.kc*x=x*2:=by rw[p];omega
 have I:∀ v∈[val x 0,val x 1],v.oneCell'=true:=by
  intro v U;simp only[dF,pt,or_false] at U;rcases U with rfl|rfl
  ·rw[K];rfl
  ·rw[F];rfl
 have d:x*2+0+[val x 0,val x 1].length<=cs.size:=by simp;omega
 have t:=run_storeCells_at Tryz.prog Y.C (x*2) 200 [val x 0,val x 1] 0 cs w1 c d I;simp only[eg,ft,kn,ay] at t;generalize m:(cs.toList.take (x*2)++[val x 0,val x 1]++cs.toList.drop (x*2+2)).toArray=new at t;have Q:new.size=cs.size:=by
  rw[<-m];simp;simp at d;omega
 have A:=setRow_heap w1 Y.C cs new 200 (0,0) c;have f:∀ o,(w1.setRow Y.C new).cell? ⟨Y.C,o,none⟩=new[o]?:=λo=>cell_setRow_same w1 Y.C o cs new 200 (0,0) c
 have w:∀ o,w1.cell? ⟨Y.C,o,none⟩=cs[o]?:=λo=>by simp[World.cell?,c]
 have E:∀ i,i<2->new[x*2+i]?=some (val x i):=by
  intro i hi;rw[<-m];have O:(cs.toList.take (x*2)).length=x*2:=by simp;simp at d;omega
  rw[dt];simp only[gd];rw[cv (by omega),O]
  match i,hi with
  |0,_=>simp
  |1,_=>simp
 have M:∀ o,(o<x*2∨x*2+2<=o)->new[o]?=cs[o]?:=by
  intro o z;rw[<-m];have O:(cs.toList.take (x*2)).length=x*2:=by simp;simp at d;omega
  rw[dt];simp only[gd];rcases z with z|z
  ·rw[bS (by omega),dD]
   simp[z]
  ·rw[cv (by omega),O,cv (by simp;omega)]
   simp only[ft,kn,mW];rw[show x*2+2+(o-x*2-(0+1+1))=o by omega]
   simp
 have L:(Value.agg #[val x 0,val x 1]).cells=#[val x 0,val x 1]:=rfl;have J:(execOp (⟨T,[]⟩:Act).eval KS).run Tryz.prog w1=.ok .skip (w1.setRow Y.C new):=by
  have B:(⟨T,[]⟩:Act).eval (.tmp 12)=.pointer (some ⟨Y.C,x*2,none⟩):=q;have D:(⟨T,[]⟩:Act).eval (.tmp 11)=.agg #[val x 0,val x 1]:=r;simp[execOp,KS,oW,B,D,Instr.storeAt,Instr.sureAddr,storeVar,(tok 200 i200 rfl).run_sizeOf,i200,L,t]
 have l:∀ e∈(execOp (⟨T,[]⟩:Act).eval KS).events Tryz.prog w1 #[],∃ j,j<2/\e=Aw Y.C (x*2+j):=by
  intro S l;have B:(⟨T,[]⟩:Act).eval (.tmp 12)=.pointer (some ⟨Y.C,x*2,none⟩):=q;have D:(⟨T,[]⟩:Act).eval (.tmp 11)=.agg #[val x 0,val x 1]:=r;have e:execOp (⟨T,[]⟩:Act).eval KS=(do storeVar 200 ⟨Y.C,x*2,none⟩ (.agg #[val x 0,val x 1]);pure .skip):=by simp[execOp,KS,oW,B,D,Instr.storeAt,Instr.sureAddr]
  rw[e] at l;have H:S∈(storeCells ⟨Y.C,x*2,none⟩ [val x 0,val x 1]).events Tryz.prog w1 #[]:=by
   simp only[storeVar,Sem.events_bind,(tok 200 i200 rfl).run_sizeOf,i200,L,Result.evThen_ok,events_sizeOf,b9,aQ,aU,bh,Sem.events_pure] at l;simpa[t] using l
  rcases dH [val x 0,val x 1] 0 cs w1 #[] c d I S H with P|⟨j,_,V,rfl⟩
  ·simp at P
  ·exact⟨j,by simpa using V,rfl⟩
 have u:WgLive 197 Y.Wg (w1.setRow Y.C new):=by
  obtain⟨st,W,h⟩:=D7;refine⟨st,W,?_⟩;show (w1.setRow Y.C new).heap[Y.Wg]?=_;rw[setRow_other w1 Y.C Y.Wg new ?_]
  ·exact h
  ·intro e;have g:w1.heap[Y.Wg]?=some (Go.ConcR.wgBlock 197 st W):=h;rw[e,c] at g;simp[Go.ConcR.wgBlock] at g;exact absurd g.2 (by decide)
 refine⟨_,w1.setRow Y.C new,_,zj (b:=bW (.pointer (some ⟨Y.Wg,0,none⟩))) (a:=⟨T,[]⟩) (k:=[]) (ops:=o8.toArray) (i:=7) (rest:=[]) (o:=KS) rfl rfl (by simp[bW,baseD]) J,?_,?_,?_⟩
 ·refine⟨rfl,rfl,rfl,by simp,λb Z=>setRow_other w1 Y.C b new Z,⟨new,A,by rw[Q,R]⟩,λo z=>?_,λi hi=>?_⟩
  ·rw[f,w];rw[y,p] at z;exact M o z
  ·rw[p] at hi;rw[f,y];exact E i hi
 ·intro e he;obtain⟨j,V,rfl⟩:=l e (Go.Conc.mem_seen he);exact⟨x*2+j,rfl,by omega,by omega⟩
 ·exact tailW x p T _ ⟨u,by show (w1.setRow Y.C new).cell? _=_;rw[f,k6,y];exact E 0 (by omega)⟩
theorem worker{k:Int}(j:bO (Cx.work Tryz.prog) 129 (iX k)){x:Nat}(o:x<n)(f:Y.kc=2){ps:List aV}{d:Int}(l:val x 0=.string ⟨((b6 k ps d).getD []).toArray⟩)(e:val x 1=.bool (b6 k ps d).isSome)
  {s:St} (A:ag [] s) (F:s.β=[]) {v1 v2 v3 v4 v5:Value} (q:Rd s.M v1 (.rp [.int .i64 k])) (u:Rd s.M v2 (.rp [.sl false 2 ps.length (cP.fn ps)])) (v:Rd s.M v3 (.rp [.int .i64 d]))
  (p:Rd s.M v4 (.rp [.val (.slice (some ⟨Y.C,0,none⟩) n n)])) (m:Rd s.M v5 (.rp [.int .i64 x])) :
  cz (Cx.work Tryz.prog) E0 (C1 Tryz.prog 197 Y (2*n) val x) (born Tryz.prog (qR #[.pointer (some ⟨Y.Wg,0,none⟩),v1,v2,v3,v4,v5])) s:=by
 refine cz.goes (X:=Cx.work Tryz.prog) (R:=λ_ _=>True) (D:=DC0) (Stop:=λg _=>g=G ((bW (.pointer (some ⟨Y.Wg,0,none⟩))).aT ⟨tW (.pointer (some ⟨Y.Wg,0,none⟩)) v1 v2 v3 v4 v5,[]⟩ [.code (.region 1 D4 true)]) [pa])
  (λb=>ag [] b/\b.M=s.M) (λb s2 h r=>⟨h.1.rely r,r.M.trans h.2⟩) (λ_ _ _ _=>trivial) ?_ (λb h=>aX.qn h.1.mem) ?_ 8 _ s ⟨A,rfl⟩ (JK _ _ _ _ _ _ _)
 ·rintro b es h w' ⟨rfl,rfl⟩;exact⟨rfl,.inl (.quiet h.1)⟩
 ·rintro g b ⟨i,w⟩ rfl;rw[G0];refine dk.Sg (λ_ _ _ h=>h) ?_
  refine(Mn j ps d n x Y.C o (.pointer (some ⟨Y.Wg,0,none⟩))).region (by kernel_rfl) (by simp[bW,baseD]) ⟨by simp[tW],⟨[],ab⟩,λt=>?_⟩ rfl i λs2 a E c z y st=>.stop ?_
  ·rw[<-w] at q u v p m
   match t with
   |0=>exact Rd.val rfl
   |1=>exact q
   |2=>exact u
   |3=>exact v
   |4=>exact p
   |5=>exact m
   |t+6=>trivial
  ·obtain⟨T,B⟩:=a;obtain rfl:B=[]:=z;exact Mp o f l e (c 12) (c 11)
end
end Go.AM.R1
