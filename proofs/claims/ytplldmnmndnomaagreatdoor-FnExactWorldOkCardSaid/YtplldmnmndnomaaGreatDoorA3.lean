/-
  Part 3 of a machine of values without memory, proved sound over the model, and of contracts of the functions that the laws reach. Nothing is taken for granted: no condition.
-/
import Derived.Test.YtplldmnmndnomaaGreatDoorA2
import Derived.Test.YtplldmnmndnomaaGreatDoorProg
import Derived.MapKept
import Derived.Conc.Beside
import Derived.Conc.LeavingOf
import Derived.Below
import Derived.ChangeArms
import Derived.DataReads
import Derived.Deep.Slices
import Derived.ChangeShapes
import Derived.WideShapes
import Derived.Maps.RangeRun
import Derived.Laws.MakeOwn
import Derived.Lib.SliceRun
import Derived.Sort.AssemblyPlain
import Derived.Sort.LotD5
set_option linter.unusedVariables false
set_option linter.unusedSimpArgs false
set_option linter.defProp false
set_option linter.deprecated false
namespace Go.AM
open Go.Proofs
theorem av{P:Program}{t:TypeId}{i:TypeInfo}(h:P.types[t]?=some i):P.info? t=some i:=by
 unfold Tables.info?;rw[ar (ey.1 h).1];exact h
theorem bV.nil{P:Program}:bV P []:=λ_ _ h=>by cases h
theorem bV.cons{P:Program}{t:TypeId}{i:TI}{T:List (Nat×TI)}(h:aC P t i)(r:bV P T):bV P ((t,i)::T):=by
 intro b c h2;simp only[aJ] at h2;cases a:Nat.beq t b with
 |true=>rw[a] at h2;cases h2;rw[<-bn a];exact h
 |false=>rw[a] at h2;exact r b c h2
namespace R1
def i3:TI:=⟨1,8,false,TypeDesc.int IntKind.i64,[.int .i64 0],[]⟩
theorem g3:aC Tryz.prog 3 i3:=⟨Tryz.underlying3,rfl,⟨Tryz.t3,_,av Tryz.type3,rfl,rfl,rfl,rfl,⟨#[],rfl⟩,rfl⟩,λh=>absurd rfl h⟩
def i4:TI:=⟨1,1,false,TypeDesc.bool,[.bool false],[]⟩
theorem g4:aC Tryz.prog 4 i4:=⟨Tryz.underlying4,rfl,⟨Tryz.t4,_,av Tryz.type4,rfl,rfl,rfl,rfl,⟨#[],rfl⟩,rfl⟩,λh=>absurd rfl h⟩
def i5:TI:=⟨1,1,false,TypeDesc.int IntKind.u8,[.int .u8 0],[]⟩
theorem g5:aC Tryz.prog 5 i5:=⟨Tryz.underlying5,rfl,⟨Tryz.t5,_,av Tryz.type5,rfl,rfl,rfl,rfl,⟨#[],rfl⟩,rfl⟩,λh=>absurd rfl h⟩
def i9:TI:=⟨1,16,false,TypeDesc.string,[.str []],[]⟩
theorem g9:aC Tryz.prog 9 i9:=⟨Tryz.underlying9,rfl,⟨Tryz.t9,_,av Tryz.type9,rfl,rfl,rfl,rfl,⟨#[],rfl⟩,rfl⟩,λh=>absurd rfl h⟩
def i16:TI:=⟨1,8,false,TypeDesc.pointer 298,[.ll],[]⟩
theorem TH:aC Tryz.prog 16 i16:=⟨Tryz.underlying16,rfl,⟨Tryz.t16,_,av Tryz.type16,rfl,rfl,rfl,rfl,⟨#[],rfl⟩,rfl⟩,λh=>absurd rfl h⟩
def i20:TI:=⟨1,16,false,TypeDesc.interface #[],[.mf],[]⟩
theorem TJ:aC Tryz.prog 20 i20:=⟨Tryz.underlying20,rfl,⟨Tryz.t20,_,av Tryz.type20,rfl,rfl,rfl,rfl,⟨#[],rfl⟩,rfl⟩,λh=>absurd rfl h⟩
def i21:TI:=⟨1,4,false,TypeDesc.int IntKind.i32,[.int .i32 0],[]⟩
theorem TK:aC Tryz.prog 21 i21:=⟨Tryz.underlying21,rfl,⟨Tryz.t21,_,av Tryz.type21,rfl,rfl,rfl,rfl,⟨#[],rfl⟩,rfl⟩,λh=>absurd rfl h⟩
def i22:TI:=⟨1,24,false,TypeDesc.slice 116,[.sl true 0 0 (λ_=>[])],[]⟩
theorem TM:aC Tryz.prog 22 i22:=⟨Tryz.underlying22,rfl,⟨Tryz.t22,_,av Tryz.type22,rfl,rfl,rfl,rfl,⟨#[],rfl⟩,rfl⟩,λh=>absurd rfl h⟩
def i23:TI:=⟨1,24,false,TypeDesc.slice 120,[.sl true 0 0 (λ_=>[])],[]⟩
theorem TN:aC Tryz.prog 23 i23:=⟨Tryz.underlying23,rfl,⟨Tryz.t23,_,av Tryz.type23,rfl,rfl,rfl,rfl,⟨#[],rfl⟩,rfl⟩,λh=>absurd rfl h⟩
def i24:TI:=⟨1,24,false,TypeDesc.slice 133,[.sl true 0 0 (λ_=>[])],[]⟩
theorem TO:aC Tryz.prog 24 i24:=⟨Tryz.underlying24,rfl,⟨Tryz.t24,_,av Tryz.type24,rfl,rfl,rfl,rfl,⟨#[],rfl⟩,rfl⟩,λh=>absurd rfl h⟩
def i26:TI:=⟨3,72,true,TypeDesc.struct #[{ name:= "Packs",type:=22,offset:=0,embedded:=false,tag:= "",pkgPath:= "",byteOffset:=0 },{ name:= "Snaps",type:=23,offset:=1,embedded:=false,tag:= "",pkgPath:= "",byteOffset:=24 },{ name:= "Log",type:=24,offset:=2,embedded:=false,tag:= "",pkgPath:= "",byteOffset:=48 }],[.sl true 0 0 (λ_=>[]),.sl true 0 0 (λ_=>[]),.sl true 0 0 (λ_=>[])],[]⟩
theorem TP:aC Tryz.prog 26 i26:=⟨Tryz.underlying26,rfl,⟨Tryz.t26,_,av Tryz.type26,rfl,rfl,rfl,rfl,⟨_,rfl⟩,rfl⟩,λh=>absurd rfl h⟩
def i27:TI:=⟨1,24,false,TypeDesc.slice 3,[.sl true 0 0 (λ_=>[])],[]⟩
theorem TQ:aC Tryz.prog 27 i27:=⟨Tryz.underlying27,rfl,⟨Tryz.t27,_,av Tryz.type27,rfl,rfl,rfl,rfl,⟨#[],rfl⟩,rfl⟩,λh=>absurd rfl h⟩
def i29:TI:=⟨5,120,true,TypeDesc.struct #[{ name:= "Store",type:=26,offset:=0,embedded:=false,tag:= "",pkgPath:= "",byteOffset:=0 },{ name:= "Marks",type:=27,offset:=3,embedded:=false,tag:= "",pkgPath:= "",byteOffset:=72 },{ name:= "Left",type:=27,offset:=4,embedded:=false,tag:= "",pkgPath:= "",byteOffset:=96 }],[.sl true 0 0 (λ_=>[]),.sl true 0 0 (λ_=>[]),.sl true 0 0 (λ_=>[]),.sl true 0 0 (λ_=>[]),.sl true 0 0 (λ_=>[])],[]⟩
theorem TR:aC Tryz.prog 29 i29:=⟨Tryz.underlying29,rfl,⟨Tryz.t29,_,av Tryz.type29,rfl,rfl,rfl,rfl,⟨_,rfl⟩,rfl⟩,λh=>absurd rfl h⟩
def i31:TI:=⟨4,40,true,TypeDesc.struct #[{ name:= "Kind",type:=3,offset:=0,embedded:=false,tag:= "",pkgPath:= "",byteOffset:=0 },{ name:= "N",type:=3,offset:=1,embedded:=false,tag:= "",pkgPath:= "",byteOffset:=8 },{ name:= "M",type:=3,offset:=2,embedded:=false,tag:= "",pkgPath:= "",byteOffset:=16 },{ name:= "Body",type:=9,offset:=3,embedded:=false,tag:= "",pkgPath:= "",byteOffset:=24 }],[.int .i64 0,.int .i64 0,.int .i64 0,.str []],[TypeDesc.int IntKind.i64,TypeDesc.int IntKind.i64,TypeDesc.int IntKind.i64,TypeDesc.string]⟩
theorem TS:aC Tryz.prog 31 i31:=⟨Tryz.underlying31,rfl,⟨Tryz.t31,_,av Tryz.type31,rfl,rfl,rfl,rfl,⟨_,rfl⟩,rfl⟩,λ_=>er (fs:=[{ name:= "Kind",type:=3,offset:=0,embedded:=false,tag:= "",pkgPath:= "",byteOffset:=0 },{ name:= "N",type:=3,offset:=1,embedded:=false,tag:= "",pkgPath:= "",byteOffset:=8 },{ name:= "M",type:=3,offset:=2,embedded:=false,tag:= "",pkgPath:= "",byteOffset:=16 },{ name:= "Body",type:=9,offset:=3,embedded:=false,tag:= "",pkgPath:= "",byteOffset:=24 }]) Tryz.underlying31 (by decide +kernel) Tryz.eqGuardType31 ⟨by decide,rfl,Tryz.underlying3,ab,by decide,rfl,Tryz.underlying3,ab,by decide,rfl,Tryz.underlying3,ab,by decide,rfl,Tryz.underlying9,ab,ab⟩⟩
def i32:TI:=⟨1,24,false,TypeDesc.slice 77,[.sl true 0 0 (λ_=>[])],[]⟩
theorem TT:aC Tryz.prog 32 i32:=⟨Tryz.underlying32,rfl,⟨Tryz.t32,_,av Tryz.type32,rfl,rfl,rfl,rfl,⟨#[],rfl⟩,rfl⟩,λh=>absurd rfl h⟩
def i34:TI:=⟨12,216,true,TypeDesc.struct #[{ name:= "Key",type:=3,offset:=0,embedded:=false,tag:= "",pkgPath:= "",byteOffset:=0 },{ name:= "Sweep",type:=29,offset:=1,embedded:=false,tag:= "",pkgPath:= "",byteOffset:=8 },{ name:= "Lie",type:=31,offset:=6,embedded:=false,tag:= "",pkgPath:= "",byteOffset:=128 },{ name:= "Keeps",type:=32,offset:=10,embedded:=false,tag:= "",pkgPath:= "",byteOffset:=168 },{ name:= "Found",type:=27,offset:=11,embedded:=false,tag:= "",pkgPath:= "",byteOffset:=192 }],[.int .i64 0,.sl true 0 0 (λ_=>[]),.sl true 0 0 (λ_=>[]),.sl true 0 0 (λ_=>[]),.sl true 0 0 (λ_=>[]),.sl true 0 0 (λ_=>[]),.int .i64 0,.int .i64 0,.int .i64 0,.str [],.sl true 0 0 (λ_=>[]),.sl true 0 0 (λ_=>[])],[]⟩
theorem TU:aC Tryz.prog 34 i34:=⟨Tryz.underlying34,rfl,⟨Tryz.t34,_,av Tryz.type34,rfl,rfl,rfl,rfl,⟨_,rfl⟩,rfl⟩,λh=>absurd rfl h⟩
def i37:TI:=⟨1,24,false,TypeDesc.slice 73,[.sl true 0 0 (λ_=>[])],[]⟩
theorem TV:aC Tryz.prog 37 i37:=⟨Tryz.underlying37,rfl,⟨Tryz.t37,_,av Tryz.type37,rfl,rfl,rfl,rfl,⟨#[],rfl⟩,rfl⟩,λh=>absurd rfl h⟩
def i38:TI:=⟨1,24,false,TypeDesc.slice 83,[.sl true 0 0 (λ_=>[])],[]⟩
theorem TX:aC Tryz.prog 38 i38:=⟨Tryz.underlying38,rfl,⟨Tryz.t38,_,av Tryz.type38,rfl,rfl,rfl,rfl,⟨#[],rfl⟩,rfl⟩,λh=>absurd rfl h⟩
def i39:TI:=⟨1,24,false,TypeDesc.slice 129,[.sl true 0 0 (λ_=>[])],[]⟩
theorem TY:aC Tryz.prog 39 i39:=⟨Tryz.underlying39,rfl,⟨Tryz.t39,_,av Tryz.type39,rfl,rfl,rfl,rfl,⟨#[],rfl⟩,rfl⟩,λh=>absurd rfl h⟩
def i41:TI:=⟨3,72,true,TypeDesc.struct #[{ name:= "Packs",type:=37,offset:=0,embedded:=false,tag:= "",pkgPath:= "",byteOffset:=0 },{ name:= "Snaps",type:=38,offset:=1,embedded:=false,tag:= "",pkgPath:= "",byteOffset:=24 },{ name:= "Log",type:=39,offset:=2,embedded:=false,tag:= "",pkgPath:= "",byteOffset:=48 }],[.sl true 0 0 (λ_=>[]),.sl true 0 0 (λ_=>[]),.sl true 0 0 (λ_=>[])],[]⟩
theorem TZ:aC Tryz.prog 41 i41:=⟨Tryz.underlying41,rfl,⟨Tryz.t41,_,av Tryz.type41,rfl,rfl,rfl,rfl,⟨_,rfl⟩,rfl⟩,λh=>absurd rfl h⟩
def i43:TI:=⟨5,120,true,TypeDesc.struct #[{ name:= "Store",type:=41,offset:=0,embedded:=false,tag:= "",pkgPath:= "",byteOffset:=0 },{ name:= "Marks",type:=27,offset:=3,embedded:=false,tag:= "",pkgPath:= "",byteOffset:=72 },{ name:= "Left",type:=27,offset:=4,embedded:=false,tag:= "",pkgPath:= "",byteOffset:=96 }],[.sl true 0 0 (λ_=>[]),.sl true 0 0 (λ_=>[]),.sl true 0 0 (λ_=>[]),.sl true 0 0 (λ_=>[]),.sl true 0 0 (λ_=>[])],[]⟩
theorem T1:aC Tryz.prog 43 i43:=⟨Tryz.underlying43,rfl,⟨Tryz.t43,_,av Tryz.type43,rfl,rfl,rfl,rfl,⟨_,rfl⟩,rfl⟩,λh=>absurd rfl h⟩
def i44:TI:=⟨4,40,true,TypeDesc.struct #[{ name:= "Kind",type:=3,offset:=0,embedded:=false,tag:= "",pkgPath:= "",byteOffset:=0 },{ name:= "N",type:=3,offset:=1,embedded:=false,tag:= "",pkgPath:= "",byteOffset:=8 },{ name:= "M",type:=3,offset:=2,embedded:=false,tag:= "",pkgPath:= "",byteOffset:=16 },{ name:= "Body",type:=9,offset:=3,embedded:=false,tag:= "",pkgPath:= "",byteOffset:=24 }],[.int .i64 0,.int .i64 0,.int .i64 0,.str []],[TypeDesc.int IntKind.i64,TypeDesc.int IntKind.i64,TypeDesc.int IntKind.i64,TypeDesc.string]⟩
theorem T2:aC Tryz.prog 44 i44:=⟨Tryz.underlying44,rfl,⟨Tryz.t44,_,av Tryz.type44,rfl,rfl,rfl,rfl,⟨_,rfl⟩,rfl⟩,λ_=>er (fs:=[{ name:= "Kind",type:=3,offset:=0,embedded:=false,tag:= "",pkgPath:= "",byteOffset:=0 },{ name:= "N",type:=3,offset:=1,embedded:=false,tag:= "",pkgPath:= "",byteOffset:=8 },{ name:= "M",type:=3,offset:=2,embedded:=false,tag:= "",pkgPath:= "",byteOffset:=16 },{ name:= "Body",type:=9,offset:=3,embedded:=false,tag:= "",pkgPath:= "",byteOffset:=24 }]) Tryz.underlying44 (by decide +kernel) Tryz.eqGuardType44 ⟨by decide,rfl,Tryz.underlying3,ab,by decide,rfl,Tryz.underlying3,ab,by decide,rfl,Tryz.underlying3,ab,by decide,rfl,Tryz.underlying9,ab,ab⟩⟩
def i45:TI:=⟨1,24,false,TypeDesc.slice 57,[.sl true 0 0 (λ_=>[])],[]⟩
theorem T3:aC Tryz.prog 45 i45:=⟨Tryz.underlying45,rfl,⟨Tryz.t45,_,av Tryz.type45,rfl,rfl,rfl,rfl,⟨#[],rfl⟩,rfl⟩,λh=>absurd rfl h⟩
def i47:TI:=⟨12,216,true,TypeDesc.struct #[{ name:= "Key",type:=3,offset:=0,embedded:=false,tag:= "",pkgPath:= "",byteOffset:=0 },{ name:= "Sweep",type:=43,offset:=1,embedded:=false,tag:= "",pkgPath:= "",byteOffset:=8 },{ name:= "Lie",type:=44,offset:=6,embedded:=false,tag:= "",pkgPath:= "",byteOffset:=128 },{ name:= "Keeps",type:=45,offset:=10,embedded:=false,tag:= "",pkgPath:= "",byteOffset:=168 },{ name:= "Found",type:=27,offset:=11,embedded:=false,tag:= "",pkgPath:= "",byteOffset:=192 }],[.int .i64 0,.sl true 0 0 (λ_=>[]),.sl true 0 0 (λ_=>[]),.sl true 0 0 (λ_=>[]),.sl true 0 0 (λ_=>[]),.sl true 0 0 (λ_=>[]),.int .i64 0,.int .i64 0,.int .i64 0,.str [],.sl true 0 0 (λ_=>[]),.sl true 0 0 (λ_=>[])],[]⟩
theorem T4:aC Tryz.prog 47 i47:=⟨Tryz.underlying47,rfl,⟨Tryz.t47,_,av Tryz.type47,rfl,rfl,rfl,rfl,⟨_,rfl⟩,rfl⟩,λh=>absurd rfl h⟩
def i57:TI:=⟨2,16,true,TypeDesc.struct #[{ name:= "Long",type:=3,offset:=0,embedded:=false,tag:= "",pkgPath:= "",byteOffset:=0 },{ name:= "Sum",type:=3,offset:=1,embedded:=false,tag:= "",pkgPath:= "",byteOffset:=8 }],[.int .i64 0,.int .i64 0],[TypeDesc.int IntKind.i64,TypeDesc.int IntKind.i64]⟩
theorem T5:aC Tryz.prog 57 i57:=⟨Tryz.underlying57,rfl,⟨Tryz.t57,_,av Tryz.type57,rfl,rfl,rfl,rfl,⟨_,rfl⟩,rfl⟩,λ_=>er (fs:=[{ name:= "Long",type:=3,offset:=0,embedded:=false,tag:= "",pkgPath:= "",byteOffset:=0 },{ name:= "Sum",type:=3,offset:=1,embedded:=false,tag:= "",pkgPath:= "",byteOffset:=8 }]) Tryz.underlying57 (by decide +kernel) Tryz.eqGuardType57 ⟨by decide,rfl,Tryz.underlying3,ab,by decide,rfl,Tryz.underlying3,ab,ab⟩⟩
def i71:TI:=⟨1,24,false,TypeDesc.slice 98,[.sl true 0 0 (λ_=>[])],[]⟩
theorem T6:aC Tryz.prog 71 i71:=⟨Tryz.underlying71,rfl,⟨Tryz.t71,_,av Tryz.type71,rfl,rfl,rfl,rfl,⟨#[],rfl⟩,rfl⟩,λh=>absurd rfl h⟩
def i73:TI:=⟨2,32,true,TypeDesc.struct #[{ name:= "No",type:=3,offset:=0,embedded:=false,tag:= "",pkgPath:= "",byteOffset:=0 },{ name:= "Item",type:=71,offset:=1,embedded:=false,tag:= "",pkgPath:= "",byteOffset:=8 }],[.int .i64 0,.sl true 0 0 (λ_=>[])],[]⟩
theorem T7:aC Tryz.prog 73 i73:=⟨Tryz.underlying73,rfl,⟨Tryz.t73,_,av Tryz.type73,rfl,rfl,rfl,rfl,⟨_,rfl⟩,rfl⟩,λh=>absurd rfl h⟩
def i77:TI:=⟨2,16,true,TypeDesc.struct #[{ name:= "Long",type:=3,offset:=0,embedded:=false,tag:= "",pkgPath:= "",byteOffset:=0 },{ name:= "Sum",type:=3,offset:=1,embedded:=false,tag:= "",pkgPath:= "",byteOffset:=8 }],[.int .i64 0,.int .i64 0],[TypeDesc.int IntKind.i64,TypeDesc.int IntKind.i64]⟩
theorem T8:aC Tryz.prog 77 i77:=⟨Tryz.underlying77,rfl,⟨Tryz.t77,_,av Tryz.type77,rfl,rfl,rfl,rfl,⟨_,rfl⟩,rfl⟩,λ_=>er (fs:=[{ name:= "Long",type:=3,offset:=0,embedded:=false,tag:= "",pkgPath:= "",byteOffset:=0 },{ name:= "Sum",type:=3,offset:=1,embedded:=false,tag:= "",pkgPath:= "",byteOffset:=8 }]) Tryz.underlying77 (by decide +kernel) Tryz.eqGuardType77 ⟨by decide,rfl,Tryz.underlying3,ab,by decide,rfl,Tryz.underlying3,ab,ab⟩⟩
def i81:TI:=⟨1,24,false,TypeDesc.slice 122,[.sl true 0 0 (λ_=>[])],[]⟩
theorem T9:aC Tryz.prog 81 i81:=⟨Tryz.underlying81,rfl,⟨Tryz.t81,_,av Tryz.type81,rfl,rfl,rfl,rfl,⟨#[],rfl⟩,rfl⟩,λh=>absurd rfl h⟩
def i83:TI:=⟨2,32,true,TypeDesc.struct #[{ name:= "No",type:=3,offset:=0,embedded:=false,tag:= "",pkgPath:= "",byteOffset:=0 },{ name:= "All",type:=81,offset:=1,embedded:=false,tag:= "",pkgPath:= "",byteOffset:=8 }],[.int .i64 0,.sl true 0 0 (λ_=>[])],[]⟩
theorem Ua:aC Tryz.prog 83 i83:=⟨Tryz.underlying83,rfl,⟨Tryz.t83,_,av Tryz.type83,rfl,rfl,rfl,rfl,⟨_,rfl⟩,rfl⟩,λh=>absurd rfl h⟩
def i98:TI:=⟨2,24,true,TypeDesc.struct #[{ name:= "Name",type:=3,offset:=0,embedded:=false,tag:= "",pkgPath:= "",byteOffset:=0 },{ name:= "Body",type:=9,offset:=1,embedded:=false,tag:= "",pkgPath:= "",byteOffset:=8 }],[.int .i64 0,.str []],[TypeDesc.int IntKind.i64,TypeDesc.string]⟩
theorem Ub:aC Tryz.prog 98 i98:=⟨Tryz.underlying98,rfl,⟨Tryz.t98,_,av Tryz.type98,rfl,rfl,rfl,rfl,⟨_,rfl⟩,rfl⟩,λ_=>er (fs:=[{ name:= "Name",type:=3,offset:=0,embedded:=false,tag:= "",pkgPath:= "",byteOffset:=0 },{ name:= "Body",type:=9,offset:=1,embedded:=false,tag:= "",pkgPath:= "",byteOffset:=8 }]) Tryz.underlying98 (by decide +kernel) Tryz.eqGuardType98 ⟨by decide,rfl,Tryz.underlying3,ab,by decide,rfl,Tryz.underlying9,ab,ab⟩⟩
def i104:TI:=⟨1,24,false,TypeDesc.slice 73,[.sl true 0 0 (λ_=>[])],[]⟩
theorem Px:aC Tryz.prog 104 i104:=⟨Tryz.underlying104,rfl,⟨Tryz.t104,_,av Tryz.type104,rfl,rfl,rfl,rfl,⟨#[],rfl⟩,rfl⟩,λh=>absurd rfl h⟩
def i106:TI:=⟨3,72,true,TypeDesc.struct #[{ name:= "packed",type:=104,offset:=0,embedded:=true,tag:= "",pkgPath:= "loop.example/depositary/impl",byteOffset:=0 },{ name:= "snaps",type:=38,offset:=1,embedded:=false,tag:= "",pkgPath:= "loop.example/depositary/impl",byteOffset:=24 },{ name:= "log",type:=39,offset:=2,embedded:=false,tag:= "",pkgPath:= "loop.example/depositary/impl",byteOffset:=48 }],[.sl true 0 0 (λ_=>[]),.sl true 0 0 (λ_=>[]),.sl true 0 0 (λ_=>[])],[]⟩
theorem Py:aC Tryz.prog 106 i106:=⟨Tryz.underlying106,rfl,⟨Tryz.t106,_,av Tryz.type106,rfl,rfl,rfl,rfl,⟨_,rfl⟩,rfl⟩,λh=>absurd rfl h⟩
def i114:TI:=⟨1,24,false,TypeDesc.slice 163,[.sl true 0 0 (λ_=>[])],[]⟩
theorem Pz:aC Tryz.prog 114 i114:=⟨Tryz.underlying114,rfl,⟨Tryz.t114,_,av Tryz.type114,rfl,rfl,rfl,rfl,⟨#[],rfl⟩,rfl⟩,λh=>absurd rfl h⟩
def i116:TI:=⟨2,32,true,TypeDesc.struct #[{ name:= "No",type:=3,offset:=0,embedded:=false,tag:= "",pkgPath:= "",byteOffset:=0 },{ name:= "Item",type:=114,offset:=1,embedded:=false,tag:= "",pkgPath:= "",byteOffset:=8 }],[.int .i64 0,.sl true 0 0 (λ_=>[])],[]⟩
theorem PC:aC Tryz.prog 116 i116:=⟨Tryz.underlying116,rfl,⟨Tryz.t116,_,av Tryz.type116,rfl,rfl,rfl,rfl,⟨_,rfl⟩,rfl⟩,λh=>absurd rfl h⟩
def i118:TI:=⟨1,24,false,TypeDesc.slice 165,[.sl true 0 0 (λ_=>[])],[]⟩
theorem PD:aC Tryz.prog 118 i118:=⟨Tryz.underlying118,rfl,⟨Tryz.t118,_,av Tryz.type118,rfl,rfl,rfl,rfl,⟨#[],rfl⟩,rfl⟩,λh=>absurd rfl h⟩
def i120:TI:=⟨2,32,true,TypeDesc.struct #[{ name:= "No",type:=3,offset:=0,embedded:=false,tag:= "",pkgPath:= "",byteOffset:=0 },{ name:= "All",type:=118,offset:=1,embedded:=false,tag:= "",pkgPath:= "",byteOffset:=8 }],[.int .i64 0,.sl true 0 0 (λ_=>[])],[]⟩
theorem PE:aC Tryz.prog 120 i120:=⟨Tryz.underlying120,rfl,⟨Tryz.t120,_,av Tryz.type120,rfl,rfl,rfl,rfl,⟨_,rfl⟩,rfl⟩,λh=>absurd rfl h⟩
def i122:TI:=⟨2,40,true,TypeDesc.struct #[{ name:= "Path",type:=9,offset:=0,embedded:=false,tag:= "",pkgPath:= "",byteOffset:=0 },{ name:= "Names",type:=27,offset:=1,embedded:=false,tag:= "",pkgPath:= "",byteOffset:=16 }],[.str [],.sl true 0 0 (λ_=>[])],[]⟩
theorem PF:aC Tryz.prog 122 i122:=⟨Tryz.underlying122,rfl,⟨Tryz.t122,_,av Tryz.type122,rfl,rfl,rfl,rfl,⟨_,rfl⟩,rfl⟩,λh=>absurd rfl h⟩
def i124:TI:=⟨1,24,false,TypeDesc.slice 148,[.sl true 0 0 (λ_=>[])],[]⟩
theorem PG:aC Tryz.prog 124 i124:=⟨Tryz.underlying124,rfl,⟨Tryz.t124,_,av Tryz.type124,rfl,rfl,rfl,rfl,⟨#[],rfl⟩,rfl⟩,λh=>absurd rfl h⟩
def i129:TI:=⟨2,16,true,TypeDesc.struct #[{ name:= "By",type:=3,offset:=0,embedded:=false,tag:= "",pkgPath:= "",byteOffset:=0 },{ name:= "Snap",type:=3,offset:=1,embedded:=false,tag:= "",pkgPath:= "",byteOffset:=8 }],[.int .i64 0,.int .i64 0],[TypeDesc.int IntKind.i64,TypeDesc.int IntKind.i64]⟩
theorem PH:aC Tryz.prog 129 i129:=⟨Tryz.underlying129,rfl,⟨Tryz.t129,_,av Tryz.type129,rfl,rfl,rfl,rfl,⟨_,rfl⟩,rfl⟩,λ_=>er (fs:=[{ name:= "By",type:=3,offset:=0,embedded:=false,tag:= "",pkgPath:= "",byteOffset:=0 },{ name:= "Snap",type:=3,offset:=1,embedded:=false,tag:= "",pkgPath:= "",byteOffset:=8 }]) Tryz.underlying129 (by decide +kernel) Tryz.eqGuardType129 ⟨by decide,rfl,Tryz.underlying3,ab,by decide,rfl,Tryz.underlying3,ab,ab⟩⟩
def i133:TI:=⟨2,16,true,TypeDesc.struct #[{ name:= "By",type:=3,offset:=0,embedded:=false,tag:= "",pkgPath:= "",byteOffset:=0 },{ name:= "Snap",type:=3,offset:=1,embedded:=false,tag:= "",pkgPath:= "",byteOffset:=8 }],[.int .i64 0,.int .i64 0],[TypeDesc.int IntKind.i64,TypeDesc.int IntKind.i64]⟩
theorem PI:aC Tryz.prog 133 i133:=⟨Tryz.underlying133,rfl,⟨Tryz.t133,_,av Tryz.type133,rfl,rfl,rfl,rfl,⟨_,rfl⟩,rfl⟩,λ_=>er (fs:=[{ name:= "By",type:=3,offset:=0,embedded:=false,tag:= "",pkgPath:= "",byteOffset:=0 },{ name:= "Snap",type:=3,offset:=1,embedded:=false,tag:= "",pkgPath:= "",byteOffset:=8 }]) Tryz.underlying133 (by decide +kernel) Tryz.eqGuardType133 ⟨by decide,rfl,Tryz.underlying3,ab,by decide,rfl,Tryz.underlying3,ab,ab⟩⟩
def i144:TI:=⟨1,24,false,TypeDesc.slice 9,[.sl true 0 0 (λ_=>[])],[]⟩
theorem PK:aC Tryz.prog 144 i144:=⟨Tryz.underlying144,rfl,⟨Tryz.t144,_,av Tryz.type144,rfl,rfl,rfl,rfl,⟨#[],rfl⟩,rfl⟩,λh=>absurd rfl h⟩
def i148:TI:=⟨2,32,true,TypeDesc.struct #[{ name:= "Path",type:=9,offset:=0,embedded:=false,tag:= "",pkgPath:= "",byteOffset:=0 },{ name:= "Text",type:=9,offset:=1,embedded:=false,tag:= "",pkgPath:= "",byteOffset:=16 }],[.str [],.str []],[TypeDesc.string,TypeDesc.string]⟩
theorem PL:aC Tryz.prog 148 i148:=⟨Tryz.underlying148,rfl,⟨Tryz.t148,_,av Tryz.type148,rfl,rfl,rfl,rfl,⟨_,rfl⟩,rfl⟩,λ_=>er (fs:=[{ name:= "Path",type:=9,offset:=0,embedded:=false,tag:= "",pkgPath:= "",byteOffset:=0 },{ name:= "Text",type:=9,offset:=1,embedded:=false,tag:= "",pkgPath:= "",byteOffset:=16 }]) Tryz.underlying148 (by decide +kernel) Tryz.eqGuardType148 ⟨by decide,rfl,Tryz.underlying9,ab,by decide,rfl,Tryz.underlying9,ab,ab⟩⟩
def i156:TI:=⟨1,8,false,TypeDesc.int IntKind.u64,[.int .u64 0],[]⟩
theorem PM:aC Tryz.prog 156 i156:=⟨Tryz.underlying156,rfl,⟨Tryz.t156,_,av Tryz.type156,rfl,rfl,rfl,rfl,⟨#[],rfl⟩,rfl⟩,λh=>absurd rfl h⟩
def i163:TI:=⟨2,24,true,TypeDesc.struct #[{ name:= "Name",type:=3,offset:=0,embedded:=false,tag:= "",pkgPath:= "",byteOffset:=0 },{ name:= "Body",type:=9,offset:=1,embedded:=false,tag:= "",pkgPath:= "",byteOffset:=8 }],[.int .i64 0,.str []],[TypeDesc.int IntKind.i64,TypeDesc.string]⟩
theorem PN:aC Tryz.prog 163 i163:=⟨Tryz.underlying163,rfl,⟨Tryz.t163,_,av Tryz.type163,rfl,rfl,rfl,rfl,⟨_,rfl⟩,rfl⟩,λ_=>er (fs:=[{ name:= "Name",type:=3,offset:=0,embedded:=false,tag:= "",pkgPath:= "",byteOffset:=0 },{ name:= "Body",type:=9,offset:=1,embedded:=false,tag:= "",pkgPath:= "",byteOffset:=8 }]) Tryz.underlying163 (by decide +kernel) Tryz.eqGuardType163 ⟨by decide,rfl,Tryz.underlying3,ab,by decide,rfl,Tryz.underlying9,ab,ab⟩⟩
def i165:TI:=⟨2,40,true,TypeDesc.struct #[{ name:= "Path",type:=9,offset:=0,embedded:=false,tag:= "",pkgPath:= "",byteOffset:=0 },{ name:= "Names",type:=27,offset:=1,embedded:=false,tag:= "",pkgPath:= "",byteOffset:=16 }],[.str [],.sl true 0 0 (λ_=>[])],[]⟩
theorem PO:aC Tryz.prog 165 i165:=⟨Tryz.underlying165,rfl,⟨Tryz.t165,_,av Tryz.type165,rfl,rfl,rfl,rfl,⟨_,rfl⟩,rfl⟩,λh=>absurd rfl h⟩
def i177:TI:=⟨1,8,false,TypeDesc.int IntKind.i64,[.int .i64 0],[]⟩
theorem PQ:aC Tryz.prog 177 i177:=⟨Tryz.underlying177,rfl,⟨Tryz.t177,_,av Tryz.type177,rfl,rfl,rfl,rfl,⟨#[],rfl⟩,rfl⟩,λh=>absurd rfl h⟩
def i186:TI:=⟨1,4,false,TypeDesc.int IntKind.u32,[.int .u32 0],[]⟩
theorem PR:aC Tryz.prog 186 i186:=⟨Tryz.underlying186,rfl,⟨Tryz.t186,_,av Tryz.type186,rfl,rfl,rfl,rfl,⟨#[],rfl⟩,rfl⟩,λh=>absurd rfl h⟩
def i188:TI:=⟨1,8,false,TypeDesc.int IntKind.u64,[.int .u64 0],[]⟩
theorem PS:aC Tryz.prog 188 i188:=⟨Tryz.underlying188,rfl,⟨Tryz.t188,_,av Tryz.type188,rfl,rfl,rfl,rfl,⟨#[],rfl⟩,rfl⟩,λh=>absurd rfl h⟩
def i189:TI:=⟨1,24,false,TypeDesc.slice 200,[.sl true 0 0 (λ_=>[])],[]⟩
theorem PT:aC Tryz.prog 189 i189:=⟨Tryz.underlying189,rfl,⟨Tryz.t189,_,av Tryz.type189,rfl,rfl,rfl,rfl,⟨#[],rfl⟩,rfl⟩,λh=>absurd rfl h⟩
def i191:TI:=⟨0,0,true,TypeDesc.struct #[],[],[]⟩
theorem PU:aC Tryz.prog 191 i191:=⟨Tryz.underlying191,rfl,⟨Tryz.t191,_,av Tryz.type191,rfl,rfl,rfl,rfl,⟨_,rfl⟩,rfl⟩,λh=>absurd rfl h⟩
def i192:TI:=⟨0,0,true,TypeDesc.struct #[],[],[]⟩
theorem PV:aC Tryz.prog 192 i192:=⟨Tryz.underlying192,rfl,⟨Tryz.t192,_,av Tryz.type192,rfl,rfl,rfl,rfl,⟨_,rfl⟩,rfl⟩,λh=>absurd rfl h⟩
def i193:TI:=⟨0,0,true,TypeDesc.struct #[],[],[]⟩
theorem PW:aC Tryz.prog 193 i193:=⟨Tryz.underlying193,rfl,⟨Tryz.t193,_,av Tryz.type193,rfl,rfl,rfl,rfl,⟨_,rfl⟩,rfl⟩,λh=>absurd rfl h⟩
def i195:TI:=⟨1,8,true,TypeDesc.struct #[{ name:= "_",type:=192,offset:=0,embedded:=false,tag:= "",pkgPath:= "sync/atomic",byteOffset:=0 },{ name:= "_",type:=193,offset:=0,embedded:=false,tag:= "",pkgPath:= "sync/atomic",byteOffset:=0 },{ name:= "v",type:=188,offset:=0,embedded:=false,tag:= "",pkgPath:= "sync/atomic",byteOffset:=0 }],[.int .u64 0],[]⟩
theorem PX:aC Tryz.prog 195 i195:=⟨Tryz.underlying195,rfl,⟨Tryz.t195,_,av Tryz.type195,rfl,rfl,rfl,rfl,⟨_,rfl⟩,rfl⟩,λh=>absurd rfl h⟩
def i197:TI:=⟨2,16,true,TypeDesc.struct #[{ name:= "noCopy",type:=191,offset:=0,embedded:=false,tag:= "",pkgPath:= "sync",byteOffset:=0 },{ name:= "state",type:=195,offset:=0,embedded:=false,tag:= "",pkgPath:= "sync",byteOffset:=0 },{ name:= "sema",type:=186,offset:=1,embedded:=false,tag:= "",pkgPath:= "sync",byteOffset:=8 }],[.int .u64 0,.int .u32 0],[]⟩
theorem PY:aC Tryz.prog 197 i197:=⟨Tryz.underlying197,rfl,⟨Tryz.t197,_,av Tryz.type197,rfl,rfl,rfl,rfl,⟨_,rfl⟩,rfl⟩,λh=>absurd rfl h⟩
def i200:TI:=⟨2,24,true,TypeDesc.struct #[{ name:= "piece",type:=9,offset:=0,embedded:=false,tag:= "",pkgPath:= "loop.example/depositary/impl",byteOffset:=0 },{ name:= "ok",type:=4,offset:=1,embedded:=false,tag:= "",pkgPath:= "loop.example/depositary/impl",byteOffset:=16 }],[.str [],.bool false],[TypeDesc.string,TypeDesc.bool]⟩
theorem PZ:aC Tryz.prog 200 i200:=⟨Tryz.underlying200,rfl,⟨Tryz.t200,_,av Tryz.type200,rfl,rfl,rfl,rfl,⟨_,rfl⟩,rfl⟩,λ_=>er (fs:=[{ name:= "piece",type:=9,offset:=0,embedded:=false,tag:= "",pkgPath:= "loop.example/depositary/impl",byteOffset:=0 },{ name:= "ok",type:=4,offset:=1,embedded:=false,tag:= "",pkgPath:= "loop.example/depositary/impl",byteOffset:=16 }]) Tryz.underlying200 (by decide +kernel) Tryz.eqGuardType200 ⟨by decide,rfl,Tryz.underlying9,ab,by decide,rfl,Tryz.underlying4,ab,ab⟩⟩
def i210:TI:=⟨1,8,false,TypeDesc.int IntKind.i64,[.int .i64 0],[]⟩
theorem P0:aC Tryz.prog 210 i210:=⟨Tryz.underlying210,rfl,⟨Tryz.t210,_,av Tryz.type210,rfl,rfl,rfl,rfl,⟨#[],rfl⟩,rfl⟩,λh=>absurd rfl h⟩
def i212:TI:=⟨1,16,false,TypeDesc.interface #[("Error",242)],[.mf],[]⟩
theorem P1:aC Tryz.prog 212 i212:=⟨Tryz.underlying212,rfl,⟨Tryz.t212,_,av Tryz.type212,rfl,rfl,rfl,rfl,⟨#[],rfl⟩,rfl⟩,λh=>absurd rfl h⟩
def i215:TI:=⟨1,8,false,TypeDesc.int IntKind.u64,[.int .u64 0],[]⟩
theorem P2:aC Tryz.prog 215 i215:=⟨Tryz.underlying215,rfl,⟨Tryz.t215,_,av Tryz.type215,rfl,rfl,rfl,rfl,⟨#[],rfl⟩,rfl⟩,λh=>absurd rfl h⟩
def i219:TI:=⟨1,8,false,TypeDesc.pointer 3,[.ll],[]⟩
theorem P3:aC Tryz.prog 219 i219:=⟨Tryz.underlying219,rfl,⟨Tryz.t219,_,av Tryz.type219,rfl,rfl,rfl,rfl,⟨#[],rfl⟩,rfl⟩,λh=>absurd rfl h⟩
def i236:TI:=⟨1,8,false,TypeDesc.pointer 239,[.ll],[]⟩
theorem P4:aC Tryz.prog 236 i236:=⟨Tryz.underlying236,rfl,⟨Tryz.t236,_,av Tryz.type236,rfl,rfl,rfl,rfl,⟨#[],rfl⟩,rfl⟩,λh=>absurd rfl h⟩
def i237:TI:=⟨1,24,false,TypeDesc.slice 5,[.sl true 0 0 (λ_=>[])],[]⟩
theorem P5:aC Tryz.prog 237 i237:=⟨Tryz.underlying237,rfl,⟨Tryz.t237,_,av Tryz.type237,rfl,rfl,rfl,rfl,⟨#[],rfl⟩,rfl⟩,λh=>absurd rfl h⟩
def i239:TI:=⟨2,32,true,TypeDesc.struct #[{ name:= "addr",type:=236,offset:=0,embedded:=false,tag:= "",pkgPath:= "strings",byteOffset:=0 },{ name:= "buf",type:=237,offset:=1,embedded:=false,tag:= "",pkgPath:= "strings",byteOffset:=8 }],[.ll,.sl true 0 0 (λ_=>[])],[]⟩
theorem P6:aC Tryz.prog 239 i239:=⟨Tryz.underlying239,rfl,⟨Tryz.t239,_,av Tryz.type239,rfl,rfl,rfl,rfl,⟨_,rfl⟩,rfl⟩,λh=>absurd rfl h⟩
def i257:TI:=⟨1,8,false,TypeDesc.pointer 253,[.ll],[]⟩
theorem P7:aC Tryz.prog 257 i257:=⟨Tryz.underlying257,rfl,⟨Tryz.t257,_,av Tryz.type257,rfl,rfl,rfl,rfl,⟨#[],rfl⟩,rfl⟩,λh=>absurd rfl h⟩
def i291:TI:=⟨2,2,true,TypeDesc.struct #[{ name:= "lo",type:=5,offset:=0,embedded:=false,tag:= "",pkgPath:= "unicode/utf8",byteOffset:=0 },{ name:= "hi",type:=5,offset:=1,embedded:=false,tag:= "",pkgPath:= "unicode/utf8",byteOffset:=1 }],[.int .u8 0,.int .u8 0],[TypeDesc.int IntKind.u8,TypeDesc.int IntKind.u8]⟩
theorem P8:aC Tryz.prog 291 i291:=⟨Tryz.underlying291,rfl,⟨Tryz.t291,_,av Tryz.type291,rfl,rfl,rfl,rfl,⟨_,rfl⟩,rfl⟩,λ_=>er (fs:=[{ name:= "lo",type:=5,offset:=0,embedded:=false,tag:= "",pkgPath:= "unicode/utf8",byteOffset:=0 },{ name:= "hi",type:=5,offset:=1,embedded:=false,tag:= "",pkgPath:= "unicode/utf8",byteOffset:=1 }]) Tryz.underlying291 (by decide +kernel) Tryz.eqGuardType291 ⟨by decide,rfl,Tryz.underlying5,ab,by decide,rfl,Tryz.underlying5,ab,ab⟩⟩
def i292:TI:=⟨32,32,true,TypeDesc.array 16 291,[.int .u8 0,.int .u8 0,.int .u8 0,.int .u8 0,.int .u8 0,.int .u8 0,.int .u8 0,.int .u8 0,.int .u8 0,.int .u8 0,.int .u8 0,.int .u8 0,.int .u8 0,.int .u8 0,.int .u8 0,.int .u8 0,.int .u8 0,.int .u8 0,.int .u8 0,.int .u8 0,.int .u8 0,.int .u8 0,.int .u8 0,.int .u8 0,.int .u8 0,.int .u8 0,.int .u8 0,.int .u8 0,.int .u8 0,.int .u8 0,.int .u8 0,.int .u8 0],[]⟩
theorem P9:aC Tryz.prog 292 i292:=⟨Tryz.underlying292,rfl,⟨Tryz.t292,_,av Tryz.type292,rfl,rfl,rfl,rfl,⟨_,rfl⟩,rfl⟩,λh=>absurd rfl h⟩
def i293:TI:=⟨1,8,false,TypeDesc.pointer 313,[.ll],[]⟩
theorem Qa:aC Tryz.prog 293 i293:=⟨Tryz.underlying293,rfl,⟨Tryz.t293,_,av Tryz.type293,rfl,rfl,rfl,rfl,⟨#[],rfl⟩,rfl⟩,λh=>absurd rfl h⟩
def i296:TI:=⟨0,0,true,TypeDesc.array 0 16,[],[]⟩
theorem Qb:aC Tryz.prog 296 i296:=⟨Tryz.underlying296,rfl,⟨Tryz.t296,_,av Tryz.type296,rfl,rfl,rfl,rfl,⟨_,rfl⟩,rfl⟩,λh=>absurd rfl h⟩
def i298:TI:=⟨0,0,true,TypeDesc.struct #[{ name:= "_",type:=296,offset:=0,embedded:=false,tag:= "",pkgPath:= "runtime",byteOffset:=0 }],[],[]⟩
theorem Qc:aC Tryz.prog 298 i298:=⟨Tryz.underlying298,rfl,⟨Tryz.t298,_,av Tryz.type298,rfl,rfl,rfl,rfl,⟨_,rfl⟩,rfl⟩,λh=>absurd rfl h⟩
def i313:TI:=⟨1,16,true,TypeDesc.struct #[{ name:= "s",type:=9,offset:=0,embedded:=false,tag:= "",pkgPath:= "errors",byteOffset:=0 }],[.str []],[TypeDesc.string]⟩
theorem Qd:aC Tryz.prog 313 i313:=⟨Tryz.underlying313,rfl,⟨Tryz.t313,_,av Tryz.type313,rfl,rfl,rfl,rfl,⟨_,rfl⟩,rfl⟩,λ_=>er (fs:=[{ name:= "s",type:=9,offset:=0,embedded:=false,tag:= "",pkgPath:= "errors",byteOffset:=0 }]) Tryz.underlying313 (by decide +kernel) Tryz.eqGuardType313 ⟨by decide,rfl,Tryz.underlying9,ab,ab⟩⟩
def tt:List (Nat×TI):=[(3,i3),(4,i4),(5,i5),(9,i9),(16,i16),(20,i20),(21,i21),(22,i22),(23,i23),(24,i24),(26,i26),(27,i27),(29,i29),(31,i31),(32,i32),(34,i34),(37,i37),(38,i38),(39,i39),(41,i41),(43,i43),(44,i44),(45,i45),(47,i47),(57,i57),(71,i71),(73,i73),(77,i77),(81,i81),(83,i83),(98,i98),(104,i104),(106,i106),(114,i114),(116,i116),(118,i118),(120,i120),(122,i122),(124,i124),(129,i129),(133,i133),(144,i144),(148,i148),(156,i156),(163,i163),(165,i165),(177,i177),(186,i186),(188,i188),(189,i189),(191,i191),(192,i192),(193,i193),(195,i195),(197,i197),(200,i200),(210,i210),(212,i212),(215,i215),(219,i219),(236,i236),(237,i237),(239,i239),(257,i257),(291,i291),(292,i292),(293,i293),(296,i296),(298,i298),(313,i313)]
theorem tok:bV Tryz.prog tt:=(bV.cons g3 (bV.cons g4 (bV.cons g5 (bV.cons g9 (bV.cons TH (bV.cons TJ (bV.cons TK (bV.cons TM (bV.cons TN (bV.cons TO (bV.cons TP (bV.cons TQ (bV.cons TR (bV.cons TS (bV.cons TT (bV.cons TU (bV.cons TV (bV.cons TX (bV.cons TY (bV.cons TZ (bV.cons T1 (bV.cons T2 (bV.cons T3 (bV.cons T4 (bV.cons T5 (bV.cons T6 (bV.cons T7 (bV.cons T8 (bV.cons T9 (bV.cons Ua (bV.cons Ub (bV.cons Px (bV.cons Py (bV.cons Pz (bV.cons PC (bV.cons PD (bV.cons PE (bV.cons PF (bV.cons PG (bV.cons PH (bV.cons PI (bV.cons PK (bV.cons PL (bV.cons PM (bV.cons PN (bV.cons PO (bV.cons PQ (bV.cons PR (bV.cons PS (bV.cons PT (bV.cons PU (bV.cons PV (bV.cons PW (bV.cons PX (bV.cons PY (bV.cons PZ (bV.cons P0 (bV.cons P1 (bV.cons P2 (bV.cons P3 (bV.cons P4 (bV.cons P5 (bV.cons P6 (bV.cons P7 (bV.cons P8 (bV.cons P9 (bV.cons Qa (bV.cons Qb (bV.cons Qc (bV.cons Qd bV.nil))))))))))))))))))))))))))))))))))))))))))))))))))))))))))))))))))))))
end R1
end Go.AM
namespace Go.AM
abbrev Bs:=List UInt8
abbrev dS(s:Bs):D:=.e (.one (.c (.str s)))
abbrev dI(n:Int):D:=.e (.one (.c (.int .i64 n)))
abbrev dU(n:Int):D:=.e (.one (.c (.int .u8 n)))
abbrev dB(b:Bool):D:=.e (.one (.c (.bool b)))
theorem gJ{s:Bs}{i:Nat}:fw s i=s.getD i 0:=rfl
namespace R1
open Go.Proofs
variable {X:Cx Tryz.prog}
theorem di:Tryz.prog.follows Departure.mixedOrders=true:=rfl
theorem af{X:Cx Tryz.prog}{CT:List (Nat×bE)}(c:aM X CT)(ds:List (Nat×Bool)){N:Nat}{Qf:Post}(n:Nat){K b:List It}{φ φ':Fr}{σ σ':List ak}{a:List Prop}
  (h:AM.c7 tt CT ds N n K φ σ []=some (b,φ',σ',a)) (d:aa a) (k:AK X N Qf b .normal φ' σ'):AK X N Qf K .normal φ σ:=AK.c7 di tok c ds n h d k
theorem aE{X:Cx Tryz.prog}(ds:List (Nat×Bool)){N:Nat}{Qf:Post}(n:Nat){K b:List It}{φ φ':Fr}{σ σ':List ak}{a:List Prop}
  (h:AM.c7 tt [] ds N n K φ σ []=some (b,φ',σ',a)) (c:aa a) (k:AK X N Qf b .normal φ' σ'):AK X N Qf K .normal φ σ:=AK.c7 di tok aM.nil ds n h c k
theorem bq{X:Cx Tryz.prog}{N:Nat}{Qf:Post}{K b:List It}{φ φ':Fr}{σ σ':List ak}{a:List Prop}
  (h:AM.c7 tt [] [] N 100 K φ σ []=some (b,φ',σ',a)) (c:aa a) (k:AK X N Qf b .normal φ' σ'):AK X N Qf K .normal φ σ:=AK.c7 di tok aM.nil [] 100 h c k
theorem eQ{X:Cx Tryz.prog}{N:Nat}{Qf:Post}{K b:List It}{φ φ':Fr}{σ σ':List ak}{a:List Prop}
  (h:AM.c7 tt [] [] N 200 K φ σ []=some (b,φ',σ',a)) (c:aa a) (k:AK X N Qf b .normal φ' σ'):AK X N Qf K .normal φ σ:=AK.c7 di tok aM.nil [] 200 h c k
def ja(b:Int):Bool:=decide (97<=b)&&decide (b<=101)
theorem Ho(b:Int):Ev X 145 [dU b] [] (dB (ja b)) []:=by
 refine Ev.body Tryz.func145 rfl rfl rfl λ_=>?_
 by_cases h:97<=b
 ·refine aE [(4,true)] 100 rfl ?_ (AK.au rfl ?_) <;> simp[aa,h,ja]
 ·refine aE [(4,false)] 100 rfl ?_ (AK.au rfl ?_) <;> simp[aa,h,ja]
def cT(b:UInt8):Bool:=decide (97<=b.toNat)&&decide (b.toNat<=122)
def bl(s:Bs):Bool:=s.all cT
theorem nH{s:Bs}(h:∀ j,j<s.length->cT (s.getD j 0)=true):bl s=true:=by
 simp only[bl,List.all_eq_true];intro b a;obtain⟨i,hi,rfl⟩:=dV a;have:=h i hi;simpa[List.getD_eq_getElem?_getD,aj hi] using this
theorem gR{s:Bs}{j:Nat}(h:j<s.length)(a:cT (s.getD j 0)=false):bl s=false:=by
 cases b:bl s with
 |false=>rfl
 |true =>
  simp only[bl,List.all_eq_true] at b;have:=b _ (hX h);simp[List.getD_eq_getElem?_getD,aj h] at a;rw[a] at this;cases this
theorem yK(s:Bs):Ev X 143 [dS s] [] (dB (bl s)) []:=by
 refine Ev.body Tryz.func143 rfl rfl rfl λe=>?_
 have k:=e.str 0 rfl;refine bq rfl ab ?_;refine AK.qv (λi=>i<=s.length/\∀ j,j<i->cT (s.getD j 0)=true) (λi:Nat=>[(0,dS s),(3,dI i)]) (λ_=>[]) (λi=>s.length-i) 0 rfl (by simp[aa.cat,aa]) ⟨by omega,by omega⟩ rfl ?_
 rintro i ⟨hi,a⟩
 by_cases h:i<s.length
 ·generalize c:s.getD i 0=b
  by_cases g:b.toNat<97
  ·refine aE [(7,true),(13,true)] 100 rfl ?_ (AK.dN (aR.zero rfl ?_))
   ·simp only[aa,gJ,aD,c];omega
   ·rw[aa,gR h (by rw[c];simp only[cT,mU,aY];omega)]
  ·by_cases f:b.toNat>122
   ·refine aE [(7,true),(13,false),(18,true)] 100 rfl ?_ (AK.dN (aR.zero rfl ?_))
    ·simp only[aa,gJ,aD,aY,c];omega
    ·rw[aa,gR h (by rw[c];simp only[cT,mU,aY];omega)]
   ·refine aE [(7,true),(13,false),(18,false)] 100 rfl ?_ (AK.again (i+1) rfl ?_ ?_ ?_ rfl)
    ·simp only[aa,gJ,aD,aY,c,aB];omega
    ·simp[aa.cat,aa]
    ·refine⟨by omega,λj d=>?_⟩
     rcases dC.1 d with d|rfl
     ·exact a j d
     ·rw[c];simp only[cT,bA,aD];omega
    ·omega
 ·refine aE [(7,false)] 100 rfl (by simp[aa];omega) (AK.leave rfl rfl ?_)
  refine bq rfl ab (AK.au rfl ?_);rw[aa,nH (λj d=>a j (by omega))]
end R1
theorem Ev.args{P:Program}{X:Cx P}{f:FuncId}{args Iw:List D}{σ σ':List ak}{res:D}(h:Ev X f Iw σ res σ')(hl:∀ s vs,bX σ s vs args->bX σ s vs Iw):Ev X f args σ res σ' :=
 ⟨h.1,λs vs hr hh=>h.2 s vs (hl s vs hr) hh⟩
def jz(a:Nat):D->Option (Nat×(Nat->List C))
 |.e (.one (.c (.sl _ k n es)))=>match Nat.beq k a with
  |true=>some (n,es)
  |false=>match Nat.beq n 0 with
   |true=>some (0,λ_=>[])
   |false=>none
 |_=>none
theorem EM{i:Nat}{d:D}{n:Nat}{es:Nat->List C}(h:jz i d=some (n,es)){σ:List ak}{s:St}{v:Value}(r:cd σ s v d):Rd s.M v (.sl false i n es):=by
 unfold jz at h;split at h
 ·rename_i t k u es'
  split at h
  ·rename_i g
   have e:=bn g;subst e;cases h;exact(ei r).loose
  ·split at h
   ·rename_i l
    have e:=bn l;subst e;cases h;have r':=ei r;cases r' with
    |sl b off f a j o g p q m=>exact Rd.sl b off f a j (by simp) (by omega) (by omega) (by omega) (by omega)
   ·cases h
 ·cases h
def Cj{α:Type}(enc:α->List C)(bx:α)(l:List α):Nat->List C:=λi=>enc (l.getD i bx)
structure jd (α:Type) where
 k:Nat
 enc:α->List C
 dec:List C->α
 bx:α
 inv:∀ a,dec (enc a)=a
 len:∀ a,(enc a).length=k
namespace jd
variable {α:Type}(c:jd α)
def list(n:Nat)(es:Nat->List C):List α:=(List.range n).map λi=>c.dec (es i)
def fn(l:List α):Nat->List C:=Cj c.enc c.bx l
def fits(n:Nat)(es:Nat->List C):Prop:=∀ i,i<n->es i=c.enc (c.dec (es i))
def sl(l:List α):D:=.e (.one (.c (.sl false c.k l.length (c.fn l))))
theorem wM{n:Nat}{es:Nat->List C}:(c.list n es).length=n:=by simp[list]
theorem list_fn(l:List α):c.list l.length (c.fn l)=l:=by
 apply pv
 ·simp[list]
 ·intro i b a;simp[list,fn,Cj,List.getD_eq_getElem?_getD,aj a,c.inv]
theorem ae(l:List α){n:Nat}:c.fits n (c.fn l):=λi _=>by simp[fn,Cj,c.inv]
theorem Hp{n:Nat}{es:Nat->List C}(h:c.fits n es):aw n es (c.fn (c.list n es)):=by
 intro i hi;rw[h i hi];simp[fn,Cj,list,List.getD_eq_getElem?_getD,hi]
theorem iW{d:D}{n:Nat}{es:Nat->List C}(h:jz c.k d=some (n,es))(b:c.fits n es){σ:List ak}{s:St}{v:Value}(r:cd σ s v d):cd σ s v (c.sl (c.list n es)):=by
 have a:=EM h r;have e:=a.xw (c.Hp b);show Rd s.M v (.sl false c.k (c.list n es).length _);rw[c.wM];exact e
end jd
def bc(s:Bs)(i:Nat):Int:=(s.getD i 0).toNat
theorem bj(s:Bs) (j:Int):((fw s j).toNat:Int)=bc s j.toNat:=rfl
abbrev dq:=Bs×Bs
def vV(cs:List C)(j:Nat):Bs:=match eb j cs with|some (.str s)=>s|_=>[]
def sI(cs:List C)(j:Nat):Int:=match eb j cs with|some (.int _ s)=>s|_=>0
def cF:jd dq:={ k:=2,enc:=λf=>[.str f.1,.str f.2],dec:=λcs=>(vV cs 0,vV cs 1),bx:=([],[]),inv:=λ_=>rfl,len:=λ_=>rfl }
namespace R1
open Go.Proofs
variable {X:Cx Tryz.prog}
def Ki:bE:=λargs σ=>match args,σ with
 |[.e (.one (.c (.int .u8 b)))],[]=>some (dB (ja b),[],[])
 |_,_=>none
theorem t145:bO X 145 Ki:=by
 intro args σ res σ' obs h _;unfold Ki at h;split at h
 ·cases h;exact Ho _
 ·cases h
def Hc:bE:=λargs σ=>match args,σ with
 |[.e (.one (.c (.str b)))],[]=>some (dB (bl b),[],[])
 |_,_=>none
theorem t143:bO X 143 Hc:=by
 intro args σ res σ' obs h _;unfold Hc at h;split at h
 ·cases h;exact yK _
 ·cases h
def Rj:List (Nat×bE):=[(145,Ki),(143,Hc)]
theorem wN:aM X Rj:=aM.cons t145 (aM.cons t143 aM.nil)
def cp(s:Bs):Bool:=if s.length=1 then ja (bc s 0) else if s.length=3 then ja (bc s 0)&&(bc s 1==47)&&ja (bc s 2) else false
theorem BJ(s:Bs):Ev X 109 [dS s] [] (dB (cp s)) []:=by
 refine Ev.body Tryz.func109 rfl rfl rfl λf=>?_
 by_cases e:s.length=1
 ·refine af wN [(6,true)] 100 rfl ?_ (AK.au rfl ?_)
  ·simp[aa,e]
  ·simp[aa,cp,e,bj]
 ·by_cases a:s.length=3
  ·by_cases b:ja (bc s 0)=true
   ·by_cases d:bc s 1=47
    ·refine af wN [(6,false),(11,true),(14,true),(18,true)] 100 rfl ?_ (AK.au rfl ?_)
     ·simp[aa,a,bj,b,d]
     ·simp[aa,cp,a,b,d,bj]
    ·refine af wN [(6,false),(11,true),(14,true),(18,false)] 100 rfl ?_ (AK.au rfl ?_)
     ·simp[aa,a,bj,b,d]
     ·simp[aa,cp,a,b,d]
   ·refine af wN [(6,false),(11,true),(14,false)] 100 rfl ?_ (AK.au rfl ?_)
    ·simp[aa,a,bj,b]
    ·simp[aa,cp,a,b]
  ·refine af wN [(6,false),(11,false)] 100 rfl ?_ (AK.au rfl ?_)
   ·simp[aa];omega
   ·simp[aa,cp,e,a]
def db(s:Bs):Bool:=decide (s.length<=40)&&bl s
theorem BK(s:Bs):Ev X 106 [dS s] [] (dB (db s)) []:=by
 refine Ev.body Tryz.func106 rfl rfl rfl λb=>?_
 by_cases a:s.length<=40
 ·refine af wN [(5,true)] 100 rfl ?_ (AK.au rfl ?_)
  ·simp[aa];omega
  ·simp[aa,db,a]
 ·refine af wN [(5,false)] 100 rfl ?_ (AK.au rfl ?_)
  ·simp[aa];omega
  ·simp[aa,db,a]
def clash(a b:Bs):Bool:=(a.length != b.length)&&(bc a 0==bc b 0)
theorem EN(a b:Bs)(g:a≠[])(h:b≠[]):Ev X 110 [dS a,dS b] [] (dB (clash a b)) []:=by
 have f:=List.length_pos_iff.2 g;have d:=List.length_pos_iff.2 h;refine Ev.body Tryz.func110 rfl rfl rfl λi=>?_
 by_cases e:a.length=b.length
 ·refine aE [(9,false)] 100 rfl ?_ (AK.au rfl ?_)
  ·simp[aa,e]
  ·simp[aa,clash,e]
 ·refine aE [(9,true)] 100 rfl ?_ (AK.au rfl ?_)
  ·simp[aa,f,d];omega
  ·simp[aa,clash,e,bj]
end R1
end Go.AM
namespace Go.AM.R1
open Go.Proofs
variable {X:Cx Tryz.prog}
def Kj:bE:=λargs σ=>match args,σ with
 |[.e (.one (.c (.str b)))],[]=>some (dB (cp b),[],[])
 |_,_=>none
theorem t109:bO X 109 Kj:=by
 intro args σ res σ' obs h _;unfold Kj at h;split at h
 ·cases h;exact BJ _
 ·cases h
def Hj:bE:=λargs σ=>match args,σ with
 |[.e (.one (.c (.str b)))],[]=>some (dB (db b),[],[])
 |_,_=>none
theorem t106:bO X 106 Hj:=by
 intro args σ res σ' obs h _;unfold Hj at h;split at h
 ·cases h;exact BK _
 ·cases h
def Kk:bE:=λargs σ=>match args,σ with
 |[.e (.one (.c (.str a))),.e (.one (.c (.str b)))],[]=>some (dB (clash a b),[],[a≠[],b≠[]])
 |_,_=>none
theorem t110:bO X 110 Kk:=by
 intro args σ res σ' obs h a;unfold Kk at h;split at h
 ·cases h;exact EN _ _ a.1 a.2
 ·cases h
def Rl:List (Nat×bE):=(109,Kj)::(106,Hj)::(110,Kk)::Rj
theorem ov:aM X Rl:=aM.cons t109 (aM.cons t106 (aM.cons t110 wN))
def dY(t:List dq)(i:Nat):Bs:=(t.getD i ([],[])).1
def Ha(t:List dq)(i:Nat):Bs:=(t.getD i ([],[])).2
theorem gz(t:List dq)(i:Nat):(t.getD i cF.bx).1=dY t i:=rfl
theorem lL(t:List dq)(i:Nat):(t.getD i cF.bx).2=Ha t i:=rfl
def fx(t:List dq)(i:Nat):Bool:=cp (dY t i)&&db (Ha t i)&&(i==0||Op.bytesLess (dY t (i-1)) (dY t i))&&(List.range i).all λj=>!clash (dY t j) (dY t i)
def iY(t:List dq):Bool:=(List.range t.length).all (fx t)&&decide (t.length<=6)
theorem ba{n:Nat}{p:Nat->Bool}:(List.range n).all p=true↔∀ i,i<n->p i=true:=by simp[List.all_eq_true]
theorem mb{s:Bs}(h:cp s=true):s≠[]:=by rintro rfl;simp[cp] at h
theorem iw{t:List dq}{i:Nat}(hi:i<t.length)(h:fx t i=false):iY t=false:=by
 cases a:iY t with
 |false=>rfl
 |true =>
  simp only[iY,bA] at a;rw[ba.1 a.1 i hi] at h;cases h
theorem BL(t:List dq):Ev X 88 [cF.sl t] [] (dB (iY t)) []:=by
 refine Ev.body Tryz.func88 rfl rfl rfl λx=>?_
 have w:=x.sl 0 rfl;refine af ov [] 100 rfl ab ?_;refine AK.qv (λi=>i<=t.length/\∀ j,j<i->fx t j=true) (λi:Nat=>[(0,cF.sl t),(3,dI i)]) (λ_=>[]) (λi=>t.length-i) 0 rfl (by simp[aa.cat,aa,aw]) ⟨by omega,by omega⟩ rfl ?_
 rintro i ⟨hi,c⟩
 by_cases h:i<t.length
 ·by_cases d:cp (dY t i)=true
  ·by_cases l:db (Ha t i)=true
   ·by_cases r:i=0∨Op.bytesLess (dY t (i-1)) (dY t i)=true
    ·apply AK.join [(0,cF.sl t),(3,dI i),(4,dI 0)] []
     ·intro s
      by_cases m:i=0
      ·refine af ov [(8,true),(16,true),(24,true),(29,false)] 100 rfl ?_ (s _ _ rfl ?_)
       ·simp[-List.getD_eq_getElem?_getD,aa,h,gz,lL,d,l];omega
       ·simp[aa.cat,aa,aw]
      ·have o:=r.resolve_left m;have g:aB .i64 ((i:Int)-1):=by simp only[aB];omega
       have v:((i:Int)-1).toNat=i-1:=by omega
       refine af ov [(8,true),(16,true),(24,true),(29,true),(42,false)] 100 rfl ?_ (s _ _ rfl ?_)
       ·simp[-List.getD_eq_getElem?_getD,aa,h,gz,lL,d,l,o,g,v];omega
       ·simp[aa.cat,aa,aw]
     ·
      have f:fx t i=(List.range i).all (λj=>!clash (dY t j) (dY t i)):=by
       rcases r with rfl|o
       ·simp[fx,d,l]
       ·simp[fx,d,l,o]
      refine AK.qv (λj=>j<=i/\∀ n,n<j->clash (dY t n) (dY t i)=false) (λj:Nat=>[(0,cF.sl t),(3,dI i),(4,dI j)]) (λ_=>[]) (λj=>i-j) 0 rfl (by simp[aa.cat,aa,aw]) ⟨by omega,by omega⟩ rfl ?_
      rintro j ⟨y,p⟩
      by_cases b:j<i
      ·have q:cp (dY t j)=true:=by
        have:=c j b;simp only[fx,bA] at this;exact this.1.1.1
       cases u:clash (dY t j) (dY t i) with
       |true =>
        refine af ov [(47,true),(60,true)] 100 rfl ?_ (AK.dN (AK.nx (aR.zero rfl ?_)))
        ·simp[-List.getD_eq_getElem?_getD,aa,h,b,gz,u,mb d,mb q];omega
        ·have:fx t i=false:=by
          rw[f];cases z:(List.range i).all (λj=>!clash (dY t j) (dY t i)) with
          |false=>rfl
          |true=>have:=ba.1 z j b;simp[u] at this
         simp[aa,iw h this]
       |false =>
        refine af ov [(47,true),(60,false)] 100 rfl ?_ (AK.again (j+1) rfl ?_ ?_ ?_ rfl)
        ·simp[-List.getD_eq_getElem?_getD,aa,h,b,gz,u,mb d,mb q,aB];omega
        ·simp[aa.cat,aa,aw]
        ·refine⟨by omega,λn a=>?_⟩
         rcases dC.1 a with a|rfl
         ·exact p n a
         ·exact u
        ·omega
      ·have b:j=i:=by omega
       subst b;refine af ov [(47,false)] 100 rfl (by simp[aa]) (AK.leave rfl rfl ?_)
       refine af ov [] 100 rfl ?_ (AK.again (j+1) rfl ?_ ?_ ?_ rfl)
       ·simp[aa,aB];omega
       ·simp[aa.cat,aa,aw]
       ·refine⟨by omega,λn a=>?_⟩
        rcases dC.1 a with a|rfl
        ·exact c n a
        ·rw[f,ba];intro k s;simp[p k s]
       ·omega
    ·have m:i≠0:=λe=>r (.inl e)
     have o:Op.bytesLess (dY t (i-1)) (dY t i)=false:=by simpa usingλe=>r (.inr e)
     have g:aB .i64 ((i:Int)-1):=by simp only[aB];omega
     have v:((i:Int)-1).toNat=i-1:=by omega
     refine af ov [(8,true),(16,true),(24,true),(29,true),(42,true)] 100 rfl ?_ (AK.dN (aR.zero rfl ?_))
     ·simp[-List.getD_eq_getElem?_getD,aa,h,gz,lL,d,l,o,g,v];omega
     ·simp[aa,iw h (by simp[fx,m,o])]
   ·refine af ov [(8,true),(16,true),(24,false)] 100 rfl ?_ (AK.dN (aR.zero rfl ?_))
    ·simp[-List.getD_eq_getElem?_getD,aa,h,gz,lL,d,l]
    ·simp[aa,iw h (by simp[fx,l])]
  ·refine af ov [(8,true),(16,false)] 100 rfl ?_ (AK.dN (aR.zero rfl ?_))
   ·simp[-List.getD_eq_getElem?_getD,aa,h,gz,d]
   ·simp[aa,iw h (by simp[fx,d])]
 ·refine af ov [(8,false)] 100 rfl (by simp[aa];omega) (AK.leave rfl rfl ?_)
  refine af ov [] 100 rfl ab (AK.au rfl ?_);simp only[aa,iY];rw[ba.2 (λj y=>c j (by omega))]
  simp;omega
end Go.AM.R1
namespace Go.AM
open Go.Conc (G)
def AS(σ σ':List ak):Prop:=∀ (s:St),ag σ s->ag σ' s/\Step σ s σ' s/\∀ (v:Value)(d:D),cd σ s v d->cd σ' s v d
def OY:ak->ak->Option (List Prop)
 |.vec E k n es,.vec E' k' n' es'=>match Nat.beq E E',Nat.beq k k' with
  |true,true=>some [n=n',aw n es es']
  |_,_=>none
 |.cells E cs,.cells E' lr=>match Nat.beq E E' with
  |true=>H9 cs lr
  |false=>none
 |.dead,.dead=>some []
 |.eB H,.eB H'=>some [H=H']
 |.loop N φ r,.loop N' φ' r'=>some [ak.loop N φ r=ak.loop N' φ' r']
 |.nN,.nN=>some []
 |.buf E k n es,.buf E' k' n' es'=>match Nat.beq E E',Nat.beq k k' with
  |true,true=>some [n=n',aw n es es']
  |_,_=>none
 |_,_=>none
def o7:List ak->List ak->Option (List Prop)
 |[],[]=>some []
 |a::r,b::q=>match OY a b with
  |some p=>match o7 r q with
   |some ps=>some (iQ p ps)
   |none=>none
  |none=>none
 |_,_=>none
def GC(B B':ak):Prop :=
 (∀ E k n es,B=.vec E k n es->∃ es',B'=.vec E k n es'/\aw n es es')/\((∀ E k n es,B≠.vec E k n es)->(∀ E k n es,B'≠.vec E k n es)/\(B=B'∨(∃ E cs lr,B=.cells E cs/\B'=.cells E lr/\∀ σ s vs,cA σ s vs cs->cA σ s vs lr)∨∃ E k n es es',B=.buf E k n es/\B'=.buf E k n es'/\aw n es es'))
theorem Jg{B B':ak}{ps:List Prop}(h:OY B B'=some ps)(d:aa ps):GC B B':=by
 unfold OY at h;split at h
 ·rename_i E k n es E' k' n' es'
  split at h
  ·rename_i a f
   cases h;have b:=bn a;have j:=bn f;obtain⟨i,g⟩:n=n'/\aw n es es':=d;subst b j i;refine⟨λE0 k0 n0 Qy he=>?_,λm=>absurd rfl (m _ _ _ _)⟩
   cases he;exact⟨es',rfl,g⟩
  ·cases h
 ·rename_i E cs E' lr
  split at h
  ·rename_i a
   have b:=bn a;subst b;exact⟨λ_ _ _ _ he=>(by cases he),λ_=>⟨λ_ _ _ _ he=>(by cases he),.inr (.inl ⟨E,cs,lr,rfl,rfl,λσ s vs r=>xY h d r⟩)⟩⟩
  ·cases h
 ·exact⟨λ_ _ _ _ he=>(by cases he),λ_=>⟨λ_ _ _ _ he=>(by cases he),.inl rfl⟩⟩
 ·cases h
  rename_i H H'
  have e:H=H':=d;subst e;exact⟨λ_ _ _ _ he=>(by cases he),λ_=>⟨λ_ _ _ _ he=>(by cases he),.inl rfl⟩⟩
 ·cases h
  rename_i N φ r l φ' r'
  have e:ak.loop N φ r=ak.loop l φ' r':=d;exact⟨λ_ _ _ _ he=>(by cases he),λ_=>⟨λ_ _ _ _ he=>(by cases he),.inl e⟩⟩
 ·exact⟨λ_ _ _ _ he=>(by cases he),λ_=>⟨λ_ _ _ _ he=>(by cases he),.inl rfl⟩⟩
 ·rename_i E k n es E' k' n' es'
  split at h
  ·rename_i a f
   cases h;have b:=bn a;have j:=bn f;obtain⟨i,g⟩:n=n'/\aw n es es':=d;subst b j i;exact⟨λ_ _ _ _ he=>(by cases he),λ_=>⟨λ_ _ _ _ he=>(by cases he),.inr (.inr ⟨E,k,n,es,es',rfl,rfl,g⟩)⟩⟩
  ·cases h
 ·cases h
theorem vG:∀ {σ σ':List ak}{ps:List Prop},o7 σ σ'=some ps->aa ps->σ'.length=σ.length/\∀ (l:Nat)(B B':ak),σ[l]?=some B->σ'[l]?=some B'->GC B B'
 |[],[],_,_,_=>⟨rfl,λl B B' h=>by simp at h⟩
 |[],_::_,_,h,_=>by cases h
 |_::_,[],_,h,_=>by cases h
 |a::r,b::q,ps,h,d=>by
  simp only[o7] at h;split at h
  ·rename_i p g
   split at h
   ·rename_i p2 h2
    cases h;rw[aa.cat] at d;obtain⟨f,e⟩:=vG h2 d.2;refine⟨by simp[f],λl B B' hB ig=>?_⟩
    cases l with
    |zero=>simp at hB ig;subst hB ig;exact Jg g d.1
    |succ l=>exact e l B B' (by simpa using hB) (by simpa using ig)
   ·cases h
  ·cases h
theorem ju{σ σ':List ak}{ps:List Prop}(h:o7 σ σ'=some ps)(hp:aa ps):AS σ σ':=by
 obtain⟨T,hg⟩:=vG h hp;intro s Q;have Y:∀ (l:Nat) (B:ak),σ[l]?=some B->∃ B',σ'[l]?=some B'/\GC B B':=by
  intro l B i;have u:l<σ'.length:=by rw[T];exact(aF.1 i).1
  exact⟨σ'[l],aj u,hg l B _ i (aj u)⟩
 have get:∀ (l:Nat) (B':ak),σ'[l]?=some B'->∃ B,σ[l]?=some B/\GC B B':=by
  intro l B' i;have u:l<σ.length:=by rw[<-T];exact(aF.1 i).1
  exact⟨σ[l],aj u,hg l _ B' (aj u) i⟩
 have j:∀ (l:Nat),(∀ B,σ[l]?=some B->B.gr=false)->∀ B,σ'[l]?=some B->B.gr=false:=by
  intro l hn B' he;obtain⟨B,i,m⟩:=get l _ he;have y:=hn B i;rcases(m.2 (λE k n es e=>by rw[e] at y;cases y)).2 with rfl|⟨E,cs,I,rfl,rfl,_⟩|⟨E,k,n,es,es',rfl,rfl,_⟩
  ·exact y
  ·rfl
  ·cases y
 have C:∀ (l:Nat) E k n es,σ'[l]?=some (ak.buf E k n es)->∃ es',σ[l]?=some (ak.buf E k n es'):=by
  intro l E k n es he;obtain⟨B,i,m⟩:=get l _ he
  by_cases q:∃ E k n es,B=ak.vec E k n es
  ·obtain⟨E1,k1,n1,R,rfl⟩:=q;obtain⟨es',f,_⟩:=m.1 _ _ _ _ rfl;cases f
  ·rcases(m.2 (λE k n es e=>q ⟨E,k,n,es,e⟩)).2 with rfl|⟨E,cs,I,rfl,h,_⟩|⟨E,k,n,es,es',rfl,h,_⟩
   ·exact⟨es,i⟩
   ·cases h
   ·cases h;exact⟨_,i⟩
 have G:∀ (l:Nat) E k n es,σ'[l]?=some (ak.vec E k n es)->∃ es',σ[l]?=some (ak.vec E k n es'):=by
  intro l E k n es he;obtain⟨B,i,m⟩:=get l _ he
  by_cases q:∃ E k n es,B=ak.vec E k n es
  ·obtain⟨E1,k1,n1,R,rfl⟩:=q;obtain⟨es',f,_⟩:=m.1 _ _ _ _ rfl;cases f;exact⟨R,i⟩
  ·exact absurd rfl ((m.2 (λE k n es e=>q ⟨E,k,n,es,e⟩)).1 E k n es)
 have S:∀ (v:Value) (a:A),fz σ s v a->fz σ' s v a:=by
  intro v a r;cases a with
  |c x=>exact r
  |ptr l o=>exact⟨j l r.1,r.2⟩
  |vec l k n es =>
   refine⟨r.1,by rw[T];exact r.2.1,λE k' n' es' he=>?_⟩
   obtain⟨z,g⟩:=G l E k' n' es' he;exact r.2.2 E k' n' z g
  |ref l=>exact⟨j l r.1,r.2⟩
  |bp l w =>
   obtain⟨lv,r1,r2,r3⟩:=r;refine⟨lv,r1,by rw[T];exact r2,λE k' n' es' he=>?_⟩
   obtain⟨z,g⟩:=C l E k' n' es' he;exact r3 E k' n' z g
  |any=>exact r
 have J:∀ (vs:List Value) (cs:List A),cA σ s vs cs->cA σ' s vs cs:=by
  intro vs
  induction vs with
  |nil=>intro cs r;cases cs with|nil=>trivial|cons _ _=>exact r.elim
  |cons v vs ih=>intro cs r;cases cs with|nil=>exact r.elim|cons c cs=>exact⟨S _ _ r.1,ih _ r.2⟩
 have V:∀ (v:Value) (e:E1),k5 σ s v e->k5 σ' s v e:=by
  intro v e r;cases e with
  |one a=>exact S _ _ r
  |agg cs=>obtain⟨vs,f,g⟩:=r;exact⟨vs,f,J _ _ g⟩
 have U:∀ (vs:List Value) (cs:List E1),eZ σ s vs cs->eZ σ' s vs cs:=by
  intro vs
  induction vs with
  |nil=>intro cs r;cases cs with|nil=>trivial|cons _ _=>exact r.elim
  |cons v vs ih=>intro cs r;cases cs with|nil=>exact r.elim|cons c cs=>exact⟨V _ _ r.1,ih _ r.2⟩
 have W:∀ (v:Value) (d:D),cd σ s v d->cd σ' s v d:=by
  intro v d r;cases d with
  |e x=>exact V _ _ r
  |eY xs=>obtain⟨vs,f,g⟩:=r;exact⟨vs,f,U _ _ g⟩
  |any=>trivial
 refine⟨⟨Q.mem,by rw[Q.len,T],?_,Q.ez,Q.lt,Q.own⟩,⟨aq _,λ_ _ _=>rfl,λ_ _ _ h=>h,λ_ _ _ _=>rfl,λL h b p=>.inr ⟨L,h,p⟩,?_,rfl,rfl,rfl,rfl⟩,W⟩
 ·intro l B' L O hL;obtain⟨B,i,m⟩:=get l B' O;have p:=Q.box l B L i hL
  by_cases q:∃ E k n es,B=ak.vec E k n es
  ·obtain⟨E,k,n,es,rfl⟩:=q;obtain⟨es',rfl,he⟩:=m.1 _ _ _ _ rfl;refine⟨p.1.xw he,?_⟩;rcases p.2 with⟨f,g⟩|f
   ·exact .inl ⟨f,g.xw he⟩
   ·exact .inr f
  ·rcases(m.2 (λE k n es e=>q ⟨E,k,n,es,e⟩)).2 with rfl|⟨E,cs,I,rfl,rfl,Z⟩|⟨E,k,n,es,es',rfl,rfl,Z⟩
   ·cases B with
    |cells E cs=>obtain⟨b,vs,f,g,M,F⟩:=p;exact⟨b,vs,f,g,J _ _ M,F⟩
    |vec E k n es=>exact absurd ⟨E,k,n,es,rfl⟩ q
    |eB H=>exact p
    |dead=>trivial
    |loop N φ r=>obtain⟨l,tmps,fn,df,f,g,M,F,h5⟩:=p;exact⟨l,tmps,fn,df,f,g,M,λt=>W _ _ (F t),h5⟩
    |nN=>exact p
    |buf E k n es=>exact p
   ·obtain⟨b,vs,f,g,M,F⟩:=p;exact⟨b,vs,f,g,J _ _ (Z _ _ _ M),F⟩
   ·rcases p with p|⟨b,c0,vs,zs,f,g,M,F,h5,h6,h7⟩
    ·exact .inl p
    ·exact .inr ⟨b,c0,vs,zs,f,g,M,F,h5,h6.xw Z,h7⟩
 ·intro l B L i hL;obtain⟨B',O,m⟩:=Y l B i;refine⟨B',L,O,hL,?_⟩
  by_cases q:∃ E k n es,B=ak.vec E k n es
  ·obtain⟨E,k,n,es,rfl⟩:=q;obtain⟨es',rfl,he⟩:=m.1 _ _ _ _ rfl;exact⟨λ_=>rfl,aq _⟩
  ·rcases(m.2 (λE k n es e=>q ⟨E,k,n,es,e⟩)).2 with rfl|⟨E,cs,I,rfl,rfl,Z⟩|⟨E,k,n,es,es',rfl,rfl,_⟩
   ·exact fX.refl _ _
   ·exact rfl
   ·exact⟨λ_=>rfl,aq _⟩
section
variable {P:Program}{X:Cx P}{N:Nat}{Qf:Post}{K:List It}{φ:Fr}{σ:List ak}{c:Code}
theorem AW.ghost{Q:Post}{φ':Fr}{σ':List ak}(h:∀ s a,br N σ s φ a->ag σ s->∃ s':St,s'.w=s.w/\br N σ' s' φ' a/\ag σ' s'/\Step σ s σ' s')(k:AW X N c Q φ' σ'):AW X N c Q φ σ:=by
 intro s a o hh b kk cs S m l;obtain⟨s',n,g,d,st⟩:=h s a o hh;have f:=st.mH hh;refine .ghost (.of hh d n f) ?_;exact k s' a g d b kk cs S m λe i σ2 s2 a2 q j h2 na=>l e i σ2 s2 a2 q j h2 (f.trans na)
theorem AK.ghost{φ':Fr}{σ':List ak}(h:∀ s a,br N σ s φ a->ag σ s->∃ s':St,s'.w=s.w/\br N σ' s' φ' a/\ag σ' s'/\Step σ s σ' s')(k:AK X N Qf (.code c::K) .normal φ' σ'):AK X N Qf (.code c::K) .normal φ σ :=
 AW.ghost h k
theorem br.bs{σ':List ak}{s:St}{a:Act}(b:AS σ σ')(f:br N σ s φ a)(hh:ag σ s):br N σ' s φ a:=⟨f.size,f.defers.imp λ_ h1=>h1.mono (b s hh).2.1.ext,λt=>(b s hh).2.2 _ _ (f.slot t)⟩
theorem AK.norm(σ':List ak){ps:List Prop}(h:o7 σ σ'=some ps)(b:aa ps)(k:AK X N Qf (.code c::K) .normal φ σ'):AK X N Qf (.code c::K) .normal φ σ :=
 AK.ghost (λs a d hh=>⟨s,rfl,d.bs (ju h b) hh,(ju h b s hh).1,(ju h b s hh).2.1⟩) k
theorem AK.lA(t:Nat)(E:TypeId)(k:Nat){k' n:Nat}{es:Nat->List C}(h:look φ t=.e (.one (.c (.sl true k' n es))))(g:n=0)
  (kk:AK X N Qf (.code c::K) .normal ((t,.e (.one (.vec σ.length k n es)))::φ) (σ++[.vec E k n es])):AK X N Qf (.code c::K) .normal φ σ:=by
 refine AK.ghost (λs a b hh=>?_) kk
 have f:=b.slot t;rw[h] at f;have h1:=Rd.tK (k:=k') (k':=k) (.inr g) (ei f);have d:dj (σ++[.vec E k n es]) { s with β:=s.β++[⟨a.tmps.getD t undef,[]⟩] } (.vec E k n es) ⟨a.tmps.getD t undef,[]⟩:=⟨h1.loose,.inl ⟨⟨rfl,g⟩,h1⟩⟩;obtain⟨g1,g2⟩:=hh.hY (.refl _ _) rfl hh d (by simp)
 refine⟨{ s with β:=s.β++[⟨a.tmps.getD t undef,[]⟩] },rfl,⟨b.size,b.defers.imp λ_ h1=>h1.mono g2.ext,λu=>?_⟩,g1,g2⟩
 simp only[look];cases i:Nat.beq t u with
 |false=>exact(b.slot u).mono g2.ext hh.len
 |true =>
  have e:=bn i;subst e;exact lT (L:=⟨a.tmps.getD t undef,[]⟩) (by simp) (by simp[<-hh.len]) d
theorem AK.dX{S:Type}(I:S->Prop)(fr:S->Fr)(st:S->List ak)(j:S->Nat)(x:S){ps qs:List Prop}(k:ny φ (fr x)=some ps)(E:aa ps)(u:o7 σ (st x)=some qs)(G:aa qs)(D:I x)
  (round:∀ x,I x->AK X N (λe φ' σ'=>match e with
   |.normal=>∃ y,I y/\j y<j x/\nz φ' (fr y)/\AS σ' (st y)
   |e=>AK X N Qf K e φ' σ') [.code c] .normal (fr x) (st x)):AK X N Qf (.code (.loop c)::K) .normal φ σ:=by
 intro s a B hh b kk cs SS hb hQ;have f:=ju u G;obtain⟨o,r,_⟩:=f s hh;refine qw (λn a' s'=>∃ y,I y/\br N (st y) s' (fr y) a'/\ag (st y) s'/\bD σ s (st y) s'/\j y=n) ?_ ?_ ⟨x,D,(B.le (cg k E)).bs f hh,o,r.mH hh,rfl⟩
 ·rintro n a' s' ⟨y,l,v,g,d,e⟩;exact⟨st y,g,λH h1=>⟨y,l,v.rely h1 g,g.rely h1,d.trans h1.stepW,e⟩⟩
 rintro n a' s' ⟨y,l,v,g,d,rfl⟩ C;refine round y l s' a' v g b (.inLoop c::kk) cs SS hb ?_;intro e F σ2 s2 a2 q w h2 na;cases e with
 |normal =>
  obtain⟨z,A,m,h,i⟩:=q;obtain⟨p,t,_⟩:=i s2 h2;exact C a2 s2 (j z) m ⟨z,A,(w.le h).bs i h2,p,d.trans (na.trans (t.mH h2)),rfl⟩
 |_=>exact ends.cons (λ_ _=>rfl) (by simp) (hQ _ _ _ _ _ q w h2 (d.trans na))
theorem AK.cN{S:Type}{I:S->Prop}{fr:S->Fr}{st:S->List ak}{a:S->Nat}{x:S}{Qr:Post}(y:S){ps qs:List Prop}(d:ny φ (fr y)=some ps)(h:aa ps)(b:o7 σ (st y)=some qs)(i:aa qs)(g:I y)(f:a y<a x) :
  AK X N (λe φ' σ'=>match e with
   |.normal=>∃ y,I y/\a y<a x/\nz φ' (fr y)/\AS σ' (st y)
   |e=>Qr e φ' σ') [] .normal φ σ:=⟨y,g,f,cg d h,ju b i⟩
end
end Go.AM
namespace Go.AM
theorem bX.imp{σ:List ak}{s:St}{d a:D}{ds Le:List D}(h:∀ v,cd σ s v d->cd σ s v a)(k:∀ vs,bX σ s vs ds->bX σ s vs Le):∀ vs,bX σ s vs (d::ds)->bX σ s vs (a::Le)
 |[],r=>r.elim
 |v::vs,r=>⟨h v r.1,k vs r.2⟩
abbrev dP(f:dq):D:=.e (.agg [.c (.str f.1),.c (.str f.2)])
abbrev Ml(a:List dq)(b:Bool):D:=.eY [.one (.c (.sl false 2 a.length (cF.fn a))),.one (.c (.bool b))]
namespace R1
open Go.Proofs
variable {X:Cx Tryz.prog}
def NF:bE:=λargs σ=>match args,σ with
 |[c],[]=>match jz 2 c with
  |none=>none
  |some (a,b)=>some (dB (iY (cF.list a b)),[],[cF.fits a b])
 |_,_=>none
theorem t88:bO X 88 NF:=by
 intro args σ res σ' obs h a;unfold NF at h;split at h
 ·split at h
  ·cases h
  rename_i c d b
  cases h;exact(BL _ ).args (λ_ vs=>bX.imp (λ_=>cF.iW b a) (λ_ r=>r) vs)
 ·cases h
def Rm:List (Nat×bE):=(88,NF)::Rl
theorem Qe:aM X Rm:=aM.cons t88 ov
end R1
theorem jd.eO{α:Type}(c:jd α)(l:List α)(x:α):aw (l.length+1) (cx l.length (c.fn l) (λi=>[c.enc x].getD i [])) (c.fn (l++[x])):=by
 intro i hi;unfold cx jd.fn Cj
 by_cases h:i<l.length
 ·simp[h,List.getD_eq_getElem?_getD,bS h]
 ·have e:i=l.length:=by omega
  subst e;simp[List.getD_eq_getElem?_getD]
theorem aw.same{n:Nat}{f:Nat->List C}:aw n f f:=λ_ _=>rfl
theorem aw.nil{f g:Nat->List C}:aw 0 f g:=λi h=>by omega
namespace R1
open Go.Proofs
variable {X:Cx Tryz.prog}
def Rn:List (Nat×bE):=Rm
theorem Qg:aM X Rn:=Qe
end R1
end Go.AM
namespace Go.AM.R1
open Go.Proofs
variable {X:Cx Tryz.prog}
theorem fileAt{t:List dq}{i:Nat}(h:i<t.length):t[i]=(dY t i,Ha t i):=by
 have e:t.getD i ([],[])=t[i]:=by simp[List.getD_eq_getElem?_getD,aj h]
 simp only[dY,Ha,e]
end Go.AM.R1
namespace Go.AM
namespace R1
open Go.Proofs
variable {X:Cx Tryz.prog}
def Ro:List (Nat×bE):=Rn
theorem Qh:aM X Ro:=Qg
def Rp:List (Nat×bE):=Ro
theorem Qi:aM X Rp:=Qh
end R1
end Go.AM
namespace Go.AM.R1
def dl(s:Bs)(i:Nat):Int:=(bc s i-97) % 256
def jf(t:Bs)(e:Nat):Bool:=(dl t (e-1)+2*dl t (e-2)+3*dl t (e-3)) % 5==0
def og(t:Bs)(f:Nat):Nat->Nat
 |0=>min (f+8) t.length
 |k+1=>if t.length<=f+(7-k) then t.length else if jf t (f+(7-k)) then f+(7-k) else og t f k
def cutAt(t:Bs)(f:Nat):Nat:=og t f 5
theorem Ab(t:Bs)(f:Nat)(a:f<t.length):∀ k,k<=5->f<og t f k/\og t f k<=t.length/\og t f k<=f+8
 |0,_=>by simp only[og];omega
 |k+1,b=>by
  simp only[og];split
  ·omega
  ·split
   ·omega
   ·exact Ab t f a k (by omega)
theorem lI(t:Bs)(f:Nat)(a:f<t.length):f<cutAt t f/\cutAt t f<=t.length/\cutAt t f<=f+8:=Ab t f a 5 (by omega)
def jA(t:Bs):Nat->Nat->List Nat
 |0,_=>[]
 |k+1,f=>if f<t.length then cutAt t f::jA t k (cutAt t f) else []
def uK(t:Bs):List Nat:=jA t t.length 0
def eN(t:Bs):Nat->Nat->List Bs
 |0,_=>[]
 |k+1,f=>if f<t.length then (t.drop f).take (cutAt t f-f)::eN t k (cutAt t f) else []
def pieces(t:Bs):List Bs:=eN t t.length 0
def dO(l:List Bs):Option Bs:=if db l.flatten&&(pieces l.flatten==l) then some l.flatten else none
def a9(p:Bs):Bool:=decide (1<=p.length)&&decide (p.length<=8)&&bl p
def codeOf(p:Bs):Int:=p.foldl (λn b=>27*n+((b.toNat:Int)-97) % 256+1) 0
def bJ(k:Int):Bool:=decide (1<=k)&&decide (k<=99)
def lH(k:Int)(p:Bs):Int:=(codeOf p*(2*k+1)+k*7919) % 999999999989
def bm(n:Nat):Nat:=if n<1∨8<n then 0 else if n<=2 then 2 else if n<=4 then 4 else 8
def gE(p:Bs):Bs:=if a9 p then p++List.replicate (bm p.length-p.length) 46 else []
def strip(b:Bs):Bs:=(b.reverse.dropWhile (·==46)).reverse
def cZ(b:Bs):Option Bs:=if a9 (strip b)&&(gE (strip b)==b) then some (strip b) else none
abbrev fb:=Int×Bs
abbrev aV:=Int×List fb
def right(k:Int)(x:fb):Bool:=match cZ x.2 with|some p=>lH k p==x.1|none=>false
def uF(l:List Int):Bool:=(List.range l.length).all λi=>i==0||decide (l.getD (i-1) 0<l.getD i 0)
def gI(k:Int)(p:aV):Bool :=
 decide (1<=p.1)&&decide (p.1<=99)&&bJ k&&decide (1<=p.2.length)&&decide (p.2.length<=4)&&p.2.all (right k)&&uF (p.2.map (·.1))
def chunk(k:Int)(x:fb):Option Bs:=match cZ x.2 with|some p=>if bJ k&&(lH k p==x.1) then some p else none|none=>none
def cj(k:Int)(p:aV) (n:Int):Option Bs:=match p.2.find? (λx=>x.1==n) with|some x=>chunk k x|none=>none
abbrev Mj:=Int×Int
abbrev cU:=Bs×List Int
abbrev cK:=Int×List cU
def b6(k:Int)(ps:List aV) (n:Int):Option Bs:=ps.findSome? λp=>cj k p n
end Go.AM.R1
namespace Go.AM
def A3(cs:List C)(j:Nat):Nat×(Nat->List C):=match eb j cs with|some (.sl _ _ n es)=>(n,es)|_=>(0,λ_=>[])
def cI:jd Int:={ k:=1,enc:=λn=>[.int .i64 n],dec:=λcs=>sI cs 0,bx:=0,inv:=λ_=>rfl,len:=λ_=>rfl }
def cS:jd Bs:={ k:=1,enc:=λs=>[.str s],dec:=λcs=>vV cs 0,bx:=[],inv:=λ_=>rfl,len:=λ_=>rfl }
namespace R1
def cG:jd fb:={ k:=2,enc:=λx=>[.int .i64 x.1,.str x.2],dec:=λcs=>(sI cs 0,vV cs 1),bx:=(0,[]),inv:=λ_=>rfl,len:=λ_=>rfl }
def Tb:jd Mj:={ k:=2,enc:=λx=>[.int .i64 x.1,.int .i64 x.2],dec:=λcs=>(sI cs 0,sI cs 1),bx:=(0,0),inv:=λ_=>rfl,len:=λ_=>rfl }
abbrev sP(p:aV):C:=.sl false 2 p.2.length (cG.fn p.2)
def cP:jd aV:={ k:=2,enc:=λp=>[.int .i64 p.1,sP p],dec:=λcs=>(sI cs 0,cG.list (A3 cs 1).1 (A3 cs 1).2),bx:=(0,[]),inv:=λp=>by show (p.1,cG.list p.2.length (cG.fn p.2))=p;rw[cG.list_fn],len:=λ_=>rfl }
def cL:jd cU:={ k:=2,enc:=λx=>[.str x.1,.sl false 1 x.2.length (cI.fn x.2)],dec:=λcs=>(vV cs 0,cI.list (A3 cs 1).1 (A3 cs 1).2),bx:=([],[]),inv:=λp=>by show (p.1,cI.list p.2.length (cI.fn p.2))=p;rw[cI.list_fn],len:=λ_=>rfl }
def cD:jd cK:={ k:=2,enc:=λx=>[.int .i64 x.1,.sl false 2 x.2.length (cL.fn x.2)],dec:=λcs=>(sI cs 0,cL.list (A3 cs 1).1 (A3 cs 1).2),bx:=(0,[]),inv:=λp=>by show (p.1,cL.list p.2.length (cL.fn p.2))=p;rw[cL.list_fn],len:=λ_=>rfl }
def cH:jd (Int×Int):=Tb
abbrev Ii(p:aV):D:=.e (.agg [.c (.int .i64 p.1),.c (sP p)])
abbrev Nx(r:Option Bs):D:=.e (.agg [.c (.str (r.getD [])),.c (.bool r.isSome)])
end R1
structure Arg (α:Type) where
 enc:α->D
 arg:D->Option (α×List Prop)
 ok:∀ {d a o},arg d=some (a,o)->aa o->∀ {σ:List ak} {s:St} {v:Value},cd σ s v d->cd σ s v (enc a)
def aI:Arg Int:=⟨dI,λd=>match d with|.e (.one (.c (.int .i64 n)))=>some (n,[])|_=>none,λ{d a o} h _ _ _ _ r=>by
 split at h
 ·cases h;exact r
 ·cases h⟩
def aS:Arg Bs:=⟨dS,λd=>match d with|.e (.one (.c (.str n)))=>some (n,[])|_=>none,λ{d a o} h _ _ _ _ r=>by
 split at h
 ·cases h;exact r
 ·cases h⟩
def aL{α:Type}(c:jd α):Arg (List α):=⟨c.sl,λd=>match jz c.k d with|some (n,es)=>some (c.list n es,[c.fits n es])|none=>none,λ{d a o} h b _ _ _ r=>by
 split at h
 ·rename_i n es he
  cases h;exact c.iW he b r
 ·cases h⟩
def yd:Arg (Int×Bs):=⟨λx=>.e (.agg [.c (.int .i64 x.1),.c (.str x.2)]),λd=>match d with|.e (.agg [.c (.int .i64 a),.c (.str b)])=>some ((a,b),[])|_=>none,λ{d a o} h _ _ _ _ r=>by
 split at h
 ·cases h;exact r
 ·cases h⟩
def sJ:Arg (Int×Int):=⟨λx=>.e (.agg [.c (.int .i64 x.1),.c (.int .i64 x.2)]),λd=>match d with|.e (.agg [.c (.int .i64 a),.c (.int .i64 b)])=>some ((a,b),[])|_=>none,λ{d a o} h _ _ _ _ r=>by
 split at h
 ·cases h;exact r
 ·cases h⟩
def mS{α:Type}(c:jd α):Arg (Int×List α):=⟨λx=>.e (.agg [.c (.int .i64 x.1),.c (.sl false c.k x.2.length (c.fn x.2))]),λd=>match d with
 |.e (.agg [.c (.int .i64 a),.c b])=>match jz c.k (.e (.one (.c b))) with|some (n,es)=>some ((a,c.list n es),[c.fits n es])|none=>none
 |_=>none,λ{d a o} h p _ s _ r=>by
 split at h
 ·split at h
  ·rename_i n es he
   cases h;obtain⟨vs,m,g⟩:=r
   match vs,g with
   |[],g=>exact g.elim
   |[_],g=>exact g.2.elim
   |_::_::_::_,g=>exact g.2.2.elim
   |[q,l],g=>exact⟨_,m,g.1,c.iW (σ:=[]) (s:=s) (v:=l) he p g.2.1,ab⟩
  ·cases h
 ·cases h⟩
def fZ{α:Type}(A:Arg α)(res:α->D)(pre:α->List Prop):bE:=λargs σ=>match args,σ with
 |[d],[]=>match A.arg d with
  |some (a,o)=>some (res a,[],iQ o (pre a))
  |none=>none
 |_,_=>none
def gb{α i:Type}(A:Arg α)(B:Arg i)(res:α->i->D)(pre:α->i->List Prop):bE:=λargs σ=>match args,σ with
 |[d,e],[]=>match A.arg d with
  |some (a,o)=>match B.arg e with
   |some (b,p)=>some (res a b,[],iQ o (iQ p (pre a b)))
   |none=>none
  |none=>none
 |_,_=>none
def Ci{α i j:Type}(A:Arg α)(B:Arg i)(C:Arg j)(res:α->i->j->D)(pre:α->i->j->List Prop):bE:=λargs σ=>match args,σ with
 |[d,e,f],[]=>match A.arg d with
  |some (a,o)=>match B.arg e with
   |some (b,p)=>match C.arg f with
    |some (c,q)=>some (res a b c,[],iQ o (iQ p (iQ q (pre a b c))))
    |none=>none
   |none=>none
  |none=>none
 |_,_=>none
section
variable {P:Program}{X:Cx P}{f:FuncId}{α i j:Type}{A:Arg α}{B:Arg i}{C:Arg j}
theorem bO.je{res:α->D}{pre:α->List Prop}(h:∀ a,aa (pre a)->Ev X f [A.enc a] [] (res a) []):bO X f (fZ A res pre):=by
 intro args σ r σ' obs h1 ho;unfold fZ at h1;split at h1
 ·split at h1
  ·rename_i d a o b
   cases h1;rw[aa.cat] at ho;exact(h a ho.2).args λs vs=>bX.imp (λ_ r=>A.ok b ho.1 r) (λ_ r=>r) vs
  ·cases h1
 ·cases h1
theorem bO.gO{res:α->i->D}{pre:α->i->List Prop}(h:∀ a b,aa (pre a b)->Ev X f [A.enc a,B.enc b] [] (res a b) []):bO X f (gb A B res pre):=by
 intro args σ r σ' obs h1 ho;unfold gb at h1;split at h1
 ·split at h1
  ·rename_i d e a o g
   split at h1
   ·rename_i b p c
    cases h1;rw[aa.cat,aa.cat] at ho;exact(h a b ho.2.2).args λs vs=>bX.imp (λ_ r=>A.ok g ho.1 r) (bX.imp (λ_ r=>B.ok c ho.2.1 r) (λ_ r=>r)) vs
   ·cases h1
  ·cases h1
 ·cases h1
theorem bO.Ih{res:α->i->j->D}{pre:α->i->j->List Prop}(h:∀ a b c,aa (pre a b c)->Ev X f [A.enc a,B.enc b,C.enc c] [] (res a b c) []):bO X f (Ci A B C res pre):=by
 intro args σ r σ' obs h1 ho;unfold Ci at h1;split at h1
 ·split at h1
  ·rename_i d e g a o m
   split at h1
   ·rename_i b p k
    split at h1
    ·rename_i c q l
     cases h1;rw[aa.cat,aa.cat,aa.cat] at ho;exact(h a b c ho.2.2.2).args λs vs=>bX.imp (λ_ r=>A.ok m ho.1 r) (bX.imp (λ_ r=>B.ok k ho.2.1 r) (bX.imp (λ_ r=>C.ok l ho.2.2.1 r) (λ_ r=>r))) vs
    ·cases h1
   ·cases h1
  ·cases h1
 ·cases h1
end
def sO(M:Mem):List Value->List C->Prop
 |[],[]=>True
 |v::vs,c::cs=>Rd M v c/\sO M vs cs
 |_,_=>False
structure FA (α:Type) where
 enc:α->List C
 dec:List C->Option (α×List Prop×List C)
 ok:∀ {cs a o r},dec cs=some (a,o,r)->aa o->∀ {M:Mem} {vs:List Value},sO M vs cs->∃ v1 v2,vs=v1++v2/\sO M v1 (enc a)/\sO M v2 r
theorem sO.app{M:Mem}:∀ {v1 v2:List Value}{c1 c2:List C},sO M v1 c1->sO M v2 c2->sO M (v1++v2) (c1++c2)
 |[],_,[],_,_,h=>h
 |_::_,_,_::_,_,h1,h2=>⟨h1.1,h1.2.app h2⟩
 |[],_,_::_,_,h,_=>h.elim
 |_::_,_,[],_,h,_=>h.elim
theorem sO.one{M:Mem}{vs:List Value}{c:C}{r:List C}(h:sO M vs (c::r)):∃ v a,vs=v::a/\Rd M v c/\sO M a r:=by
 cases vs with
 |nil=>exact h.elim
 |cons v vs=>exact⟨v,vs,rfl,h⟩
def fI:FA Int:=⟨λn=>[.int .i64 n],λcs=>match cs with|.int .i64 n::r=>some (n,[],r)|_=>none,λ{cs a o r} h _ M vs hr=>by
 split at h
 ·cases h;obtain⟨v,b,rfl,c,d⟩:=hr.one;exact⟨[v],b,rfl,⟨c,ab⟩,d⟩
 ·cases h⟩
def fS:FA Bs:=⟨λn=>[.str n],λcs=>match cs with|.str n::r=>some (n,[],r)|_=>none,λ{cs a o r} h _ M vs hr=>by
 split at h
 ·cases h;obtain⟨v,b,rfl,c,d⟩:=hr.one;exact⟨[v],b,rfl,⟨c,ab⟩,d⟩
 ·cases h⟩
def fL{α:Type}(c:jd α):FA (List α):=⟨λl=>[.sl false c.k l.length (c.fn l)],λcs=>match cs with
 |d::r=>match jz c.k (.e (.one (.c d))) with|some (n,es)=>some (c.list n es,[c.fits n es],r)|none=>none
 |_=>none,λ{cs a o r} h g M vs hr=>by
 split at h
 ·split at h
  ·rename_i n es he
   cases h;obtain⟨v,b,rfl,f,i⟩:=hr.one;exact⟨[v],b,rfl,⟨c.iW (σ:=[]) (s:=⟨[],M,default,λ_=>True⟩) (v:=v) he g f,ab⟩,i⟩
  ·cases h
 ·cases h⟩
def fP{α d:Type}(A:FA α)(B:FA d):FA (α×d):=⟨λx=>A.enc x.1++B.enc x.2,λcs=>match A.dec cs with
 |some (a,o,r)=>match B.dec r with|some (b,p,q)=>some ((a,b),iQ o p,q)|none=>none
 |none=>none,λ{cs a o r} h c M vs hr=>by
 split at h
 ·rename_i j
  split at h
  ·rename_i f
   cases h;rw[aa.cat] at c;obtain⟨v1,k,rfl,e,g⟩:=A.ok j c.1 hr;obtain⟨i,v4,rfl,g3,g4⟩:=B.ok f c.2 g;exact⟨v1++i,v4,(dt _ _ _).symm,e.app g3,g4⟩
  ·cases h
 ·cases h⟩
def NB:List A->Option (List C)
 |[]=>some []
 |.c x::r=>match NB r with|some q=>some (x::q)|none=>none
 |_=>none
def NC:List C->List A
 |[]=>[]
 |x::r=>.c x::NC r
theorem Eb{σ:List ak}{s:St}:∀ {cs:List A}{q:List C}{vs:List Value},NB cs=some q->cA σ s vs cs->sO s.M vs q
 |[],q,vs,h,a=>by cases h;cases vs with|nil=>trivial|cons=>exact a.elim
 |.c x::r,q,vs,h,a=>by
  simp only[NB] at h;split at h
  ·rename_i b
   cases h;cases vs with
   |nil=>exact a.elim
   |cons v vs=>exact⟨a.1,Eb b a.2⟩
  ·cases h
 |.ptr ..::_,_,_,h,_=>by cases h
 |.vec ..::_,_,_,h,_=>by cases h
 |.ref ..::_,_,_,h,_=>by cases h
 |.bp ..::_,_,_,h,_=>by cases h
 |.any::_,_,_,h,_=>by cases h
theorem yr{σ:List ak}{s:St}:∀ {q:List C}{vs:List Value},sO s.M vs q->cA σ s vs (NC q)
 |[],[],_=>trivial
 |_::_,_::_,h=>⟨h.1,yr h.2⟩
 |[],_::_,h=>h.elim
 |_::_,[],h=>h.elim
def kT{α:Type}(F:FA α):Arg α:=⟨λa=>.e (.agg (NC (F.enc a))),λd=>match d with
 |.e (.agg xs)=>match NB xs with
  |some cs=>match F.dec cs with|some (a,o,[])=>some (a,o)|_=>none
  |none=>none
 |_=>none,λ{d a o} h j σ s v r=>by
 split at h
 ·split at h
  ·rename_i g
   split at h
   ·rename_i c
    cases h;obtain⟨vs,rfl,i⟩:=r;obtain⟨v1,k,rfl,b,f⟩:=F.ok c j (Eb g i);cases k with
    |nil=>exact⟨v1,by rw[iE],yr b⟩
    |cons=>exact f.elim
   ·cases h
  ·cases h
 ·cases h⟩
end Go.AM
namespace Go.AM
open Go.Conc (G)
section drop
variable {σ1 rest:List ak}{s:St}
def LP(n:Nat):ak->Bool
 |.cells _ cs=>Ay n cs
 |.loop ..=>false
 |_=>true
def ur(n:Nat):List ak->Bool
 |[]=>true
 |a::r=>match LP n a with|true=>ur n r|false=>false
theorem vH{n:Nat}:∀ {l:List ak},ur n l=true->∀ B∈l,LP n B=true
 |[],_,B,a=>by simp at a
 |b::r,h,B,a=>by
  simp only[ur] at h;cases d:LP n b with
  |false=>simp[d] at h
  |true =>
   simp only[d] at h;rcases dF.1 a with rfl|a
   ·exact d
   ·exact vH h B a
theorem dj.oG{B:ak}{L:Loc}(a:LP σ1.length B=true)(h:dj (σ1++rest) s B L):dj σ1 (s.cut σ1.length) B L:=by
 cases B with
 |cells E cs =>
  obtain⟨b,vs,h1,h2,d,e⟩:=h;exact⟨b,vs,h1,h2,cA.rN d a,e⟩
 |vec E k n es=>exact h
 |eB H=>exact h
 |dead=>trivial
 |loop N φ r=>simp[LP] at a
 |nN=>exact h
 |buf E k n es=>exact h
theorem ag.drop(h:ag (σ1++rest) s)(j:ur σ1.length σ1=true):ag σ1 (s.cut σ1.length):=by
 have hl:σ1.length<=s.β.length:=by rw[h.len];simp
 refine⟨h.mem,by simp[St.cut,hl],?_,?_,?_,λb e=>⟨(h.own b e).1,λL a=>(h.own b e).2 L (jJ a)⟩⟩
 ·intro l B L g a;have f:l<σ1.length:=(aF.1 g).1;simp only[St.cut,dD,f,aZ] at a;exact dj.oG (rest:=rest) (vH j B (aH g)) (h.box l B L (by rw[bS f];exact g) a)
 ·intro l l' L L' a d b e i;simp only[St.cut,dD] at a d;split at a <;> split at d <;> first|exact h.ez l l' L L' a d b e i|(cases a;done)|(cases d;done)
 ·intro L a b e;exact h.lt L (jJ a) b e
theorem kW.drop(a:jZ rest=true):∀ {ds:List Deferred}{b:List Nat},kW (σ1++rest) s ds b->kW σ1 (s.cut σ1.length) ds b
 |[],[],_=>trivial
 |[],_::_,r=>r.elim
 |_::_,[],r=>r.elim
 |d::ds,l::b,⟨⟨h1,L,r,h2,e⟩,g,f⟩=>by
  have hl:l<σ1.length:=by
   rcases bC l σ1.length with h|h
   ·exact h
   ·rw[cv h] at h1;exact absurd rfl (lY a _ (aH h1))
  rw[bS hl] at h1;exact⟨⟨h1,L,r,by simp only[St.cut,dD,hl,aZ];exact h2,e⟩,g,kW.drop a f⟩
def xZ(n:Nat)(σ:List ak):Bool:=match Nat.ble n σ.length with|true=>jZ (σ.drop n)|false=>false
theorem su{n:Nat}{σ:List ak}(h:xZ n σ=true):Nat.ble n σ.length=true/\jZ (σ.drop n)=true:=by
 unfold xZ at h;split at h
 ·rename_i a;exact⟨a,h⟩
 ·cases h
end drop
def Dg(n:Nat):Fr->Bool
 |[]=>true
 |(_,d)::r=>match vd n d with|true=>Dg n r|false=>false
theorem l4{n:Nat}:∀ {φ:Fr}{t:Nat},Dg n φ=true->vd n (look φ t)=true
 |[],t,_=>rfl
 |(u,d)::r,t,h=>by
  simp only[Dg] at h;cases a:vd n d with
  |false=>simp[a] at h
  |true =>
   simp only[a] at h;simp only[look];cases Nat.beq u t with
   |true=>exact a
   |false=>exact l4 h
section
variable {P:Program}{X:Cx P}{N:Nat}{Qf:Post}{K:List It}{φ:Fr}{σ:List ak}{c:Code}
def jO{S:Type}{P:Program}(X:Cx P)(N:Nat)(Qf:Post)(K:List It)(I:S->Prop)(b:S->Fr)(st:S->List ak)(a:S->Nat)(n:Nat)(x:S):Post:=λe φ' σ'=>match e with
 |.normal=>∃ y,I y/\a y<a x/\nz φ' (b y)/\Dg n (b y)=true/\∃ σ1 rest,σ'=σ1++rest/\σ1.length=n/\(ur n σ1=true/\jZ rest=true)/\AS σ1 (st y)
 |e=>AK X N Qf K e φ' σ'
theorem AK.bU{S:Type}(n:Nat)(I:S->Prop)(fr:S->Fr)(st:S->List ak)(G:S->Nat)(x:S){ps qs:List Prop}(o:ny φ (fr x)=some ps)(V:aa ps)(F:o7 σ (st x)=some qs)(Z:aa qs)(hn:σ.length=n)(U:I x)
  (round:∀ x,I x->AK X N (jO X N Qf K I fr st G n x) [.code c] .normal (fr x) (st x)):AK X N Qf (.code (.loop c)::K) .normal φ σ:=by
 intro s a Q hh b kk cs SS hb hQ;have f:=ju F Z;obtain⟨v,C,_⟩:=f s hh;refine qw (λm a' s'=>∃ y,I y/\br N (st y) s' (fr y) a'/\ag (st y) s'/\bD σ s (st y) s'/\G y=m) ?_ ?_ ⟨x,U,(Q.le (cg o V)).bs f hh,v,C.mH hh,rfl⟩
 ·rintro n a' s' ⟨y,p,H,g,d,e⟩;exact⟨st y,g,λs1 h1=>⟨y,p,H.rely h1 g,g.rely h1,d.trans h1.stepW,e⟩⟩
 rintro m a' s' ⟨y,p,H,g,d,rfl⟩ T;refine round y p s' a' H g b (.inLoop c::kk) cs SS hb ?_;intro e W σ2 s2 a2 q J h2 na;cases e with
 |normal =>
  obtain⟨z,O,r,i,l,σ1,rest,rfl,j,⟨w,u⟩,E⟩:=q;have M:=h2.drop (by rw[j];exact w)
  obtain⟨A,k,B⟩:=E _ M;have D:=J.le i;have Y:eX s2 (s2.cut σ1.length):=⟨rfl,λ_ _ _ h=>h,λ_ _ _=>rfl,h2.mem,λb hb=>hb.imp id λ⟨L,R,hb⟩=>⟨L,jJ R,hb⟩⟩
  refine .ghost Y (T a2 (s2.cut σ1.length) (G z) r ⟨z,O,⟨D.size,D.defers.imp λ_ h1=>(h1.drop u).mono k.ext,λt=>B _ _ ((D.slot t).drop (l4 (by rw[j];exact l)))⟩,A,?_,rfl⟩)
  exact((d.trans na).drop (by omega)).trans (k.mH M)
 |_=>exact ends.cons (λ_ _=>rfl) (by simp) (hQ _ _ _ _ _ q J h2 (d.trans na))
theorem AK.aA{S:Type}{n:Nat}{I:S->Prop}{fr:S->Fr}{st:S->List ak}{e:S->Nat}{x:S}{l:List It}(y:S){ps qs:List Prop}(f:ny φ (fr y)=some ps)(j:aa ps)(d:Dg n (fr y)=true)(a:xZ n σ=true)(b:o7 (σ.take n) (st y)=some qs)(k:aa qs)(h:ur n (σ.take n)=true)(i:I y)(g:e y<e x) :
  AK X N (jO X N Qf l I fr st e n x) [] .normal φ σ :=
 ⟨y,i,g,cg f j,d,σ.take n,σ.drop n,(jH n σ).symm,by simp[c6 (su a).1],⟨h,(su a).2⟩,ju b k⟩
theorem AK.leaveD{S:Type}{n:Nat}{I:S->Prop}{fr:S->Fr}{st:S->List ak}{b:S->Nat}{x:S}{id:Nat}{f a d:List It}(h1:g7 id f=none)(h2:g7 id a=some d)(k:AK X N Qf d .normal φ σ) :
  AK X N (jO X N Qf a I fr st b n x) (.code (.exit id)::f) .normal φ σ :=
 AW.mono (AK.leave (A:=λφ' σ'=>jO X N Qf a I fr st b n x .normal φ' σ') h1 h2 k) λe φ' σ' q=>by
  have key:∀ (K:List It) e,AK X N (λe φ' σ'=>match e with
    |.normal=>jO X N Qf a I fr st b n x .normal φ' σ'
    |e=>AK X N Qf a e φ' σ') K e φ' σ'->AK X N (jO X N Qf a I fr st b n x) K e φ' σ':=by
   have e:(λe φ' σ'=>match e with
    |.normal=>jO X N Qf a I fr st b n x .normal φ' σ'
    |e=>AK X N Qf a e φ' σ')=jO X N Qf a I fr st b n x:=by
    funext e φ' σ';cases e <;> rfl
   intro K g h;rw[e] at h;exact h
  exact key _ _ q
theorem AK.cR{S:Type}{n:Nat}{I:S->Prop}{fr:S->Fr}{st:S->List ak}{a:S->Nat}{x:S}{d b:List It}(k:Qf .ret φ σ):AK X N (jO X N Qf b I fr st a n x) (.code .ret::d) .normal φ σ :=
 AK.ret (AK.nx (Qf:=Qf) k)
theorem br.freeze(t l:Nat){E:TypeId}{cs:List A}{cc:List C}(H:look φ t=.e (.one (.ptr l 0)))(hl:eb l σ=some (.cells E cs))(I:eD cs=some cc)
  {s:St} {a:Act} (n:br N σ s φ a) (hh:ag σ s):∃ s':St,s'.w=s.w/\br N (σ.set l .dead) s' ((t,.e (.one (.c (.rp cc))))::φ) a/\ag (σ.set l .dead) s'/\Step σ s (σ.set l .dead) s':=by
 have q:=cO hl;have k:l<σ.length:=(aF.1 q).1;have y:=n.slot t;rw[H] at y;obtain⟨_,L,b,p,m,G⟩:=y;obtain⟨f,vs,h1,h2,J,F⟩:=hh.box l _ L q p;subst h1;simp at m;subst m
 let s':St:={ s with M:=λz o=>if z=f then vs[o]? else s.M z o }
 have st:Step σ s (σ.set l .dead) s':=by
  refine⟨aq _,λ_ _ _=>rfl,?_,?_,λL h b i=>.inr ⟨L,h,i⟩,?_,rfl,rfl,rfl,rfl⟩
  ·intro b o v g;have d:b≠f:=λe=>by subst e;rw[F] at g;cases g
   show (if b=f then _ else _)=_
   rw[an d];exact g
  ·intro b i O o;have d:b≠f:=λe=>O _ (aH p) (by simp[e])
   show (if b=f then _ else _)=_
   rw[an d]
  ·intro l' B L' ig eR
   by_cases e:l=l'
   ·subst e;rw[q] at ig;cases ig;exact⟨.dead,L',by rw[bo k],eR,rfl⟩
   ·exact⟨B,L',by rw[b7 e];exact ig,eR,.refl _ _⟩
 refine⟨s',rfl,⟨n.size,n.defers.imp λ_ h1=>h1.mono st.ext,λu=>?_⟩,⟨?_,by simp[hh.len,s'],?_,hh.ez,hh.lt,hh.own⟩,st⟩
 ·simp only[look];cases i:Nat.beq t u with
  |false=>exact(n.slot u).mono st.ext hh.len
  |true =>
   have e:=bn i;subst e;rw[G];have D:=iB I J;refine Rd.rp f 0 (λj=>(vs[j]?).getD undef) ?_ ?_
   ·intro j c hj;obtain⟨v,x,_⟩:=D.get (j:=j) (a:=.c c) (by simp[hj])
    show (if f=f then _ else _)=_
    simp[x]
   ·intro j c hj;obtain⟨v,x,p2⟩:=D.get (j:=j) (a:=.c c) (by simp[hj])
    simp only[x,cw];exact Rd.mono st.mem p2
 ·intro b o v g
  by_cases e:b=f
  ·subst e;have hm':vs[o]?=some v:=by simpa[s'] using g
   show s.w.cell? _=_;simp[World.cell?,h2,hm']
  ·exact hh.mem b o v (by simpa[s',e] using g)
 ·intro l' B L' ig eR
  by_cases e:l=l'
  ·subst e;rw[bo k] at ig;cases ig;trivial
  ·rw[b7 e] at ig;refine(hh.box l' B L' ig eR).carry st.ext hh.len λb i=>⟨rfl,λo=>?_⟩
   have d:b≠f:=λr=>e (hh.ez l l' _ L' p eR b (by simp[r]) i)
   show (if b=f then _ else _)=_
   rw[an d]
theorem AK.freeze(t l:Nat){E:TypeId}{cs:List A}{cc:List C}(f:look φ t=.e (.one (.ptr l 0)))(hl:eb l σ=some (.cells E cs))(b:eD cs=some cc)
  (kk:AK X N Qf (.code c::K) .normal ((t,.e (.one (.c (.rp cc))))::φ) (cQ.oV l .dead σ)):AK X N Qf (.code c::K) .normal φ σ:=by
 rw[jo] at kk;exact AK.ghost (λs a d hh=>br.freeze t l f hl b d hh) kk
theorem AK.one{all rest:List Oper}{o:Oper}{x:D}{σ':List ak}(h:OA X N all o φ σ x σ')(a:ij N o.dst=true)(k:AK X N Qf (.ops all rest::K) .normal (mF o.dst x φ) σ'):AK X N Qf (.ops all (o::rest)::K) .normal φ σ :=
 gB.uu h (gY a) k
end
end Go.AM
namespace Go.AM
structure x1 (d:TypeDesc)(es:Array MapEntry)(k:Value)(a:Option (Nat×Value)):Prop where
 key:MapKept.IsKey d k
 now:Instr.findNow d k es.toList 0=some a
 no:a=none->∀ e∈es.toList,e.key≠k
 yes:∀ j v,a=some (j,v)->∃ e,es[j]?=some e/\e.key=k/\e.val=v
theorem sv{d:TypeDesc}{es:Array MapEntry}{k:Value}(b:MapKept.IsKey d k)(h:∀ e∈es.toList,MapKept.IsKey d e.key):∃ a,x1 d es k a:=by
 rcases MapKept.findNow_spec b es.toList 0 h with⟨l,g⟩|⟨j,e,l,g,m⟩
 ·exact⟨none,b,l,λ_=>g,by simp⟩
 ·refine⟨_,b,l,by simp,λn v i=>?_⟩
  cases i;exact⟨e,by simpa using g,m,rfl⟩
section
variable {P:Program}{w:World}{t c f:TypeId}{d:TypeDesc}{r:Nat}{es:Array MapEntry}{clock:Nat}{k:Value}{ok:Bool}
theorem zH(a:P.underlying c=some d):(underlying c).run P w=.ok d w:=by simp[underlying,a]
theorem jw(e:P.underlying c=some d)(a:MapKept.IsKey d k)(b:Bool)(evs:Array Event):(Instr.checkKey b 10000 c k).events P w evs=evs:=by
 show (Instr.checkKey b (9999+1) c k).events P w evs=evs;unfold Instr.checkKey;simp only[Sem.events_bind,zH e,Result.evThen_ok,events_underlying];cases d <;> cases k <;> first|exact a.elim|simp
theorem kJ{l:List MapEntry}{a:Option (Nat×Value)}(b:P.underlying c=some d)(h:Instr.findNow d k l 0=some a)(evs:Array Event):(Instr.findKey c k l).events P w evs=evs:=by
 simp[Instr.findKey,zH b,h]
theorem gN(a:w.heap[r]?=some (.map es clock))(evs:Array Event):(getObj r).events P w evs=evs.push ⟨.obj r,false,false⟩:=by
 simp only[getObj,Sem.events,Sem.runT,a];rfl
theorem mj(a:w.heap[r]?=some (.map es clock)){es':Array MapEntry}{b:Nat}(evs:Array Event):(setObj r (.map es' b)).events P w evs=evs.push ⟨.obj r,true,false⟩:=by
 simp only[setObj,Sem.events,Sem.runT,a];rfl
theorem ml(e:P.underlying c=some d)(a:MapKept.IsKey d k)(b:Bool):(Instr.checkKey b 10000 c k).run P w=.ok () w:=MapKept.run_checkKey e a b 9999
theorem oH(m:P.underlying t=some (.map c f))(e:P.underlying c=some d)(g:w.heap[r]?=some (.map es clock)){a:Option (Nat×Value)}(h:x1 d es k a){z:Value}(l:a=none->(zeroValue f).run P w=.ok z w) :
  (Instr.lookup t (.map (some r)) k ok).run P w=.ok (match a with
   |some (_,v)=>if ok=true then .tuple #[v,.bool true] else v
   |none=>if ok=true then .tuple #[z,.bool false] else z) w/\(Instr.lookup t (.map (some r)) k ok).events P w #[]=#[⟨.obj r,false,false⟩]:=by
 have j:(underlying t).run P w=.ok (.map c f) w:=by simp[underlying,m]
 have i:=ml (w:=w) e h.key es.isEmpty;have b:(Instr.findKey c k es.toList).run P w=.ok a w:=MapKept.run_findKey e h.now;cases a with
 |some jv =>
  constructor
  ·simp only[Instr.lookup,aU,j,bh,MapKept.run_getObj_map g,b8,i,b]
  ·simp only[Instr.lookup,Sem.events_bind,j,Result.evThen_ok,MapKept.run_getObj_map g,b8,Sem.events_pure,i,b,events_underlying,gN g,jw e h.key,kJ e h.now];rfl
 |none =>
  constructor
  ·simp only[Instr.lookup,aU,j,bh,MapKept.run_getObj_map g,b8,i,b,l rfl]
  ·simp only[Instr.lookup,Sem.events_bind,j,Result.evThen_ok,MapKept.run_getObj_map g,b8,Sem.events_pure,i,b,events_underlying,gN g,jw e h.key,kJ e h.now,l rfl,events_zeroValue];rfl
theorem oI(s:P.underlying t=some (.map c f))(i:P.underlying c=some d)(b:w.heap[r]?=some (.map es clock)){a:Option (Nat×Value)}{x:Value}(h:x1 d es k a) :
  (Instr.mapUpdate t (.map (some r)) k x).run P w=.ok () { w with heap:=w.heap.setIfInBounds r (match a with
   |some (j,_)=>.map (es.modify j λe=>{ key:=k,val:=x,born:=e.born }) clock
   |none=>.map (es.push { key:=k,val:=x,born:=clock }) (clock+1)) } /\
  (Instr.mapUpdate t (.map (some r)) k x).events P w #[]=#[⟨.obj r,false,false⟩,⟨.obj r,true,false⟩]:=by
 have p:(underlying t).run P w=.ok (.map c f) w:=by simp[underlying,s]
 have o:=ml (w:=w) i h.key false;have g:(Instr.findKey c k es.toList).run P w=.ok a w:=MapKept.run_findKey i h.now;cases a with
 |some jv =>
  obtain⟨j,v⟩:=jv;obtain⟨e,l,m,_⟩:=h.yes j v rfl;have n:(Instr.keyThatStays k k).run P w=.ok k w:=MapKept.run_keyThatStays h.key;have q:∀ evs,(Instr.keyThatStays k k).events P w evs=evs:=λevs=>by simp[Instr.keyThatStays,MapKept.sameBits_self h.key]
  constructor
  ·simp only[Instr.mapUpdate,aU,p,bh,MapKept.run_getObj_map b,o,g,l,gG,cw,m,n,MapKept.run_setObj_map _ b]
  ·simp only[Instr.mapUpdate,Sem.events_bind,p,Result.evThen_ok,MapKept.run_getObj_map b,o,g,l,gG,cw,m,n,q,events_underlying,gN b,mj b,jw i h.key,kJ i h.now];rfl
 |none =>
  constructor
  ·simp only[Instr.mapUpdate,aU,p,bh,MapKept.run_getObj_map b,o,g,MapKept.run_setObj_map _ b]
  ·simp only[Instr.mapUpdate,Sem.events_bind,p,Result.evThen_ok,MapKept.run_getObj_map b,o,g,events_underlying,gN b,mj b,jw i h.key,kJ i h.now];rfl
end
theorem ag.jf{σ:List ak}{s:St}(h:ag σ s){l:Nat}{H H':Value->(Nat->Option Obj)->Prop}{L L':Loc}(A:σ[l]?=some (.eB H))(m:s.β[l]?=some L){w':World}(K:L'.v=L.v)
  (q:s.w.heap.size<=w'.heap.size) (C:∀ b,b<s.w.heap.size->b∉L.bs->w'.heap[b]?=s.w.heap[b]?) (i:∀ b∈L'.bs,b∈L.bs∨(s.w.heap.size<=b/\b<w'.heap.size))
  (D:∃ ch,H' L'.v ch/\(∀ (b:Nat) (o:Obj),ch b=some o->w'.heap[b]?=some o)/\(∀ b,b∈L'.bs↔(ch b).isSome=true)) (P:w'.os=s.w.os) (N:w'.tape=s.w.tape) (O:w'.output=s.w.output) :
  ag (σ.set l (.eB H')) ⟨s.β.set l L',s.M,w',s.own⟩/\Step σ s (σ.set l (.eB H')) ⟨s.β.set l L',s.M,w',s.own⟩:=by
 have t:l<σ.length:=(aF.1 A).1;have k:l<s.β.length:=by rw[h.len];exact t
 obtain⟨Q,_,_,_,z⟩:=h.box l _ L A m;have x:∀ b∈L'.bs,∀ o,s.M b o=none:=by
  intro b p o;rcases i b p with h1|⟨h1,_⟩
  ·exact z b h1 o
  ·cases y:s.M b o with
   |none=>rfl
   |some v=>have:=h.block y;omega
 have st:Step σ s (σ.set l (.eB H')) ⟨s.β.set l L',s.M,w',s.own⟩:=by
  refine⟨q,?_,λ_ _ _ h=>h,λ_ _ _ _=>rfl,?_,?_,P,N,O,rfl⟩
  ·intro b g U;exact C b g (U L (aH m))
  ·intro d c b a;rcases ph c with h1|h1
   ·exact .inr ⟨d,h1,a⟩
   ·subst h1;rcases i b a with h2|h2
    ·exact .inr ⟨L,aH m,h2⟩
    ·exact .inl h2.1
  ·intro l' B d f c
   by_cases e:l=l'
   ·subst e;rw[A] at f;cases f;rw[m] at c;cases c;exact⟨.eB H',L',by rw[bo t],by show (s.β.set l L')[l]?=_;rw[bo k],K⟩
   ·exact⟨B,d,by rw[b7 e];exact f,by show (s.β.set l L')[l']?=_;rw[b7 e];exact c,.refl _ _⟩
 have j:∀ (l':Nat) (d:Loc),(s.β.set l L')[l']?=some d->(l'=l/\d=L')∨(l≠l'/\s.β[l']?=some d):=by
  intro l' d h2
  by_cases e:l=l'
  ·subst e;rw[bo k] at h2;cases h2;exact .inl ⟨rfl,rfl⟩
  ·rw[b7 e] at h2;exact .inr ⟨e,h2⟩
 refine⟨⟨?_,by simp[h.len],?_,?_,?_,?_⟩,st⟩
 ·intro b o v y;have E:=h.block y;have F:b∉L.bs:=λn=>by rw[z b n o] at y;cases y
  rw[<-h.mem b o v y];simp only[World.cell?];rw[C b E F]
 ·intro l' B d f c;rcases j l' d c with⟨rfl,rfl⟩|⟨e,h2⟩
  ·rw[bo t] at f;cases f;obtain⟨ch,k1,R,J⟩:=D;exact⟨ch,k1,R,J,x⟩
  ·rw[b7 e] at f;refine(h.box l' B d f h2).carry st.ext h.len λb p=>⟨C b (h.lt d (aH h2) b p) λn=>e (h.ez l l' L d m h2 b n p),λ_=>rfl⟩
 ·intro T S L1 d h1 h2 b g a;rcases j T L1 h1 with⟨rfl,rfl⟩|⟨e1,u⟩ <;> rcases j S d h2 with⟨rfl,rfl⟩|⟨e2,r⟩
  ·rfl
  ·rcases i b g with n|n
   ·exact h.ez _ _ L d m r b n a
   ·have:=h.lt d (aH r) b a;omega
  ·rcases i b a with n|n
   ·exact h.ez _ _ L1 L u m b g n
   ·have:=h.lt L1 (aH u) b g;omega
  ·exact h.ez _ _ L1 d u r b g a
 ·intro d c b a;rcases ph c with h1|h1
  ·exact bk (h.lt d h1 b a) q
  ·subst h1;rcases i b a with h2|h2
   ·exact bk (h.lt L (aH m) b h2) q
   ·exact h2.2
 ·intro b D;obtain⟨I,G⟩:=h.own b D;refine⟨bk I q,λd c a=>?_⟩
  rcases ph c with h1|h1
  ·exact G d h1 a
  ·subst h1;rcases i b a with h2|h2
   ·exact G L (aH m) h2
   ·omega
section
variable {H H':Value->(Nat->Option Obj)->Prop}{s:St}
end
theorem aR.oa{fn:Func}{c:Nat}{res:D}{σ':List ak}{φ:Fr}{σ:List ak}(ks:List Nat){ps:List Prop}(h:tX fn.results.toList ks φ res=some ps)(f:aa ps)(i:jT ks σ=some σ')(b:kC σ'=true)(k:dn ks=true)(e:∀ j,j<c->ks[j]?=some j) :
  aR fn c res σ' .normal φ σ:=by
 refine⟨.inr rfl,ks,?_⟩;unfold tX at h;split at h
 ·rename_i ds CF
  split at h
  ·rename_i d g
   split at h
   ·rename_i a
    exact⟨ds,d,ps,CF,g,h,f,a,i,b,k,e⟩
   ·cases h
  ·cases h
 ·cases h
theorem AK.aO{P:Program}{X:Cx P}{N:Nat}{Qf:Post}{K:List It}{φ:Fr}{σ:List ak}{all rest:List Oper}{o:Oper}{m:Operand}{xs:Array Operand}{d:Array TypeId}{f:FuncId}{cap:List C}{a:List D}{c σ1:List ak}{res:D}(i:Ev X f a c res σ1)(ks:List Nat)
  (l:o.guard=none) (q:o.op=.call { callee:=.value m,args:=xs,argTypes:=d }) (r:gL (bw φ m)=some (f,cap)) (b:m8 (xs.toList.map (bw φ)++jq cap)=jl ks a) (e:oU ks.length a=true)
  (j:jT ks σ=some c) (p:cn c=true) (g:cn σ1=true) (s:dn ks=true) (h:Nat.ble ks.length σ1.length=true) (n:ij N o.dst=true)
  (k:AK X N Qf (.ops all rest::K) .normal (mF o.dst (iN (ks++lp σ.length (σ1.length-ks.length)) res) φ) (cQ ks σ1 σ)):AK X N Qf (.ops all (o::rest)::K) .normal φ σ :=
 gB.call (λ_ _ _ _=>de l) q r ks i b e j p g s (c6 h) o.dst rfl (gY n) k
theorem AK.pD{P:Program}{ι:Type}{X:Cx P}{N:Nat}{Qf:Post}{K:List It}{φ:Fr}{σ:List ak}{all rest:List Oper}{o:Oper}{n:Operand}{xs:Array Operand}{d:Array TypeId}{f:FuncId}{cap:List C}{a:List D}{c:List ak}{σ1:ι->List ak}{res:ι->D}(i:fK X f a c res σ1)(ks:List Nat)
  (m:o.guard=none) (r:o.op=.call { callee:=.value n,args:=xs,argTypes:=d }) (s:gL (bw φ n)=some (f,cap)) (b:m8 (xs.toList.map (bw φ)++jq cap)=jl ks a) (e:oU ks.length a=true)
  (l:jT ks σ=some c) (q:cn c=true) (g:∀ j,cn (σ1 j)=true) (t:dn ks=true) (h:∀ j,Nat.ble ks.length (σ1 j).length=true) (p:ij N o.dst=true)
  (k:∀ j,AK X N Qf (.ops all rest::K) .normal (mF o.dst (iN (ks++lp σ.length ((σ1 j).length-ks.length)) (res j)) φ) (cQ ks (σ1 j) σ)):AK X N Qf (.ops all (o::rest)::K) .normal φ σ :=
 gB.HR (λ_ _ _ _=>de m) r s ks i b e l q g t (λj=>c6 (h j)) o.dst rfl (gY p) k
end Go.AM
namespace Go.AM
open Go.Conc
def ee (s:St):Prop:=∀ b o v,s.M b o=some v->s.w.cell? ⟨b,o,none⟩=some v
def iK (c:Nat->Prop):Go.Loc->Prop
  | .cell a=>c a.block
  | .obj r=>c r
  | _=>False
structure Clear (c:Nat->Prop) (s:St):Prop where
  own:∀ b,c b->¬s.own b
  β:∀ b,c b->∀ L∈s.β,b∉L.bs
  M:∀ b,c b->∀ o,s.M b o=none
  lt:∀ b,c b->b<s.w.heap.size
section
variable {c:Nat->Prop} {s s':St}
theorem Clear.step {σ σ':List ak} (h:Clear c s) (st:Step σ s σ' s'):Clear c s':=by
  refine⟨λb a=>by rw[st.own];exact h.own b a,λb a L g d=>?_,λb a o=>by rw[st.hZ b (h.lt b a) (h.β b a)];exact h.M b a o,λb a=>bk (h.lt b a) st.size⟩
  rcases st.rF L g b d with h1|⟨f,e,h1⟩
  · exact absurd (h.lt b a) (Nat.not_lt.2 h1)
  · exact h.β b a f e h1
theorem Clear.ghost (h:Clear c s) (k:eX s s'):Clear c s':=by
  have f:∀ b,c b->¬(s'.own b∨∃ L∈s'.β,b∈L.bs):=λb a e=>by
    rcases k.blk b e with e|⟨L,d,e⟩
    · exact h.own b a e
    · exact h.β b a L d e
  exact⟨λb a e=>f b a (.inl e),λb a L d e=>f b a (.inr ⟨L,d,e⟩),λb a o=>by rw[k.hZ b (h.β b a)];exact h.M b a o,λb a=>by rw[k.w];exact h.lt b a⟩
theorem Clear.forget (h:Clear c s) (k:lj s s'):Clear c s':=by
  refine⟨λb a=>by rw[k.own];exact h.own b a,λb a=>by rw[k.β];exact h.β b a,λb a o=>?_,λb a=>by rw[k.w];exact h.lt b a⟩
  cases e:s'.M b o with
  | none=>rfl
  | some v=>rw[<-k.less b o v e,h.M b a o]
theorem Clear.at (h:Clear c s) (d:Nat):Clear c { s with w:=s.w.at d }:=⟨h.own,h.β,h.M,h.lt⟩
theorem ee.at (h:ee s) (d:Nat):ee { s with w:=s.w.at d }:=h
theorem ee.ghost (k:eX s s'):ee s':=λb o v a=>by rw[k.w];exact k.cell b o v a
theorem ee.forget (h:ee s) (k:lj s s'):ee s':=λb o v a=>by rw[k.w];exact h b o v (k.less b o v a)
theorem ee.lt (h:ee s) {b o:Nat} {v:Value} (a:s.M b o=some v):b<s.w.heap.size:=by
  have:=h b o v a;rcases bC b s.w.heap.size with h1|h1
  · exact h1
  · simp[World.cell?,pj h1] at this
theorem aX.at (h:ee s) (d:Nat):aX s { s with w:=s.w.at d }:=⟨rfl,rfl,rfl,aq _,λ_ _=>rfl,h,rfl,rfl,rfl⟩
theorem IF {σ:List ak} {e:Event} (l:ag σ s) (k:Clear c s) (h:lf s e) {B:Nat} (o:s.w.heap.size<=B):EvL (iK c) B e:=by
  obtain⟨n,wr,q⟩:=e;cases n with
  | cell a =>
    obtain⟨g,j,b⟩:=h;simp only at g j b;subst g;have key:¬c a.block/\a.block<s.w.heap.size:=by
      rcases b with b|⟨⟨L,i,b⟩,_⟩|⟨_,v,b⟩
      · exact b.elim
      · exact⟨λx=>k.β _ x L i b,l.lt L i _ b⟩
      · refine⟨λx=>?_,ee.lt l.mem b⟩
        rw[k.M _ x] at b;cases b
    exact evL_cell a wr key.1 (bk key.2 o)
  | obj r =>
    obtain⟨g,j⟩:=h;simp only at g j;subst g;obtain⟨L,i,b⟩:=j.resolve_left id;refine⟨λx d p=>?_,by simp,by simp,?_⟩
    · simp[MemAct.ofEvent,MemAct.touch?] at d
      subst d;exact absurd b (k.β _ p L i)
    · simp[MemAct.ofEvent,MemAct.low,Loc.low]
      exact bk (l.lt L i _ b) o
  | mark m =>
    simp only[lf] at h;rcases h with rfl|⟨f,rfl⟩
    · exact⟨λx d=>by simp[MemAct.ofEvent,MemAct.touch?] at d,by simp,by simp,by simp[MemAct.ofEvent,MemAct.low]⟩
    · exact⟨λx d=>by simp[MemAct.ofEvent,MemAct.touch?] at d,by simp,by simp,by simp[MemAct.ofEvent,MemAct.low]⟩
  | _=>exact h.elim
end
def m6 (t:Trace):Prop:=∀ a,NoRelease a t
theorem m6.app {t:Trace} (h:m6 t) {g:Nat} {fn:FuncId} {pos:String} {es:Array Event} (b:∀ e∈es,∀ a,e.loc≠.mark (.release a)):m6 (t++MemOp.ofEvents g fn pos es) :=
  λa=>(h a).app λop eC hx=>by
    obtain⟨e,h1,rfl⟩:=Go.Conc.mem_ofEvents eC;exact b e h1 a (Go.ConcR.loc_of_ofEvent hx)
theorem xy {s:St} {e:Event} (d:lf s e) (a:Addr):e.loc≠.mark (.release a):=by
  intro b;obtain⟨loc,wr,g⟩:=e;simp only at b;subst b;rcases d with h|⟨f,h⟩ <;> cases h
theorem pZ {e:Event} (d:e.mute=true) (a:Addr):e.loc≠.mark (.release a):=by
  intro b;obtain⟨loc,wr,f⟩:=e;simp only at b;subst b;simp[Event.mute] at d
def K2 (P:Program) (g:Goroutine) (s:St) (T:Goroutine->St->Prop):Prop :=
  ∀ (c:Nat->Prop) (e:Array Goroutine) (sl:Option (Nat×Nat)) (t:Trace) (q:Nat->Nat),ee s->e[0]?=some g->Leavers P t e q->Past (iK c) s.w.heap.size t->Clear c s->m6 t ->
    ∃ (N:Nat) (b:Nat->Prop) (a:Array Goroutine) (g':Goroutine) (s':St) (f:Option (Nat×Nat)) (d:Trace) (h:Nat->Nat),
      runNT P N (crowd e s.w sl) t=(.next (crowd a s'.w f),d)/\ee s'/\a[0]?=some g'/\Leavers P d a h/\Past (iK b) s'.w.heap.size d/\Clear b s'/\m6 d/\T g' s'
def Cx.beside (P:Program):Cx P:={ main:=true,rely:=λs s'=>aX s s'/\∃ d,s'={ s with w:=s.w.at d },rG:=K2 P,fC:=λh=>h.1,vh:=True }
instance (P:Program):(Cx.beside P).sc:=⟨ab⟩
theorem runNT_add {P:Program}:∀ (N M:Nat) {m a:Machine} {t b:Trace},runNT P N m t=(.next a,b)->runNT P (N+M) m t=runNT P M a b
  | 0,M,m,a,t,b,h=>by simp[runNT] at h;obtain⟨rfl,rfl⟩:=h;simp
  | N+1,M,m,a,t,b,h=>by
    rw[show N+1+M=(N+M)+1 by omega]
    simp only[runNT] at h ⊢;cases d:stepT P m with
    | mk r ops =>
      rw[d] at h;cases r with
      | next m1=>exact runNT_add N M h
      | ended o w=>simp at h
theorem dk.beside {P:Program} {S:Goroutine->St->Prop} {g:Goroutine} {s:St} (h:dk (Cx.beside P) S g s):K2 P g s S:=by
  induction h with
  | stop h=>intro c b sl t q A p o u v I;exact⟨0,c,b,_,_,sl,t,q,rfl,A,p,o,u,v,I,h⟩
  | ghost hg _ J =>
    intro c b sl t q A p o u v I;have:=J c b sl t q (.ghost hg) p o (by rw[hg.w];exact u) (v.ghost hg) I
    rwa [hg.w] at this
  | forget _ hg _ J =>
    intro c b sl t q A p o u v I;have:=J c b sl t q (A.forget hg) p o (by rw[hg.w];exact u) (v.forget hg) I
    rwa [hg.w] at this
  | rG hj _ J =>
    intro c b sl t q A p o u v I;obtain⟨N,l,f,g',s',m,E,L,h1,h2,h3,h4,h5,h6,RA,h7⟩:=hj c b sl t q A p o u v I;obtain⟨M,RB,RD,g2,s2,RE,t2,q2,k1,Z⟩:=J g' s' h7 l f m E L h2 h3 h4 h5 h6 RA;exact⟨N+M,RB,RD,g2,s2,RE,t2,q2,by rw[runNT_add N M h1];exact k1,Z⟩
  | @step g s ng ns ne hr h1 h2 _ J =>
    intro c b sl t q;have key:∀ (n:Nat) (b:Array Goroutine) (d:Nat) (sl:Option (Nat×Nat)) (t:Trace) (q:Nat->Nat),Go.ConcN.sumTo b.size q<=n->ee s->b[0]?=some g->Leavers P t b q->Past (iK c) s.w.heap.size t->Clear c s->m6 t ->
        ∃ (N:Nat) (l:Nat->Prop) (f:Array Goroutine) (g':Goroutine) (s':St) (m:Option (Nat×Nat)) (E:Trace) (L:Nat->Nat),
          runNT P N (crowd b (s.w.at d) sl) t=(.next (crowd f s'.w m),E)/\ee s'/\f[0]?=some g'/\Leavers P E f L/\Past (iK l) s'.w.heap.size E/\Clear l s'/\m6 E/\S g' s':=by
      intro n
      induction n with
      | zero=>?_
      | succ n RF=>?_
      all_goals
        intro b d sl t q I A p o u v G;have RG:∀ g∈b,awake g:=by
          intro x hx;obtain⟨i,hi,rfl⟩:=Array.mem_iff_getElem.1 hx;rcases hU i with rfl|B
          · have:b[0]=g:=by simpa[b0 hi] using p
            rw[this];exact awake_of (.inl hr)
          · exact awake_of ((o.old i _ B (b0 hi)).status.elim .inl λx=>.inr (.inr x))
        obtain⟨i,x,d2,m,hi,hg,O⟩:=crowd_pick (P:=P) (w:=s.w.at d) (sl:=sl) RG ⟨0,g,p,hr⟩;rw[show (s.w.at d).at d2=s.w.at d2 from rfl] at O
        rcases hU i with rfl|B
        · obtain rfl:x=g:=by rw[p] at hi;exact(lb hi).symm
          have D:(Cx.beside P).rely s { s with w:=s.w.at d2 }:=⟨aX.at A d2,d2,rfl⟩;have hgo:=h1 _ D;obtain⟨⟨σ,σ',hh,md,st⟩,U⟩:=h2 _ D;have r:=runT_crowd_go (P:=P) (sl:=m) (i:=0) hi (show stepG P (0==0) x (s.w.at d2)=_ from hgo)
          have Cq:((b.map (woken P x (ng { s with w:=s.w.at d2 }) (ns { s with w:=s.w.at d2 }).w)).setIfInBounds 0 (ng { s with w:=s.w.at d2 })).size=b.size:=by simp
          have F:0<b.size:=(ey.1 p).1;have T:Clear c { s with w:=s.w.at d2 }:=v.at d2;obtain⟨N,l,f,g',s',C,E,L,k1,Z⟩:=J _ D c ((b.map (woken P x (ng { s with w:=s.w.at d2 }) (ns { s with w:=s.w.at d2 }).w)).setIfInBounds 0 (ng { s with w:=s.w.at d2 })) m
            (t++MemOp.ofEvents 0 x.frame.fn x.frame.place (ne { s with w:=s.w.at d2 })) q md.mem (by simp[F])
            ⟨λj y hj hy=>by
              have K:0≠j:=by omega
              rw[hO K,Array.getElem?_map] at hy;obtain⟨z,hz,rfl⟩:=mx.1 hy;have R:=o.old j z hj hz;rw[woken_quitsD R,Deaf_other t (by omega) _ (λop eC=>by obtain⟨e,_,rfl⟩:=Go.Conc.mem_ofEvents eC;rfl)]
              exact R,λj hj=>by
              rw[Deaf_other t (g':=0) (by simp at hj;omega) _ (λop eC=>by obtain⟨e,_,rfl⟩:=Go.Conc.mem_ofEvents eC;rfl)]
              exact o.above j (by simpa using hj)⟩
            ((u.mono st.size).own λe X=>IF hh T (U e X) st.size) (T.step st) (G.app λe X a=>xy (U e X) a)
          exact⟨N+1,l,f,g',s',C,E,L,by simp only[runNT,O,r];exact k1,Z⟩
        · have R:=o.old i x B hi
          have NM:(i==0)=false:=by simp;omega
          have F:i<b.size:=(ey.1 hi).1;cases Q:q i with
          | zero=>rw[Q] at R;rw[R.1] at hg;cases hg
          | succ k =>
            rw[Q] at R;rcases R with⟨hf,_⟩|⟨_,g',es,V,Y,RH⟩
            · rw[hf] at hg;cases hg
            have RI:Go.ConcN.sumTo b.size (Go.ConcN.upd q i k)+(k+1)=Go.ConcN.sumTo b.size q+k:=by
              have:=Go.ConcN.sumTo_upd q k id F;simpa[Q] using this
            first
            | (exfalso;omega)
            | (have r:=runT_crowd_go (P:=P) (sl:=m) (i:=i) hi (by rw[NM];exact Y (s.w.at d2))
               have Cq:((b.map (woken P x g' (s.w.at d2))).setIfInBounds i g').size=b.size:=by simp
               obtain⟨N,l,f,g2,s',C,E,L,k1,Z⟩:=RF ((b.map (woken P x g' (s.w.at d2))).setIfInBounds i g') d2 m (t++MemOp.ofEvents i x.frame.fn x.frame.place es) (Go.ConcN.upd q i k) (by rw[Cq];omega) A
                (by
                  have K:i≠0:=by omega
                  rw[hO K,Array.getElem?_map,p];simp[woken_run hr])
                ⟨λj y hj hy=>by
                  by_cases H:i=j
                  · subst H
                    rw[jF (by simpa using F)] at hy
                    obtain rfl:=lb hy;rw[Go.ConcN.upd_same,Deaf_own];exact RH
                  · rw[hO H,Array.getElem?_map] at hy
                    obtain⟨z,hz,rfl⟩:=mx.1 hy;have W:=o.old j z hj hz;rw[woken_quitsD W,Go.ConcN.upd_ne q k (Ne.symm H),Deaf_other t H _ (λop eC=>by obtain⟨e,_,rfl⟩:=Go.Conc.mem_ofEvents eC;rfl)]
                    exact W,λj hj=>by
                  rw[Deaf_other t (g':=i) (by simp at hj;omega) _ (λop eC=>by obtain⟨e,_,rfl⟩:=Go.Conc.mem_ofEvents eC;rfl)]
                  exact o.above j (by simpa using hj)⟩
                (u.mute (by omega) V) v (G.app λe X a=>pZ (V e X) a)
               exact⟨N+1,l,f,g2,s',C,E,L,by simp only[runNT,O,r];exact k1,Z⟩)
    intro A p o u v G;have:=key _ b s.w.drawn sl t q (aq _) A p o u v G
    rwa [show s.w.at s.w.drawn=s.w from rfl] at this
end Go.AM
namespace Go.AM
open Go.RowKit
open Go.Conc (G solo crowd AtRel Past EvL Leavers)
def St.top(w:World):St:={ β:=[],M:=λb o=>w.cell? ⟨b,o,none⟩,w:=w,own:=λb=>b<w.heap.size }
theorem ag.top(w:World):ag [] (St.top w):=⟨λ_ _ _ h=>h,rfl,by simp,by simp[St.top],by simp[St.top],λb a=>⟨a,by simp[St.top]⟩⟩
theorem Jr{P:Program}{f:FuncId}{a:Frame}{v:Value}{s:St}(h:tO P f a v s)(hi:P.inits.idxOf? f=none)(w:World)(k:∀ b o u,s.M b o=some u->w.cell? ⟨b,o,none⟩=some u):∃ es,stepG P true (G a []) w=.ended (.done v) w es/\∀ e∈es,∃ b o u,e=⟨.cell ⟨b,o,none⟩,false,false⟩/\s.M b o=some u:=by
 obtain⟨fn,l,c⟩:=h.fn;obtain⟨i,g⟩:=c w k;refine⟨seen P a.fn ((results fn a.tmps).events P w #[]),?_,λe j=>g e (Go.Conc.mem_seen j)⟩
 have d:P.inits.idxOf? a.fn=none:=by rw[h.Rz];exact hi
 simp[G,stepG,unwind,doReturn,h.mode,h.defers,h.kind,l,i,d,GStep.after]
theorem fK.O4{P:Program}{ι:Type}{f:FuncId}{args:List D}{res:ι->D}{σ':ι->List ak}(h:fK (Cx.beside P) f args [] res σ')(hi:P.inits.idxOf? f=none){w:World}{vs:List Value}(H:bX [] (St.top w) vs args){Post:Value->World->Prop}
  (R:∀ i v s',cd (σ' i) s' v (res i)->ag (σ' i) s'->Below w.heap.size w s'.w->∀ d,Post v (s'.w.at d)) :
  ∃ M last o w' t',runNT P (M+1) (solo (G (Frame.enter P f vs.toArray .normal) []) w) #[]=(.ended o w',t')/\runN P M (solo (G (Frame.enter P f vs.toArray .normal) []) w)=.next last /\
   step P last=.ended o w'/\Go.Conc.Good P Post last o w' t':=by
 have key:=h.2 (St.top w) vs H (ag.top w) (λg s'=>∃ i v fr,g=G fr []/\tO P f fr v s'/\cd (σ' i) s' v (res i)/\ag (σ' i) s'/\Below w.heap.size w s'.w) []
  (λi fr v s' h1 h2 h3 h4=>.stop ⟨i,v,fr,rfl,h1,h2,h3,⟨h4.os,h4.tape,h4.output,h4.size,λk A=>h4.en k A⟩⟩)
 have J:AM.iK (λ_=>False)=λ_=>False:=by funext l;cases l <;> rfl
 obtain⟨N,s,r,g',s',j,t',S,h1,h2,h3,h4,x,I,T,⟨i,v,fr,rfl,k1,O,F,K⟩⟩:=key.beside (λ_=>False) #[G (Frame.enter P f vs.toArray .normal) []] none #[] (λ_=>0) (ag.top w).mem rfl (Go.Conc.leavers_one P _)
  (by rw[J];exact Go.Conc.past_nil.mono (lP _)) ⟨λ_ h=>h.elim,λ_ h=>h.elim,λ_ h=>h.elim,λ_ h=>h.elim⟩ (λa=>by intro i hi;simp[Trace.act?] at hi)
 have c:=Go.Conc.beside_ends (P:=P) (Shun:=AM.iK s) (B:=s'.w.heap.size) (D:=λ_ _ _=>False) (Post:=Post) (λ_ _ _ h=>h.elim) (sl:=j) (n:=0) h3 h4 x (Go.Conc.Goes.stop λw1 LF=>by
  obtain⟨d,rfl⟩:=LF;obtain⟨es,e1,e2⟩:=Jr k1 hi (s'.w.at d) (λb o u p=>h2 b o u p)
  refine⟨rfl,v,es,e1,λe L=>?_,R i v s' O F K d⟩
  obtain⟨b,o,u,rfl,p⟩:=e2 e L;refine Go.Conc.evL_cell _ _ (λy=>?_) (ee.lt h2 p)
  have:=I.M b y o;rw[p] at this;cases this)
 obtain⟨m,last,o,w',Q,z,t,E,C⟩:=c;refine⟨N+m,last,o,w',Q,?_,?_,E,C⟩
 ·rw[show N+m+1=N+(m+1) by omega]
  exact(runNT_add N (m+1) h1).trans z
 ·have e:=runNT_fst P N (crowd #[G (Frame.enter P f vs.toArray .normal) []] w none) #[];have q:(runNT P N (crowd #[G (Frame.enter P f vs.toArray .normal) []] w none) #[]).1=.next (crowd r s'.w j):=by
   have:runNT P N (crowd #[G (Frame.enter P f vs.toArray .normal) []] w none) #[]=_:=h1;rw[this]
  rw[q] at e;rw[Go.Conc.solo_eq_crowd,runN_add,<-e];exact t
end Go.AM
namespace Go.AM
section
variable {H:Type}{enc:TypeId×Value->H}{P:Program}{W:World}
theorem Ad{w:World}{a:Addr}{v:Value}(h:w.cell? (a.add 0)=some v):a=⟨a.block,a.off,none⟩:=by
 obtain⟨b,o,s⟩:=a;cases s with
 |none=>rfl
 |some q =>
  simp only[Addr.add,aZ,World.cell?] at h;split at h
  ·simp at h
  ·cases h
theorem EY{w:World}{a:Addr}{n:Nat}{v:Value}(h:w.cell? (a.add n)=some v):w.cell? ⟨a.block,a.off+n,none⟩=some v:=by
 by_cases e:n=0
 ·subst e;have c:=Ad h;obtain⟨b,o,s⟩:=a;simp only[Addr.mk.injEq,ai] at c;subst c;exact h
 ·simpa only[Addr.add,an e] using h
def Reads(enc:TypeId×Value->H)(P:Program)(W:World){α:Type}(t:TypeId)(c:α->List C):Prop :=
 ∀ (b:Nat) (cs:List Value) (x:DataW H×List MemPlace),DataW.trod enc P W 0 (λ_=>true) true b t cs=some x->∃ a,sO (St.top W).M cs (c a)
theorem Reads.int{t:TypeId}(c:P.underlying t=some (.int .i64)):Reads enc P W t (λn:Int=>[.int .i64 n]):=λb cs x h=>by
 obtain⟨n,rfl,_,a⟩:=DataW.trod_int c h;simp only[Lit.wf,bA,aD] at a;exact⟨n,Rd.int a,ab⟩
theorem Reads.str{t:TypeId}(b:P.underlying t=some .string):Reads enc P W t (λs:Bs=>[.str s]):=λa cs x h=>by
 obtain⟨s,rfl,_,hl⟩:=DataW.trod_string b h;exact⟨s.data.toList,Rd.str rfl (by simpa[maxLen] using hl),ab⟩
theorem sO.get{M:Mem}:∀ {vs:List Value}{cs:List C}{j:Nat}{c:C},sO M vs cs->cs[j]?=some c->∃ v,vs[j]?=some v/\Rd M v c
 |[],[],_,_,_,h=>by simp at h
 |v::vs,a::cs,0,c,h,hj=>by simp at hj;subst hj;exact⟨v,rfl,h.1⟩
 |v::vs,a::cs,j+1,c,h,hj=>by
  obtain⟨u,h1,h2⟩:=sO.get (vs:=vs) (cs:=cs) (j:=j) h.2 (by simpa using hj)
  exact⟨u,by simpa using h1,h2⟩
 |[],_::_,_,_,h,_=>h.elim
 |_::_,[],_,_,h,_=>h.elim
theorem Reads.sl{α:Type}{t e:TypeId}(c:jd α)(D:P.underlying t=some (.slice e))(y:P.cellsOf e=c.k)(K:0<c.k)(F:Reads enc P W e c.enc):Reads enc P W t (λl:List α=>[.sl false c.k l.length (c.fn l)]):=λz cs x h=>by
 rcases DataW.trod_slice D h with⟨rfl,_⟩|⟨a,len,cap,b,rest,m,_,rfl,_,_,u,s,J,d,_⟩
 ·exact⟨[],Rd.iI,ab⟩
 have n:∀ i,i<len->∃ f:α,∃ vs:List Value,sO (St.top W).M vs (c.enc f)/\∀ j v,vs[j]?=some v->W.cell? (a.add (i*c.k+j))=some v:=by
  intro i hi;have h1:=d i hi;rw[y,aj (by omega:i<b.length)] at h1
  cases p:W.cells? 0 (a.add (i*c.k)) c.k with
  |none=>rw[p] at h1;cases h1
  |some cs =>
   rw[p] at h1;obtain⟨_,hl,o⟩:=World.cells?_some p;obtain⟨f,A⟩:=F _ _ _ h1;refine⟨f,cs,A,λj v hj=>?_⟩
   have G:=(aF.1 hj).1;have:=o j (by omega)
   rw[Go.Deep.add_add,hj] at this;exact this
 have r:∃ g:Nat->α,∀ i,i<len->∃ vs:List Value,sO (St.top W).M vs (c.enc (g i))/\∀ j v,vs[j]?=some v->W.cell? (a.add (i*c.k+j))=some v:=by
  classical
  exact⟨λi=>if hi:i<len then Classical.choose (n i hi) else c.bx,λi hi=>by simp only[dif_pos hi];exact nP (n i hi)⟩
 obtain⟨g,E⟩:=r;have w:∀ i,i<len->c.fn ((List.range len).map g) i=c.enc (g i):=λi hi=>by
  simp[jd.fn,Cj,List.getD_eq_getElem?_getD,hi]
 refine⟨(List.range len).map g,?_,ab⟩;rw[iD,List.length_range];have cell:∀ i,i<len->∀ j q,(c.enc (g i))[j]?=some q->∃ v,W.cell? ⟨a.block,a.off+i*c.k+j,none⟩=some v/\Rd (St.top W).M v q:=λi hi j q hj=>by
  obtain⟨vs,h1,h2⟩:=E i hi;obtain⟨v,I,C⟩:=h1.get hj;refine⟨v,?_,C⟩;have:=EY (h2 j v I)
  rwa [<-kq] at this
 refine Rd.sl a.block a.off (λi j=>(W.cell? ⟨a.block,a.off+i*c.k+j,none⟩).getD undef) u s (by simp) (λi hi=>by rw[w i hi];exact c.len _) (λB=>?_) (λi hi j q hj=>?_) (λi hi j q hj=>?_)
 ·have h1:=d 0 B;rw[y,aj (by omega:0<b.length)] at h1
  cases p:W.cells? 0 (a.add (0*c.k)) c.k with
  |none=>rw[p] at h1;cases h1
  |some cs =>
   obtain⟨_,hl,o⟩:=World.cells?_some p;have:=o 0 (by omega)
   rw[Go.Deep.add_add,Nat.zero_mul,ay,aj (by omega)] at this
   exact b5 some (Ad this)
 ·rw[w i hi] at hj;obtain⟨v,h1,_⟩:=cell i hi j q hj;show W.cell? _=_;rw[h1];rfl
 ·rw[w i hi] at hj;obtain⟨v,h1,h2⟩:=cell i hi j q hj;show Rd _ ((W.cell? _).getD undef) _;rw[h1];exact h2
def ox(enc:TypeId×Value->H)(P:Program)(W:World){α:Type}(fs:List Field)(off tot:Nat)(c:α->List C):Prop :=
 ∀ (k:Nat) (cs:List Value) (b:List (DataW H×List MemPlace)),cs.length=tot->b.length=fs.length->(∀ (j:Nat) (f:Field),fs[j]?=some f->DataW.trod enc P W 0 (λ_=>true) true k f.type ((cs.drop f.offset).take (P.cellsOf f.type))=b[j]?)->∃ a,sO (St.top W).M (cs.drop off) (c a)
theorem ox.one{α:Type}{f:Field}{off tot:Nat}{c:α->List C}(h:Reads enc P W f.type c)(d:f.offset=off)(e:off+P.cellsOf f.type=tot):ox enc P W [f] off tot c:=λk cs ys hl hy hg=>by
 have:=hg 0 f rfl;rw[aj (by simp[hy])] at this
 obtain⟨a,b⟩:=h _ _ _ this;rw[d,List.take_of_length_le (by simp;omega)] at b
 exact⟨a,b⟩
theorem ox.cons{α β:Type}{f:Field}{fs:List Field}{off n tot:Nat}{a:α->List C}{b:β->List C}(h:Reads enc P W f.type a)(i:f.offset=off)(m:P.cellsOf f.type=n)(r:ox enc P W fs (off+n) tot b):ox enc P W (f::fs) off tot (λx:α×β=>a x.1++b x.2):=λk cs ys hl hy hg=>by
 have c:=hg 0 f rfl;rw[aj (by rw[hy];simp)] at c
 obtain⟨x,d⟩:=h _ _ _ c;cases ys with
 |nil=>simp at hy
 |cons y ys =>
  obtain⟨z,g⟩:=r k cs ys hl (by simpa using hy) (λj l hj=>by have:=hg (j+1) l (by simpa using hj);simpa using this)
  rw[i,m] at d;refine⟨(x,z),?_⟩;have e:cs.drop off=(cs.drop off).take n++cs.drop (off+n):=by rw[<-List.drop_drop,jH]
  rw[e];exact d.app g
theorem Reads.struct{α:Type}{t:TypeId}{fs:Array Field}{tot:Nat}{c:α->List C}(g:P.underlying t=some (.struct fs))(d:P.cellsOf t=tot)(r:ox enc P W fs.toList 0 tot c):Reads enc P W t c:=λb cs x h=>by
 obtain⟨e,k,_,_,hl,m,l⟩:=DataW.trod_struct g h;obtain⟨a,i⟩:=r k cs e (hl.trans d) (by simpa using m) (λj f hj=>l j f (by simpa using hj))
 exact⟨a,by simpa using i⟩
theorem Reads.to{α:Type}{t:TypeId}{c b:α->List C}(h:Reads enc P W t c)(e:∀ a,c a=b a):Reads enc P W t b:=by rwa [show c=b from funext e] at h
theorem Reads.agg{α:Type}{t:TypeId}{c:α->List C}(h:Reads enc P W t c){vs:List Value}{d:DataW H}{p:List MemPlace}(g:DataW.Trod enc P W 0 (λ_=>true) true t (.agg vs.toArray) d p):∃ a,cd [] (St.top W) (.agg vs.toArray) (.e (.agg (NC (c a)))):=by
 obtain⟨b,f⟩:=g;obtain⟨a,i⟩:=h _ _ _ f;exact⟨a,vs,rfl,yr (s:=St.top W) (by simpa[Value.cells] using i)⟩
end
end Go.AM
namespace Go.AM
open Go.Conc (G)
theorem Dc{a:Act}{d:Nat}{v:Value}(h:d<a.tmps.size):(a.put (some d) v).tmps.getD d undef=v:=by
 simp[Act.put,bP,jF h]
theorem iM{P:Program}{f:FuncId}{fn:Func}{e:Array Value->Sem Value}(i:P.funcs[f]?=some fn)(a:(fn.name== "runtime.NumGoroutine")=false)
  (d:fn.body.isNone=true) (j:Extern.findNext fn=none) (g:Extern.find fn=some e) (args:Array Value) (h:bH P (e args)) (w:World) (es:Array Event) :
  (callFunc f args).events P w es=es.push ⟨.mark (.extern f),false,true⟩:=by
 have c:fn.name≠ "runtime.NumGoroutine":=by simpa using a
 have b:fn.body=none:=by simpa using d
 simp[callFunc,i,c,b,j,g];rw[h w]
section
variable {P:Program}{X:Cx P}{N:Nat}{Qf:Post}{K:List It}{φ:Fr}{σ:List ak}{all rest:List Oper}{o:Oper}
theorem AK.hand{ι:Type}(x:ι->D)(σ':ι->List ak)(z:o.guard=none)(y:ij N o.dst=true)
  (h:∀ s a,br N σ s φ a->ag σ s->∃ i e s' v,(execOp a.eval o).run P s.w=.ok e s'.w/\(e=.value v∨(e=.skip/\v=undef))/\cd (σ' i) s' v (x i)/\ag (σ' i) s'/\Step σ s (σ' i) s'/\eP s ((execOp a.eval o).events P s.w #[]))
  (k:∀ i,AK X N Qf (.ops all rest::K) .normal (mF o.dst (x i) φ) (σ' i)):AK X N Qf (.ops all (o::rest)::K) .normal φ σ:=by
 intro s a f hh b kk cs S idx hb lq hQ;cases idx with
 |nil=>exact lq.elim
 |cons j idx =>
 refine xU hb lq.1 (de z) λC d=>?_
 have c:=hh.rely d;have m:=f.rely d hh;obtain⟨i,e,s',v,h1,h2,u,n,p,A⟩:=h C a m c;have g:=p.mH c;refine⟨e,s',v,h1,h2,⟨⟨σ,σ' i,c,n,p⟩,A⟩,?_⟩;refine k i s' _ ?_ n b kk cs S idx hb lq.2 λl σ2 s2 a2 q r h2 st=>hQ l σ2 s2 a2 q r h2 ((d.stepW.trans g).trans st)
 cases B:o.dst with
 |none=>exact m.mono g c.len
 |some t=>exact(m.mono g c.len).put (gY y t B) u
theorem AK.law{x:D}{σ':List ak}(h:aG P o (bw φ) σ x σ')(a:o.guard=none)(b:ij N o.dst=true)
  (k:AK X N Qf (.ops all rest::K) .normal (mF o.dst x φ) σ'):AK X N Qf (.ops all (o::rest)::K) .normal φ σ :=
 AK.one (.jg (λ_ _ _ _=>de a) h) b k
end
end Go.AM
namespace Go.AM
inductive Nb where
 |nil (a:Option Addr)
 |row (b cap:Nat)
def Nc(bf:Nb)(n:Nat):Value:=match bf with
 |.nil a=>.slice a 0 0
 |.row b cap=>.slice (some ⟨b,0,none⟩) n cap
def Ga(xs:List Value):Nat->List C:=λi=>[.val (xs.getD i undef)]
section
variable {P:Program}{X:Cx P}{N:Nat}{Qf:Post}{K:List It}{φ:Fr}{σ:List ak}{all rest:List Oper}{o:Oper}
end
end Go.AM
namespace Go.AM
open Go.Conc (G)
section
variable {σ σ':List ak}{s s':St}
end
def sc(σ:List ak)(a:Nat)(u:Value)(k n:Nat)(es:Nat->List C):Prop :=
 ∀ s,ag σ s->∃ (L:Loc) (M':Mem),s.β[a]?=some L/\(∀ b o v,s.M b o=some v->M' b o=some v)/\(∀ b,b∉L.bs->∀ o,M' b o=s.M b o)/\(∀ b o v,M' b o=some v->s.w.cell? ⟨b,o,none⟩=some v) /\
  (∀ b∈L.bs,∀ o,s.M b o=none)/\Rd M' u (.sl false k n es)
section
variable {P:Program}{X:Cx P}{N:Nat}{Qf:Post}{K:List It}{φ:Fr}{σ:List ak}{all rest:List Oper}{o:Oper}
end
end Go.AM
namespace Go.AM
def xz(E:TypeId)(k:Nat)(bf:Nb)(n:Nat)(xs:List Value):Value->(Nat->Option Obj)->Prop:=λv a=>v=.nilFunc/\(∀ x∈xs,cJ x=true)/\xs.length=n*k/\match bf with
 |.nil _=>n=0/\a=λ_=>none
 |.row b cap=>n<=cap/\cap<=9223372036854775807/\∃ c,(xs++c).length=cap*k/\a=λd=>if d=b then some (.cells (xs++c).toArray E (0,0)) else none
theorem xz.lookup{E:TypeId}{k b cap n:Nat}{xs:List Value}{v:Value}{ch:Nat->Option Obj}(h:xz E k (.row b cap) n xs v ch):∃ c,(xs++c).length=cap*k/\ch b=some (.cells (xs++c).toArray E (0,0))/\∀ a,(ch a).isSome=true↔a=b:=by
 obtain⟨_,_,_,_,_,c,h1,h2⟩:=h;refine⟨c,h1,by rw[h2];simp,λa=>?_⟩
 rw[h2]
 by_cases e:a=b <;> simp[e]
section
variable {P:Program}{X:Cx P}{N:Nat}{Qf:Post}{K:List It}{φ:Fr}{σ:List ak}{all rest:List Oper}{o:Oper}
theorem xz.Lb{E:TypeId}{k n l:Nat}{bf:Nb}{xs:List Value}(hl:σ[l]?=some (.eB (xz E k bf n xs)))(es:Nat->List C)(g:∀ i,i<n->(es i).length=k/\∀ M j c x,(es i)[j]?=some c->xs[i*k+j]?=some x->Rd M x c):sc σ l (Nc bf n) k n es:=by
 intro s hh;have z:l<σ.length:=(aF.1 hl).1;have A:l<s.β.length:=by rw[hh.len];exact z
 have B:=aj A;generalize s.β[l]=L at B;obtain⟨ch,D,f,J,e⟩:=hh.box l _ L hl B;cases bf with
 |nil a0 =>
  obtain⟨_,_,_,rfl,_⟩:=D;exact⟨L,s.M,B,λ_ _ _ h=>h,λ_ _ _=>rfl,hh.mem,e,Rd.iI⟩
 |row b cap =>
  obtain⟨V,R,d,O⟩:=D.lookup;obtain⟨T,F,r,y,I,_⟩:=D;have w:b∈L.bs:=(J b).2 (by rw[d];rfl)
  have q:=f b _ d;obtain⟨c1,c2⟩:=hh.Cy (b:=b) (vs:=xs) (e b w) (λo v Q=>by
   simp only[World.cell?,q];have:o<xs.length:=(aF.1 Q).1;simpa[bS this] using Q)
  refine⟨L,λG o=>if G=b then xs[o]? else s.M G o,B,c2,λG H o=>an (by rintro rfl;exact H w),c1.mem,e,?_⟩
  refine Rd.pX (k:=k) (n:=n) (es:=es) (vs:=xs) (a:=some ⟨b,0,none⟩) (b:=b) (off:=0) (cap:=cap) (t:=false) ⟨r,λi hi=>(g i hi).1,λi hi j c hj=>?_⟩ (λ_=>rfl) y I (by simp) (λp u S=>by simpa using S)
  have U:j<k:=by rw[<-(g i hi).1];exact(aF.1 hj).1
  have m:i*k+j<xs.length:=by
   rw[r];have:i*k+k<=n*k:=by rw[<-Nat.succ_mul];exact eT _ hi
   omega
  exact⟨xs[i*k+j],aj m,(g i hi).2 _ j c _ hj (aj m)⟩
theorem AK.xA(t l:Nat){E:TypeId}{k n:Nat}{bf:Nb}{xs:List Value}(es:Nat->List C){c:Code}(z:look φ t=.e (.one (.v (Nc bf n))))(hl:σ[l]?=some (.eB (xz E k bf n xs)))(m:∀ i,i<n->(es i).length=k/\∀ M j c x,(es i)[j]?=some c->xs[i*k+j]?=some x->Rd M x c)
  (kk:AK X N Qf (.code c::K) .normal ((t,.e (.one (.c (.sl false k n es))))::φ) (σ.set l .dead)):AK X N Qf (.code c::K) .normal φ σ:=by
 refine AK.ghost (λs a g hh=>?_) kk
 obtain⟨L,M',p,q,r,F,H,D⟩:=xz.Lb hl es m s hh;have d:l<σ.length:=(aF.1 hl).1;have w:=g.slot t;rw[z] at w;have A:=Rd.fD w;have ex:Ext σ s (σ.set l .dead) { s with M:=M' }:=by
  refine⟨q,λl' B L' ig eR=>?_⟩
  by_cases e:l=l'
  ·subst e;rw[hl] at ig;cases ig;exact⟨.dead,L',by rw[bo d],eR,rfl⟩
  ·exact⟨B,L',by rw[b7 e];exact ig,eR,.refl _ _⟩
 have st:Step σ s (σ.set l .dead) { s with M:=M' }:=by
  refine⟨aq _,λ_ _ _=>rfl,q,λb _ G o=>r b (G L (aH p)) o,λL h b f=>.inr ⟨L,h,f⟩,ex.box,rfl,rfl,rfl,rfl⟩
 refine⟨{ s with M:=M' },rfl,⟨g.size,g.defers.imp λ_ h1=>h1.mono st.ext,λu=>?_⟩,⟨F,by simp[hh.len],?_,hh.ez,hh.lt,hh.own⟩,st⟩
 ·simp only[look];cases f:Nat.beq t u with
  |false=>exact(g.slot u).mono st.ext hh.len
  |true =>
   have e:=bn f;subst e;show Rd _ _ _;rw[A];exact D
 ·intro l' B L' ig eR
  by_cases e:l=l'
  ·subst e;rw[bo d] at ig;cases ig;trivial
  ·rw[b7 e] at ig;exact(hh.box l' B L' ig eR).carry ex hh.len λb f=>⟨rfl,r b λy=>e (hh.ez l l' L L' p eR b y f)⟩
end
end Go.AM
namespace Go.AM
open Go.Conc (G)
section
variable {P:Program}{X:Cx P}{N:Nat}{Qf:Post}{K:List It}{φ:Fr}{σ:List ak}{all rest:List Oper}{o:Oper}
theorem cA.cJ{σ:List ak}{s:St}:∀ {vs:List Value}{cs:List A},cA σ s vs cs->∀ v∈vs,AM.cJ v=true
 |[],[],_,v,h=>by simp at h
 |[],_::_,r,_,_=>r.elim
 |_::_,[],r,_,_=>r.elim
 |u::vs,c::cs,r,v,h=>by
  rcases dF.1 h with rfl|h
  ·exact fz.cell r.1
  ·exact cA.cJ r.2 v h
theorem AK.Cz{T:List (Nat×TI)}(hT:bV P T){t:TypeId}{x y:Operand}{i p:TI}{E:TypeId}{n:Nat}{Q Y:IntKind}(h:o.op=.makeSlice t x y)(hi:aJ T t=some i)(hd:i.desc=.slice E)(hE:aJ T E=some p)
  (hx:bw φ x=.e (.one (.c (.int Q n)))) (hy:bw φ y=.e (.one (.c (.int Y n)))) (A:n*p.bytes<=140737488355328) (RX:n<=140737488355328) (hg:o.guard=none) (hN:ij N o.dst=true)
  (kk:∀ b xs,AK X N Qf (.ops all rest::K) .normal (mF o.dst (.e (.one (.v (Nc (.row b n) n)))) φ) (σ++[.eB (xz E p.size (.row b n) n xs)])):AK X N Qf (.ops all (o::rest)::K) .normal φ σ:=by
 refine AK.hand (ι:=Nat×List Value) (λq=>.e (.one (.v (Nc (.row q.1 n) n)))) (λq=>σ++[.eB (xz E p.size (.row q.1 n) n q.2)]) hg hN (λs a hf hh=>?_) λq=>kk q.1 q.2
 have l:=fJ hf x;rw[hx] at l;have l:=ei l;generalize I:a.eval x=vx at l;cases l;have m:=fJ hf y;rw[hy] at m;have m:=ei m;generalize J:a.eval y=vy at m;cases m;have j:=(hT t i hi).KJ;rw[hd] at j;obtain⟨g,z,L,z2,z3,z4,z5,z6,z7⟩:=(hT E p hE).info;have f:(g.bytes:Int)*(n:Int)<=281474976710656:=by
  have h':((g.bytes*n:Nat):Int)<=281474976710656:=by rw[z3,iq];omega
  rwa [Int.natCast_mul] at h'
 have r:=run_make (P:=P) (w:=s.w) t E g z j L z4 Q Y n n (by omega) (Int.le_refl _) f (by omega)
 simp only[az] at r
 let xs:=(madeCells z.cells (n*g.size)).toList
 have H:xs.length=n*p.size:=by
  simp only[xs,fj,size_madeCells,z2]
 have O:∀ v∈z.cells.toList,cJ v=true:=cA.cJ (gX (σ:=σ) (s:=s) z5);have R:z.cells.toList.length=p.size:=by
  have:=b5 List.length z5;simp only[iD] at this;rw[this,z7]
 have V:∀ v∈xs,cJ v=true:=by
  intro v hv;simp only[xs,madeCells,Array.toList_map,List.mem_map] at hv;obtain⟨q,hq,rfl⟩:=hv;have F:0<z.cells.size:=by
   rcases hU z.cells.size with e|e
   ·have:p.size=0:=by rw[<-R];simpa using e
    rw[z2,this] at hq;simp at hq
   ·exact e
  rw[m0 z.cells _ (jj _ F)];exact O _ (by simp)
 have hB:dj (σ++[.eB (xz E p.size (.row s.w.heap.size n) n xs)]) { s with w:=s.w.alloc (.cells xs.toArray E),β:=s.β++[⟨.nilFunc,[s.w.heap.size]⟩] } (.eB (xz E p.size (.row s.w.heap.size n) n xs)) ⟨.nilFunc,[s.w.heap.size]⟩:=by
  refine⟨λD=>if D=s.w.heap.size then some (.cells (xs++[]).toArray E (0,0)) else none,⟨rfl,V,H,aq _,by omega,[],by simp[H],rfl⟩,λD o f=>?_,λD=>?_,λD f o=>?_⟩
  ·by_cases e:D=s.w.heap.size
   ·subst e;simp only[aZ] at f;cases f;rw[iE];exact cB s.w _
   ·simp[e] at f
  ·by_cases e:D=s.w.heap.size <;> simp[e]
  ·simp at f;subst f;cases S:s.M s.w.heap.size o with
   |none=>rfl
   |some v=>have:=hh.block S;omega
 have G:ag σ { s with w:=s.w.alloc (.cells xs.toArray E) }/\Step σ s σ { s with w:=s.w.alloc (.cells xs.toArray E) } :=
  hh.grow (by simp) (λb A=>bK s.w _ A) (λb A o=>rfl) (λb A o v S=>by
   have:=hh.block S;omega) rfl rfl rfl
 obtain⟨g1,g2⟩:=G.1.hY G.2 rfl hh hB (λb A=>by
   simp at A;subst A;exact⟨aq _,by simp⟩)
 refine⟨(s.w.heap.size,xs),.value (.slice (some ⟨s.w.heap.size,0,none⟩) n n),_,_,?_,.inl rfl,Rd.val rfl,g1,g2,?_⟩
 ·simp[execOp,h,I,J,r,xs]
 ·have e:execOp a.eval o=(do pure (.value (<-Instr.makeSlice t (.int Q n) (.int Y n)))):=by simp[execOp,h,I,J]
  rw[e];refine dx ?_;intro e B;have hu:∀ u,(underlying t).run P u=.ok (.slice E) u:=λu=>by simp[underlying,j]
  have W:∀ u,(typeInfo E).run P u=.ok g u:=λu=>by simp[typeInfo,L]
  have U:∀ u,(zeroValue E).run P u=.ok z u:=λu=>by simp[zeroValue,typeInfo,L,z4]
  have Z:∀ u,(sizeOf E).run P u=.ok g.size u:=λu=>by simp[sizeOf,typeInfo,L]
  have wl:IntKind.i64.wrap (n:Int)=n:=by rw[IntKind.wrap_i64];omega
  have n1:¬(n:Int)<0:=by omega
  have n2:¬(281474976710656<(g.bytes:Int)*n):=by omega
  simp[Instr.makeSlice,hu,W,Z,asInt,asIntOf,wl,n1,n2] at B;rw[U] at B;simp only[Result.evThen_ok,(bH.newRow (P:=P)) _ _,ite_self] at B;unfold askRoom at B;split at B
  ·have:e=⟨.mark .noRoom,false,true⟩:=by simpa using B
   rw[this];exact .inl rfl
  ·simp at B
end
section
variable {σ σ':List ak}{s s':St}{k n d:Nat}{es:Nat->List C}{u:Value}
end
def tU(T:List (Nat×TI))(φ:Fr):List ResultVar->Option (List D)
 |[]=>some []
 |.tmp t::r=>match tU T φ r with
  |some q=>some (look φ t::q)
  |none=>none
 |.cell ad t::r=>match tU T φ r with
  |some q=>match look φ ad with
   |.e (.one (.c (.rp cs)))=>match aJ T t with
    |some i=>match jX i (cs.map A.c) with
     |some e=>some (.e e::q)
     |none=>none
    |none=>none
   |_=>none
  |none=>none
theorem tV{P:Program}{T:List (Nat×TI)}(R:bV P T){N:Nat}{σ:List ak}{s:St}{φ:Fr}{a:Act}(f:br N σ s φ a):∀ {rs:List ResultVar}{ds:List D},tU T φ rs=some ds ->
  ∃ vs,bX σ s vs ds/\∀ w,(∀ b o u,s.M b o=some u->w.cell? ⟨b,o,none⟩=some u)->(rs.mapM (fu a)).run P w=Result.ok vs w/\∀ es,∀ e∈(rs.mapM (fu a)).events P w es,e∈es∨∃ b o u,e=⟨.cell ⟨b,o,none⟩,false,false⟩/\s.M b o=some u
 |[],ds,h=>by cases h;exact⟨[],ab,λw _=>⟨by simp,λes e m=>.inl (by simpa using m)⟩⟩
 |.tmp t::r,ds,h=>by
  simp only[tU] at h;cases H:tU T φ r with
  |none=>simp[H] at h
  |some q =>
   simp[H] at h;subst h;obtain⟨vs,Z,h2⟩:=tV R f H;refine⟨a.tmps.getD t undef::vs,⟨f.slot t,Z⟩,λw p=>?_⟩
   obtain⟨k1,k2⟩:=h2 w p;refine⟨by simp only[jh,aU,fu,b8,bh,k1],λes e m=>k2 es e ?_⟩
   simpa[jh,fu,k1] using m
 |.cell ad t::r,ds,h=>by
  simp only[tU] at h;cases H:tU T φ r with
  |none=>simp[H] at h
  |some q =>
   simp only[H] at h;have hs:=f.slot ad;generalize look φ ad=x at h hs;split at h
   case h_2=>cases h
   rename_i cs
   cases hi:aJ T t with
   |none=>simp[hi] at h
   |some i =>
    simp only[hi] at h;cases k:jX i (cs.map A.c) with
    |none=>simp[k] at h
    |some e0 =>
     simp[k] at h;subst h;obtain⟨vs,Z,h2⟩:=tV R f H;have I:=ei hs;generalize Y:a.tmps.getD ad undef=vx at I;cases I
     rename_i b off g V Gc
     let G:=(List.range cs.length).map g
     have O:cA σ s G (cs.map A.c):=by
      have key:∀ (n:Nat) (ds:List C),(∀ j c,ds[j]?=some c->Rd s.M (g (n+j)) c)->cA σ s ((List.range ds.length).map λj=>g (n+j)) (ds.map A.c):=by
       intro n ds
       induction ds generalizing n with
       |nil=>intro _;trivial
       |cons d ds ih =>
        intro hd;rw[ft,tw];refine⟨hd 0 d rfl,?_⟩;have:=ih (n+1) (λj c l=>by have:=hd (j+1) c (by simpa using l);rwa [show n+1+j=n+(j+1) by omega])
        simpa[Function.comp_def,kq,iu 1] using this
      have:=key 0 cs (by simpa using Gc)
      simpa using this
     have y:∀ (j:Nat) (v:Value),G[j]?=some v->s.M b (off+j)=some v:=λj v l=>by
      simp only[G,mz] at l
      by_cases B:j<cs.length
      ·simp[B] at l;subst l;exact V j cs[j] (aj B)
      ·simp[B] at l
     let w0:World:={ s.w with heap:=s.w.heap }
     have J:∃ v,k5 σ s v e0/\∀ w,(∀ b o u,s.M b o=some u->w.cell? ⟨b,o,none⟩=some u)->(loadVar t ⟨b,off,none⟩).run P w=.ok v w:=by
      have W:=R t i hi;cases ha:i.agg <;> simp only[jX,ha] at k
      ·cases E:eb 0 (cs.map A.c) with
       |none=>simp[E] at k
       |some a0 =>
        simp[E] at k;subst k;obtain⟨v,hv,S⟩:=O.get (cO E);refine⟨v,S,λw p=>?_⟩
        have:=p _ _ _ (y 0 v hv);simp only[loadVar,aU,W.iz,bh,ha];simp at this;simp[run_load,this]
      ·cases E:kQ i.size (cs.map A.c) with
       |none=>simp[E] at k
       |some r0 =>
        simp[E] at k;subst k;obtain⟨q1,q2⟩:=jY E;have F:=O.take i.size;rw[<-q1] at F;have hl:(G.take i.size).length=i.size:=by rw[F.length,q2]
        refine⟨.agg (G.take i.size).toArray,⟨G.take i.size,rfl,F⟩,λw p=>?_⟩
        have L:=run_loadCells_list (P:=P) w ⟨b,off,none⟩ (G.take i.size) (λj v l=>by
         rw[ck];refine p _ _ _ (y j v ?_);rw[dD] at l;split at l
         ·exact l
         ·cases l)
        rw[hl] at L;simp only[loadVar,aU,W.iz,bh,ha];simp[W.run_sizeOf,L]
     obtain⟨v,U,Q⟩:=J;refine⟨v::vs,⟨U,Z⟩,λw p=>?_⟩
     obtain⟨k1,k2⟩:=h2 w p;have z:(fu a (.cell ad t))=loadVar t ⟨b,off,none⟩:=by
      simp[fu,Y,asAddr]
     refine⟨by simp only[jh,aU,z,Q w p,b8,bh,k1],λes e m=>?_⟩
     rw[jh,z] at m;simp only[Sem.events_bind,Q w p,Result.evThen_ok,k1,Sem.events_pure] at m;rcases k2 _ e m with m|m
     ·rcases xx m with m|m
      ·exact .inl m
      ·obtain⟨j,l,rfl⟩:=iL (R t i hi) (w:=w) (n:=cs.length) (λj l=>⟨g j,p _ _ _ (V j cs[j] (aj l))⟩) (by have:=nc k;simpa using this) e m
       exact .inr ⟨b,off+j,g j,rfl,V j cs[j] (aj l)⟩
     ·exact .inr m
theorem vo.Nf{P:Program}{T:List (Nat×TI)}(k:bV P T){fn:Func}{φ:Fr}{ds:List D}{d:D}(h:tU T φ fn.results.toList=some ds)(hj:nb ds=some d):vo P fn φ d:=by
 intro N σ s a f;obtain⟨vs,h1,h2⟩:=tV k f h;refine⟨_,vn hj h1,λw j=>?_⟩
 obtain⟨k1,i⟩:=h2 w j;have e1:(fn.results.mapM (fu a)).run P w=Result.ok vs.toArray w:=by
  rw[pV];simp only[Sem.run_map,k1,bh]
 have e2:∀ es,∀ e∈(fn.results.mapM (fu a)).events P w es,e∈es∨∃ b o u,e=⟨.cell ⟨b,o,none⟩,false,false⟩/\s.M b o=some u:=by
  rw[pV];intro es e c;exact i es e (by simpa using c)
 constructor
 ·unfold results;rw[aU];refine(b5 (λr=>Result.andThen r _) (Eq.trans ?_ e1)).trans ?_
  ·congr 2
  ·simp
 ·intro e c;have g:e∈(fn.results.mapM (fu a)).events P w #[]:=by
   unfold results at c;rw[Sem.events_bind] at c
   change e∈((fn.results.mapM (fu a)).run P w).evThen ((fn.results.mapM (fu a)).events P w #[]) _ at c
   rw[e1] at c;simpa using c
  rcases e2 #[] e g with h|h
  ·simp at h
  ·exact h
section
variable {P:Program}{X:Cx P}{N:Nat}{K:List It}{φ:Fr}{σ:List ak}
def Gd(T:List (Nat×TI))(a:List ResultVar)(ks:List Nat)(φ:Fr)(res:D):Option (List Prop) :=
 match tU T φ a with
 |some ds=>match nb ds with
  |some d=>match vd ks.length res with
   |true=>FQ d (iN ks res)
   |false=>none
  |none=>none
 |none=>none
theorem AK.oX{T:List (Nat×TI)}(k:bV P T){fn:Func}{c:Nat}{res:D}{σ':List ak}(ks:List Nat){ps:List Prop}(h:Gd T fn.results.toList ks φ res=some ps)(f:aa ps)(i:jT ks σ=some σ')(b:kC σ'=true)(l:dn ks=true)(e:∀ j,j<c->ks[j]?=some j) :
  AK X N (vp P fn c res σ') (.code .ret::K) .normal φ σ:=by
 refine AK.ret ⟨.inl rfl,ks,?_⟩;unfold Gd at h;split at h
 ·rename_i ds CF
  split at h
  ·rename_i d g
   split at h
   ·rename_i a
    exact⟨d,ps,vo.Nf k CF g,h,f,a,i,b,l,e⟩
   ·cases h
  ·cases h
 ·cases h
theorem Ev.kR{f:FuncId}{fn:Func}{c:Code}{args:List D}{σ σ':List ak}{res:D}(e:P.funcs[f]?=some fn)(a:(fn.name== "runtime.NumGoroutine")=false)(d:fn.body=some c)(b:Nat.ble args.length fn.ntmps=true)
  (h:Fits args σ->AK X fn.ntmps (vp P fn σ.length res σ') [.code c] .normal (iO 0 args) σ):Ev X f args σ res σ':=by
 refine⟨⟨fn,e,a,by rw[d];rfl⟩,λs vs hr hh=>?_⟩
 have:=fK.IK (X:=X) (ι:=Unit) (σ':=λ_=>σ') (res:=λ_=>res) e a d (c6 b) (AW.mono (AK.of_code (h ⟨s,vs,hr,hh⟩)) λ_ _ _ q=>⟨(),q⟩)
 exact this.CC.2 s vs hr hh
theorem aR.mk{fn:Func}{c:Nat}{res:D}{σ':List ak}(ks:List Nat){ps:List Prop}(h:tX fn.results.toList ks φ res=some ps)(f:aa ps)(i:jT ks σ=some σ')(b:kC σ'=true)(k:dn ks=true)(e:∀ j,j<c->ks[j]?=some j):aR fn c res σ' .ret φ σ:=by
 refine⟨.inl rfl,ks,?_⟩;unfold tX at h;split at h
 ·rename_i ds CF
  split at h
  ·rename_i d g
   split at h
   ·rename_i a
    exact⟨ds,d,ps,CF,g,h,f,a,i,b,k,e⟩
   ·cases h
  ·cases h
 ·cases h
end
theorem cA.set{σ:List ak}{s:St}{a:A}{v:Value}:∀ {vs:List Value}{cs:List A}{j:Nat},cA σ s vs cs->vs[j]?=some v->fz σ s v a->cA σ s vs (cs.set j a)
 |[],[],_,_,h,_=>by simp at h
 |[],_::_,_,h,_,_=>h.elim
 |_::_,[],_,h,_,_=>h.elim
 |u::vs,c::cs,0,h,b,d=>by
  simp at b;subst b;exact⟨d,h.2⟩
 |u::vs,c::cs,j+1,h,b,d=>⟨h.1,cA.set h.2 (by simpa using b) d⟩
section
variable {P:Program}{X:Cx P}{N:Nat}{Qf:Post}{K:List It}{φ:Fr}{σ:List ak}{c:Code}
theorem AK.As(l j:Nat)(E k:Nat)(es':Nat->List C){E0:TypeId}{cs:List A}{k':Nat}{F:Nat->List C}(hl:eb l σ=some (.cells E0 cs))(hj:eb j cs=some (.c (.sl true k' 0 F)))
  (kk:AK X N Qf (.code c::K) .normal φ ((σ++[ak.vec E k 0 es']).set l (.cells E0 (cs.set j (.vec σ.length k 0 es'))))):AK X N Qf (.code c::K) .normal φ σ:=by
 refine AK.ghost (λs a y hh=>?_) kk
 have z:=cO hl;have T:=cO hj;have d:l<σ.length:=(aF.1 z).1;have f:l<s.β.length:=by rw[hh.len];exact d
 have t:=aj f;generalize s.β[l]=L at t;obtain⟨b,vs,G,g,r,Q⟩:=hh.box l _ L z t;obtain⟨v,S,U⟩:=r.get T;have h1:Rd s.M v (.sl true k 0 es'):=(Rd.tK (k:=k') (k':=k) (.inr rfl) U).xw λi hi=>by omega
 have D:dj (σ++[ak.vec E k 0 es']) { s with β:=s.β++[⟨v,[]⟩] } (.vec E k 0 es') ⟨v,[]⟩:=⟨h1.loose,.inl ⟨⟨rfl,rfl⟩,h1⟩⟩;obtain⟨g1,g2⟩:=hh.hY (.refl _ _) rfl hh D (by simp)
 have m:(σ++[ak.vec E k 0 es'])[l]?=some (.cells E0 cs):=by rw[bS d];exact z
 have n:(s.β++[(⟨v,[]⟩:Loc)])[l]?=some L:=by rw[bS f];exact t
 have p:(s.β++[(⟨v,[]⟩:Loc)]).set l L=s.β++[⟨v,[]⟩]:=by
  apply k8
  intro i
  by_cases e:l=i
  ·subst e;rw[bo (by simp;omega),n]
  ·rw[b7 e]
 have x:fX (.cells E0 cs) L (.cells E0 (cs.set j (.vec σ.length k 0 es'))) L:=rfl;have R:σ.length≠l:=by omega
 have o:dj ((σ++[ak.vec E k 0 es']).set l (.cells E0 (cs.set j (.vec σ.length k 0 es')))) ⟨(s.β++[(⟨v,[]⟩:Loc)]).set l L,s.M,s.w,s.own⟩ (.cells E0 (cs.set j (.vec σ.length k 0 es'))) L:=by
  rw[p];refine⟨b,vs,G,g,?_,Q⟩;have ex:Ext (σ++[ak.vec E k 0 es']) { s with β:=s.β++[⟨v,[]⟩] } ((σ++[ak.vec E k 0 es']).set l (.cells E0 (cs.set j (.vec σ.length k 0 es')))) { s with β:=s.β++[⟨v,[]⟩] }:=by
   refine⟨λ_ _ _ h=>h,λi B L' ig eR=>?_⟩
   by_cases e:l=i
   ·subst e;rw[m] at ig;cases ig;exact⟨_,L',bo (by simp;omega),eR,rfl⟩
   ·exact⟨B,L',by rw[b7 e];exact ig,eR,.refl _ _⟩
  have q:cA (σ++[ak.vec E k 0 es']) { s with β:=s.β++[⟨v,[]⟩] } vs cs:=r.mono g2.ext hh.len;refine cA.set (q.mono ex g1.len) S ?_;refine⟨h1.loose,by simp,λW Y V J h=>?_⟩
  rw[b7 (by omega),cv (by omega),Nat.sub_self] at h
  cases h;refine⟨aq _,λ_=>⟨⟨v,[]⟩,?_,rfl⟩⟩
  simp[<-hh.len]
 obtain⟨O,I⟩:=g1.jL (M':=s.M) (w':=s.w) (L':=L) m n x (aq _) (λ_ _ _=>rfl) (λ_ _ _ _=>rfl) (λ_ _ _ h=>h) hh.mem (λb H=>⟨.inl H,hh.lt L (aH t) b H⟩) rfl rfl rfl o
 have st:=g2.trans I;exact⟨⟨(s.β++[(⟨v,[]⟩:Loc)]).set l L,s.M,s.w,s.own⟩,rfl,⟨y.size,y.defers.imp λ_ h1=>h1.mono st.ext,λu=>(y.slot u).mono st.ext hh.len⟩,O,st⟩
end
section
variable {P:Program}{X:Cx P}{N:Nat}{Qf:Post}{K:List It}{φ:Fr}{σ:List ak}{c:Code}
theorem GK{s:St}{E k k':Nat}{es e:Nat->List C}{v:Value}{σ':List ak}{β:List Loc}{l:Nat}(g:Rd s.M v (.sl true k' 0 e))(f:σ'[l]?=some (.buf E k 0 es))(d:β[l]?=some ⟨.slice none 0 0,[]⟩):fz σ' { s with β:=β } v (.bp l (.sl 0 k 0 0)):=by
 obtain⟨a,cap,vs,j,_,_,b,_,_⟩:=g.flat;have:=b rfl;subst this;refine⟨.slice none 0 0,⟨a,none,0,0,j,by omega,rfl,by omega,rfl,λh=>absurd h (by omega)⟩,(aF.1 f).1,λp m o i h=>?_⟩
 rw[f] at h;cases h;exact⟨aq _,λ_=>⟨_,d,rfl⟩⟩
theorem AK.L8(t:Nat)(E k:Nat)(es':Nat->List C){k':Nat}{d:Nat->List C}(g:look φ t=.e (.one (.c (.sl true k' 0 d))))
  (kk:AK X N Qf (.code c::K) .normal ((t,.e (.one (.bp σ.length (.sl 0 k 0 0))))::φ) (σ++[.buf E k 0 es'])):AK X N Qf (.code c::K) .normal φ σ:=by
 refine AK.ghost (λs a b hh=>?_) kk
 have f:=b.slot t;rw[g] at f;obtain⟨g1,g2⟩:=hh.hY (B:=.buf E k 0 es') (L:=⟨.slice none 0 0,[]⟩) (.refl _ _) rfl hh (.inl ⟨rfl,rfl⟩) (by simp)
 refine⟨{ s with β:=s.β++[⟨.slice none 0 0,[]⟩] },rfl,⟨b.size,b.defers.imp λ_ h1=>h1.mono g2.ext,λu=>?_⟩,g1,g2⟩
 simp only[look];cases h:Nat.beq t u with
 |false=>exact(b.slot u).mono g2.ext hh.len
 |true =>
  have e:=bn h;subst e;exact GK (E:=E) (es:=es') (ei f) (by simp) (by simp[<-hh.len])
end
def AZ:Nat->(Nat->List C)->Nat->List C
 |0,es=>es
 |o+1,es=>n3 (o+1) es
theorem zO(o:Nat)(es:Nat->List C)(i:Nat):AZ o es i=es (o+i):=by cases o <;> simp[AZ,n3]
def uz(l k n:Nat)(es:Nat->List C)(a:A):Option (A×List Prop):=match Ax l a with
 |true=>some (a,[])
 |false=>match a with
  |.bp l' (.sl g k' o m)=>match Nat.beq l' l,Nat.beq k' k with
   |true,true=>some (.c (.sl false k m (AZ o es)),[g=n,o+m<=n])
   |_,_=>none
  |_=>none
def uA(l k n:Nat)(es:Nat->List C):List A->Option (List A×List Prop)
 |[]=>some ([],[])
 |a::r=>match uz l k n es a with
  |some (a',p)=>match uA l k n es r with
   |some (r',q)=>some (a'::r',iQ p q)
   |none=>none
  |none=>none
def qI(l k n:Nat)(es:Nat->List C):E1->Option (E1×List Prop)
 |.one a=>match uz l k n es a with|some (a,p)=>some (.one a,p)|none=>none
 |.agg cs=>match uA l k n es cs with|some (cs,p)=>some (.agg cs,p)|none=>none
def pK(l k n:Nat)(es:Nat->List C):List E1->Option (List E1×List Prop)
 |[]=>some ([],[])
 |a::r=>match qI l k n es a with
  |some (a',p)=>match pK l k n es r with
   |some (r',q)=>some (a'::r',iQ p q)
   |none=>none
  |none=>none
def qJ(l k n:Nat)(es:Nat->List C):D->Option (D×List Prop)
 |.e x=>match qI l k n es x with|some (x,p)=>some (.e x,p)|none=>none
 |.eY xs=>match pK l k n es xs with|some (xs,p)=>some (.eY xs,p)|none=>none
 |.any=>some (.any,[])
section
variable {σ1:List ak}{s s2:St}{E k n:Nat}{es:Nat->List C}
structure iV (σ1:List ak)(E k n:Nat)(es:Nat->List C)(s s2:St):Prop where
 en:∀ v a,fz (σ1++[.buf E k n es]) s v a->Ax σ1.length a=true->fz σ1 s2 v a
 Jt:∀ v k' o m,fz (σ1++[.buf E k n es]) s v (.bp σ1.length (.sl n k' o m))->k'=k->o+m<=n->Rd s2.M v (.sl false k m (AZ o es))
theorem iV.a(h:iV σ1 E k n es s s2){v:Value}{a a':A}{ps:List Prop}(b:uz σ1.length k n es a=some (a',ps))(e:aa ps)(r:fz (σ1++[.buf E k n es]) s v a):fz σ1 s2 v a':=by
 unfold uz at b;split at b
 ·rename_i d;cases b;exact h.en v a r d
 ·split at b
  ·rename_i l' g k' o m _
   split at b
   ·rename_i e1 e2
    cases b;have e1:=bn e1;have e2:=bn e2;subst e1 e2;obtain⟨rfl,h2⟩:g=n/\o+m<=n:=e;exact h.Jt v _ _ _ r rfl h2
   ·cases b
  ·cases b
theorem iV.l(h:iV σ1 E k n es s s2):∀ {vs:List Value}{cs lr:List A}{ps:List Prop},uA σ1.length k n es cs=some (lr,ps)->aa ps->cA (σ1++[.buf E k n es]) s vs cs->cA σ1 s2 vs lr
 |[],[],_,_,b,_,_=>by cases b;trivial
 |[],_::_,_,_,_,_,r=>r.elim
 |_::_,[],_,_,_,_,r=>r.elim
 |v::vs,c::cs,lr,ps,b,d,r=>by
  simp only[uA] at b;split at b
  ·rename_i a' p h1
   split at b
   ·rename_i r' q h2
    cases b;rw[aa.cat] at d;exact⟨h.a h1 d.1 r.1,h.l h2 d.2 r.2⟩
   ·cases b
  ·cases b
theorem iV.e(h:iV σ1 E k n es s s2){v:Value}{x d:E1}{ps:List Prop}(b:qI σ1.length k n es x=some (d,ps))(f:aa ps)(r:k5 (σ1++[.buf E k n es]) s v x):k5 σ1 s2 v d:=by
 cases x with
 |one a =>
  simp only[qI] at b;split at b
  ·rename_i a' p h1;cases b;exact h.a h1 f r
  ·cases b
 |agg cs =>
  simp only[qI] at b;split at b
  ·rename_i a' p h1;cases b
   obtain⟨vs,i,g⟩:=r;exact⟨vs,i,h.l h1 f g⟩
  ·cases b
theorem iV.es'(h:iV σ1 E k n es s s2):∀ {vs:List Value}{cs lr:List E1}{ps:List Prop},pK σ1.length k n es cs=some (lr,ps)->aa ps->eZ (σ1++[.buf E k n es]) s vs cs->eZ σ1 s2 vs lr
 |[],[],_,_,a,_,_=>by cases a;trivial
 |[],_::_,_,_,_,_,r=>r.elim
 |_::_,[],_,_,_,_,r=>r.elim
 |v::vs,c::cs,lr,ps,a,b,r=>by
  simp only[pK] at a;split at a
  ·rename_i a' p h1
   split at a
   ·rename_i r' q h2
    cases a;rw[aa.cat] at b;exact⟨h.e h1 b.1 r.1,h.es' h2 b.2 r.2⟩
   ·cases a
  ·cases a
theorem iV.d(h:iV σ1 E k n es s s2){v:Value}{x b:D}{ps:List Prop}(a:qJ σ1.length k n es x=some (b,ps))(f:aa ps)(r:cd (σ1++[.buf E k n es]) s v x):cd σ1 s2 v b:=by
 cases x with
 |e x =>
  simp only[qJ] at a;split at a
  ·rename_i a' p h1;cases a;exact h.e h1 f r
  ·cases a
 |eY xs =>
  simp only[qJ] at a;split at a
  ·rename_i a' p h1;cases a
   obtain⟨vs,i,g⟩:=r;exact⟨vs,i,h.es' h1 f g⟩
  ·cases a
 |any=>cases a;trivial
theorem ag.Jt(hh:ag (σ1++[.buf E k n es]) s)(I:ur σ1.length σ1=true) :
  ∃ s2:St,ag σ1 s2/\eX s s2/\iV σ1 E k n es s s2/\∀ {q:List ak} {s0:St},bD q s0 (σ1++[.buf E k n es]) s->q.length<=σ1.length->bD q s0 σ1 s2:=by
 have G:(σ1++[ak.buf E k n es])[σ1.length]?=some (.buf E k n es):=by simp
 have V:s.β.length=σ1.length+1:=by rw[hh.len];simp
 have z:s.β[σ1.length]?=some s.β[σ1.length]:=aj (by omega)
 generalize s.β[σ1.length]=L at z;have B:=hh.box _ _ L G z;obtain⟨M',Y,S,T,Z⟩:∃ M':Mem,(∀ b o v,s.M b o=some v->M' b o=some v)/\(∀ b,b∉L.bs->∀ o,M' b o=s.M b o)/\(∀ b o v,M' b o=some v->s.w.cell? ⟨b,o,none⟩=some v) /\
   (∀ v k' o m,fz (σ1++[.buf E k n es]) s v (.bp σ1.length (.sl n k' o m))->k'=k->o+m<=n->Rd M' v (.sl false k m (AZ o es))):=by
  rcases B with⟨rfl,rfl⟩|⟨b,c0,vs,zs,rfl,hw,xu,Qu,KV,Q,hM⟩
  ·refine⟨s.M,λ_ _ _ h=>h,λ_ _ _=>rfl,hh.mem,λv k' o m r e x=>?_⟩
   obtain⟨lv,⟨a,a0,cap,c0,f,h1,h2,h3,y,W⟩,_,J⟩:=r;obtain⟨L',d,l⟩:=(J _ _ _ _ G).2 rfl;rw[z] at d;cases d;rw[y] at l;cases l;have:cap=0:=by omega
   subst this;have:m=0:=by omega
   subst this;rw[f];exact Rd.iI
  ·let M':Mem:=λg o=>if g=b then vs[o]? else s.M g o
   have R:∀ g o v,s.M g o=some v->M' g o=some v:=λg o v f=>by
    by_cases e:g=b
    ·subst e;rw[hM] at f;cases f
    ·simp only[M',e,aQ];exact f
   refine⟨M',R,λg A o=>?_,λg o v f=>?_,λv k' o m r e x=>?_⟩
   ·simp at A;simp only[M',A,aQ]
   ·by_cases e:g=b
    ·subst e;simp only[M',aZ] at f;simp only[World.cell?,hw];have:o<vs.length:=(aF.1 f).1;simpa[bS this] using f
    ·simp only[M',e,aQ] at f;exact hh.mem g o v f
   ·subst e;obtain⟨lv,⟨a,a0,cap,c1,f,h1,h2,h3,y,W⟩,_,J⟩:=r;obtain⟨L',d,l⟩:=(J _ _ _ _ G).2 rfl;rw[z] at d;cases d;rw[y] at l;cases l;rw[f];have t:∀ i,i<m->∀ j c,(AZ o es i)[j]?=some c->∃ u,vs[(o+i)*k'+j]?=some u/\Rd s.M u c:=λi hi j c hj=>by
     rw[zO] at hj;exact Q.rd (o+i) (by omega) j c hj
    refine .sl b (o*k') (λi j=>(vs[(o+i)*k'+j]?).getD undef) h1 (by omega) (by simp) (λi hi=>by rw[zO];exact Q.width _ (by omega)) (λhm=>?_) (λi hi j c hj=>?_) (λi hi j c hj=>?_)
    ·obtain⟨b1,e1,e2⟩:=W (by omega)
     cases e1;exact e2
    ·obtain⟨u,O,_⟩:=t i hi j c hj;simp only[M',aZ];rw[show o*k'+i*k'+j=(o+i)*k'+j by rw[eh],O]
     rfl
    ·obtain⟨u,O,u2⟩:=t i hi j c hj;rw[O];exact u2.mono R
 have D:(σ1++[ak.buf E k n es]).set σ1.length .dead=σ1++[.dead]:=by simp
 obtain⟨U,H⟩:=hh.jL (M':=M') (w':=s.w) (B':=.dead) (L':=⟨L.v,[]⟩) G z ab (aq _) (λ_ _ _=>rfl) (λb _ p o=>S b p o) Y T (by simp) rfl rfl rfl ab
 rw[D] at U H;have q3:=U.drop (rest:=[.dead]) I;refine⟨_,q3,⟨rfl,Y,λb p o=>S b (p L (aH z)) o,T,λb p=>?_⟩,⟨λv a r F=>?_,λv k' o m r e x=>Z v k' o m r e x⟩,λ{q s0} st hle=>(st.trans (H.mH hh)).drop (rest:=[.dead]) hle⟩
 ·rcases p with p|⟨L',d,p⟩
  ·exact .inl p
  ·have:=jJ d;rcases ph this with h|rfl
   ·exact .inr ⟨L',h,p⟩
   ·simp at p
 ·exact(r.mono H.ext hh.len).drop (rest:=[.dead]) F
end
theorem fK.lE{P:Program}{ι:Type}{X:Cx P}{f:FuncId}{args:List D}{σ:List ak}{res res':ι->D}{σ1:ι->List ak}{E k:Nat}{n:ι->Nat}{es:ι->Nat->List C}(h:fK X f args σ res (λi=>σ1 i++[.buf E k (n i) (es i)]))
  {ps:ι->List Prop} (g:∀ i,qJ (σ1 i).length k (n i) (es i) (res i)=some (res' i,ps i)) (e:∀ i,aa (ps i)) (b:∀ i,ur (σ1 i).length (σ1 i)=true) (a:∀ i,σ.length<=(σ1 i).length):fK X f args σ res' σ1:=by
 refine⟨h.1,λs vs hr hh S cs hS=>h.2 s vs hr hh S cs λi fr v s' hl rJ md st=>?_⟩
 obtain⟨s2,c1,c2,c3,c4⟩:=md.Jt (b i);exact .ghost c2 (hS i fr v s2 (hl.mono c2.mem) (c3.d (g i) (e i) rJ) c1 (c4 st (a i)))
theorem Ev.lE{P:Program}{X:Cx P}{f:FuncId}{args:List D}{σ:List ak}{res res':D}{σ1:List ak}{E k n:Nat}{es:Nat->List C}(h:Ev X f args σ res (σ1++[.buf E k n es]))
  {ps:List Prop} (e:qJ σ1.length k n es res=some (res',ps)) (d:aa ps) (b:ur σ1.length σ1=true) (a:σ.length<=σ1.length):Ev X f args σ res' σ1 :=
 (fK.lE (ι:=Unit) h.Lc (λ_=>e) (λ_=>d) (λ_=>b) (λ_=>a)).CC
theorem Flat.NR{M:Mem}{k n q m:Nat}{es KM:Nat->List C}{vs kV:List Value}(h:Flat M k n es vs)(b:Flat M k m KM kV)(f:q+m<=n) :
  Flat M k n (λi=>if q<=i/\i<q+m then KM (i-q) else es i) (vs.take (q*k)++kV++vs.drop (q*k+kV.length)):=by
 have hl:=h.len;have s:=b.len;have t:q*k+m*k<=n*k:=by rw[<-eh];exact eT k f
 have l:(vs.take (q*k)).length=q*k:=by simp;omega
 have a:∀ p,(vs.take (q*k)++kV++vs.drop (q*k+kV.length))[p]?=if p<q*k then vs[p]? else if p<q*k+m*k then kV[p-q*k]? else vs[p]?:=by
  intro p
  by_cases c1:p<q*k
  ·rw[ar c1,dt,bS (by omega),dD,ar c1]
  ·rw[an c1]
   by_cases c2:p<q*k+m*k
   ·rw[ar c2,dt,cv (by omega),bS (by omega),l]
   ·rw[an c2,cv (by simp;omega),mW]
    congr 1
    simp;omega
 refine⟨by simp;omega,λi hi=>?_,λi hi j c hj=>?_⟩
 ·by_cases e:q<=i/\i<q+m
  ·rw[ar e];exact b.width _ (by omega)
  ·rw[an e];exact h.width i hi
 ·rw[a]
  by_cases e:q<=i/\i<q+m
  ·rw[ar e] at hj;have g:j<k:=by have:=(aF.1 hj).1;rw[b.width _ (by omega)] at this;exact this
   have e1:q*k<=i*k:=eT k e.1;have e2:i*k+k<=q*k+m*k:=by rw[<-eh,<-Nat.succ_mul];exact eT k e.2
   rw[an (by omega),ar (by omega)]
   obtain⟨v,v1,r⟩:=b.rd (i-q) (by omega) j c hj
   refine⟨v,?_,r⟩;rw[<-v1,Nat.sub_mul]
   congr 1
   omega
  ·rw[an e] at hj;have g:j<k:=by have:=(aF.1 hj).1;rw[h.width i hi] at this;exact this
   have:i*k+j<q*k∨q*k+m*k<=i*k+j:=by
    by_cases c1:i<q
    ·left
     have:i*k+k<=q*k:=by rw[<-Nat.succ_mul];exact eT k c1
     omega
    ·right
     have:(q+m)*k<=i*k:=eT k (by omega)
     rw[eh] at this;omega
   rcases this with c1|c1
   ·rw[ar c1];exact h.rd i hi j _ hj
   ·rw[an (by omega),an (by omega)];exact h.rd i hi j _ hj
section
variable {P:Program}{T:List (Nat×TI)}{o:Oper}{d:Operand->D}{σ:List ak}
theorem tY{x:Operand}{t:TypeId}(h:o.op=.call { callee:=.builtin .clear,args:=#[x],argTypes:=#[t] })(a:Operand->Value) :
  execOp a o=(do pure (.value (<-Builtin.clear_ #[t] o.type #[a x]))):=by
 simp[execOp,h,resolve,invoke,builtin]
theorem vq{M:Mem}{z:Value}{g:List C}{m k:Nat}(r:z.cells.toList.map nU=g.map some)(q:g.length=k):Flat M k m (λ_=>g) (Builtin.zeroCells z.cells m).toList:=by
 have e:z.cells.size=k:=by have:=b5 List.length r;simp at this;omega
 have p:cA [] ⟨[],M,default,λ_=>False⟩ z.cells.toList (g.map A.c):=gX r
 refine⟨by simp[Builtin.zeroCells,e],λ_ _=>q,λi hi j c s=>?_⟩
 have l:j<k:=by rw[<-q];exact(aF.1 s).1
 obtain⟨v,v1,u⟩:=p.get (j:=j) (a:=A.c c) (by rw[mz,s];rfl)
 refine⟨v,?_,u⟩;have n:i*k+j<m*k:=by
  have:i*k+k<=m*k:=by rw[<-Nat.succ_mul];exact eT k hi
  omega
 have b:(i*k+j) % k=j:=by rw[iu,Nat.add_mul_mod_self_right];exact Nat.mod_eq_of_lt l
 have f:j<z.cells.size:=by omega
 have t:z.cells[j]=v:=by
  rw[nR] at v1;rw[b0 f] at v1;exact lb v1
 have h:z.cells[j]! = v:=by rw[m0 z.cells j f,t]
 simp[Builtin.zeroCells,e,n,b,h]
theorem aG.IL(hT:bV P T){x:Operand}{t:TypeId}(h:o.op=.call { callee:=.builtin .clear,args:=#[x],argTypes:=#[t] }){i c:TI}{E:TypeId}(hi:aJ T t=some i)(hd:i.desc=.slice E)(hE:aJ T E=some c)
  {l n q m:Nat} {J:TypeId} {es:Nat->List C} (hx:d x=.e (.one (.bp l (.sl n c.size q m)))) (hl:σ[l]?=some (.buf J c.size n es)) (G:q+m<=n) :
  aG P o d σ .any (σ.set l (.buf J c.size n (nV q (q+m) c.zero es))):=by
 intro s ρ hh hr;have h1:=hr x;rw[hx] at h1
 change fz σ s (ρ x) (.bp l _) at h1
 obtain⟨lv,⟨a,a0,cap,c0,hv,Ng,Lh,Uw,V,U⟩,_,W⟩:=h1;obtain⟨L,O,A⟩:=(W _ _ _ _ hl).2 rfl;rw[V] at A;have f:=(hT t i hi).KJ;rw[hd] at f;rw[tY h,hv]
 by_cases hm:m=0
 ·subst hm;have hz:nV q (q+0) c.zero es=es:=by
   funext j
   simp only[nV];rw[an (by omega)]
  have hs:σ.set l (.buf J c.size n es)=σ:=by
   apply k8
   intro j
   by_cases e:l=j
   ·subst e;rw[bo (aF.1 hl).1,hl]
   ·rw[b7 e]
  rw[hz,hs];refine⟨.value (.tuple #[]),s,?_,ab,hh,.refl _ _,?_⟩
  ·cases a <;> simp[Builtin.clear_,run_underlying f]
  ·intro N p;cases a <;> simp[Builtin.clear_,run_underlying f,Sem.events_bind] at p
 ·obtain⟨b,rfl,rfl⟩:=U (by omega)
  rcases hh.box l _ L hl O with⟨_,rfl⟩|⟨b',c1,vs,I,rfl,g,Y,R,X,hF,hM⟩
  ·cases A
  ·cases A;obtain⟨inf,z,z1,z2,z3,z4,z5,z6,z7⟩:=(hT E c hE).info;have y:=vq (M:=s.M) (m:=m) z5 z7;have hlen:(Builtin.zeroCells z.cells m).toList.length=m*c.size:=y.len;have KY:=hF.len;have hb:q*c.size+m*c.size<=n*c.size:=by rw[<-eh];exact eT _ G
   have Z:=hF.NR y G;have he:(λi=>if q<=i/\i<q+m then (λ_=>c.zero) (i-q) else es i)=nV q (q+m) c.zero es:=rfl
   rw[he] at Z;obtain⟨t1,t2⟩:=hh.cQ hl O Y R X g Z (by simp only[bd,List.length_take,la];omega) hM
   have k:∀ v∈(Builtin.zeroCells z.cells m).toList,v.oneCell'=true:=y.cell;have r:=run_storeCells_at P b (q*c.size) J (Builtin.zeroCells z.cells m).toList 0 (vs++I).toArray s.w g (by simp only[my,bd];omega) k
   have F:((vs++I).toArray.toList.take (q*c.size+0)++(Builtin.zeroCells z.cells m).toList++(vs++I).toArray.toList.drop (q*c.size+0+(Builtin.zeroCells z.cells m).toList.length))=vs.take (q*c.size)++(Builtin.zeroCells z.cells m).toList++vs.drop (q*c.size+(Builtin.zeroCells z.cells m).toList.length)++I:=by
    rw[tG,eg,List.take_append_of_le_length (by omega),List.drop_append_of_le_length (by omega),dt,dt,dt]
   rw[F] at r;have H:∀ u,(zeroValue E).run P u=.ok z u:=λu=>by simp[zeroValue,typeInfo,z1,z4]
   have S:∀ u es,(zeroValue E).events P u es=es:=λu es=>by simp[zeroValue,typeInfo,z1,z4,Sem.events_bind]
   obtain⟨K,rfl⟩:∃ K,m=K+1:=⟨m-1,by omega⟩
   refine⟨.value (.tuple #[]),_,?_,ab,t1,t2,?_⟩
   ·simp[Builtin.clear_,run_underlying f,H,r]
   ·intro N p;have B:N∈(storeCells ⟨b,q*c.size,none⟩ (Builtin.zeroCells z.cells (K+1)).toList).events P s.w #[]:=by
     simp only[Builtin.clear_,Sem.events_bind,gd,mv] at p;simpa[run_underlying f,H,S,r] using p
    rcases dH (Builtin.zeroCells z.cells (K+1)).toList 0 (vs++I).toArray s.w #[] g (by simp only[my,bd];omega) k N B with Q|⟨j,_,_,rfl⟩
    ·simp at Q
    ·exact lS (aH O) (by simp) (hM _)
end
section
variable {P:Program}{X:Cx P}{N:Nat}{Qf:Post}{K:List It}{φ:Fr}{σ:List ak}{all rest:List Oper}{o:Oper}
theorem AK.qx{T:List (Nat×TI)}(U:bV P T){t:TypeId}{x y:Operand}{i f:TI}{E:TypeId}{n:Nat}{D L:IntKind}(h:o.op=.makeSlice t x y)(hi:aJ T t=some i)(hd:i.desc=.slice E)(hE:aJ T E=some f)
  (W:bw φ x=.e (.one (.c (.int D n)))) (hy:bw φ y=.e (.one (.c (.int L n)))) (m:n*f.bytes<=140737488355328) (S:n<=140737488355328) (hg:o.guard=none) (hN:ij N o.dst=true)
  (kk:AK X N Qf (.ops all rest::K) .normal (mF o.dst (.e (.one (.bp σ.length (.sl n f.size 0 n)))) φ) (σ++[.buf E f.size n (λ_=>f.zero)])):AK X N Qf (.ops all (o::rest)::K) .normal φ σ:=by
 refine AK.hand (ι:=Unit) (λ_=>.e (.one (.bp σ.length (.sl n f.size 0 n)))) (λ_=>σ++[.buf E f.size n (λ_=>f.zero)]) hg hN (λs a Q hh=>?_) λ_=>kk
 have j:=fJ Q x;rw[W] at j;have j:=ei j;generalize r:a.eval x=vx at j;cases j;have k:=fJ Q y;rw[hy] at k;have k:=ei k;generalize A:a.eval y=vy at k;cases k;have g:=(U t i hi).KJ;rw[hd] at g;obtain⟨d,z,B,z2,z3,V,R,z6,Y⟩:=(U E f hE).info;have G:(d.bytes:Int)*(n:Int)<=281474976710656:=by
  have h':((d.bytes*n:Nat):Int)<=281474976710656:=by rw[z3,iq];omega
  rwa [Int.natCast_mul] at h'
 have l:=run_make (P:=P) (w:=s.w) t E d z g B V D L n n (by omega) (Int.le_refl _) G (by omega)
 simp only[az] at l;have C:z.cells.size=f.size:=by have:=b5 List.length R;simp at this;omega
 have H:madeCells z.cells (n*d.size)=Builtin.zeroCells z.cells n:=by rw[z2,<-C];rfl
 let xs:=(madeCells z.cells (n*d.size)).toList
 have p:Flat s.M f.size n (λ_=>f.zero) xs:=by show Flat _ _ _ _ (madeCells _ _).toList;rw[H];exact vq R Y
 have Z:dj (σ++[.buf E f.size n (λ_=>f.zero)]) { s with w:=s.w.alloc (.cells xs.toArray E),β:=s.β++[⟨.slice (some ⟨s.w.heap.size,0,none⟩) 0 n,[s.w.heap.size]⟩] } (.buf E f.size n (λ_=>f.zero)) ⟨.slice (some ⟨s.w.heap.size,0,none⟩) 0 n,[s.w.heap.size]⟩:=by
  refine .inr ⟨s.w.heap.size,n,xs,[],rfl,by rw[iE];exact cB s.w _,by rw[iE];exact p.len,aq _,by omega,p,λo=>?_⟩
  cases F:s.M s.w.heap.size o with
  |none=>rfl
  |some v=>have:=hh.block F;omega
 have q:ag σ { s with w:=s.w.alloc (.cells xs.toArray E) }/\Step σ s σ { s with w:=s.w.alloc (.cells xs.toArray E) } :=
  hh.grow (by simp) (λb m=>bK s.w _ m) (λb m o=>rfl) (λb m o v F=>by
   have:=hh.block F;omega) rfl rfl rfl
 obtain⟨g1,g2⟩:=q.1.hY q.2 rfl hh Z (λb m=>by
   simp at m;subst m;exact⟨aq _,by simp⟩)
 refine⟨(),.value (.slice (some ⟨s.w.heap.size,0,none⟩) n n),_,_,?_,.inl rfl,?_,g1,g2,?_⟩
 ·simp[execOp,h,r,A,l,xs]
 ·refine⟨.slice (some ⟨s.w.heap.size,0,none⟩) 0 n,⟨_,_,n,n,rfl,aq _,by simp,by omega,rfl,λ_=>⟨_,rfl,by simp⟩⟩,by simp,λE' k' n' es' he=>?_⟩
  simp at he;obtain⟨_,_,rfl,_⟩:=he;exact⟨aq _,λ_=>⟨_,by show (s.β++[_])[σ.length]?=_;rw[<-hh.len,List.getElem?_concat_length],rfl⟩⟩
 ·have e:execOp a.eval o=(do pure (.value (<-Instr.makeSlice t (.int D n) (.int L n)))):=by simp[execOp,h,r,A]
  rw[e];refine dx ?_;intro e he;have hu:∀ u,(underlying t).run P u=.ok (.slice E) u:=λu=>by simp[underlying,g]
  have J:∀ u,(typeInfo E).run P u=.ok d u:=λu=>by simp[typeInfo,B]
  have I:∀ u,(zeroValue E).run P u=.ok z u:=λu=>by simp[zeroValue,typeInfo,B,V]
  have O:∀ u,(sizeOf E).run P u=.ok d.size u:=λu=>by simp[sizeOf,typeInfo,B]
  have wl:IntKind.i64.wrap (n:Int)=n:=by rw[IntKind.wrap_i64];omega
  have n1:¬(n:Int)<0:=by omega
  have n2:¬(281474976710656<(d.bytes:Int)*n):=by omega
  simp[Instr.makeSlice,hu,J,O,asInt,asIntOf,wl,n1,n2] at he;rw[I] at he;simp only[Result.evThen_ok,(bH.newRow (P:=P)) _ _,ite_self] at he;unfold askRoom at he;split at he
  ·have:e=⟨.mark .noRoom,false,true⟩:=by simpa using he
   rw[this];exact .inl rfl
  ·simp at he
end
end Go.AM
namespace Go.AM.R1
open Go.Proofs
open Go.Sort (swp insInner insOuter ltInt)
variable {X:Cx Tryz.prog}
theorem EZ(n:Int):Ev X 155 [dI n] [] (dB false) []:=by
 refine Ev.body Tryz.func155 rfl rfl rfl λa=>?_
 refine aE [(5,false)] 100 rfl (by simp[aa]) (AK.au rfl ?_)
 simp[aa]
abbrev MZ:bE:=fZ aI (λ_=>dB false) λ_=>[]
theorem Qk:bO X 155 MZ:=.je λn _=>EZ n
theorem Hu(x y:Int):Ev X 121 [dI x,dI y] [] (dB (ltInt x y)) []:=by
 have a:aM X [(155,MZ)]:=.cons Qk .nil;refine Ev.body Tryz.func121 rfl rfl rfl λb=>?_
 refine af a [] 100 rfl (by simp[aa]) (AK.au rfl ?_)
 simp[aa,ltInt]
abbrev oR:bE:=gb aI aI (λx y=>dB (ltInt x y)) λ_ _=>[]
theorem rn:bO X 121 oR:=.gO λx y _=>Hu x y
def eI(d:Array Int)(j:Nat):List C:=[.int .i64 d[j]!]
abbrev gQ(n:Nat):D:=.e (.one (.bp 0 (.sl n 1 0 n)))
abbrev bI(n:Nat)(d:Array Int):ak:=.buf 3 1 n (eI d)
theorem gA:∀ j,j<1->([0]:List Nat)[j]?=some j:=λj a=>by
 have:j=0:=by omega
 subst this;rfl
end Go.AM.R1
namespace Go.AM.R1
open Go.Proofs
open Go.Sort (swp insInner insOuter insertionSort ltInt)
variable {X:Cx Tryz.prog}
theorem eK{d:Array Int}{i j n:Nat}(m:d.size=n)(hi:i<n)(l:j<n){f:Nat->List C}(h:aw n f (eI d)):aw n (fY j [.int .i64 d[i]!] (fY i [.int .i64 d[j]!] f)) (eI (swp d i j)):=by
 intro k e;have g:(swp d i j)[k]! = if k=j then d[i]! else if k=i then d[j]! else d[k]! := by
  unfold swp;rw[m0 _ k (by simp;omega)]
  rw[Array.getElem_setIfInBounds (by simp;omega),Array.getElem_setIfInBounds (by omega)]
  by_cases a:j=k
  ·rw[ar a,ar a.symm]
  ·rw[an a,an (Ne.symm a)]
   by_cases b:i=k
   ·rw[ar b,ar b.symm]
   ·rw[an b,an (Ne.symm b),m0 d k (by omega)]
 have c:=h k e;simp only[eI,fY] at c ⊢;rw[g]
 by_cases a:k=j
 ·simp only[a,aZ]
 ·by_cases b:k=i
  ·subst b;simp only[a,aZ,aQ]
  ·simp only[a,b,aQ];exact c
theorem size_swp(d:Array Int)(i j:Nat):(swp d i j).size=d.size:=by simp[swp]
theorem uW{a j:Nat}{d:Array Int}(h:a<j)(b:ltInt d[j]! d[j-1]! = true):insInner ltInt a j d=insInner ltInt a (j-1) (swp d j (j-1)):=by
 cases j with
 |zero=>omega
 |succ j =>
  simp only[k6] at b ⊢;rw[insInner,ar];rw[b,Bool.and_true];exact aP h
theorem nI{a j:Nat}{d:Array Int}(h:a<j->ltInt d[j]! d[j-1]! = false):insInner ltInt a j d=d:=by
 cases j with
 |zero=>rfl
 |succ j =>
  simp only[k6] at h;rw[insInner,an];intro b;rw[bA] at b;rw[h (ki b.1)] at b;cases b.2
theorem KA(n:Nat)(d:Array Int)(a b:Nat)(r:d.size=n)(u:b<=n)(t:a<=n)(w:n<=4000000) :
  Ev X 115 [gQ n,dI a,dI b] [bI n d] (.eY []) [bI n (insertionSort ltInt d a b)]:=by
 have l:aM X [(121,oR)]:=.cons rn .nil;refine Ev.body Tryz.func115 rfl rfl rfl λv=>?_
 refine bq rfl (by simp[aa,aB];omega) ?_
 refine AK.bU 1 (λs:Nat×Array Int=>s.2.size=n/\a+1<=s.1/\s.1<=n+1/\insOuter ltInt a b s.1 s.2=insertionSort ltInt d a b) (λs=>[(0,gQ n),(1,dI a),(2,dI b),(6,dI s.1)]) (λs=>[bI n s.2]) (λs=>b-s.1) (a+1,d) rfl ?_ rfl ?_ rfl ⟨r,by omega,by simp only;omega,rfl⟩ ?_
 ·simp[aa.cat,aa,aw]
 ·simp[aa.cat,aa,aw]
 rintro⟨i,d1⟩ ⟨p,hi,k,e⟩;simp only at p hi k e
 by_cases h:i<b
 ·refine aE [(12,true)] 100 rfl (by simp[aa];omega) ?_
  refine AK.bU 1 (λs:Nat×Array Int=>s.2.size=n/\s.1<=i/\insInner ltInt a s.1 s.2=insInner ltInt a i d1) (λs=>[(0,gQ n),(1,dI a),(2,dI b),(6,dI i),(7,dI s.1)]) (λs=>[bI n s.2]) (λs=>s.1) (i,d1) rfl ?_ rfl ?_ rfl ⟨p,by simp,rfl⟩ ?_
  ·simp[aa.cat,aa,aw]
  ·simp[aa.cat,aa,aw]
  rintro⟨j,d2⟩ ⟨f,q,c⟩;simp only at f q c
  by_cases o:a<j
  ·have m:((j:Int)-1).toNat=j-1:=by omega
   by_cases g:ltInt d2[j]! d2[j-1]! = true
   ·refine af l [(18,true),(29,true)] 100 rfl ?_ ?_
    ·simp[aa,aB,m,g];omega
    refine AK.aA (j-1,swp d2 j (j-1)) rfl ?_ rfl rfl rfl ?_ rfl ?_ ?_
    ·simp[aa.cat,aa];omega
    ·simp only[aa.cat,aa,m,ay,az,ah,ai];exact eK f (by omega) (by omega) (λ_ _=>rfl)
    ·refine⟨by rw[size_swp];exact f,by omega,?_⟩
     rw[<-c,uW o g]
    ·simp;omega
   ·refine af l [(18,true),(29,false)] 100 rfl ?_ (AK.leaveD rfl rfl ?_)
    ·simp[aa,aB,m,g];omega
    refine bq rfl ?_ (AK.aA (i+1,d2) rfl ?_ rfl rfl rfl ?_ rfl ?_ ?_)
    ·simp[aa,aB];omega
    ·simp[aa.cat,aa]
    ·simp[aa.cat,aa,aw]
    ·refine⟨f,by omega,by simp only;omega,?_⟩
     simp only;rw[<-e,insOuter.eq_1 ltInt a b i,ar h,<-c,nI λ_=>by simpa using g]
    ·simp;omega
  ·refine af l [(18,false)] 100 rfl ?_ (AK.leaveD rfl rfl ?_)
   ·simp[aa,aB];omega
   refine bq rfl ?_ (AK.aA (i+1,d2) rfl ?_ rfl rfl rfl ?_ rfl ?_ ?_)
   ·simp[aa,aB];omega
   ·simp[aa.cat,aa]
   ·simp[aa.cat,aa,aw]
   ·refine⟨f,by omega,by simp only;omega,?_⟩
    simp only;rw[<-e,insOuter.eq_1 ltInt a b i,ar h,<-c,nI λx=>absurd x o]
   ·simp;omega
 ·refine aE [(12,false)] 100 rfl (by simp[aa];omega) (AK.leaveD rfl rfl ?_)
  have:insertionSort ltInt d a b=d1:=by rw[<-e,insOuter,an h]
  rw[this];exact aR.oa [0] rfl ab rfl rfl rfl gA
end Go.AM.R1
namespace Go.AM.R1
open Go.Proofs
open Go.Sort (swp siftDown ltInt)
variable {X:Cx Tryz.prog}
theorem Fb{hi first root:Nat}{d:Array Int}(h:¬2*root+1<hi):siftDown ltInt hi first root d=d:=by
 rw[siftDown,dif_pos (by omega)]
theorem Fc{hi first root:Nat}{d:Array Int}(h:2*root+1<hi)(b:2*root+1+1<hi->ltInt d[first+(2*root+1)]! d[first+(2*root+1)+1]! = false)(c:ltInt d[first+root]! d[first+(2*root+1)]! = true) :
  siftDown ltInt hi first root d=siftDown ltInt hi first (2*root+1) (swp d (first+root) (first+(2*root+1))):=by
 rw[siftDown.eq_1 ltInt hi first root d,dif_neg (by omega),an (by intro a;rw[bA] at a;rw[b (ki a.1)] at a;cases a.2),an (by simp[c])]
theorem Ae{hi first root:Nat}{d:Array Int}(h:2*root+1<hi)(b:2*root+1+1<hi->ltInt d[first+(2*root+1)]! d[first+(2*root+1)+1]! = false)(c:ltInt d[first+root]! d[first+(2*root+1)]! = false) :
  siftDown ltInt hi first root d=d:=by
 rw[siftDown.eq_1 ltInt hi first root d,dif_neg (by omega),an (by intro a;rw[bA] at a;rw[b (ki a.1)] at a;cases a.2),ar (by simp[c])]
theorem KD{hi first root:Nat}{d:Array Int}(h:2*root+1+1<hi)(a:ltInt d[first+(2*root+1)]! d[first+(2*root+1+1)]! = true)(b:ltInt d[first+root]! d[first+(2*root+1+1)]! = true) :
  siftDown ltInt hi first root d=siftDown ltInt hi first (2*root+1+1) (swp d (first+root) (first+(2*root+1+1))):=by
 rw[siftDown.eq_1 ltInt hi first root d,dif_neg (by omega),ar (by rw[bA];exact⟨aP h,a⟩),an (by simp only[show 2*root+2=2*root+1+1 from rfl,b];decide),dif_pos (by omega)]
theorem Hz{hi first root:Nat}{d:Array Int}(h:2*root+1+1<hi)(a:ltInt d[first+(2*root+1)]! d[first+(2*root+1+1)]! = true)(b:ltInt d[first+root]! d[first+(2*root+1+1)]! = false) :
  siftDown ltInt hi first root d=d:=by
 rw[siftDown.eq_1 ltInt hi first root d,dif_neg (by omega),ar (by rw[bA];exact⟨aP h,a⟩),ar (by simp only[show 2*root+2=2*root+1+1 from rfl,b];decide)]
set_option maxHeartbeats 4000000 in
theorem HA(n:Nat)(d:Array Int)(lo hi first:Nat)(o:d.size=n)(r:first+hi<=n)(p:lo<=n)(t:n<=4000000) :
  Ev X 150 [gQ n,dI lo,dI hi,dI first] [bI n d] (.eY []) [bI n (siftDown ltInt hi first lo d)]:=by
 have j:aM X [(121,oR)]:=.cons rn .nil;refine Ev.body Tryz.func150 rfl rfl rfl λq=>?_
 refine bq rfl ab ?_;refine AK.bU 1 (λs:Nat×Array Int=>s.2.size=n/\s.1<=n/\siftDown ltInt hi first s.1 s.2=siftDown ltInt hi first lo d) (λs=>[(0,gQ n),(1,dI lo),(2,dI hi),(3,dI first),(8,dI s.1)]) (λs=>[bI n s.2]) (λs=>hi-s.1) (lo,d) rfl ?_ rfl ?_ rfl ⟨o,p,rfl⟩ ?_
 ·simp[aa.cat,aa,aw]
 ·simp[aa.cat,aa,aw]
 rintro⟨root,d1⟩ ⟨i,m,a⟩;simp only at i m a
 by_cases h:2*root+1<hi
 ·have f:((first:Int)+(2*(root:Int)+1)).toNat=first+(2*root+1):=by omega
  have g:((first:Int)+(2*(root:Int)+1)+1).toNat=first+(2*root+1+1):=by omega
  by_cases k:2*root+1+1<hi
  ·by_cases e:ltInt d1[first+(2*root+1)]! d1[first+(2*root+1+1)]! = true
   ·have l:((first:Int)+(2*(root:Int)+1+1)).toNat=first+(2*root+1+1):=by omega
    have c:((first:Int)+(root:Int)).toNat=first+root:=by omega
    by_cases b:ltInt d1[first+root]! d1[first+(2*root+1+1)]! = true
    ·refine af j [(16,false),(20,true),(35,true),(51,true)] 200 rfl ?_ (AK.aA (2*root+1+1,swp d1 (first+root) (first+(2*root+1+1))) rfl ?_ rfl rfl rfl ?_ rfl ?_ ?_)
     ·simp only[aa,ay,f,g,c,l,e,b,aB,aD,aY,ai,ah];and_intros <;> omega
     ·simp only[aa.cat,aa,ai,ah];and_intros <;> omega
     ·simp only[aa.cat,aa,ay,f,g,c,l,ah,ai];exact eK i (by omega) (by omega) (λ_ _=>rfl)
     ·refine⟨by rw[size_swp];exact i,by simp only;omega,?_⟩
      rw[<-a,KD k e b]
     ·simp only;omega
    ·rw[kl] at b;rw[show siftDown ltInt hi first lo d=d1 by rw[<-a,Hz k e b]]
     refine af j [(16,false),(20,true),(35,true),(51,false)] 200 rfl ?_ (AK.cR (aR.mk [0] rfl ab rfl rfl rfl gA));simp only[aa,ay,f,g,c,l,e,b,aB,aD,aY,ai,ah];and_intros <;> omega
   ·rw[kl] at e;have c:((first:Int)+(root:Int)).toNat=first+root:=by omega
    by_cases b:ltInt d1[first+root]! d1[first+(2*root+1)]! = true
    ·refine af j [(16,false),(20,true),(35,false),(51,true)] 200 rfl ?_ (AK.aA (2*root+1,swp d1 (first+root) (first+(2*root+1))) rfl ?_ rfl rfl rfl ?_ rfl ?_ ?_)
     ·simp only[aa,ay,f,g,c,e,b,aB,aD,aY,ai,ah];and_intros <;> omega
     ·simp only[aa.cat,aa,ai,ah];and_intros <;> omega
     ·simp only[aa.cat,aa,ay,f,g,c,ah,ai];exact eK i (by omega) (by omega) (λ_ _=>rfl)
     ·refine⟨by rw[size_swp];exact i,by simp only;omega,?_⟩
      rw[<-a,Fc h (λ_=>e) b]
     ·simp only;omega
    ·rw[kl] at b;rw[show siftDown ltInt hi first lo d=d1 by rw[<-a,Ae h (λ_=>e) b]]
     refine af j [(16,false),(20,true),(35,false),(51,false)] 200 rfl ?_ (AK.cR (aR.mk [0] rfl ab rfl rfl rfl gA));simp only[aa,ay,f,g,c,e,b,aB,aD,aY,ai,ah];and_intros <;> omega
  ·have e:True:=ab;have c:((first:Int)+(root:Int)).toNat=first+root:=by omega
   by_cases b:ltInt d1[first+root]! d1[first+(2*root+1)]! = true
   ·refine af j [(16,false),(20,false),(51,true)] 200 rfl ?_ (AK.aA (2*root+1,swp d1 (first+root) (first+(2*root+1))) rfl ?_ rfl rfl rfl ?_ rfl ?_ ?_)
    ·simp only[aa,ay,f,g,c,b,aB,aD,aY,ai,ah];and_intros <;> omega
    ·simp only[aa.cat,aa,ai,ah];and_intros <;> omega
    ·simp only[aa.cat,aa,ay,f,g,c,ah,ai];exact eK i (by omega) (by omega) (λ_ _=>rfl)
    ·refine⟨by rw[size_swp];exact i,by simp only;omega,?_⟩
     rw[<-a,Fc h (λx=>absurd x k) b]
    ·simp only;omega
   ·rw[kl] at b;rw[show siftDown ltInt hi first lo d=d1 by rw[<-a,Ae h (λx=>absurd x k) b]]
    refine af j [(16,false),(20,false),(51,false)] 200 rfl ?_ (AK.cR (aR.mk [0] rfl ab rfl rfl rfl gA));simp only[aa,ay,f,g,c,b,aB,aD,aY,ai,ah];and_intros <;> omega
 ·refine aE [(16,true)] 100 rfl (by simp only[aa,aB,aD,ai,ah];and_intros <;> omega) (AK.leaveD rfl rfl ?_)
  rw[<-a,Fb h];exact aR.oa [0] rfl ab rfl rfl rfl gA
end Go.AM.R1
namespace Go.AM.R1
open Go.Proofs
open Go.Sort (swp order2 median medianAdjacent choosePivot Hint ltInt)
variable {X:Cx Tryz.prog}
abbrev bN(k:Nat):ak:=.cells 3 [.c (.int .i64 k)]
abbrev KT:D:=.e (.one (.ptr 1 0))
abbrev Ul(a b:Nat):D:=.eY [.one (.c (.int .i64 a)),.one (.c (.int .i64 b))]
theorem Af:∀ j,j<2->([0,1]:List Nat)[j]?=some j:=λj a=>by
 rcases j with _|_|j
 ·rfl
 ·rfl
 ·omega
theorem oz(n:Nat)(d:Array Int)(a b sw:Nat)(g:a<n)(i:b<n)(k:n<=4000000)(f:sw<=1000) :
  Ev X 192 [gQ n,dI a,dI b,KT] [bI n d,bN sw] (Ul (order2 ltInt d a b sw).1 (order2 ltInt d a b sw).2.1) [bI n d,bN (order2 ltInt d a b sw).2.2]:=by
 have c:aM X [(121,oR)]:=.cons rn .nil;refine Ev.body Tryz.func192 rfl rfl rfl λj=>?_
 by_cases h:ltInt d[b]! d[a]! = true
 ·have e:order2 ltInt d a b sw=(b,a,sw+1):=by simp[order2,h]
  rw[e];refine af c [(18,true)] 200 rfl ?_ (AK.eF [0,1] rfl ?_ rfl rfl rfl Af)
  ·simp only[aa,ay,az,h,aB,ai,ah];and_intros <;> omega
  ·simp[aa,aa.cat]
 ·have e:order2 ltInt d a b sw=(a,b,sw):=by simp[order2,h]
  rw[e];rw[kl] at h;refine af c [(18,false)] 200 rfl ?_ (AK.eF [0,1] rfl ?_ rfl rfl rfl Af)
  ·simp only[aa,ay,az,h,aB,ai,ah];and_intros <;> omega
  ·simp[aa,aa.cat]
theorem j9{d:Array Int}{a b sw n:Nat}(e:a<n)(c:b<n):(order2 ltInt d a b sw).1<n/\(order2 ltInt d a b sw).2.1<n/\(order2 ltInt d a b sw).2.2<=sw+1:=by
 unfold order2;split <;> simp only <;> omega
theorem th(n:Nat)(d:Array Int)(a b c sw:Nat)(h:a<n)(i:b<n)(g:c<n)(f:n<=4000000)(k:sw<=900) :
  Ev X 154 [gQ n,dI a,dI b,dI c,KT] [bI n d,bN sw] (dI (median ltInt d a b c sw).1) [bI n d,bN (median ltInt d a b c sw).2]:=by
 refine Ev.body Tryz.func154 rfl rfl rfl λl=>?_
 have e:=j9 (d:=d) (sw:=sw) h i;have j:=j9 (d:=d) (sw:=(order2 ltInt d a b sw).2.2) e.2.1 g;refine eQ rfl ab ?_;refine AK.aO (oz n d a b sw h i f (by omega)) [0,1] rfl rfl rfl rfl rfl rfl rfl rfl rfl rfl rfl ?_
 refine eQ rfl ab ?_;refine AK.aO (oz n d (order2 ltInt d a b sw).2.1 c (order2 ltInt d a b sw).2.2 e.2.1 g f (by omega)) [0,1] rfl rfl rfl rfl rfl rfl rfl rfl rfl rfl rfl ?_
 refine eQ rfl ab ?_;refine AK.aO (oz n d (order2 ltInt d a b sw).1 (order2 ltInt d (order2 ltInt d a b sw).2.1 c (order2 ltInt d a b sw).2.2).1 (order2 ltInt d (order2 ltInt d a b sw).2.1 c (order2 ltInt d a b sw).2.2).2.2 e.1 j.1 f (by omega)) [0,1] rfl rfl rfl rfl rfl rfl rfl rfl rfl rfl rfl ?_
 refine eQ rfl ab (AK.eF [0,1] rfl ?_ rfl rfl rfl Af);simp[aa,aa.cat,median]
theorem BQ{d:Array Int}{a b c sw n:Nat}(i:a<n)(j:b<n)(f:c<n):(median ltInt d a b c sw).1<n/\(median ltInt d a b c sw).2<=sw+3:=by
 have e:=j9 (d:=d) (sw:=sw) i j;have g:=j9 (d:=d) (sw:=(order2 ltInt d a b sw).2.2) e.2.1 f;have h:=j9 (d:=d) (sw:=(order2 ltInt d (order2 ltInt d a b sw).2.1 c (order2 ltInt d a b sw).2.2).2.2) e.1 g.1;unfold median;exact⟨h.2.1,by simp only;omega⟩
theorem uX(n:Nat)(d:Array Int)(a sw:Nat)(e:1<=a)(f:a+1<n)(c:n<=4000000)(b:sw<=900) :
  Ev X 153 [gQ n,dI a,KT] [bI n d,bN sw] (dI (medianAdjacent ltInt d a sw).1) [bI n d,bN (medianAdjacent ltInt d a sw).2]:=by
 refine Ev.body Tryz.func153 rfl rfl rfl λg=>?_
 obtain⟨a,rfl⟩:∃ a',a=a'+1:=⟨a-1,by omega⟩
 refine eQ rfl (by simp only[aa,aB];and_intros <;> omega) ?_
 have key:∀ x y z:Int,x=(a:Int)->y=((a+1:Nat):Int)->z=((a+1+1:Nat):Int)->Ev X 154 [gQ n,dI x,dI y,dI z,KT] [bI n d,bN sw] (dI (median ltInt d a (a+1) (a+1+1) sw).1) [bI n d,bN (median ltInt d a (a+1) (a+1+1) sw).2]:=by
  rintro x y z rfl rfl rfl;exact th n d a (a+1) (a+1+1) sw (by omega) (by omega) (by omega) c b
 refine AK.aO (key (((a+1:Nat):Int)-1) _ (((a+1:Nat):Int)+1) (by omega) rfl (by omega)) [0,1] rfl rfl rfl rfl rfl rfl rfl rfl rfl rfl rfl ?_
 refine eQ rfl ab (AK.eF [0,1] rfl ?_ rfl rfl rfl Af);simp[aa,aa.cat,medianAdjacent]
end Go.AM.R1
namespace Go.AM
open Go.Conc (G)
section
variable {P:Program}{X:Cx P}{N:Nat}{Qf:Post}{φ:Fr}{σ:List ak}
theorem AK.vI{c:Code}{K:List It}{φ':Fr}{σ':List ak}(k:AK X N Qf (.code c::K) .normal φ' σ'){ps qs:List Prop}(h1:ny φ φ'=some ps)(a:aa ps)(h2:o7 σ σ'=some qs)(b:aa qs):AK X N Qf (.code c::K) .normal φ σ :=
 AK.norm σ' h2 b (AW.le k (cg h1 a))
def oG:List It->List It
 |.blk _::K=>oG K
 |K=>K
theorem AK.oG:∀ {K:List It},AK X N Qf (oG K) .normal φ σ->AK X N Qf K .normal φ σ
 |[],h=>h
 |.blk _::K,h=>AK.oG (K:=K) h
 |.code _::_,h=>h
 |.ops _ _::_,h=>h
theorem AK.ik{S S2:Type}{c c2:Code}(id:Nat){K g i:List It}(h2:g7 id K=some g)(l:Go.AM.oG g=.code c2::i)(O:S2->Prop)(rQ:S2->Fr)(a:S2->List ak)(n:Nat)(I:S->Prop)(fr:S->Fr)(st:S->List ak)(h:S->Nat)(x:S)
  {ps qs:List Prop} (d:ny φ (fr x)=some ps) (e:aa ps) (b:o7 σ (st x)=some qs) (f:aa qs) (m:σ.length=n) (j:I x)
  (round:(∀ (y:S2) {φ:Fr} {σ:List ak} {ps qs:List Prop},O y->ny φ (rQ y)=some ps->aa ps->o7 σ (a y)=some qs->aa qs->AK X N Qf g .normal φ σ) ->
   ∀ x,I x->AK X N (jO X N Qf K I fr st h n x) [.code c] .normal (fr x) (st x))
  (after:∀ y,O y->AK X N Qf (.code c2::i) .normal (rQ y) (a y)):AK X N Qf (.code (.loop c)::K) .normal φ σ :=
 AK.bU n I fr st h x d e b f m j (round λy _ _ _ _ k h1 e h2 f=>AK.oG (by rw[l];exact(after y k).vI h1 e h2 f))
end
end Go.AM
namespace Go.AM.R1
open Go.Proofs
open Go.Sort (swp order2 median medianAdjacent choosePivot Hint ltInt)
variable {X:Cx Tryz.prog}
def j8:Hint->Int|.unknown=>0|.increasing=>1|.decreasing=>2
theorem rv(n:Nat)(d:Array Int){a b c:Nat}(sw:Nat)(g:a<n)(i:b<n)(f:c<n)(k:n<=4000000)(e:sw<=900){x y z:Int}(l:x=a)(j:y=b)(h:z=c) :
  Ev X 154 [gQ n,dI x,dI y,dI z,KT] [bI n d,bN sw] (dI (median ltInt d a b c sw).1) [bI n d,bN (median ltInt d a b c sw).2]:=by
 subst l j h;exact th n d a b c sw g i f k e
theorem jS(n:Nat)(d:Array Int){a:Nat}(sw:Nat)(c:1<=a)(e:a+1<n)(f:n<=4000000)(b:sw<=900){x:Int}(g:x=a) :
  Ev X 153 [gQ n,dI x,KT] [bI n d,bN sw] (dI (medianAdjacent ltInt d a sw).1) [bI n d,bN (medianAdjacent ltInt d a sw).2]:=by
 subst g;exact uX n d a sw c e f b
theorem kP{d:Array Int}{a sw n:Nat}(c:1<=a)(b:a+1<n):(medianAdjacent ltInt d a sw).1<n/\(medianAdjacent ltInt d a sw).2<=sw+3 :=
 BQ (by omega) (by omega) (by omega)
abbrev lM(k:Nat):Hint:=if k=0 then .increasing else if k=12 then .decreasing else .unknown
theorem Fe{d:Array Int}{a l:Nat}(b:8<=l)(c:l<50):choosePivot ltInt d a (a+l)=((median ltInt d (a+l / 4*1) (a+l / 4*2) (a+l / 4*3) 0).1,lM (median ltInt d (a+l / 4*1) (a+l / 4*2) (a+l / 4*3) 0).2):=by
 unfold choosePivot;simp only[kh,ar (show l≥8 from b),an (show ¬l≥50 by omega)]
abbrev mA(d:Array Int)(a l:Nat):=medianAdjacent ltInt d (a+l / 4*1) 0
abbrev mB(d:Array Int)(a l:Nat):=medianAdjacent ltInt d (a+l / 4*2) (mA d a l).2
abbrev mC(d:Array Int)(a l:Nat):=medianAdjacent ltInt d (a+l / 4*3) (mB d a l).2
theorem Ff{d:Array Int}{a l:Nat}(b:50<=l):choosePivot ltInt d a (a+l)=((median ltInt d (mA d a l).1 (mB d a l).1 (mC d a l).1 (mC d a l).2).1,lM (median ltInt d (mA d a l).1 (mB d a l).1 (mC d a l).1 (mC d a l).2).2):=by
 unfold choosePivot;simp only[kh,ar (show l≥8 by omega),ar (show l≥50 from b)]
theorem BN(n:Nat)(d:Array Int)(a b:Nat)(j:a<=b)(o:b<=n)(i:8<=b-a)(g:n<=4000000) :
  Ev X 118 [gQ n,dI a,dI b] [bI n d] (.eY [.one (.c (.int .i64 (choosePivot ltInt d a b).1)),.one (.c (.int .i64 (j8 (choosePivot ltInt d a b).2)))]) [bI n d]:=by
 refine Ev.body Tryz.func118 rfl rfl rfl λq=>?_
 obtain⟨l,rfl⟩:∃ l,b=a+l:=⟨b-a,by omega⟩
 rw[kh] at i
 by_cases h:l<50
 ·refine aE [(32,true),(34,false)] 200 rfl ?_ ?_
  ·simp only[aa,aB,aD,aY,ai,ah];and_intros <;> omega
  refine AK.aO (rv n d (a:=a+l / 4*1) (b:=a+l / 4*2) (c:=a+l / 4*3) 0 (by omega) (by omega) (by omega) g (by omega) (by omega) (by omega) (by omega)) [0,1] rfl rfl rfl rfl rfl rfl rfl rfl rfl rfl rfl ?_
  rw[Fe i h];generalize median ltInt d (a+l / 4*1) (a+l / 4*2) (a+l / 4*3) 0=r
  by_cases e:r.2=0
  ·refine aE [(52,true)] 200 rfl (by simp[aa,e]) (AK.eF [0] rfl ?_ rfl rfl rfl gA)
   simp[aa,aa.cat,e,j8,lM]
  by_cases f:r.2=12
  ·refine aE [(52,false),(55,true)] 200 rfl (by simp[aa,f]) (AK.eF [0] rfl ?_ rfl rfl rfl gA)
   simp[aa,aa.cat,f,j8,lM]
  ·refine aE [(52,false),(55,false)] 200 rfl (by simp[aa,e];omega) (AK.eF [0] rfl ?_ rfl rfl rfl gA)
   simp[aa,aa.cat,e,f,j8,lM]
 ·refine aE [(32,true),(34,true)] 200 rfl ?_ ?_
  ·simp only[aa,aB,aD,aY,ai,ah];and_intros <;> omega
  have m:(mA d a l).1<n/\(mA d a l).2<=0+3:=kP (d:=d) (a:=a+l / 4*1) (sw:=0) (n:=n) (by omega) (by omega)
  have p:(mB d a l).1<n/\(mB d a l).2<=(mA d a l).2+3:=kP (d:=d) (a:=a+l / 4*2) (sw:=(mA d a l).2) (n:=n) (by omega) (by omega)
  have k:(mC d a l).1<n/\(mC d a l).2<=(mB d a l).2+3:=kP (d:=d) (a:=a+l / 4*3) (sw:=(mB d a l).2) (n:=n) (by omega) (by omega)
  refine AK.aO (jS n d (a:=a+l / 4*1) 0 (by omega) (by omega) g (by omega) (by omega)) [0,1] rfl rfl rfl rfl rfl rfl rfl rfl rfl rfl rfl ?_
  refine eQ rfl ab ?_;refine AK.aO (jS n d (a:=a+l / 4*2) (mA d a l).2 (by omega) (by omega) g (by omega) (by omega)) [0,1] rfl rfl rfl rfl rfl rfl rfl rfl rfl rfl rfl ?_
  refine eQ rfl ab ?_;refine AK.aO (jS n d (a:=a+l / 4*3) (mB d a l).2 (by omega) (by omega) g (by omega) (by omega)) [0,1] rfl rfl rfl rfl rfl rfl rfl rfl rfl rfl rfl ?_
  refine eQ rfl ab ?_;refine AK.aO (rv n d (a:=(mA d a l).1) (b:=(mB d a l).1) (c:=(mC d a l).1) (mC d a l).2 (by omega) (by omega) (by omega) g (by omega) rfl rfl rfl) [0,1] rfl rfl rfl rfl rfl rfl rfl rfl rfl rfl rfl ?_
  rw[Ff (by omega)]
  generalize median ltInt d (mA d a l).1 (mB d a l).1 (mC d a l).1 (mC d a l).2=r
  by_cases e:r.2=0
  ·refine aE [(52,true)] 200 rfl (by simp[aa,e]) (AK.eF [0] rfl ?_ rfl rfl rfl gA)
   simp[aa,aa.cat,e,j8,lM]
  by_cases f:r.2=12
  ·refine aE [(52,false),(55,true)] 200 rfl (by simp[aa,f]) (AK.eF [0] rfl ?_ rfl rfl rfl gA)
   simp[aa,aa.cat,f,j8,lM]
  ·refine aE [(52,false),(55,false)] 200 rfl (by simp[aa,e];omega) (AK.eF [0] rfl ?_ rfl rfl rfl gA)
   simp[aa,aa.cat,e,f,j8,lM]
end Go.AM.R1
namespace Go.AM.R1
open Go.Proofs
open Go.Sort (swp reverseLoop reverseRange siftDown heapBuild heapPop heapSort ltInt)
variable {X:Cx Tryz.prog}
theorem KC(n:Nat)(d:Array Int)(a b:Nat)(k:d.size=n)(l:1<=b)(m:a<=n)(o:b<=n)(q:n<=4000000):Ev X 119 [gQ n,dI a,dI b] [bI n d] (.eY []) [bI n (reverseRange d a b)]:=by
 refine Ev.body Tryz.func119 rfl rfl rfl λp=>?_
 refine bq rfl (by simp[aa,aB];omega) ?_
 refine AK.bU 1 (λs:Nat×Nat×Array Int=>s.2.2.size=n/\s.1<=n/\s.2.1<n+1/\s.2.1<n/\reverseLoop s.1 s.2.1 s.2.2=reverseRange d a b) (λs=>[(0,gQ n),(6,dI s.1),(7,dI s.2.1)]) (λs=>[bI n s.2.2]) (λs=>s.2.1-s.1) (a,b-1,d) rfl ?_ rfl ?_ rfl ⟨k,by simp only;omega,by simp only;omega,by simp only;omega,rfl⟩ ?_
 ·simp[aa.cat,aa];omega
 ·simp[aa.cat,aa,aw]
 rintro⟨i,j,d1⟩ ⟨f,hi,_,g,c⟩;simp only at f hi g c
 by_cases h:i<j
 ·refine aE [(13,true)] 200 rfl ?_ (AK.aA (i+1,j-1,swp d1 i j) rfl ?_ rfl rfl rfl ?_ rfl ?_ ?_)
  ·simp only[aa,ay,az,aB,aD,ai,ah];and_intros <;> omega
  ·simp only[aa.cat,aa,ai,ah];and_intros <;> omega
  ·simp only[aa.cat,aa,ay,az,ah,ai];exact eK f (by omega) (by omega) (λ_ _=>rfl)
  ·refine⟨by rw[size_swp];exact f,by simp only;omega,by simp only;omega,by simp only;omega,?_⟩
   rw[<-c,reverseLoop.eq_1 i j d1,ar h]
  ·simp only;omega
 ·have e:reverseRange d a b=d1:=by rw[<-c,reverseLoop,an h]
  rw[e];refine aE [(13,false)] 100 rfl (by simp[aa];omega) (AK.leaveD rfl rfl ?_)
  exact aR.oa [0] rfl ab rfl rfl rfl gA
theorem wS(n:Nat)(d:Array Int){lo hi first:Nat}(c:d.size=n)(b:first+hi<=n)(e:lo<=n)(g:n<=4000000){x y z:Int}(h:x=lo)(f:y=hi)(a:z=first) :
  Ev X 150 [gQ n,dI x,dI y,dI z] [bI n d] (.eY []) [bI n (siftDown ltInt hi first lo d)]:=by
 subst h f a;exact HA n d lo hi first c b e g
theorem ti(hi first:Nat):∀ (m root:Nat)(d:Array Int),hi-root<=m->(siftDown ltInt hi first root d).size=d.size:=by
 intro m
 induction m with
 |zero=>intro root d h;rw[siftDown,dif_pos (by omega)]
 |succ m a =>
  intro root d h;rw[siftDown];split
  ·rfl
  split
  ·split
   ·rfl
   split
   ·rw[a _ _ (by omega),size_swp]
   ·rfl
  ·split
   ·rfl
   ·rw[a _ _ (by omega),size_swp]
set_option maxHeartbeats 1000000 in
theorem Hx(n:Nat)(d:Array Int)(a b:Nat)(t:d.size=n)(p:a<=b)(q:1<=b-a)(r:b<=n)(o:n<=4000000):Ev X 116 [gQ n,dI a,dI b] [bI n d] (.eY []) [bI n (heapSort ltInt d a b)]:=by
 refine Ev.body Tryz.func116 rfl rfl rfl λu=>?_
 obtain⟨l,rfl⟩:∃ l,b=a+l:=⟨b-a,by omega⟩
 rw[kh] at q;refine eQ rfl (by simp only[aa,aB,ai,ah];and_intros <;> omega) ?_
 refine AK.ik (S2:=Array Int) 0 rfl rfl (λd2=>d2.size=n/\d2=heapBuild ltInt l a ((l-1) / 2+1) d) (λ_=>[(0,gQ n),(6,dI a),(7,dI 0),(8,dI l)]) (λd2=>[bI n d2]) 1 (λs:Nat×Array Int=>s.2.size=n/\s.1<=(l-1) / 2+1/\heapBuild ltInt l a s.1 s.2=heapBuild ltInt l a ((l-1) / 2+1) d) (λs=>[(0,gQ n),(6,dI a),(7,dI 0),(8,dI l),(9,dI ((s.1:Int)-1))]) (λs=>[bI n s.2]) (λs=>s.1) ((l-1) / 2+1,d) rfl ?_ rfl ?_ rfl ⟨t,aq _,rfl⟩ ?_ ?_
 ·simp[aa.cat,aa];omega
 ·simp[aa.cat,aa,aw]
 ·rintro out ⟨k,d1⟩ ⟨e,g,c⟩;simp only at e g c;cases k with
  |zero =>
   refine aE [(19,false)] 100 rfl (by simp[aa]) (AK.leaveD rfl rfl ?_)
   exact out d1 ⟨e,c⟩ rfl (by simp[aa,aa.cat]) rfl (by simp[aa,aa.cat,aw])
  |succ k =>
   refine aE [(19,true)] 100 rfl (by simp only[aa,aD];omega) ?_
   refine AK.aO (wS n d1 (lo:=k) (hi:=l) (first:=a) e r (by omega) o (by omega) rfl rfl) [0] rfl rfl rfl rfl rfl rfl rfl rfl rfl rfl rfl ?_
   refine eQ rfl ?_ (AK.aA (k,siftDown ltInt l a k d1) rfl ?_ rfl rfl rfl ?_ rfl ?_ ?_)
   ·simp only[aa,aB];omega
   ·simp only[aa.cat,aa,ai,ah];omega
   ·simp[aa.cat,aa,aw]
   ·exact⟨by rw[ti _ _ _ _ _ (aq _)];exact e,by simp only;omega,c⟩
   ·simp
 rintro i ⟨j,h⟩;refine eQ rfl (by simp only[aa,aB];omega) ?_
 have f:heapSort ltInt d a (a+l)=heapPop ltInt a l i:=by
  unfold heapSort;rw[kh,<-h]
 rw[f];refine AK.bU 1 (λs:Nat×Array Int=>s.2.size=n/\s.1<=l/\heapPop ltInt a s.1 s.2=heapPop ltInt a l i) (λs=>[(0,gQ n),(6,dI a),(7,dI 0),(8,dI l),(10,dI ((s.1:Int)-1))]) (λs=>[bI n s.2]) (λs=>s.1) (l,i) rfl ?_ rfl ?_ rfl ⟨j,aq _,rfl⟩ ?_
 ·simp[aa.cat,aa]
 ·simp[aa.cat,aa,aw]
 rintro⟨k,d1⟩ ⟨e,g,c⟩;simp only at e g c;cases k with
 |zero =>
  rw[<-c];refine aE [(30,false)] 100 rfl (by simp[aa]) (AK.leaveD rfl rfl ?_)
  exact aR.oa [0] rfl ab rfl rfl rfl gA
 |succ k =>
  have m:((a:Int)+(((k+1:Nat):Int)-1)).toNat=a+k:=by omega
  refine aE [(30,true),(1000011,true)] 200 rfl ?_ ?_
  ·simp only[aa,ay,az,m,aB,aD,ai,ah];and_intros <;> omega
  refine AK.norm [bI n (swp d1 a (a+k))] rfl ?_ ?_
  ·simp only[aa.cat,aa,ay,az,m,ah,ai];exact eK e (by omega) (by omega) (λ_ _=>rfl)
  refine eQ rfl ab ?_;refine AK.aO (wS n (swp d1 a (a+k)) (lo:=0) (hi:=k) (first:=a) (by rw[size_swp];exact e) (by omega) (by omega) o rfl (by omega) rfl) [0] rfl rfl rfl rfl rfl rfl rfl rfl rfl rfl rfl ?_
  refine eQ rfl ?_ (AK.aA (k,siftDown ltInt k a 0 (swp d1 a (a+k))) rfl ?_ rfl rfl rfl ?_ rfl ?_ ?_)
  ·simp only[aa,aB];omega
  ·simp only[aa.cat,aa,ai,ah];omega
  ·simp[aa.cat,aa,aw]
  ·exact⟨by rw[ti _ _ _ _ _ (aq _),size_swp];exact e,by simp only;omega,c⟩
  ·simp
end Go.AM.R1
namespace Go.AM.R1
theorem g8{p:Bs}(h:bl p=true):∀ b∈p,97<=b.toNat/\b.toNat<=122:=by
 intro b a;have:=List.all_eq_true.1 h b a;simpa[cT] using this
theorem qM:∀ (p:Bs) (n m:Int)(k:Nat),(∀ b∈p,97<=b.toNat/\b.toNat<=122)->0<=n->n<m->1<=m ->
  0<=p.foldl (λn b=>27*n+((b.toNat:Int)-97) % 256+1) n/\p.foldl (λn b=>27*n+((b.toNat:Int)-97) % 256+1) n<m*27 ^ p.length
 |[],n,m,_,_,c,a,_=>by simpa using⟨c,a⟩
 |b::p,n,m,k,d,c,a,g=>by
  obtain⟨h,f⟩:=d b (by simp)
  have:=qM p (27*n+((b.toNat:Int)-97) % 256+1) (m*27) k (λx e=>d x (by simp[e])) (by omega) (by omega) (by omega)
  simp only[kt,ft];rw[Int.pow_succ,Int.mul_comm (27 ^ p.length) 27,<-Int.mul_assoc];exact this
theorem Ig:∀ {n:Nat},n<=8->(27:Int) ^ n<=282429536481:=by
 intro n a
 match n,a with
 |0,_|1,_|2,_|3,_|4,_|5,_|6,_|7,_|8,_=>decide
theorem sH{p:Bs}(h:a9 p=true):0<=codeOf p/\codeOf p<282429536481:=by
 simp only[a9,bA,aD] at h;obtain⟨b,a⟩:=qM p 0 1 0 (g8 h.2) (by omega) (by omega) (by omega)
 have:=Ig h.1.2;rw[Int.one_mul] at a;exact⟨b,Int.lt_of_lt_of_le a this⟩
end Go.AM.R1
namespace Go.AM.R1
open Go.Proofs
variable {X:Cx Tryz.prog}
theorem DR(k:Int):Ev X 53 [dI k] [] (dB (bJ k)) []:=by
 refine Ev.body Tryz.func53 rfl rfl rfl λc=>?_
 by_cases a:1<=k
 ·by_cases b:k<=99
  ·refine aE [(4,true),(7,true)] 100 rfl ?_ (AK.au rfl ?_)
   ·simp[aa,a,b]
   ·simp[aa,bJ,a,b]
  ·refine aE [(4,true),(7,false)] 100 rfl ?_ (AK.au rfl ?_)
   ·simp[aa,a];omega
   ·simp[aa,bJ,a,b]
 ·refine aE [(4,false)] 100 rfl ?_ (AK.au rfl ?_)
  ·simp[aa];omega
  ·simp[aa,bJ,a]
theorem t53:bO X 53 (fZ aI (λk=>dB (bJ k)) λ_=>[]):=.je λk _=>DR k
theorem uC{s:Bs}{i:Nat}(h:i<s.length):bl (s.take (i+1))=(bl (s.take i)&&cT (s.getD i 0)):=by
 unfold bl;rw[k7,aj h];simp only[List.all_append,mV,List.all_cons,List.all_nil,Bool.and_true,List.getD_eq_getElem?_getD,aj h,cw]
theorem lG{b:UInt8}:cT b=true↔97<=(b.toNat:Int)/\(b.toNat:Int)<=122:=by simp[cT];omega
theorem qK{s:Bs}{i:Nat}(h:i<s.length)(a:cT (s.getD i 0)=false):bl s=false:=by
 cases b:bl s with
 |false=>rfl
 |true =>
  have:=List.all_eq_true.1 b (s.getD i 0) (by simp[List.getD_eq_getElem?_getD,aj h])
  rw[a] at this;cases this
theorem vR(s:Bs):Ev X 178 [dS s] [] (dB (bl s)) []:=by
 refine Ev.body Tryz.func178 rfl rfl rfl λg=>?_
 have f:=g.str 0 rfl;refine bq rfl ab ?_;refine AK.qv (λi=>i<=s.length/\bl (s.take i)=true) (λi:Nat=>[(0,dS s),(5,dI s.length),(6,dI i)]) (λ_=>[]) (λi=>s.length-i) 0 rfl (by simp[aa.cat,aa]) ⟨by omega,by simp[bl]⟩ rfl ?_
 rintro i ⟨hi,a⟩
 by_cases h:i<s.length
 ·by_cases b:bc s i<97
  ·refine aE [(7,true),(12,true)] 100 rfl ?_ (AK.dN (aR.zero rfl ?_))
   ·simp[-List.getD_eq_getElem?_getD,aa,h,bj,b]
   ·have:cT (s.getD i 0)=false:=by
     cases d:cT (s.getD i 0) with
     |false=>rfl
     |true=>have:=lG.1 d;unfold bc at b;omega
    simp[aa.cat,aa,qK h this]
  ·by_cases c:bc s i<=122
   ·refine aE [(7,true),(12,false),(17,false)] 100 rfl ?_ (AK.again (i+1) rfl ?_ ?_ ?_ rfl)
    ·simp[-List.getD_eq_getElem?_getD,aa,h,bj,b,c,aB];exact⟨by omega,bR (by omega)⟩
    ·simp[aa.cat,aa]
    ·refine⟨by omega,?_⟩
     rw[uC h,a,cf];exact lG.2 (by unfold bc at b c;omega)
    ·omega
   ·refine aE [(7,true),(12,false),(17,true)] 100 rfl ?_ (AK.dN (aR.zero rfl ?_))
    ·simp[-List.getD_eq_getElem?_getD,aa,h,bj,b];exact aP (by omega)
    ·have:cT (s.getD i 0)=false:=by
      cases d:cT (s.getD i 0) with
      |false=>rfl
      |true=>have:=lG.1 d;unfold bc at c;omega
     simp[aa.cat,aa,qK h this]
 ·have e:i=s.length:=by omega
  subst e;refine aE [(7,false)] 100 rfl (by simp[aa]) (AK.leave rfl rfl ?_)
  refine bq rfl ab (AK.au rfl ?_);rw[cW] at a;simp[aa.cat,aa,a]
theorem Me:bO X 178 (fZ aS (λs=>dB (bl s)) λ_=>[]):=.je λk _=>vR k
abbrev S9:List (Nat×bE):=[(53,fZ aI (λk=>dB (bJ k)) λ_=>[]),(178,fZ aS (λs=>dB (bl s)) λ_=>[])]
theorem Pb:aM X S9:=.cons t53 (.cons Me .nil)
theorem vS(p:Bs):Ev X 147 [dS p] [] (dB (a9 p)) []:=by
 refine Ev.body Tryz.func147 rfl rfl rfl λc=>?_
 by_cases a:1<=p.length
 ·by_cases b:p.length<=8
  ·refine af Pb [(5,true),(9,true),(11,true)] 100 rfl ?_ (AK.au rfl ?_)
   ·simp[aa];omega
   ·simp[aa,a9,a,b]
  ·refine af Pb [(5,true),(9,false),(11,false)] 100 rfl ?_ (AK.au rfl ?_)
   ·simp[aa];omega
   ·simp[aa,a9,a,b]
 ·refine af Pb [(5,false),(11,false)] 100 rfl ?_ (AK.au rfl ?_)
  ·simp[aa];omega
  ·simp[aa,a9,a]
theorem t147:bO X 147 (fZ aS (λs=>dB (a9 s)) λ_=>[]):=.je λk _=>vS k
theorem vT(n:Nat)(h:n<=4000000):Ev X 191 [dI n] [] (dI (bm n)) []:=by
 refine Ev.body Tryz.func191 rfl rfl rfl λj=>?_
 by_cases f:n<1
 ·refine aE [(5,true),(9,true)] 100 rfl ?_ (AK.au rfl ?_)
  ·simp[aa];omega
  ·simp[aa,bm,f]
 ·by_cases e:8<n
  ·refine aE [(5,false),(8,true)] 100 rfl ?_ (AK.au rfl ?_)
   ·simp[aa];omega
   ·simp[aa,bm,e]
  ·refine aE [(5,false),(8,false)] 100 rfl ?_ ?_
   ·simp[aa];omega
   have g:bm n=2∨bm n=4∨bm n=8:=by unfold bm;split;omega;split;simp;split <;> simp
   refine AK.qv (λi:Nat=>(i=2∨i=4∨i=8)/\i<=bm n) (λi:Nat=>[(0,dI n),(3,dI i)]) (λ_=>[]) (λi=>8-i) 2 rfl (by simp[aa.cat,aa]) ⟨by simp,by omega⟩ rfl ?_
   rintro i ⟨hi,a⟩
   by_cases h:i<n
   ·refine aE [(12,true)] 100 rfl ?_ (AK.again (2*i) rfl ?_ ?_ ?_ rfl)
    ·simp[aa,aB];omega
    ·simp[aa.cat,aa];omega
    ·unfold bm at a ⊢;split at a
     ·omega
     ·rename_i d;rw[an d]
      split at a
      ·omega
      ·rename_i c;rw[an c]
       split at a
       ·rename_i b;rw[ar b];omega
       ·rename_i b;rw[an b];omega
    ·omega
   ·refine aE [(12,false)] 100 rfl (by simp[aa];omega) (AK.leave rfl rfl ?_)
    refine bq rfl ab (AK.au rfl ?_);have:i=bm n:=by
     unfold bm at a ⊢;split at a
     ·omega
     ·rename_i d;rw[an d]
      split at a
      ·rename_i c;rw[ar c];omega
      ·rename_i c;rw[an c]
       split at a
       ·rename_i b;rw[ar b];omega
       ·rename_i b;rw[an b];omega
    simp[aa.cat,aa,this]
theorem yb(s:Bs)(b:UInt8):strip (s++[b])=if b=46 then strip s else s++[b]:=by
 unfold strip;rw[List.reverse_append];simp only[List.reverse_cons,List.reverse_nil,List.nil_append,List.singleton_append,List.dropWhile_cons]
 by_cases h:b=46
 ·simp[h]
 ·have:(b==46)=false:=by simpa using h
  simp[this,h]
theorem qL{s:Bs}{n:Nat}(h:n<s.length):strip (s.take (n+1))=if s.getD n 0=46 then strip (s.take n) else s.take (n+1):=by
 have e:s.take (n+1)=s.take n++[s.getD n 0]:=by
  rw[k7,aj h];simp only[mV,List.getD_eq_getElem?_getD,aj h,cw]
 rw[e,yb]
theorem vU(s:Bs):Ev X 186 [dS s,dU 46] [] (dS (strip s)) []:=by
 refine Ev.body Tryz.func186 rfl rfl rfl λj=>?_
 have i:=j.str 0 rfl;refine bq rfl ab ?_;refine AK.qv (λn=>n<=s.length/\strip (s.take n)=strip s) (λn:Nat=>[(0,dS (s.take n)),(1,dU 46)]) (λ_=>[]) (λn=>n) s.length rfl (by simp[aa.cat,aa]) ⟨by omega,by simp⟩ rfl ?_
 rintro n ⟨k,a⟩;cases n with
 |zero =>
  refine aE [(7,false),(16,false)] 100 rfl ?_ (AK.leave rfl rfl ?_)
  ·simp[aa]
  refine bq rfl ab (AK.au rfl ?_);have:strip s=[]:=by rw[<-a];rfl
  simp[aa.cat,aa,this]
 |succ n =>
  have h:(s.take (n+1)).length=n+1:=by simp;omega
  have g:bc (s.take (n+1)) n=bc s n:=by simp[bc,List.getD_eq_getElem?_getD,dD]
  have f:=qL (s:=s) (n:=n) (by omega)
  have b:((n:Int)+1-1).toNat=n:=by omega
  by_cases c:s.getD n 0=46
  ·refine aE [(7,true),(15,true),(16,true)] 100 rfl ?_ (AK.again n rfl ?_ ?_ ?_ rfl)
   ·have d:bc s n=46:=by unfold bc;rw[c];rfl
    simp[-List.getD_eq_getElem?_getD,-List.length_take,aa,h,bj,b,g,d,aB];omega
   ·simp[aa.cat,aa];show (s.take (n+1)).take _=_;rw[show (((min (n+1) s.length:Nat):Int)-1).toNat=n by omega,List.take_take]
    congr 1
    omega
   ·refine⟨by omega,?_⟩
    rw[f,ar c] at a;exact a
   ·omega
  ·refine aE [(7,true),(15,false),(16,false)] 100 rfl ?_ (AK.leave rfl rfl ?_)
   ·have d:bc s n≠46:=by
     unfold bc;intro e;exact c (lN.1 (by show _=46;omega))
    simp[-List.getD_eq_getElem?_getD,-List.length_take,aa,h,bj,b,g,d,aB];omega
   refine bq rfl ab (AK.au rfl ?_);rw[f,an c] at a;simp[aa.cat,aa,a]
def Mf:bE:=λargs σ=>match args,σ with
 |[.e (.one (.c (.str s))),.e (.one (.c (.int .u8 46)))],[]=>some (dS (strip s),[],[])
 |_,_=>none
theorem t186:bO X 186 Mf:=by
 intro args σ res σ' obs h _;unfold Mf at h;split at h
 ·cases h;exact vU _
 ·cases h
theorem GQ(s:Bs):Ev X 146 [dS s,dS [46]] [] (dS (strip s)) []:=by
 refine Ev.body Tryz.func146 rfl rfl rfl λb=>?_
 by_cases h:s=[]
 ·subst h;refine af (aM.cons t186 .nil) [(8,true),(12,true)] 100 rfl ?_ (AK.au rfl ?_)
  ·simp[aa]
  ·simp[aa,strip]
 ·refine af (aM.cons t186 .nil) [(8,false),(11,false),(12,false),(16,true),(20,true),(21,true)] 100 rfl ?_ (AK.au rfl ?_)
  ·cases s with
   |nil=>exact absurd rfl h
   |cons a r=>simp[aa];decide
  ·simp[aa]
def Jy:bE:=λargs σ=>match args,σ with
 |[.e (.one (.c (.str s))),.e (.one (.c (.str [46])))],[]=>some (dS (strip s),[],[])
 |_,_=>none
theorem t146:bO X 146 Jy:=by
 intro args σ res σ' obs h _;unfold Jy at h;split at h
 ·cases h;exact GQ _
 ·cases h
theorem oL{p:Bs}{i:Nat}(h:i<p.length):codeOf (p.take (i+1))=27*codeOf (p.take i)+(bc p i-97) % 256+1:=by
 unfold codeOf;rw[k7,aj h];simp only[mX,mV,kt,List.foldl_nil,bc,List.getD_eq_getElem?_getD,aj h,cw]
theorem gp{p:Bs}(h:a9 p=true){i:Nat}(hi:i<=p.length):0<=codeOf (p.take i)/\codeOf (p.take i)<282429536481:=by
 simp only[a9,bA,aD] at h;obtain⟨d,a⟩:=qM (p.take i) 0 1 0 (λb c=>g8 h.2 b (jJ c)) (by omega) (by omega) (by omega)
 have:=Ig (n:=(p.take i).length) (by rw[List.length_take];omega)
 rw[Int.one_mul] at a;exact⟨d,Int.lt_of_lt_of_le a this⟩
theorem qN{p:Bs}{i:Nat}(h:i<p.length):p.getD i 0∈p:=by
 rw[List.getD_eq_getElem?_getD,aj h];exact hX h
abbrev Ta:List (Nat×bE):=[(53,fZ aI (λk=>dB (bJ k)) λ_=>[]),(147,fZ aS (λs=>dB (a9 s)) λ_=>[])]
theorem l8:aM X Ta:=.cons t53 (.cons t147 .nil)
abbrev Q3(n:Int):D:=.eY [.one (.c (.int .i64 n)),.one (.c .mf)]
theorem DS(k:Int)(p:Bs)(f:bJ k=true)(b:a9 p=true):Ev X 149 [dI k,dS p] [] (Q3 (lH k p)) []:=by
 refine Ev.body Tryz.func149 rfl rfl rfl λr=>?_
 have a:=b;simp only[a9,bA,aD] at a;have c:=f;simp only[bJ,bA,aD] at c;refine af l8 [(8,false),(13,false)] 100 rfl (by simp[aa,f,b]) ?_
 refine AK.qv (λi=>i<=p.length) (λi:Nat=>[(0,dI k),(1,dS p),(6,dI (codeOf (p.take i))),(19,dI p.length),(20,dI i)]) (λ_=>[]) (λi=>p.length-i) 0 rfl (by simp[aa.cat,aa,codeOf]) (by omega) rfl ?_
 intro i hi
 by_cases h:i<p.length
 ·have g:=gp b hi;have q:=gp b (i:=i+1) (by omega)
  have e:=oL h;refine aE [(21,true)] 100 rfl ?_ (AK.again (i+1) rfl ?_ ?_ ?_ rfl)
  ·simp only[aa,bj,aB];simp[-List.getD_eq_getElem?_getD,h,bj];have l:=g8 a.2 (p.getD i 0) (qN h);have d:97<=bc p i/\bc p i<=122:=by unfold bc;omega
   omega
  ·have l:=g8 a.2 (p.getD i 0) (qN h);have d:97<=bc p i/\bc p i<=122:=by unfold bc;omega
   have o:(bc p i-97) % 256=bc p i-97:=k9 (by omega) (by omega)
   rw[o] at e;simp[-List.getD_eq_getElem?_getD,aa.cat,aa,bj,e]
  ·show i+1<=p.length;omega
  ·show p.length-(i+1)<p.length-i;omega
 ·have e:i=p.length:=by omega
  subst e;have g:=sH b;refine aE [(21,false)] 100 rfl (by simp[aa]) (AK.leave rfl rfl ?_)
  refine bq rfl ?_ (AK.au rfl ?_)
  ·rw[cW];have j:0<=codeOf p*(2*k+1):=Int.mul_nonneg g.1 (by omega)
   have n:codeOf p*(2*k+1)<=282429536481*199:=Int.mul_le_mul (by omega) (by omega) (by omega) (by omega)
   generalize codeOf p*(2*k+1)=m at j n;simp only[aa,aB];simp;omega
  ·rw[cW];refine aa.cat.2 ⟨?_,aa.cat.2 ⟨rfl,ab⟩⟩;show (_:Int)=_;rw[Int.mul_comm 7919 k];rfl
theorem t149:bO X 149 (gb aI aS (λk p=>Q3 (lH k p)) λk p=>[bJ k=true,a9 p=true]):=.gO λk p h=>DS k p h.1 h.2
theorem JA{P:Program}{o:Oper}{k:Operand->D}{σ:List ak}{op:BinOp}{t ty:TypeId}{x:Operand}(h:o.op=.binOp op t x (.const .nilIface) ty){c:Bool}{p:Array (String×TypeId)}(n:P.underlying t=some (.interface p))
  (r:k x=.e (.one (.c .mf))) (q:k (.const .nilIface)=.e (.one (.c .mf)))
  (j:iR op true=some c):aG P o k σ (.e (.one (.c (.bool c)))) σ:=by
 refine .quiet λs m u l=>?_
 have f:=l x;have d:=l (.const .nilIface);rw[r] at f;rw[q] at d
 replace f:=ei f
 replace d:=ei d
 generalize b:m x=vx at f;generalize a:m (.const .nilIface)=vy at d;cases f;cases d;have i:(Op.equal t .nilIface .nilIface).run P s.w=.ok true s.w:=by
  show (Op.equalIn (9999+1) t _ _).run P s.w=_;unfold Op.equalIn;simp[underlying,n]
 have g:∀ es,(Op.equal t .nilIface .nilIface).events P s.w es=es:=λes=>by
  show (Op.equalIn (9999+1) t _ _).events P s.w es=es;unfold Op.equalIn;simp[underlying,n]
 cases op <;> simp only[iR,reduceCtorEq,bG] at j
 ·subst j;exact⟨.bool true,by simp[execOp,h,b,a,eqGuard,binOp,i],Rd.bool,by simp[execOp,h,b,a,eqGuard,binOp,i,g]⟩
 ·subst j;exact⟨.bool false,by simp[execOp,h,b,a,eqGuard,binOp,i],Rd.bool,by simp[execOp,h,b,a,eqGuard,binOp,i,g]⟩
theorem A1(k:Int)(p:Bs) (n:Int)(b:bJ k=true)(a:a9 p=true):Ev X 114 [dI k,dS p,dI n] [] (dB (lH k p==n)) []:=by
 refine Ev.body Tryz.func114 rfl rfl rfl λc=>?_
 refine af (aM.cons t149 .nil) [(17,true)] 100 rfl ?_ ?_
 ·simp[aa,b,a]
 refine AK.law (JA rfl Tryz.underlying212 rfl rfl rfl) rfl rfl ?_;refine af (aM.cons t149 .nil) [(17,true)] 100 rfl ?_ (AK.au rfl ?_)
 ·rfl
 ·rfl
theorem t114:bO X 114 (Ci aI aS aI (λk p n=>dB (lH k p==n)) λk p _=>[bJ k=true,a9 p=true]):=.Ih λk p n h=>A1 k p n h.1 h.2
abbrev dQ(n:Int):D:=.e (.one (.c (.int .u64 n)))
theorem _root_.Go.AM.AW.zQ{P:Program}{X:Cx P}{N:Nat}{Q:Post}{φ:Fr}{σ:List ak}{x y:Code}(h:AW X N y Q φ σ):AW X N (.cond (.const (.bool false)) x y) Q φ σ:=by
 intro s a f hh b k cs S g d;refine .ctl hh rfl (λ_=>pA (t:=false) rfl) λj h1=>?_
 exact h j a (f.rely h1 hh) (hh.rely h1) b k cs S g λe φ' σ' s' a' q i c st=>d e φ' σ' s' a' q i c (h1.stepW.trans st)
theorem _root_.Go.AM.AK.zQ{P:Program}{X:Cx P}{N:Nat}{Qf:Post}{K:List It}{φ:Fr}{σ:List ak}{x y:Code}(h:AK X N Qf (.code y::K) .normal φ σ):AK X N Qf (.code (.cond (.const (.bool false)) x y)::K) .normal φ σ:=AW.zQ h
theorem DI{P:Program}{o:Oper}{p:Operand->D}{σ:List ak}{op:BinOp}{t ty:TypeId}{x y:Operand}{k m:IntKind}{a b:Int} (c:Int)(h:o.op=.binOp op t x y ty)
  (v:p x=.e (.one (.c (.int k a)))) (u:p y=.e (.one (.c (.int m b)))) (l:aB k c)
  (d:∀ w,(binOp op t (.int k a) (.int m b)).run P w=.ok (.int k c) w) (n:∀ w,(binOp op t (.int k a) (.int m b)).events P w #[]=#[]) :
  aG P o p σ (.e (.one (.c (.int k c)))) σ:=by
 refine .quiet λs r z q=>?_
 have i:=q x;have f:=q y;rw[v] at i;rw[u] at f
 replace i:=ei i
 replace f:=ei f
 generalize j:r x=vx at i;generalize g:r y=vy at f;cases i;cases f;exact⟨.int k c,by simp only[execOp,h,aU,j,g,ef,bh,d,b8],.int l,by simp[execOp,h,j,g,ef,gh,d,n]⟩
theorem yh:Ev X 219 [dQ 1,dQ 2] [] (.eY [.one (.c (.int .u64 0)),.one (.c (.int .u64 2))]) []:=by
 refine Ev.body Tryz.func219 rfl rfl rfl λa=>?_
 refine eQ rfl (by simp[aa,aB]) (AK.au rfl ?_)
 simp[aa,aa.cat]
theorem yi:Ev X 219 [dQ 1,dQ 3] [] (.eY [.one (.c (.int .u64 0)),.one (.c (.int .u64 3))]) []:=by
 refine Ev.body Tryz.func219 rfl rfl rfl λa=>?_
 refine eQ rfl (by simp[aa,aB]) (AK.au rfl ?_)
 simp[aa,aa.cat]
def Mi:bE:=λargs σ=>match args,σ with
 |[.e (.one (.c (.int .u64 1))),.e (.one (.c (.int .u64 c)))],[]=>some (.eY [.one (.c (.int .u64 0)),.one (.c (.int .u64 c))],[],[c=2∨c=3])
 |_,_=>none
theorem t219:bO X 219 Mi:=by
 intro args σ res σ' obs h a;unfold Mi at h;split at h
 ·cases h;rcases a with rfl|rfl
  ·exact yh
  ·exact yi
 ·cases h
theorem JG(c:Int)(a:c=2∨c=3):Ev X 209 [dQ 1,dQ c] [] (.eY [.one (.c (.int .u64 0)),.one (.c (.int .u64 c))]) []:=by
 refine Ev.body Tryz.func209 rfl rfl rfl λb=>?_
 refine af (aM.cons t219 .nil) [] 100 rfl ab ?_;refine AK.zQ ?_;refine af (aM.cons t219 .nil) [] 100 rfl ?_ (AK.au rfl ?_)
 ·simp[aa,a]
 ·simp[aa,aa.cat]
def Jx:bE:=λargs σ=>match args,σ with
 |[.e (.one (.c (.int .u64 1))),.e (.one (.c (.int .u64 c)))],[]=>some (.eY [.one (.c (.int .u64 0)),.one (.c (.int .u64 c))],[],[c=2∨c=3])
 |_,_=>none
theorem t209:bO X 209 Jx:=by
 intro args σ res σ' obs h a;unfold Jx at h;split at h
 ·cases h;exact JG _ a
 ·cases h
end Go.AM.R1
namespace Go.AM.R1
open Go.Proofs
open Go.Sort (bitsLen)
variable {X:Cx Tryz.prog}
def r8:List UInt8:=(List.range 256).map λi=>UInt8.ofNat (bitsLen i)
theorem gK{x k:Nat}(h:x<2 ^ k):bitsLen x<=k:=by
 unfold bitsLen;split
 ·omega
 ·rename_i a
  have:=(Nat.log2_lt a).2 h;omega
theorem HB{x:Nat}(h:x<256):(fw r8 x).toNat=bitsLen x:=by
 unfold fw r8;rw[az,List.getD_eq_getElem?_getD,mz,List.getElem?_range h];have:=gK (x:=x) (k:=8) h;simp only[gG,cw];rw[UInt8.toNat_ofNat'];omega
theorem oS{n k:Nat}(h:2 ^ k<=n):bitsLen n=k+bitsLen (n / 2 ^ k):=by
 have a:0<2 ^ k:=Nat.two_pow_pos k;have e:0<n / 2 ^ k:=Nat.div_pos h a;unfold bitsLen;rw[an (by omega),an (by omega)]
 have d:Nat.log2 n=k+Nat.log2 (n / 2 ^ k):=by
  rw[Nat.log2_eq_iff (by omega)]
  have c:=Nat.log2_self_le (n:=n / 2 ^ k) (by omega)
  have b:=Nat.lt_log2_self (n:=n / 2 ^ k)
  constructor
  ·rw[Nat.pow_add,iq];exact gf (eT _ c) (Nat.div_mul_le_self n _)
  ·rw[show k+Nat.log2 (n / 2 ^ k)+1=k+(Nat.log2 (n / 2 ^ k)+1) by omega,Nat.pow_add]
   have:=(Nat.div_lt_iff_lt_mul a).1 b
   rwa [iq] at this
 omega
set_option maxRecDepth 100000 in
theorem Fg(n:Nat)(l:n<=4000000):Ev X 125 [dQ n] [] (dI (bitsLen n)) []:=by
 refine Ev.body Tryz.func125 rfl rfl rfl λj=>?_
 have fin:∀ {T:List UInt8} {x:Nat},T=r8->x<256->(fw T (x:Int)).toNat=bitsLen x:=λb i=>by rw[b];exact HB i
 have d:∀ {T:List UInt8},T=r8->T.length=256:=λb=>by rw[b];rfl
 by_cases h:65536<=n
 ·have c:((n:Int).toNat / 2 ^ Int.toNat 16)=n / 65536:=by simp
  have e:bitsLen n=16+bitsLen (n / 65536):=oS (n:=n) (k:=16) h;have f:=gK (x:=n / 65536) (k:=8) (by simp;omega)
  refine aE [(4,false),(8,true),(14,false)] 200 rfl ?_ (AK.au rfl ?_)
  ·generalize b:(ByteArray.data _).toList=T;have a:T=r8:=by rw[<-b];decide +kernel
   simp only[aa,c,fin a (show n / 65536<256 by omega),d a,aB,aD,aY];and_intros <;> omega
  ·generalize b:(ByteArray.data _).toList=T;have a:T=r8:=by rw[<-b];decide +kernel
   simp only[aa,aa.cat,c,fin a (show n / 65536<256 by omega),ai,ah]
   omega
 by_cases g:256<=n
 ·have c:((n:Int).toNat / 2 ^ Int.toNat 8)=n / 256:=by simp
  have e:bitsLen n=8+bitsLen (n / 256):=oS (n:=n) (k:=8) g;have f:=gK (x:=n / 256) (k:=8) (by simp;omega)
  refine aE [(4,false),(8,false),(14,true)] 200 rfl ?_ (AK.au rfl ?_)
  ·generalize b:(ByteArray.data _).toList=T;have a:T=r8:=by rw[<-b];decide +kernel
   simp only[aa,c,fin a (show n / 256<256 by omega),d a,aB,aD,aY];and_intros <;> omega
  ·generalize b:(ByteArray.data _).toList=T;have a:T=r8:=by rw[<-b];decide +kernel
   simp only[aa,aa.cat,c,fin a (show n / 256<256 by omega),ai,ah]
   omega
 ·have f:=gK (x:=n) (k:=8) (by simp;omega)
  refine aE [(4,false),(8,false),(14,false)] 200 rfl ?_ (AK.au rfl ?_)
  ·generalize b:(ByteArray.data _).toList=T;have a:T=r8:=by rw[<-b];decide +kernel
   simp only[aa,fin a (show n<256 by omega),d a,aB,aD,aY];and_intros <;> omega
  ·generalize b:(ByteArray.data _).toList=T;have a:T=r8:=by rw[<-b];decide +kernel
   simp only[aa,aa.cat,fin a (show n<256 by omega),ai,ah]
   omega
theorem E9(n:Nat)(a:n<=4000000):Ev X 94 [dQ n] [] (dI (bitsLen n)) []:=by
 refine Ev.body Tryz.func94 rfl rfl rfl λb=>?_
 refine eQ rfl ab ?_;refine AK.zQ ?_;refine eQ rfl ab ?_;refine AK.aO (Fg n a) [] rfl rfl rfl rfl rfl rfl rfl rfl rfl rfl rfl ?_;refine eQ rfl ab (AK.au rfl ?_);simp[aa,aa.cat]
end Go.AM.R1
namespace Go.AM.R1
open Go.Proofs
open Go.Sort (swp bitsLen xorNextN xorNextN_lt xorNext xorNext_toNat breakStep breakPatterns)
variable {X:Cx Tryz.prog}
abbrev bQ(r:Nat):ak:=.cells 215 [.c (.int .u64 r)]
theorem HC(r:Nat):Ev X 152 [.e (.one (.ptr 0 0))] [bQ r] (dQ (xorNextN r)) [bQ (xorNextN r)]:=by
 refine Ev.body Tryz.func152 rfl rfl rfl λd=>?_
 have a:(2:Nat) ^ Int.toNat 13=8192:=by decide
 have c:(2:Nat) ^ Int.toNat 7=128:=by decide
 have b:(2:Nat) ^ Int.toNat 17=131072:=by decide
 refine eQ rfl ?_ ?_
 ·simp only[aa];omega
 refine AK.norm [bQ (xorNextN r)] rfl ?_ (AK.eF [0] rfl ?_ rfl rfl rfl gA)
 ·simp only[aa,aa.cat,xorNextN,az,a,c,b,ah]
 ·simp only[aa,aa.cat,xorNextN,az,a,c,b]
theorem HD(n:Nat)(a:n<=4000000):Ev X 151 [dI n] [] (dQ ((1 <<< bitsLen n:Nat):Int)) []:=by
 refine Ev.body Tryz.func151 rfl rfl rfl λb=>?_
 have l:=gK (x:=n) (k:=22) (by simp;omega)
 refine eQ rfl (by simp only[aa,aB];and_intros <;> omega) ?_
 refine AK.aO (E9 n a) [] rfl rfl rfl rfl rfl rfl rfl rfl rfl rfl rfl ?_;refine eQ rfl ?_ (AK.au rfl ?_)
 ·simp only[aa];omega
 ·have c:2 ^ bitsLen n<=2 ^ 22:=Nat.pow_le_pow_right (by omega) l
  simp only[aa,aa.cat,Nat.shiftLeft_eq,az];have e:Int.toNat 1*2 ^ bitsLen n % 18446744073709551616=1*2 ^ bitsLen n:=by
   rw[show Int.toNat 1=1 from rfl,lQ]
   exact Nat.mod_eq_of_lt (by omega)
  rw[e]
theorem wT{L:Nat}(h:0<L):1 <<< bitsLen L<=2*L:=by
 rw[Nat.shiftLeft_eq,lQ];unfold bitsLen;rw[an (by omega),Nat.pow_succ]
 have:=Nat.log2_self_le (n:=L) (by omega)
 omega
theorem Fh(L:Nat):1<=1 <<< bitsLen L:=by
 rw[Nat.shiftLeft_eq,lQ];exact Nat.two_pow_pos _
def KU(a L M:Nat):Nat->Nat->UInt64×Array Int->UInt64×Array Int
 |0,_,st=>st
 |k+1,idx,st=>KU a L M k (idx+1) (breakStep a L M st idx)
theorem oA{d:Array Int}{a L:Nat}(h:8<=L):breakPatterns d a (a+L)=(KU a L (1 <<< bitsLen L) 3 (a+L / 4*2-1) (UInt64.ofNat L,d)).2:=by
 unfold breakPatterns;simp only[kh];rw[ar h];rfl
theorem uY{a L M idx:Nat}{r:UInt64}{d:Array Int}:breakStep a L M (r,d) idx=(xorNext r,swp d idx (a+if (xorNextN r.toNat &&& (M-1))≥L then (xorNextN r.toNat &&& (M-1))-L else (xorNextN r.toNat &&& (M-1)))):=by
 unfold breakStep;simp only[xorNext_toNat]
abbrev Ql(n a L M:Nat)(k:Nat):Fr:=[(0,gQ n),(1,dI a),(6,dI L),(7,.e (.one (.ptr 1 0))),(8,dQ M),(9,dI ((a+L / 4*2-1+(3-k):Nat):Int))]
set_option maxHeartbeats 2000000 in
theorem E7(n:Nat)(d:Array Int)(a b:Nat)(u:d.size=n)(q:a<=b)(A:b<=n)(C:n<=4000000) :
  Ev X 117 [gQ n,dI a,dI b] [bI n d] (.eY []) [bI n (breakPatterns d a b)]:=by
 refine Ev.body Tryz.func117 rfl rfl rfl λy=>?_
 obtain⟨L,rfl⟩:∃ L,b=a+L:=⟨b-a,by omega⟩
 by_cases p:8<=L
 ·rw[oA p];have z:=wT (L:=L) (by omega)
  have w:=Fh L;have m:(UInt64.ofNat L).toNat=L:=by rw[UInt64.toNat_ofNat'];omega
  refine aE [(15,true)] 200 rfl ?_ ?_
  ·simp only[aa,aB,aD,ai,ah];and_intros <;> omega
  have key:∀ x:Int,x=(L:Int)->Ev X 151 [dI x] [] (dQ ((1 <<< bitsLen L:Nat):Int)) []:=by
   rintro x rfl;exact HD L (by omega)
  refine AK.aO (key _ (by omega)) [] rfl rfl rfl rfl rfl rfl rfl rfl rfl rfl rfl ?_
  refine eQ rfl ?_ ?_
  ·simp only[aa,aB,aD,ai,ah];and_intros <;> omega
  generalize v:1 <<< bitsLen L=M at *;refine AK.bU 2 (λs:Nat×UInt64×Array Int=>s.2.2.size=n/\s.1<=3/\(KU a L M s.1 (a+L / 4*2-1+(3-s.1)) s.2).2=(KU a L M 3 (a+L / 4*2-1) (UInt64.ofNat L,d)).2) (λs=>Ql n a L M s.1) (λs=>[bI n s.2.2,bQ s.2.1.toNat]) (λs=>s.1) (3,UInt64.ofNat L,d) rfl ?_ rfl ?_ rfl ⟨u,aq _,rfl⟩ ?_
  ·simp only[aa.cat,aa,ai,ah];and_intros <;> omega
  ·simp only[aa.cat,aa,aw,m,ai,ah];exact⟨λ_ _=>trivial,by omega⟩
  rintro⟨k,r,d1⟩ ⟨h,t,c⟩;simp only at h t c;cases k with
  |zero =>
   rw[<-c];refine aE [(33,false)] 200 rfl ?_ (AK.leaveD rfl rfl ?_)
   ·simp only[aa,aB,aY,ai,ah];and_intros <;> omega
   exact aR.oa [0] rfl ab rfl rfl rfl gA
  |succ k =>
   have B:xorNextN r.toNat<18446744073709551616:=xorNextN_lt _ (UInt64.toNat_lt r);have o:xorNextN r.toNat &&& (M-1)<=M-1:=Nat.and_le_right;have j:((M:Int)-1).toNat=M-1:=by omega
   refine aE [(33,true)] 200 rfl ?_ ?_
   ·simp only[aa,aB,aD,ai,ah];and_intros <;> omega
   refine AK.aO (HC r.toNat) [1] rfl rfl rfl rfl rfl rfl rfl rfl rfl rfl rfl ?_;have f:=uY (a:=a) (L:=L) (M:=M) (idx:=a+L / 4*2-1+(3-(k+1))) (r:=r) (d:=d1);generalize l:xorNextN r.toNat &&& (M-1)=O at *
   by_cases g:L<=O
   ·rw[ar g] at f;have i:((a:Int)+((O:Int)-(L:Int))).toNat=a+(O-L):=by omega
    refine aE [(43,true)] 200 rfl ?_ (AK.aA (k,xorNext r,swp d1 (a+L / 4*2-1+(3-(k+1))) (a+(O-L))) rfl ?_ rfl rfl rfl ?_ rfl ?_ ?_)
    ·simp only[aa,ay,az,j,l,i,aB,aD,ai,ah];and_intros <;> omega
    ·simp only[aa.cat,aa,ai,ah];omega
    ·simp only[aa.cat,aa,ay,az,j,l,i,xorNext_toNat,ah,ai];exact eK h (by omega) (by omega) (λ_ _=>rfl)
    ·refine⟨by rw[size_swp];exact h,by simp only;omega,?_⟩
     rw[<-c,KU,f,show a+L / 4*2-1+(3-(k+1))+1=a+L / 4*2-1+(3-k) by omega]
    ·simp
   ·rw[an g] at f;have i:((a:Int)+(O:Int)).toNat=a+O:=by omega
    refine aE [(43,false)] 200 rfl ?_ (AK.aA (k,xorNext r,swp d1 (a+L / 4*2-1+(3-(k+1))) (a+O)) rfl ?_ rfl rfl rfl ?_ rfl ?_ ?_)
    ·simp only[aa,ay,az,j,l,i,aB,aY,ai,ah];and_intros <;> omega
    ·simp only[aa.cat,aa,ai,ah];omega
    ·simp only[aa.cat,aa,ay,az,j,l,i,xorNext_toNat,ah,ai];exact eK h (by omega) (by omega) (λ_ _=>rfl)
    ·refine⟨by rw[size_swp];exact h,by simp only;omega,?_⟩
     rw[<-c,KU,f,show a+L / 4*2-1+(3-(k+1))+1=a+L / 4*2-1+(3-k) by omega]
    ·simp
 ·have e:breakPatterns d a (a+L)=d:=by unfold breakPatterns;simp only[kh];rw[an p]
  rw[e];refine aE [(15,false)] 200 rfl ?_ ?_
  ·simp only[aa,aB,aY,ai,ah];and_intros <;> omega
  exact aR.oa [0] rfl ab rfl rfl rfl gA
end Go.AM.R1
