/-
  What the laws of chapter 4 ask beside their own question is reckoned once.
-/
import Derived.Test.YtmgkfceomhagaaaGreatDoorPsEnv
import Derived.Test.YtmgkfceomhagaaaGreatDoorPsEv4
set_option maxRecDepth 1000000
namespace Go.Proofs.YtmgkfceomhagaaaGreatDoor
section
open Go

theorem DF:isTrue (U4 Tryz.prog fj 10000 1000 9 [] ⟨0,.nil⟩)=true:=Sg (by decide+kernel)
end
section
open Go
set_option linter.unusedVariables false

noncomputable section
def qY:List (FuncId×(List AV→St→Option (AV×St))):=
 (19,EP 4 Iu)::
 (47,EP 2 Dd)::
 (94,zA B7)::
 (9,B0)::
 []
def Jy:Env:=⟨fun _=>false,Tn TF,Tm qY,LC⟩
end
theorem xE:L8 Tryz.prog Jy:=⟨fun f q h=>P7 (f,q) (GR h),fun f sm h=>by
 have h:Tm qY f=some sm:=h;have h:=MQ h;unfold qY at h;rcases List.mem_cons.1 h with h|h
 ·injection h with e1 e2;subst e1 e2;exact Rb
 rcases List.mem_cons.1 h with h|h
 ·injection h with e1 e2;subst e1 e2;exact ys rfl
 rcases List.mem_cons.1 h with h|h
 ·injection h with e1 e2;subst e1 e2;exact qf
 rcases List.mem_cons.1 h with h|h
 ·injection h with e1 e2;subst e1 e2;exact Rk (fun _=>rfl) xF (fun _=>trivial) mixed DF
 cases h⟩
end
section
open Go

theorem QK:tk Tryz.prog 3=.one:=by kernel_rfl
theorem Rj:Xz Tryz.prog 3=some 1:=by kernel_rfl
theorem Nl:Tryz.prog.underlying 3=some (.int .i64):=by kernel_rfl
theorem SB:tk Tryz.prog 4=.one:=by kernel_rfl
theorem z7:Xz Tryz.prog 4=some 1:=by kernel_rfl
theorem CA:zeroOf Tryz.prog 5=some [.int .u8 0]:=by kernel_rfl
theorem XT:Tryz.prog.underlying 5=some (.int .u8):=by kernel_rfl
theorem QB:tk Tryz.prog 9=.one:=by kernel_rfl
theorem Gv:Xz Tryz.prog 9=some 1:=by kernel_rfl
theorem Gk:zeroOf Tryz.prog 9=some [.str []]:=by kernel_rfl
theorem UF:Tryz.prog.underlying 9=some (.string):=by kernel_rfl
theorem Ik:tk Tryz.prog 21=.one:=by kernel_rfl
theorem CH:Tryz.prog.underlying 21=some (.int .i32):=by kernel_rfl
theorem Jj:tk Tryz.prog 22=.one:=by kernel_rfl
theorem OL:Xz Tryz.prog 22=some 1:=by kernel_rfl
theorem Jr:Tryz.prog.underlying 22=some (.slice 24):=by kernel_rfl
theorem QN:Zo Tryz.prog 22=some 5:=by kernel_rfl
theorem Qp:tk Tryz.prog 24=.agg 5:=by kernel_rfl
theorem Qx:Xz Tryz.prog 24=some 5:=by kernel_rfl
theorem Jf:zeroOf Tryz.prog 24=some [.str [],.str [],.int .i64 0,.int .i64 0,.nils]:=by kernel_rfl
theorem Ha:Jw Tryz.prog 24 0=some 0:=by kernel_rfl
theorem Gc:Jw Tryz.prog 24 1=some 1:=by kernel_rfl
theorem Gb:Jw Tryz.prog 24 2=some 2:=by kernel_rfl
theorem Ga:Jw Tryz.prog 24 3=some 3:=by kernel_rfl
theorem OZ:Jw Tryz.prog 24 4=some 4:=by kernel_rfl
theorem VI:zn Tryz.prog 24 [(0,1),(1,1),(2,1),(3,1),(4,1)] [.str [],.str [],.int .i64 0,.int .i64 0,.nils]:=⟨⟨_,Tryz.underlying24,by kernel_rfl,by kernel_rfl⟩,Jf⟩
theorem Xx:tk Tryz.prog 28=.one:=by kernel_rfl
theorem V7:Xz Tryz.prog 28=some 1:=by kernel_rfl
theorem Za:Tryz.prog.underlying 28=some (.slice 88):=by kernel_rfl
theorem Xw:tk Tryz.prog 29=.one:=by kernel_rfl
theorem En:Xz Tryz.prog 29=some 1:=by kernel_rfl
theorem Xv:Tryz.prog.underlying 29=some (.slice 59):=by kernel_rfl
theorem UO:tk Tryz.prog 31=.agg 7:=by kernel_rfl
theorem U1:Xz Tryz.prog 31=some 7:=by kernel_rfl
theorem KW:zeroOf Tryz.prog 31=some [.nils,.nils,.str [],.str [],.int .i64 0,.int .i64 0,.nils]:=by kernel_rfl
theorem OW:Jw Tryz.prog 31 0=some 0:=by kernel_rfl
theorem OV:Jw Tryz.prog 31 1=some 1:=by kernel_rfl
theorem OU:Jw Tryz.prog 31 2=some 2:=by kernel_rfl
theorem CR:zn Tryz.prog 31 [(0,1),(1,1),(2,5)] [.nils,.nils,.str [],.str [],.int .i64 0,.int .i64 0,.nils]:=⟨⟨_,Tryz.underlying31,by kernel_rfl,by kernel_rfl⟩,KW⟩
theorem CM:tk Tryz.prog 59=.agg 8:=by kernel_rfl
theorem KZ:Xz Tryz.prog 59=some 8:=by kernel_rfl
theorem VE:zeroOf Tryz.prog 59=some [.str [],.nils,.str [],.str [],.int .i64 0,.int .i64 0,.nils,.int .i64 0]:=by kernel_rfl
theorem OY:Jw Tryz.prog 59 1=some 1:=by kernel_rfl
theorem OX:Jw Tryz.prog 59 2=some 2:=by kernel_rfl
theorem CS:zn Tryz.prog 59 [(0,1),(1,1),(2,5),(7,1)] [.str [],.nils,.str [],.str [],.int .i64 0,.int .i64 0,.nils,.int .i64 0]:=⟨⟨_,Tryz.underlying59,by kernel_rfl,by kernel_rfl⟩,VE⟩
theorem Ec:Tryz.prog.underlying 71=some (.slice 9):=by kernel_rfl
theorem QM:Zo Tryz.prog 71=some 1:=by kernel_rfl
theorem AE:zeroOf Tryz.prog 88=some [.str [],.int .i64 0,.int .i64 0]:=by kernel_rfl
theorem CT:zn Tryz.prog 88 [(0,1),(1,1),(2,1)] [.str [],.int .i64 0,.int .i64 0]:=⟨⟨_,Tryz.underlying88,by kernel_rfl,by kernel_rfl⟩,AE⟩
theorem W4:tk Tryz.prog 44=.one:=by kernel_rfl
theorem W2:Tryz.prog.underlying 44=some (.slice 65):=by kernel_rfl
theorem Yt:Zo Tryz.prog 44=some 4:=by kernel_rfl
theorem U6:tk Tryz.prog 65=.agg 4:=by kernel_rfl
theorem Wj:Xz Tryz.prog 65=some 4:=by kernel_rfl
theorem XP:zeroOf Tryz.prog 65=some [.int .i64 0,.str [],.int .i64 0,.int .i64 0]:=by kernel_rfl
theorem Oj:Jw Tryz.prog 65 0=some 0:=by kernel_rfl
theorem Oi:Jw Tryz.prog 65 1=some 1:=by kernel_rfl
theorem Oh:Jw Tryz.prog 65 2=some 2:=by kernel_rfl
theorem Og:Jw Tryz.prog 65 3=some 3:=by kernel_rfl
theorem Ve(l:List AV):Fh Tryz.prog 65 (.agg l) 0=Xc Tryz.prog 3 l 0:=by kernel_rfl
theorem Xh(l:List AV):Fh Tryz.prog 65 (.agg l) 1=Xc Tryz.prog 9 l 1:=by kernel_rfl
theorem J0(l:List AV):Fh Tryz.prog 65 (.agg l) 3=Xc Tryz.prog 3 l 3:=by kernel_rfl
theorem B5:zn Tryz.prog 65 [(0,1),(1,1),(2,1),(3,1)] [.int .i64 0,.str [],.int .i64 0,.int .i64 0]:=⟨⟨_,Tryz.underlying65,by kernel_rfl,by kernel_rfl⟩,XP⟩
theorem EK:tk Tryz.prog 32=.one:=by kernel_rfl
theorem Bz:Xz Tryz.prog 32=some 1:=by kernel_rfl
theorem Zb:tk Tryz.prog 73=.one:=by kernel_rfl
theorem FT:Xz Tryz.prog 73=some 1:=by kernel_rfl
theorem YZ:Tryz.prog.underlying 73=some (.slice 92):=by kernel_rfl
theorem VA:Zo Tryz.prog 73=some 2:=by kernel_rfl
theorem Wb:zeroOf Tryz.prog 85=some [.str [],.nils,.int .i64 0,.int .i64 0]:=by kernel_rfl
theorem AD:Jw Tryz.prog 85 0=some 0:=by kernel_rfl
theorem AB:Jw Tryz.prog 85 1=some 1:=by kernel_rfl
theorem AA:Jw Tryz.prog 85 2=some 2:=by kernel_rfl
theorem A4:Jw Tryz.prog 85 3=some 3:=by kernel_rfl
theorem FM:zn Tryz.prog 85 [(0,1),(1,1),(2,1),(3,1)] [.str [],.nils,.int .i64 0,.int .i64 0]:=⟨⟨_,Tryz.underlying85,by kernel_rfl,by kernel_rfl⟩,Wb⟩
theorem Wa:zeroOf Tryz.prog 55=some [.nils,.int .i64 0,.int .i64 0,.int .i64 0]:=by kernel_rfl
theorem A3:Jw Tryz.prog 55 0=some 0:=by kernel_rfl
theorem A0:Jw Tryz.prog 55 1=some 1:=by kernel_rfl
theorem Az:Jw Tryz.prog 55 2=some 2:=by kernel_rfl
theorem Ay:Jw Tryz.prog 55 3=some 3:=by kernel_rfl
theorem Wd:zn Tryz.prog 55 [(0,1),(1,1),(2,1),(3,1)] [.nils,.int .i64 0,.int .i64 0,.int .i64 0]:=⟨⟨_,Tryz.underlying55,by kernel_rfl,by kernel_rfl⟩,Wa⟩
theorem OT:Jw Tryz.prog 92 0=some 0:=by kernel_rfl
theorem OS:Jw Tryz.prog 92 1=some 1:=by kernel_rfl
theorem Vz:Tryz.prog.underlying 70=some (.slice 5):=by kernel_rfl
theorem QU:Gh Tryz.prog 22 24 5:=⟨Jr,by kernel_rfl,⟨_,Jf,rfl⟩,by kernel_rfl,by decide,by decide+kernel⟩
theorem YA:Gh Tryz.prog 28 88 3:=⟨Za,by kernel_rfl,⟨_,AE,rfl⟩,by kernel_rfl,by decide,by decide+kernel⟩
theorem Xy:Gh Tryz.prog 29 59 8:=⟨Xv,by kernel_rfl,⟨_,VE,rfl⟩,by kernel_rfl,by decide,by decide+kernel⟩
theorem CW:Gh Tryz.prog 71 9 1:=⟨Ec,by kernel_rfl,⟨_,Gk,rfl⟩,by kernel_rfl,by decide,by decide+kernel⟩
theorem W8:Gh Tryz.prog 44 65 4:=⟨W2,by kernel_rfl,⟨_,XP,rfl⟩,by kernel_rfl,by decide,by decide+kernel⟩
theorem Rl:Gh Tryz.prog 70 5 1:=⟨Vz,by kernel_rfl,⟨_,CA,rfl⟩,by kernel_rfl,by decide,by decide+kernel⟩
end
section
open Go

theorem XV:tk Tryz.prog 47=.one:=by kernel_rfl
theorem At:zeroOf Tryz.prog 49=some [.nils,.int .i64 0,.bool false,.int .i64 0,.int .i64 0]:=by kernel_rfl
theorem IT:Jw Tryz.prog 49 0=some 0:=by kernel_rfl
theorem IS:Jw Tryz.prog 49 1=some 1:=by kernel_rfl
theorem IQ:Jw Tryz.prog 49 2=some 2:=by kernel_rfl
theorem IP:Jw Tryz.prog 49 3=some 3:=by kernel_rfl
theorem IN:Jw Tryz.prog 49 4=some 4:=by kernel_rfl
theorem Au:zn Tryz.prog 49 [(0,1),(1,1),(2,1),(3,1),(4,1)] [.nils,.int .i64 0,.bool false,.int .i64 0,.int .i64 0]:=⟨⟨_,Tryz.underlying49,by kernel_rfl,by kernel_rfl⟩,At⟩
end
end Go.Proofs.YtmgkfceomhagaaaGreatDoor
