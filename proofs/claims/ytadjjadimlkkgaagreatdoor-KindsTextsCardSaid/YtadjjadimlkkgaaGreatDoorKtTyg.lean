/-
  What the reckoner knows of the program: functions that were walked elsewhere, what the laws ask beside their own question, the tables at the start.
-/
import Derived.Test.YtadjjadimlkkgaaGreatDoorKtSortS
section
namespace Go.Proofs.YtadjjadimlkkgaaGreatDoor
open Go
set_option linter.unusedVariables false

noncomputable section
def RU:List (FuncId×(List AV→St→Option (AV×St))):=
 (72,EN 4 Hy)::
 (76,EN 2 G5)::
 (191,My O9)::
 (13,O6)::
 (55,I2 qM qL fun _=>.tup [])::
 (56,I2 TL DK id)::
 []
def Jg:Env:=⟨fun _=>false,DA DP,D9 RU,Kv⟩
end
theorem MZ:Kq Tryz.prog Jg:=⟨fun f q h=>BH (f,q) (Of h),fun f sm h=>by
 have h:D9 RU f=some sm:=h;have h:=Rf h;unfold RU at h;rcases List.mem_cons.1 h with h|h
 ·injection h with e1 e2;subst e1 e2;exact Ca
 rcases List.mem_cons.1 h with h|h
 ·injection h with e1 e2;subst e1 e2;exact T8 rfl
 rcases List.mem_cons.1 h with h|h
 ·injection h with e1 e2;subst e1 e2;exact Rs
 rcases List.mem_cons.1 h with h|h
 ·injection h with e1 e2;subst e1 e2;exact Ck (fun _=>rfl) qa (fun _=>trivial) mixed GX
 rcases List.mem_cons.1 h with h|h
 ·injection h with e1 e2;subst e1 e2;exact RV
 rcases List.mem_cons.1 h with h|h
 ·injection h with e1 e2;subst e1 e2;exact B5
 cases h⟩
end Go.Proofs.YtadjjadimlkkgaaGreatDoor
end
section
namespace Go.Proofs.YtadjjadimlkkgaaGreatDoor
open Go
set_option maxRecDepth 100000

theorem QA:tk Tryz.prog 3=.one:=by kernel_rfl
theorem Cj:Xh Tryz.prog 3=some 1:=by kernel_rfl
theorem jm:zeroOf Tryz.prog 3=some [.int .i64 0]:=by kernel_rfl
theorem O1:Tryz.prog.underlying 3=some (.int .i64):=by kernel_rfl
theorem Ar:zeroOf Tryz.prog 5=some [.int .u8 0]:=by kernel_rfl
theorem Wq:Tryz.prog.underlying 5=some (.int .u8):=by kernel_rfl
theorem Ji:tk Tryz.prog 9=.one:=by kernel_rfl
theorem NA:Xh Tryz.prog 9=some 1:=by kernel_rfl
theorem Wi:zeroOf Tryz.prog 9=some [.str []]:=by kernel_rfl
theorem UY:Tryz.prog.underlying 9=some (.string):=by kernel_rfl
theorem Hu:tk Tryz.prog 21=.one:=by kernel_rfl
theorem Gq:Tryz.prog.underlying 21=some (.int .i32):=by kernel_rfl
theorem F4:tk Tryz.prog 24=.one:=by kernel_rfl
theorem Nr:Xh Tryz.prog 24=some 1:=by kernel_rfl
theorem QK:Tryz.prog.underlying 24=some (.slice 26):=by kernel_rfl
theorem QW:Yt Tryz.prog 24=some 5:=by kernel_rfl
theorem Q8:tk Tryz.prog 26=.agg 5:=by kernel_rfl
theorem QI:Xh Tryz.prog 26=some 5:=by kernel_rfl
theorem QR:zeroOf Tryz.prog 26=some [.str [],.str [],.int .i64 0,.int .i64 0,.nils]:=by kernel_rfl
theorem Vx:JG Tryz.prog 26 0=some 0:=by kernel_rfl
theorem Xm:JG Tryz.prog 26 1=some 1:=by kernel_rfl
theorem Xl:JG Tryz.prog 26 2=some 2:=by kernel_rfl
theorem Xk:JG Tryz.prog 26 3=some 3:=by kernel_rfl
theorem FD:JG Tryz.prog 26 4=some 4:=by kernel_rfl
theorem QM:qo Tryz.prog 26 [(0,1),(1,1),(2,1),(3,1),(4,1)] [.str [],.str [],.int .i64 0,.int .i64 0,.nils]:=⟨⟨_,Tryz.underlying26,by kernel_rfl,by kernel_rfl⟩,QR⟩
theorem Ut:tk Tryz.prog 22=.one:=by kernel_rfl
theorem Vu:Xh Tryz.prog 22=some 1:=by kernel_rfl
theorem JR:Tryz.prog.underlying 22=some (.slice 102):=by kernel_rfl
theorem Ug:Yt Tryz.prog 22=some 3:=by kernel_rfl
theorem U6:tk Tryz.prog 23=.one:=by kernel_rfl
theorem Vt:Xh Tryz.prog 23=some 1:=by kernel_rfl
theorem Y3:Tryz.prog.underlying 23=some (.slice 69):=by kernel_rfl
theorem Um:Yt Tryz.prog 23=some 8:=by kernel_rfl
theorem Y4:tk Tryz.prog 28=.agg 7:=by kernel_rfl
theorem Y5:Xh Tryz.prog 28=some 7:=by kernel_rfl
theorem IT:zeroOf Tryz.prog 28=some [.nils,.nils,.str [],.str [],.int .i64 0,.int .i64 0,.nils]:=by kernel_rfl
theorem Xj:JG Tryz.prog 28 0=some 0:=by kernel_rfl
theorem YZ:JG Tryz.prog 28 1=some 1:=by kernel_rfl
theorem Ej:JG Tryz.prog 28 2=some 2:=by kernel_rfl
theorem X9:qo Tryz.prog 28 [(0,1),(1,1),(2,5)] [.nils,.nils,.str [],.str [],.int .i64 0,.int .i64 0,.nils]:=⟨⟨_,Tryz.underlying28,by kernel_rfl,by kernel_rfl⟩,IT⟩
theorem X8:tk Tryz.prog 69=.agg 8:=by kernel_rfl
theorem V4:Xh Tryz.prog 69=some 8:=by kernel_rfl
theorem YO:zeroOf Tryz.prog 69=some [.str [],.nils,.str [],.str [],.int .i64 0,.int .i64 0,.nils,.int .i64 0]:=by kernel_rfl
theorem El:JG Tryz.prog 69 0=some 0:=by kernel_rfl
theorem Za:JG Tryz.prog 69 1=some 1:=by kernel_rfl
theorem Ek:JG Tryz.prog 69 2=some 2:=by kernel_rfl
theorem Nw:JG Tryz.prog 69 3=some 7:=by kernel_rfl
theorem Gz:qo Tryz.prog 69 [(0,1),(1,1),(2,5),(7,1)] [.str [],.nils,.str [],.str [],.int .i64 0,.int .i64 0,.nils,.int .i64 0]:=⟨⟨_,Tryz.underlying69,by kernel_rfl,by kernel_rfl⟩,YO⟩
theorem Yk:Tryz.prog.underlying 41=some (.slice 9):=by kernel_rfl
theorem JU:Yt Tryz.prog 41=some 1:=by kernel_rfl
theorem WT:tk Tryz.prog 102=.agg 3:=by kernel_rfl
theorem Gw:Xh Tryz.prog 102=some 3:=by kernel_rfl
theorem Up:zeroOf Tryz.prog 102=some [.str [],.int .i64 0,.int .i64 0]:=by kernel_rfl
theorem Z5:JG Tryz.prog 102 0=some 0:=by kernel_rfl
theorem Vy:JG Tryz.prog 102 1=some 1:=by kernel_rfl
theorem FE:JG Tryz.prog 102 2=some 2:=by kernel_rfl
theorem YR:qo Tryz.prog 102 [(0,1),(1,1),(2,1)] [.str [],.int .i64 0,.int .i64 0]:=⟨⟨_,Tryz.underlying102,by kernel_rfl,by kernel_rfl⟩,Up⟩
theorem XK:tk Tryz.prog 61=.one:=by kernel_rfl
theorem Wr:Tryz.prog.underlying 61=some (.slice 75):=by kernel_rfl
theorem YB:Yt Tryz.prog 61=some 4:=by kernel_rfl
theorem UB:tk Tryz.prog 75=.agg 4:=by kernel_rfl
theorem EM:Xh Tryz.prog 75=some 4:=by kernel_rfl
theorem Zq:zeroOf Tryz.prog 75=some [.int .i64 0,.str [],.int .i64 0,.int .i64 0]:=by kernel_rfl
theorem WA:JG Tryz.prog 75 0=some 0:=by kernel_rfl
theorem XZ:JG Tryz.prog 75 1=some 1:=by kernel_rfl
theorem W9:JG Tryz.prog 75 2=some 2:=by kernel_rfl
theorem JF:JG Tryz.prog 75 3=some 3:=by kernel_rfl
theorem WE(l:List AV):AN Tryz.prog 75 (.agg l) 0=VW Tryz.prog 3 l 0:=by kernel_rfl
theorem AO(l:List AV):AN Tryz.prog 75 (.agg l) 1=VW Tryz.prog 9 l 1:=by kernel_rfl
theorem UA(l:List AV):AN Tryz.prog 75 (.agg l) 3=VW Tryz.prog 3 l 3:=by kernel_rfl
theorem Zt:qo Tryz.prog 75 [(0,1),(1,1),(2,1),(3,1)] [.int .i64 0,.str [],.int .i64 0,.int .i64 0]:=⟨⟨_,Tryz.underlying75,by kernel_rfl,by kernel_rfl⟩,Zq⟩
theorem U5:tk Tryz.prog 116=.one:=by kernel_rfl
theorem F6:Xh Tryz.prog 116=some 1:=by kernel_rfl
theorem Z1:Tryz.prog.underlying 116=some (.slice 154):=by kernel_rfl
theorem Vz:Yt Tryz.prog 116=some 2:=by kernel_rfl
theorem VS:zeroOf Tryz.prog 118=some [.str [],.nils,.int .i64 0,.int .i64 0]:=by kernel_rfl
theorem Vi:JG Tryz.prog 118 0=some 0:=by kernel_rfl
theorem J9:JG Tryz.prog 118 1=some 1:=by kernel_rfl
theorem ZA:JG Tryz.prog 118 2=some 2:=by kernel_rfl
theorem Jq:JG Tryz.prog 118 3=some 3:=by kernel_rfl
theorem F0:qo Tryz.prog 118 [(0,1),(1,1),(2,1),(3,1)] [.str [],.nils,.int .i64 0,.int .i64 0]:=⟨⟨_,Tryz.underlying118,by kernel_rfl,by kernel_rfl⟩,VS⟩
theorem VR:zeroOf Tryz.prog 66=some [.nils,.int .i64 0,.int .i64 0,.int .i64 0]:=by kernel_rfl
theorem YE:JG Tryz.prog 66 0=some 0:=by kernel_rfl
theorem YD:JG Tryz.prog 66 1=some 1:=by kernel_rfl
theorem Ye:JG Tryz.prog 66 2=some 2:=by kernel_rfl
theorem Yd:JG Tryz.prog 66 3=some 3:=by kernel_rfl
theorem Fz:qo Tryz.prog 66 [(0,1),(1,1),(2,1),(3,1)] [.nils,.int .i64 0,.int .i64 0,.int .i64 0]:=⟨⟨_,Tryz.underlying66,by kernel_rfl,by kernel_rfl⟩,VR⟩
theorem Vw:JG Tryz.prog 154 0=some 0:=by kernel_rfl
theorem FC:JG Tryz.prog 154 1=some 1:=by kernel_rfl
theorem EI:Tryz.prog.underlying 124=some (.slice 5):=by kernel_rfl
theorem J3:N2 Tryz.prog 24 26 5:=⟨QK,by kernel_rfl,⟨_,QR,rfl⟩,by kernel_rfl,by decide,by decide+kernel⟩
theorem QY:N2 Tryz.prog 22 102 3:=⟨JR,by kernel_rfl,⟨_,Up,rfl⟩,by kernel_rfl,by decide,by decide+kernel⟩
theorem Z2:N2 Tryz.prog 23 69 8:=⟨Y3,by kernel_rfl,⟨_,YO,rfl⟩,by kernel_rfl,by decide,by decide+kernel⟩
theorem WU:N2 Tryz.prog 41 9 1:=⟨Yk,by kernel_rfl,⟨_,Wi,rfl⟩,by kernel_rfl,by decide,by decide+kernel⟩
theorem XN:N2 Tryz.prog 61 75 4:=⟨Wr,by kernel_rfl,⟨_,Zq,rfl⟩,by kernel_rfl,by decide,by decide+kernel⟩
theorem FN:N2 Tryz.prog 124 5 1:=⟨EI,by kernel_rfl,⟨_,Ar,rfl⟩,by kernel_rfl,by decide,by decide+kernel⟩
end Go.Proofs.YtadjjadimlkkgaaGreatDoor
end
section
namespace Go.Proofs.YtadjjadimlkkgaaGreatDoor
open Go
set_option maxRecDepth 100000

theorem Et:zeroOf Tryz.prog 81=some [.nils]:=by kernel_rfl
theorem X1:JG Tryz.prog 81 0=some 0:=by kernel_rfl
theorem I3:qo Tryz.prog 81 [(0,1)] [.nils]:=⟨⟨_,Tryz.underlying81,by kernel_rfl,by kernel_rfl⟩,Et⟩
theorem I0:tk Tryz.prog 164=.agg 2:=by kernel_rfl
theorem Ph:Xh Tryz.prog 164=some 2:=by kernel_rfl
theorem Wj:zeroOf Tryz.prog 164=some [.int .i64 0,.int .i64 0]:=by kernel_rfl
end Go.Proofs.YtadjjadimlkkgaaGreatDoor
end
