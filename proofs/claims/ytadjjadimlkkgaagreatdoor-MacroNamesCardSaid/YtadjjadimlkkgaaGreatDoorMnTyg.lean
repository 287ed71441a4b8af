/-
  What the reckoner knows of the program: functions that were walked elsewhere, what the laws ask beside their own question, the tables at the start.
-/
import Derived.Test.YtadjjadimlkkgaaGreatDoorMnSortS
section
namespace Go.Proofs.YtadjjadimlkkgaaGreatDoor
open Go
set_option linter.unusedVariables false

noncomputable section
def SD:List (FuncId×(List AV→St→Option (AV×St))):=
 (72,W4 4 Fw)::
 (76,W4 2 SS)::
 (191,yr C4)::
 (16,Oi)::
 (55,X7 Ar Gz fun _=>.tup [])::
 (56,X7 A3 Ip id)::
 []
def QU:Env:=⟨fun _=>false,Pe Pw,Pc SD,I2⟩
end
theorem jD:Iv Tryz.prog QU:=⟨fun f q h=>BW (f,q) (N9 h),fun f sm h=>by
 have h:Pc SD f=some sm:=h;have h:=R9 h;unfold SD at h;rcases List.mem_cons.1 h with h|h
 ·injection h with e1 e2;subst e1 e2;exact Ct
 rcases List.mem_cons.1 h with h|h
 ·injection h with e1 e2;subst e1 e2;exact MO rfl
 rcases List.mem_cons.1 h with h|h
 ·injection h with e1 e2;subst e1 e2;exact RN
 rcases List.mem_cons.1 h with h|h
 ·injection h with e1 e2;subst e1 e2;exact C3 (fun _=>rfl) jE (fun _=>trivial) mixed Be
 rcases List.mem_cons.1 h with h|h
 ·injection h with e1 e2;subst e1 e2;exact SH
 rcases List.mem_cons.1 h with h|h
 ·injection h with e1 e2;subst e1 e2;exact BE
 cases h⟩
end Go.Proofs.YtadjjadimlkkgaaGreatDoor
end
section
namespace Go.Proofs.YtadjjadimlkkgaaGreatDoor
open Go
set_option maxRecDepth 100000

theorem Zp:tk Tryz.prog 3=.one:=by kernel_rfl
theorem SC:ZI Tryz.prog 3=some 1:=by kernel_rfl
theorem yi:zeroOf Tryz.prog 3=some [.int .i64 0]:=by kernel_rfl
theorem QN:tk Tryz.prog 9=.one:=by kernel_rfl
theorem PC:ZI Tryz.prog 9=some 1:=by kernel_rfl
theorem JG:zeroOf Tryz.prog 9=some [.str []]:=by kernel_rfl
theorem P6:Tryz.prog.underlying 9=some (.string):=by kernel_rfl
theorem YX:tk Tryz.prog 24=.one:=by kernel_rfl
theorem UI:ZI Tryz.prog 24=some 1:=by kernel_rfl
theorem Q7:Tryz.prog.underlying 24=some (.slice 26):=by kernel_rfl
theorem QH:Ua Tryz.prog 24=some 5:=by kernel_rfl
theorem Qs:tk Tryz.prog 26=.agg 5:=by kernel_rfl
theorem Qq:ZI Tryz.prog 26=some 5:=by kernel_rfl
theorem Ja:zeroOf Tryz.prog 26=some [.str [],.str [],.int .i64 0,.int .i64 0,.nils]:=by kernel_rfl
theorem Zf:QY Tryz.prog 26 0=some 0:=by kernel_rfl
theorem UJ:QY Tryz.prog 26 1=some 1:=by kernel_rfl
theorem VT:QY Tryz.prog 26 2=some 2:=by kernel_rfl
theorem VS:QY Tryz.prog 26 3=some 3:=by kernel_rfl
theorem L7:QY Tryz.prog 26 4=some 4:=by kernel_rfl
theorem UE:zi Tryz.prog 26 [(0,1),(1,1),(2,1),(3,1),(4,1)] [.str [],.str [],.int .i64 0,.int .i64 0,.nils]:=⟨⟨_,Tryz.underlying26,by kernel_rfl,by kernel_rfl⟩,Ja⟩
theorem YY:tk Tryz.prog 22=.one:=by kernel_rfl
theorem JM:Tryz.prog.underlying 22=some (.slice 102):=by kernel_rfl
theorem Yp:Ua Tryz.prog 22=some 3:=by kernel_rfl
theorem U0:tk Tryz.prog 23=.one:=by kernel_rfl
theorem VI:ZI Tryz.prog 23=some 1:=by kernel_rfl
theorem Ym:Tryz.prog.underlying 23=some (.slice 69):=by kernel_rfl
theorem U1:Ua Tryz.prog 23=some 8:=by kernel_rfl
theorem Gq:tk Tryz.prog 28=.agg 7:=by kernel_rfl
theorem Lz:QY Tryz.prog 28 0=some 0:=by kernel_rfl
theorem Ly:QY Tryz.prog 28 1=some 1:=by kernel_rfl
theorem Aw:QY Tryz.prog 28 2=some 2:=by kernel_rfl
theorem Y7:tk Tryz.prog 69=.agg 8:=by kernel_rfl
theorem V9:ZI Tryz.prog 69=some 8:=by kernel_rfl
theorem Y5:zeroOf Tryz.prog 69=some [.str [],.nils,.str [],.str [],.int .i64 0,.int .i64 0,.nils,.int .i64 0]:=by kernel_rfl
theorem L6:QY Tryz.prog 69 0=some 0:=by kernel_rfl
theorem VR:QY Tryz.prog 69 1=some 1:=by kernel_rfl
theorem L5:QY Tryz.prog 69 2=some 2:=by kernel_rfl
theorem L4:QY Tryz.prog 69 3=some 7:=by kernel_rfl
theorem Em:tk Tryz.prog 41=.one:=by kernel_rfl
theorem Er:ZI Tryz.prog 41=some 1:=by kernel_rfl
theorem Uz:Tryz.prog.underlying 41=some (.slice 9):=by kernel_rfl
theorem Jb:Ua Tryz.prog 41=some 1:=by kernel_rfl
theorem Gp:tk Tryz.prog 230=.agg 2:=by kernel_rfl
theorem Ep:ZI Tryz.prog 230=some 2:=by kernel_rfl
theorem Ee:zeroOf Tryz.prog 230=some [.nils,.nils]:=by kernel_rfl
theorem Ze:QY Tryz.prog 230 0=some 0:=by kernel_rfl
theorem Zd:QY Tryz.prog 230 1=some 1:=by kernel_rfl
theorem Gy:zi Tryz.prog 230 [(0,1),(1,1)] [.nils,.nils]:=⟨⟨_,Tryz.underlying230,by kernel_rfl,by kernel_rfl⟩,Ee⟩
theorem Xw:tk Tryz.prog 102=.agg 3:=by kernel_rfl
theorem Gw:ZI Tryz.prog 102=some 3:=by kernel_rfl
theorem Zy:zeroOf Tryz.prog 102=some [.str [],.int .i64 0,.int .i64 0]:=by kernel_rfl
theorem Ay:QY Tryz.prog 102 0=some 0:=by kernel_rfl
theorem Ax:QY Tryz.prog 102 1=some 1:=by kernel_rfl
theorem L8:QY Tryz.prog 102 2=some 2:=by kernel_rfl
theorem HZ:zi Tryz.prog 102 [(0,1),(1,1),(2,1)] [.str [],.int .i64 0,.int .i64 0]:=⟨⟨_,Tryz.underlying102,by kernel_rfl,by kernel_rfl⟩,Zy⟩
theorem IQ:Tryz.prog.underlying 61=some (.slice 75):=by kernel_rfl
theorem EF:Ua Tryz.prog 61=some 4:=by kernel_rfl
theorem KL:QY Tryz.prog 75 0=some 0:=by kernel_rfl
theorem KK:QY Tryz.prog 75 1=some 1:=by kernel_rfl
theorem JC:Lr Tryz.prog 24 26 5:=⟨Q7,by kernel_rfl,⟨_,Ja,rfl⟩,by kernel_rfl,by decide,by decide+kernel⟩
theorem Yn:Lr Tryz.prog 22 102 3:=⟨JM,by kernel_rfl,⟨_,Zy,rfl⟩,by kernel_rfl,by decide,by decide+kernel⟩
theorem Xr:Lr Tryz.prog 23 69 8:=⟨Ym,by kernel_rfl,⟨_,Y5,rfl⟩,by kernel_rfl,by decide,by decide+kernel⟩
theorem Q4:Lr Tryz.prog 41 9 1:=⟨Uz,by kernel_rfl,⟨_,JG,rfl⟩,by kernel_rfl,by decide,by decide+kernel⟩
end Go.Proofs.YtadjjadimlkkgaaGreatDoor
end
section
namespace Go.Proofs.YtadjjadimlkkgaaGreatDoor
open Go
set_option maxRecDepth 100000

theorem VZ:zeroOf Tryz.prog 81=some [.nils]:=by kernel_rfl
theorem Zv:QY Tryz.prog 81 0=some 0:=by kernel_rfl
theorem Hk:zi Tryz.prog 81 [(0,1)] [.nils]:=⟨⟨_,Tryz.underlying81,by kernel_rfl,by kernel_rfl⟩,VZ⟩
theorem V4:zeroOf Tryz.prog 90=some [.nils,.int .i64 0]:=by kernel_rfl
theorem YW:QY Tryz.prog 90 0=some 0:=by kernel_rfl
theorem UQ:QY Tryz.prog 90 1=some 1:=by kernel_rfl
theorem Fv:zi Tryz.prog 90 [(0,1),(1,1)] [.nils,.int .i64 0]:=⟨⟨_,Tryz.underlying90,by kernel_rfl,by kernel_rfl⟩,V4⟩
theorem Hi:tk Tryz.prog 164=.agg 2:=by kernel_rfl
theorem PD:ZI Tryz.prog 164=some 2:=by kernel_rfl
theorem XR:zeroOf Tryz.prog 164=some [.int .i64 0,.int .i64 0]:=by kernel_rfl
end Go.Proofs.YtadjjadimlkkgaaGreatDoor
end
