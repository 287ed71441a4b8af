/-
  What the reckoner knows of the program: functions that were walked elsewhere, what the laws ask beside their own question, the tables at the start.
-/
import Derived.Test.YtadjjadimlkkgaaGreatDoorLiSortS
section
namespace Go.Proofs.YtadjjadimlkkgaaGreatDoor
open Go
set_option linter.unusedVariables false

noncomputable section
def RB:List (FuncId×(List AV→St→Option (AV×St))):=
 (72,VN 4 Aw)::
 (76,VN 2 RO)::
 (191,jI Bw)::
 (25,Nv)::
 (55,Fl qT qS fun _=>.tup [])::
 (56,Fl T7 Dp id)::
 []
def QT:Env:=⟨fun _=>false,Dh Dw,Df RB,Hs⟩
end
theorem qc:Hi Tryz.prog QT:=⟨fun f q h=>GU (f,q) (LK h),fun f sm h=>by
 have h:Df RB f=some sm:=h;have h:=P8 h;unfold RB at h;rcases List.mem_cons.1 h with h|h
 ·injection h with e1 e2;subst e1 e2;exact Bo
 rcases List.mem_cons.1 h with h|h
 ·injection h with e1 e2;subst e1 e2;exact Tp rfl
 rcases List.mem_cons.1 h with h|h
 ·injection h with e1 e2;subst e1 e2;exact PR
 rcases List.mem_cons.1 h with h|h
 ·injection h with e1 e2;subst e1 e2;exact Bu (fun _=>rfl) qd (fun _=>trivial) mixed NI
 rcases List.mem_cons.1 h with h|h
 ·injection h with e1 e2;subst e1 e2;exact RE
 rcases List.mem_cons.1 h with h|h
 ·injection h with e1 e2;subst e1 e2;exact GD
 cases h⟩
end Go.Proofs.YtadjjadimlkkgaaGreatDoor
end
section
namespace Go.Proofs.YtadjjadimlkkgaaGreatDoor
open Go
set_option maxRecDepth 100000

theorem JP:tk Tryz.prog 3=.one:=by kernel_rfl
theorem jH:Za Tryz.prog 3=some 1:=by kernel_rfl
theorem Nf:zeroOf Tryz.prog 3=some [.int .i64 0]:=by kernel_rfl
theorem Mm:tk Tryz.prog 4=.one:=by kernel_rfl
theorem Mv:Za Tryz.prog 4=some 1:=by kernel_rfl
theorem QY:tk Tryz.prog 9=.one:=by kernel_rfl
theorem Xw:zeroOf Tryz.prog 9=some [.str []]:=by kernel_rfl
theorem KY:Tryz.prog.underlying 9=some (.string):=by kernel_rfl
theorem E0:tk Tryz.prog 24=.one:=by kernel_rfl
theorem QV:Tryz.prog.underlying 24=some (.slice 26):=by kernel_rfl
theorem QP:JI Tryz.prog 24=some 5:=by kernel_rfl
theorem Ji:tk Tryz.prog 26=.agg 5:=by kernel_rfl
theorem UF:Za Tryz.prog 26=some 5:=by kernel_rfl
theorem YX:zeroOf Tryz.prog 26=some [.str [],.str [],.int .i64 0,.int .i64 0,.nils]:=by kernel_rfl
theorem ZK:QR Tryz.prog 26 0=some 0:=by kernel_rfl
theorem Vm:QR Tryz.prog 26 1=some 1:=by kernel_rfl
theorem Vl:QR Tryz.prog 26 2=some 2:=by kernel_rfl
theorem Vk:QR Tryz.prog 26 3=some 3:=by kernel_rfl
theorem E8:QR Tryz.prog 26 4=some 4:=by kernel_rfl
theorem ZI:tk Tryz.prog 22=.one:=by kernel_rfl
theorem JL:Tryz.prog.underlying 22=some (.slice 102):=by kernel_rfl
theorem Yf:JI Tryz.prog 22=some 3:=by kernel_rfl
theorem YB:tk Tryz.prog 23=.one:=by kernel_rfl
theorem E1:Za Tryz.prog 23=some 1:=by kernel_rfl
theorem Vb:Tryz.prog.underlying 23=some (.slice 69):=by kernel_rfl
theorem Vo:JI Tryz.prog 23=some 8:=by kernel_rfl
theorem O8:tk Tryz.prog 28=.agg 7:=by kernel_rfl
theorem FE:zeroOf Tryz.prog 28=some [.nils,.nils,.str [],.str [],.int .i64 0,.int .i64 0,.nils]:=by kernel_rfl
theorem KC:QR Tryz.prog 28 0=some 0:=by kernel_rfl
theorem KA:QR Tryz.prog 28 1=some 1:=by kernel_rfl
theorem Kz:QR Tryz.prog 28 2=some 2:=by kernel_rfl
theorem OH:uC Tryz.prog 28 [(0,1),(1,1),(2,5)] [.nils,.nils,.str [],.str [],.int .i64 0,.int .i64 0,.nils]:=⟨⟨_,Tryz.underlying28,by kernel_rfl,by kernel_rfl⟩,FE⟩
theorem XR:tk Tryz.prog 69=.agg 8:=by kernel_rfl
theorem FK:Za Tryz.prog 69=some 8:=by kernel_rfl
theorem XP:zeroOf Tryz.prog 69=some [.str [],.nils,.str [],.str [],.int .i64 0,.int .i64 0,.nils,.int .i64 0]:=by kernel_rfl
theorem KF:QR Tryz.prog 69 0=some 0:=by kernel_rfl
theorem E7:QR Tryz.prog 69 1=some 1:=by kernel_rfl
theorem KE:QR Tryz.prog 69 2=some 2:=by kernel_rfl
theorem KD:QR Tryz.prog 69 3=some 7:=by kernel_rfl
theorem ZO:tk Tryz.prog 41=.one:=by kernel_rfl
theorem XS:Za Tryz.prog 41=some 1:=by kernel_rfl
theorem Jg:Tryz.prog.underlying 41=some (.slice 9):=by kernel_rfl
theorem QC:JI Tryz.prog 41=some 1:=by kernel_rfl
theorem ZN:tk Tryz.prog 102=.agg 3:=by kernel_rfl
theorem OE:Za Tryz.prog 102=some 3:=by kernel_rfl
theorem YY:zeroOf Tryz.prog 102=some [.str [],.int .i64 0,.int .i64 0]:=by kernel_rfl
theorem Vn:QR Tryz.prog 102 0=some 0:=by kernel_rfl
theorem E9:QR Tryz.prog 102 1=some 1:=by kernel_rfl
theorem KG:QR Tryz.prog 102 2=some 2:=by kernel_rfl
theorem FM:uC Tryz.prog 102 [(0,1),(1,1),(2,1)] [.str [],.int .i64 0,.int .i64 0]:=⟨⟨_,Tryz.underlying102,by kernel_rfl,by kernel_rfl⟩,YY⟩
theorem HY:Tryz.prog.underlying 61=some (.slice 75):=by kernel_rfl
theorem WU:JI Tryz.prog 61=some 4:=by kernel_rfl
theorem IJ:QR Tryz.prog 75 0=some 0:=by kernel_rfl
theorem II:QR Tryz.prog 75 1=some 1:=by kernel_rfl
theorem Yd:Hg Tryz.prog 22 102 3:=⟨JL,by kernel_rfl,⟨_,YY,rfl⟩,by kernel_rfl,by decide,by decide+kernel⟩
theorem E2:Hg Tryz.prog 23 69 8:=⟨Vb,by kernel_rfl,⟨_,XP,rfl⟩,by kernel_rfl,by decide,by decide+kernel⟩
theorem YZ:Hg Tryz.prog 41 9 1:=⟨Jg,by kernel_rfl,⟨_,Xw,rfl⟩,by kernel_rfl,by decide,by decide+kernel⟩
end Go.Proofs.YtadjjadimlkkgaaGreatDoor
end
section
namespace Go.Proofs.YtadjjadimlkkgaaGreatDoor
open Go
set_option maxRecDepth 100000

theorem Ku:tk Tryz.prog 45=.one:=by kernel_rfl
theorem ZH:Tryz.prog.underlying 45=some (.slice 47):=by kernel_rfl
theorem ZL:JI Tryz.prog 45=some 6:=by kernel_rfl
theorem Jb:tk Tryz.prog 47=.agg 6:=by kernel_rfl
theorem Q3:Za Tryz.prog 47=some 6:=by kernel_rfl
theorem Ul:zeroOf Tryz.prog 47=some [.str [],.int .i64 0,.int .i64 0,.int .i64 0,.int .i64 0,.nils]:=by kernel_rfl
theorem KM:QR Tryz.prog 47 0=some 0:=by kernel_rfl
theorem KL:QR Tryz.prog 47 1=some 1:=by kernel_rfl
theorem KK:QR Tryz.prog 47 2=some 2:=by kernel_rfl
theorem KJ:QR Tryz.prog 47 3=some 3:=by kernel_rfl
theorem KI:QR Tryz.prog 47 4=some 4:=by kernel_rfl
theorem KH:QR Tryz.prog 47 5=some 5:=by kernel_rfl
theorem Jc:uC Tryz.prog 47 [(0,1),(1,1),(2,1),(3,1),(4,1),(5,1)] [.str [],.int .i64 0,.int .i64 0,.int .i64 0,.int .i64 0,.nils]:=⟨⟨_,Tryz.underlying47,by kernel_rfl,by kernel_rfl⟩,Ul⟩
theorem Vv:zeroOf Tryz.prog 81=some [.nils]:=by kernel_rfl
theorem YT:QR Tryz.prog 81 0=some 0:=by kernel_rfl
theorem Fo:uC Tryz.prog 81 [(0,1)] [.nils]:=⟨⟨_,Tryz.underlying81,by kernel_rfl,by kernel_rfl⟩,Vv⟩
theorem X4:tk Tryz.prog 98=.one:=by kernel_rfl
theorem Vu:zeroOf Tryz.prog 100=some [.nils,.bool false]:=by kernel_rfl
theorem YS:QR Tryz.prog 100 0=some 0:=by kernel_rfl
theorem EW:QR Tryz.prog 100 1=some 1:=by kernel_rfl
theorem Fm:uC Tryz.prog 100 [(0,1),(1,1)] [.nils,.bool false]:=⟨⟨_,Tryz.underlying100,by kernel_rfl,by kernel_rfl⟩,Vu⟩
theorem Fk:tk Tryz.prog 164=.agg 2:=by kernel_rfl
theorem D7:Za Tryz.prog 164=some 2:=by kernel_rfl
theorem Xx:zeroOf Tryz.prog 164=some [.int .i64 0,.int .i64 0]:=by kernel_rfl
theorem YJ:tk Tryz.prog 190=.one:=by kernel_rfl
theorem Wm:Za Tryz.prog 190=some 1:=by kernel_rfl
theorem Hj:zeroOf Tryz.prog 190=some [.nils]:=by kernel_rfl
theorem Wl:Tryz.prog.underlying 190=some (.slice 198):=by kernel_rfl
theorem Hq:JI Tryz.prog 190=some 7:=by kernel_rfl
theorem Ez:tk Tryz.prog 198=.agg 7:=by kernel_rfl
theorem Kv:Za Tryz.prog 198=some 7:=by kernel_rfl
theorem ZG:zeroOf Tryz.prog 198=some [.int .i64 0,.str [],.int .i64 0,.int .i64 0,.int .i64 0,.int .i64 0,.nils]:=by kernel_rfl
theorem Ho:QR Tryz.prog 198 0=some 0:=by kernel_rfl
theorem Hn:QR Tryz.prog 198 1=some 1:=by kernel_rfl
theorem Kw:uC Tryz.prog 198 [(0,1),(1,6)] [.int .i64 0,.str [],.int .i64 0,.int .i64 0,.int .i64 0,.int .i64 0,.nils]:=⟨⟨_,Tryz.underlying198,by kernel_rfl,by kernel_rfl⟩,ZG⟩
theorem HW:Tryz.prog.underlying 199=some (.slice 3):=by kernel_rfl
theorem Ud:JI Tryz.prog 199=some 1:=by kernel_rfl
theorem Vh:Hg Tryz.prog 45 47 6:=⟨ZH,by kernel_rfl,⟨_,Ul,rfl⟩,by kernel_rfl,by decide,by decide+kernel⟩
theorem Wn:Hg Tryz.prog 190 198 7:=⟨Wl,by kernel_rfl,⟨_,ZG,rfl⟩,by kernel_rfl,by decide,by decide+kernel⟩
theorem Ij:Hg Tryz.prog 199 3 1:=⟨HW,by kernel_rfl,⟨_,Nf,rfl⟩,by kernel_rfl,by decide,by decide+kernel⟩
end Go.Proofs.YtadjjadimlkkgaaGreatDoor
end
