/-
  A set as a text: pool.key.
-/
import Derived.Lib.AppendIntMem
import Derived.Lib.ItoaLen
import Derived.Lib.Slices
import Derived.Lib.Hide
import Derived.Laws.IdiomStrings
import Derived.OwnWalk
import Derived.WalkKit
import Derived.BigCall
import Derived.Test.YtiknomepbklibaaGreatDoorFzSortI
import Derived.Test.YtiknomepbklibaaGreatDoorFzEnv
import Derived.ChangeShapes
import Derived.ChangeOld
import Derived.Below
import Derived.Carry
set_option maxRecDepth 1000000
set_option linter.unusedVariables false
section
namespace Go.Proofs.YtiknomepbklibaaGreatDoor
open Go Go.Shelf Go.RowKit Go.Sort

theorem jU:(Tryz.prog.info? 5).map (fun i=>(i.zero,i.size,i.bytes))=some (some (.int .u8 0),1,1):=by kernel_rfl
def WZ:List Int→List UInt8
 |[]=>[]
 |n::l=>Lib.itoa n++44::WZ l
theorem Dl: ∀(a b:List Int),WZ (a++b)=WZ a++WZ b
 |[],b=>rfl
 |n::a,b=>by rw[List.cons_append,WZ,WZ,Dl a b,List.append_assoc];rfl
theorem Mf{zs:List Int}{k:Nat}{z:Int}(h:zs[k]? =some z):WZ (zs.take (k+1))=WZ (zs.take k)++(Lib.itoa z++[44]):=by
 rw[List.take_add_one,h,Dl];rfl
theorem Dk: ∀l:List Int,(∀z∈l,-9223372036854775808≤z∧z≤9223372036854775807)→(WZ l).length≤22 *l.length
 |[],_=>by simp[WZ]
 |n::l,h=>by
  have h1:=Dk l fun z hz=>h z (List.mem_cons_of_mem _ hz);have h2:=h n (List.mem_cons_self ..);have h3:=Lib.itoa_length_le n h2.1 h2.2;rw[WZ,List.length_append,List.length_cons,List.length_cons];omega
theorem jO: ∀l:List Int,(WZ l).map UInt8.toNat=Zh l
 |[]=>rfl
 |n::l=>by rw[WZ,Zh,List.map_append,List.map_cons,jO l];rfl

set_option maxHeartbeats 6400000 in
set_option maxRecDepth 100000 in
theorem S9(A:Option Addr)(blk off cap:Nat)(zs:List Int)(w:World)(hz: ∀z∈zs,-9223372036854775808≤z∧z≤9223372036854775807)(hH:Holds (Value.int .i64) w blk off zs.toArray)(hA:0<zs.length→A=some ⟨blk,off,none⟩∧blk<w.heap.size)(hl:zs.length≤1000000)
  (htab:Lib.TabIs Tryz.prog w "internal/strconv.uint64pow10" .u64 Lib.pow10Tab):
  Calls Tryz.prog 87 #[.slice A zs.length cap] w fun e w'=>e=.returned (.string ⟨(WZ zs).toArray⟩)∧Below w.heap.size w w':=by
 obtain⟨i0,hi,hz0,hz1,hz2⟩:=info_parts jU;have hT:=Lib.tabBelow_of_tabIs htab;have HH:=Lib.hid hH;clear hH
 go_enter Tryz.func87,Tryz.ntmps87
 go_wp2
 go_loopg [3,8] zs.length (fun q v3 v8 wr=> ∃k:Nat,q=zs.length-k∧k≤zs.length∧v8=.int .i64 k∧wr.ownsRow w.heap.size 5 1 v3 (WZ (zs.take k)).length (Lib.byteCells (WZ (zs.take k)))∧Below w.heap.size w wr)
 case atStart=>exact⟨0,by omega,Nat.zero_le _,rfl,World.ownsRow_nil _ _ _ _,Below.refl _ _⟩
 case round=>
  obtain⟨k,hq,hk,rfl,hown,hb⟩:=hrel
  by_cases hlt:k<zs.length
  ·obtain⟨rfl,hblk⟩:=hA Qe;obtain⟨c1,f1⟩:=HH.out k (by simpa using hlt)
   have c2:wr.cell? ⟨blk,off+k,none⟩=some (.int .i64 (zs[k])):=by
    rw[hb.cell (p:=⟨blk,off+k,none⟩) hblk,c1];simp[getElem!_pos,hlt]
   have hget:zs[k]? =some zs[k]:=List.getElem?_eq_getElem hlt;have hbz:=hz _ (List.getElem_mem hlt);obtain⟨z,hzk⟩: ∃z,z=zs[k]:=⟨_,rfl⟩;rw[←hzk]at c2 hget hbz;have hlz:=Lib.itoa_length_le z hbz.1 hbz.2;have hkl:=Dk (zs.take k) fun z hz'=>hz z (List.mem_of_mem_take hz');rw[List.length_take]at hkl;have HG:=Lib.hid hget;have HK:=Lib.hid hzk;clear hget hzk;obtain⟨L,hL⟩: ∃L,L=WZ (zs.take k):=⟨_,rfl⟩;rw[←hL]at hown hkl;have HL:=Lib.hid hL;clear hL
   go_wp2_with (go_at_call 112;refine(Any.strconv_AppendInt_10 jD w.heap.size L.length z hbz.1 hbz.2 _ _ wr hown hb.size Qe (hT.on hb)).mono ?_;rintro e w1 ⟨v1,rfl,hown1,hnx1,-⟩;refine Hid.out ?_)
   refine Lib.hid ?_;have hown1:w1.ownsRow w.heap.size 5 1 v1 (L.length+(Lib.itoa z).length) (Lib.byteCells L++Lib.byteCells (Lib.itoa z)):=hown1;have hs1:=hnx1.size;have hs2:=hb.size
   go_wp2_with (at_builtin;refine wpList_append_own _ rfl _ _ 143 rfl w.heap.size 5 i0 (.int .u8 0) 1 1 Tryz.underlying143 hi hz0 hz1 hz2 rfl QE _ _ _ rfl (hown1.alloc _) ⟨w1.heap.size,0,none⟩ 1 1 [Value.int .u8 44] rfl rfl ?c1 ?c2 ?c3 ?c4 ?c5 ?_)
   case c1=>exact MD _ _ _ _ rfl
   case c2=>intro u hu;simp at hu;subst hu;rfl
   case c3=>unfold maxLen;omega
   case c4=>omega
   case c5=>simp;omega
   intro v2 w2 hown2 hgrow _;have hnx2:Below w.heap.size w w2:=((hb.trans hnx1).alloc (by have:=hnx1.size;have:=hb.size;omega) _).grown hgrow (by have:=hnx1.size;have:=hb.size;simp;omega) (fun k hk=>(hown1.lt k hk).1)
   go_wp2
   go_roundg (zs.length-(k+1))
   case measure=>omega
   case rel=>
    refine⟨k+1,rfl,by omega,rfl,?_,hnx2⟩;rw[Mf HG.out,←HL.out]
    have e1:Lib.byteCells (L++(Lib.itoa z++[44]))=Lib.byteCells L++(Lib.byteCells (Lib.itoa z)++[Value.int .u8 44]):=by simp[Lib.byteCells]
    have e2:(L++(Lib.itoa z++[44])).length=L.length+(Lib.itoa z).length+1:=by simp;omega
    rw[e1,e2]
    simpa [List.append_assoc]using hown2
  ·have hkk:zs.take k=zs:=List.take_of_length_le Qe;rw[hkk]at hown;obtain⟨l,hl'⟩: ∃l,l=WZ zs:=⟨_,rfl⟩;rw[←hl']at hown;have HL:=Lib.hid hl';clear hl';rcases hown.2 with⟨rfl,h0⟩|⟨g,cap',cur,rfl,-,-,-,-,-,-⟩
   ·have hcv:(convert 143 9 (.slice none 0 0)).run Tryz.prog wr=.ok (.string ⟨#[]⟩) wr:=by
     rw[run_convert_bytes_string wr 143 9 5 none 0 0 Tryz.underlying143 Tryz.underlying5 Tryz.underlying9];simp[Conv.bytesToString];rfl
    go_wp2
    go_ret
    have h1:=HL.out;have h2:l=[]:=List.length_eq_zero_iff.1 Qe;rw[←h1,h2];exact⟨rfl,hb⟩
   ·have hcv:=run_convert_bytes_back (P:=Tryz.prog) wr 143 9 5 ⟨g,0,none⟩ cap' l Tryz.underlying143 Tryz.underlying5 Tryz.underlying9 (fun j hj=>hown.cells (g:=g) rfl j _ (by simp[Lib.byteCells,hj]))
    go_wp2
    go_ret
    rw[←HL.out];exact⟨rfl,hb⟩
end Go.Proofs.YtiknomepbklibaaGreatDoor
end
section
namespace Go.Proofs.YtiknomepbklibaaGreatDoor
open Go Go.RowKit Go.Shelf Go.Sort

noncomputable def D7:Nat→Nat→List Nat→List Nat
 |0,_,acc=>acc
 |f+1,u,acc=>Qo (Nat.ble u 9) ((48+u)::acc) (D7 f (u/10) ((48+u % 10)::acc))
noncomputable def x8:Int→List Nat
 |.ofNat u=>D7 20 u []
 |.negSucc u=>45::D7 20 (u+1) []
noncomputable def zH:List Int→List Nat
 |[]=>[]
 |n::l=>x8 n++44::zH l
theorem D6: ∀(f u:Nat) (acc:List Nat),u<10^(f+1)→D7 (f+1) u acc=(Lib.decDigits u).map UInt8.toNat++acc:=by
 intro f
 induction f with
 |zero=>
  intro u acc h
  have h9:u<10:=by simpa using h
  rw[D7,Lib.decDigits,dif_pos h9,Nat.ble_eq_true_of_le Qe,Q6,List.map_singleton,Ei u h9];rfl
 |succ f ih=>
  intro u acc h;rw[D7,Lib.decDigits]
  by_cases h9:u<10
  ·rw[dif_pos h9,Nat.ble_eq_true_of_le Qe,Q6,List.map_singleton,Ei u h9];rfl
  ·have hb:Nat.ble u 9=false:=by
    cases hb:Nat.ble u 9 with
    |false=>rfl
    |true=>have:=Nat.le_of_ble_eq_true hb;omega
   rw[dif_neg h9,hb,Qx,ih (u/10) _ (by rw[Nat.pow_succ]at h;omega),List.map_append,List.map_singleton,Ei _ (Nat.mod_lt _ QE),List.append_assoc];rfl
theorem jR{z:Int}(h1: -9223372036854775808≤z)(h2:z≤9223372036854775807):x8 z=Gd z:=by
 have hp:(10:Nat)^20=100000000000000000000:=by decide
 cases z with
 |ofNat u=>
  have h2:(u:Int)≤9223372036854775807:=h2;show D7 20 u []=(Lib.itoa (u:Int)).map UInt8.toNat;rw[D6 19 u [] (by rw[hp];omega),List.append_nil,Lib.itoa,if_neg Qe];rfl
 |negSucc u=>
  have h1: -9223372036854775808≤Int.negSucc u:=h1;show 45::D7 20 (u+1) []=(Lib.itoa (Int.negSucc u)).map UInt8.toNat;rw[D6 19 (u+1) [] (by rw[hp];omega),List.append_nil,Lib.itoa,if_pos Qe];rfl
def ec(z:Int):Bool:=decide (-9223372036854775808≤z)&&decide (z≤9223372036854775807)
theorem Rc{z:Int}:ec z=true↔ -9223372036854775808≤z∧z≤9223372036854775807:=by unfold ec;rw[Bool.and_eq_true,decide_eq_true_eq,decide_eq_true_eq]
theorem KW: ∀{l:List Int},l.all ec=true→zH l=Zh l
 |[],_=>rfl
 |z::l,h=>by
  rw[List.all_cons,Bool.and_eq_true]at h;have:=Rc.1 h.1;rw[zH,Zh,jR this.1 this.2,KW h.2]

def Ey(w:World):Prop:=Lib.TabIs Tryz.prog w "internal/strconv.uint64pow10" .u64 Lib.pow10Tab
theorem Ey.below{w w':World}(h:Ey w)(hb:Below w.heap.size w w'):Ey w':=Lib.tabBelow_of_tabIs h w' hb

noncomputable def Ia:List AV→St→Option (AV×St)
 |[.nils],st=>some (.str [],st)
 |[.sl c m 0 len 1],st=>match st.h.get c with
  |some (.row false ms)=>match ms[m]? with
   |some (e,vs,some l)=>match XJ (l.take len)with
    |some zs=>if zs.length=len∧len≤1000000∧zs.all ec=true then some (.str (zH zs),st)else none
    |none=>none
   |_=>none
  |_=>none
 |_,_=>none
theorem Gb(zs:List Int):(⟨(WZ zs).toArray⟩:ByteArray)=bytesOf (Zh zs):=by
 unfold bytesOf;rw[←jO,List.map_map]
 have:(UInt8.ofNat∘UInt8.toNat)=id:=by funext x;simp
 rw[this,List.map_id]
theorem S8{G:Env}(hI: ∀w0 w,G.i w0→Below w0.heap.size w0 w→Ey w):G2 Tryz.prog G 87 Ia:=by
 intro args st v st' hs hf ha;have hr:Real Tryz.prog 87:=⟨_,Tryz.func87,rfl,by decide⟩;unfold Ia at hs
 split at hs
 ·injection hs with hs
  injection hs with e1 e2
  subst e1 e2;refine⟨hr,fun w0 p w H hG=>⟨Ab.refl _,?_⟩⟩;have h:=S9 none 0 0 0 [] w QA (fun j hj=>absurd hj QA) (fun h=>absurd h QA) QA (hI w0 w hG.2 H.under);refine h.mono fun e w' he=>?_;obtain⟨rfl,hb⟩:=he;exact⟨p,by rw[Gb];rfl,H.AN hb,fun x hx=>by cases hx⟩
 ·rename_i c m len
  split at hs
  ·rename_i ms hc
   split at hs
   ·rename_i e vs l hm
    split at hs
    ·rename_i zs hzs
     split at hs
     ·rename_i hcond;obtain⟨hlen,h1M,hall⟩:=hcond
      injection hs with hs
      injection hs with e1 e2
      subst e1 e2;have hbz: ∀z∈zs,-9223372036854775808≤z∧z≤9223372036854775807:=fun z hz=>Rc.1 (List.all_eq_true.1 hall z hz);refine⟨hr,fun w0 p w H hG=>⟨Ab.refl _,?_⟩⟩;have hR:=H.cls c _ hc;obtain⟨q,arr,el,g1,g2,g3,g4,g5,g6⟩:=hR.mem m e vs (some l) hm;obtain⟨k1,k2⟩:=g6 l rfl;have hb:=g2.own;have hblt:=(Array.getElem?_eq_some_iff.1 hb).1;have hzl:l.take len=zs.map FW:=Ge hzs
      have hH:Holds (Value.int .i64) w q.b q.d zs.toArray:=by
       intro j hj
       have hj':j<zs.length:=by simpa using hj
       refine⟨?_,by simp[World.frozen?,hb]⟩
       have ha1:l[j]? =some (FW zs[j]):=by
        have h:=congrArg (fun x=>x[j]?) hzl;simp only[List.getElem?_map,List.getElem?_eq_getElem hj']at h;rw[List.getElem?_take_of_lt Qe]at h;exact h
       obtain⟨j1,_,_⟩:=k2 j _ ha1;simp only[World.cell?,hb];simp only[Option.isSome_none,Bool.false_eq_true,if_false];rw[j1];simp[hj',FW,Qi]
      have hargs:(Qs p [AV.sl c m 0 len 1]).toArray= #[.slice (some ⟨q.b,q.d,none⟩) zs.length q.e]:=by
       show #[Qi p (AV.sl c m 0 len 1)]=_;simp only[Qi,g1];rw[hlen];simp
      rw[hargs];refine(S9 (some ⟨q.b,q.d,none⟩) q.b q.d q.e zs w hbz hH (fun _=>⟨rfl,hblt⟩) Qe (hI w0 w hG.2 H.under)).mono fun e' w' he=>?_;obtain⟨rfl,hb'⟩:=he;refine⟨p,?_,H.AN hb',?_⟩
      ·rw[Gb,←KW hall];rfl
      ·rw[KW hall];exact Nd zs
     ·cases hs
    ·cases hs
   ·cases hs
  ·cases hs
 ·cases hs
theorem Co{P:Program}{G G':Env}(hG0: ∀g,G.g g=false)(hE:Kj P G)(hI: ∀w0 w,G'.i w0→Below w0.heap.size w0 w→G.i w)(hm:P.follows .mixedOrders=true){f:FuncId}{L fuel n:Nat}(h:isTrue (Uc P G L fuel f [] ⟨n,.nil⟩)=true):G2 P G' f GG:=by
 intro args st v st' hs hf ha
 cases args with
 |cons a l=>cases hs
 |nil=>
  injection hs with hs
  injection hs with e1 e2
  subst e1 e2
  obtain⟨⟨u,st2⟩,h1⟩: ∃r,Uc P G L fuel f [] ⟨n,.nil⟩=some r:=by
   cases hr:Uc P G L fuel f [] ⟨n,.nil⟩with
   |none=>rw[hr]at h;cases h
   |some r=>exact⟨r,rfl⟩
  refine⟨(BI (BA hm) hE L fuel f [] _ _ _ h1 (fun _ _=>rfl) trivial).1,fun w0 p w H hG=>⟨Ab.refl _,?_⟩⟩;refine(DF hG0 hE hm (args:=[]) (by simp[Zk]) h w (hI w0 w hG.2 H.under)).mono fun e w' he=>?_;obtain⟨rfl,hb⟩:=he;exact⟨p,rfl,H.AN hb,trivial⟩

noncomputable section
def qi:List (FuncId×(List AV→St→Option (AV×St))):=
 (87,Ia)::
 (67,Zf Ad Ej id)::
 []
def ef:Env:=⟨fun _=>false,SH SW,Gi qi,Ey⟩
end
theorem zT:Kj Tryz.prog ef:=⟨fun f q h=>DP (f,q) (Gj h),fun f sm h=>by
 have h:Gi qi f=some sm:=h;have h:=Gh h;unfold qi at h;rcases List.mem_cons.1 h with h|h
 ·injection h with e1 e2;subst e1 e2;exact S8 fun w0 w h hb=>Ey.below h hb
 rcases List.mem_cons.1 h with h|h
 ·injection h with e1 e2;subst e1 e2;exact HN
 cases h⟩
end Go.Proofs.YtiknomepbklibaaGreatDoor
end
section
namespace Go.Proofs.YtiknomepbklibaaGreatDoor
open Go

theorem Bx:isTrue (Uc Tryz.prog ef 10000 1000 22 [] ⟨0,.nil⟩)=true:=by decide+kernel

end Go.Proofs.YtiknomepbklibaaGreatDoor
end
section
namespace Go.Proofs.YtiknomepbklibaaGreatDoor
open Go Go.RowKit Go.Shelf Go.Sort

noncomputable section
def qj:List (FuncId×(List AV→St→Option (AV×St))):=
 (87,Ia)::
 (22,GG)::
 (66,Zf XG Ls fun _=>.tup [])::
 (67,Zf Ad Ej id)::
 []
def Q4:Env:=⟨fun _=>false,SH SW,Gi qj,Ey⟩
end
theorem zU:Kj Tryz.prog Q4:=⟨fun f q h=>DP (f,q) (Gj h),fun f sm h=>by
 have h:Gi qj f=some sm:=h;have h:=Gh h;unfold qj at h;rcases List.mem_cons.1 h with h|h
 ·injection h with e1 e2;subst e1 e2;exact S8 fun w0 w h hb=>Ey.below h hb
 rcases List.mem_cons.1 h with h|h
 ·injection h with e1 e2;subst e1 e2;exact Co (fun _=>rfl) zT (fun w0 w h hb=>Ey.below h hb) mixed Bx
 rcases List.mem_cons.1 h with h|h
 ·injection h with e1 e2;subst e1 e2;exact Ts
 rcases List.mem_cons.1 h with h|h
 ·injection h with e1 e2;subst e1 e2;exact HN
 cases h⟩
theorem PU(st:St):Ev Tryz.prog Q4 22 [] st (.bool true) st:=⟨0,1,rfl⟩
end Go.Proofs.YtiknomepbklibaaGreatDoor
end
section
namespace Go.Proofs.YtiknomepbklibaaGreatDoor
open Go

theorem Qr:tk Tryz.prog 3=.one:=by kernel_rfl
theorem Lk:YH Tryz.prog 3=some 1:=by kernel_rfl
theorem Vn:zeroOf Tryz.prog 3=some [.int .i64 0]:=by kernel_rfl
theorem Yg:Tryz.prog.underlying 3=some (.int .i64):=by kernel_rfl
theorem Jy:tk Tryz.prog 4=.one:=by kernel_rfl
theorem A5:YH Tryz.prog 4=some 1:=by kernel_rfl
theorem XU:zeroOf Tryz.prog 4=some [.bool false]:=by kernel_rfl
theorem Ym:Tryz.prog.underlying 4=some (.bool):=by kernel_rfl
theorem HY:tk Tryz.prog 9=.one:=by kernel_rfl
theorem OA:zeroOf Tryz.prog 9=some [.str []]:=by kernel_rfl
theorem Wr:Tryz.prog.underlying 9=some (.string):=by kernel_rfl
theorem IH:Tryz.prog.underlying 142=some (.slice 9):=by kernel_rfl
theorem QP:U0 Tryz.prog 142=some 1:=by kernel_rfl
theorem Zd:Tryz.prog.underlying 58=some (.int .u64):=by kernel_rfl
theorem Cw:FQ Tryz.prog 142 9 1:=⟨IH,by kernel_rfl,⟨_,OA,rfl⟩,by kernel_rfl,by decide,by decide+kernel⟩
end Go.Proofs.YtiknomepbklibaaGreatDoor
end
section
namespace Go.Proofs.YtiknomepbklibaaGreatDoor
open Go

theorem NS:tk Tryz.prog 42=.one:=by kernel_rfl
theorem Uk:Tryz.prog.underlying 42=some (.slice 44):=by kernel_rfl
theorem JA:U0 Tryz.prog 42=some 6:=by kernel_rfl
theorem Jj:tk Tryz.prog 44=.agg 6:=by kernel_rfl
theorem ZB:YH Tryz.prog 44=some 6:=by kernel_rfl
theorem Cc:zeroOf Tryz.prog 44=some [.str [],.int .i64 0,.int .i64 0,.int .i64 0,.int .i64 0,.nils]:=by kernel_rfl
theorem Ow:QJ Tryz.prog 44 0=some 0:=by kernel_rfl
theorem Ov:QJ Tryz.prog 44 1=some 1:=by kernel_rfl
theorem Ou:QJ Tryz.prog 44 2=some 2:=by kernel_rfl
theorem Ot:QJ Tryz.prog 44 3=some 3:=by kernel_rfl
theorem Oq:QJ Tryz.prog 44 4=some 4:=by kernel_rfl
theorem Oo:QJ Tryz.prog 44 5=some 5:=by kernel_rfl
theorem OF:tk Tryz.prog 177=.agg 2:=by kernel_rfl
theorem Tj:YH Tryz.prog 177=some 2:=by kernel_rfl
theorem Z9:zeroOf Tryz.prog 177=some [.int .i64 0,.int .i64 0]:=by kernel_rfl
theorem QZ:tk Tryz.prog 54=.one:=by kernel_rfl
theorem Cn:YH Tryz.prog 54=some 1:=by kernel_rfl
theorem Uv:zeroOf Tryz.prog 54=some [.nils]:=by kernel_rfl
theorem Jp:Tryz.prog.underlying 54=some (.slice 3):=by kernel_rfl
theorem Qw:U0 Tryz.prog 54=some 1:=by kernel_rfl
theorem QM:FQ Tryz.prog 54 3 1:=⟨Jp,by kernel_rfl,⟨_,Vn,rfl⟩,by kernel_rfl,by decide,by decide+kernel⟩
end Go.Proofs.YtiknomepbklibaaGreatDoor
end
section
namespace Go.Proofs.YtiknomepbklibaaGreatDoor
open Go Go.RowKit

structure Fh{K:Type}(h:Hp)(z:Nat)(R:K→List AV→Prop)(l:List K)(kk:AV)(ls:List (List AV)):Prop where
 r:Ji h [] z ls kk
 ln:ls.length=l.length
 at_: ∀(i:Nat) (k:K),l[i]? =some k→ ∃cs,ls[i]? =some cs∧R k cs
def zC(l:List Int):List (List AV):=l.map fun z=>[AV.int .i64 z]
theorem Qn(l:List Int):(zC l).length=l.length:=by simp[zC]
theorem Jr{l:List Int}{i:Nat}{z:Int}(h:l[i]? =some z):(zC l)[i]? =some [AV.int .i64 z]:=by rw[zC,List.getElem?_map,h];rfl
theorem JV(a b:List Int):zC (a++b)=zC a++zC b:=by simp[zC]
theorem Fs(l:List Int): ∀cs∈zC l,cs.length=1:=by
 intro cs h;obtain⟨s,_,rfl⟩:=List.mem_map.1 h;rfl
def Vh(l:List Int):Prop:= ∀z∈l,-9223372036854775808≤z∧z≤9223372036854775807
def aa(z:Int)(cs:List AV):Prop:=cs=[.int .i64 z]∧ -9223372036854775808≤z∧z≤9223372036854775807
theorem KM{H:Type}{h:Hp}{xs:List AV}{d:DataW H}(r:Rd Tryz.prog h 3 xs d): ∃z:Int,aa z xs:=by
 cases r with
 |bool ht=>rw[Yg]at ht;cases ht
 |int ht hw=>
  rw[Yg]at ht
  injection ht with ht
  injection ht with ht
  subst ht;simp only[Lit.wf,Bool.and_eq_true,decide_eq_true_eq]at hw;refine⟨_,rfl,?_⟩
  first
   |exact hw
   |(have h1:IntKind.i64.wrap _=_:=hw;have:=IntWalk.i64_bounds h1;exact this)
   |skip
 |str ht hs=>rw[Yg]at ht;cases ht
 |nil ht=>rw[Yg]at ht;cases ht
 |none ht=>rw[Yg]at ht;cases ht
 |row ht hz' hr hl he hm hd=>rw[Yg]at ht;cases ht
 |agg ht hl hp hd=>rw[Yg]at ht;cases ht
end Go.Proofs.YtiknomepbklibaaGreatDoor
end
section
namespace Go.Proofs.YtiknomepbklibaaGreatDoor
open Go

theorem Q5:tk Tryz.prog 23=.one:=by kernel_rfl
theorem Ux:YH Tryz.prog 23=some 1:=by kernel_rfl
theorem J4:Tryz.prog.underlying 23=some (.slice 54):=by kernel_rfl
theorem QV:U0 Tryz.prog 23=some 1:=by kernel_rfl
theorem YS:tk Tryz.prog 68=.one:=by kernel_rfl
theorem E9:Tryz.prog.underlying 68=some (.pointer 97):=by kernel_rfl
theorem Zt:tk Tryz.prog 95=.one:=by kernel_rfl
theorem G4:zeroOf Tryz.prog 97=some [.nils,.nilm]:=by kernel_rfl
theorem YY:QJ Tryz.prog 97 0=some 0:=by kernel_rfl
theorem EW:QJ Tryz.prog 97 1=some 1:=by kernel_rfl
theorem GH:Pc Tryz.prog 97 [(0,1),(1,1)] [.nils,.nilm]:=⟨⟨_,Tryz.underlying97,by kernel_rfl,by kernel_rfl⟩,G4⟩
theorem QR:FQ Tryz.prog 23 54 1:=⟨J4,by kernel_rfl,⟨_,Uv,rfl⟩,by kernel_rfl,by decide,by decide+kernel⟩
theorem Er:Tryz.prog.underlying 95=some (.map 9 3):=by kernel_rfl
end Go.Proofs.YtiknomepbklibaaGreatDoor
end
section
namespace Go.Proofs.YtiknomepbklibaaGreatDoor
open Go

section
variable {P:Program} {G:Env} {K:List (Nat×AV)} {st:St} {t yt e:TypeId} {x y:Operand}
theorem Yp{c m o:Nat}(ht:P.underlying t=some (.pointer e))(hx:QX G K x=some (.ptr c m o))(hy:QX G K y=some .nilp):U3 P G K (.binOp .eql t x y yt) st (.bool false) st:=
 UO hx hy (by
  show QN (Eh (P.underlying t) (.ptr c m o)) (ob (Et (.ptr c m o) .nilp) fun b=>some (AV.bool b))=_
  rw[ht];rfl)
theorem Sn{c m o:Nat}(ht:P.underlying t=some (.pointer e))(hx:QX G K x=some (.ptr c m o))(hy:QX G K y=some .nilp):U3 P G K (.binOp .neq t x y yt) st (.bool true) st:=
 UO hx hy (by
  show QN (Eh (P.underlying t) (.ptr c m o)) (ob (Et (.ptr c m o) .nilp) fun b=>some (AV.bool !b))=_
  rw[ht];rfl)
end
end Go.Proofs.YtiknomepbklibaaGreatDoor
end
section
namespace Go.Proofs.YtiknomepbklibaaGreatDoor
open Go
variable {G:Env} {K:List (Nat×AV)} {P:Program} {e t:TypeId} {n:Nat} {st:St}

theorem AB{x i:Operand}{c m off z:Nat}{k:IntKind}{j:Nat}(he:Wh P t=some (n,e))(hz:P.cellsOf e=z)(hx:QX G K x=some (.ptr c m off))(hi:QX G K i=some (.int k (j:Int)))(hj:j<n):
  U3 P G K (.indexAddr t x i) st (.ptr c m (off+j *z)) st:=.of fun T hT cc d ty pos af g=>by
 show ret (ob (QI G T x) fun x=>ob (QI G T i) fun i=>Yi P t x i) st=_;rw[hT.QI hx,hT.QI hi,Ql,Ql];show ret (ob (NR (j:Int)) fun i=>ob (Wh P t) fun q=>QN (Nat.ble (i+1) q.1) (UB (off+i *P.cellsOf q.2) fun o=>some (AV.ptr c m o))) st=_;show ret (ob (Wh P t) fun q=>QN (Nat.ble (j+1) q.1) (UB (off+j *P.cellsOf q.2) fun o=>some (AV.ptr c m o))) st=_;rw[he,Ql];show ret (QN (Nat.ble (j+1) n) (UB (off+j *P.cellsOf e) fun o=>some (AV.ptr c m o))) st=_;rw[Nat.ble_eq_true_of_le hj,hz];show ret (UB (off+j *z) fun o=>some (AV.ptr c m o)) st=_;rw[Jg];rfl
theorem KZ:Wh Tryz.prog 177=some (2,3):=by kernel_rfl
theorem ZU:Program.cellsOf Tryz.prog 3=1:=by kernel_rfl
theorem A4:Tryz.prog.underlying 177=some (.array 2 3):=by kernel_rfl
theorem ZC{parts:Array (Nat×Operand)}{k:Nat}{z r:List AV}{ps:List (Nat×AV)}(u:P.underlying t=some (.array n e))(ue:(P.underlying e).isSome=true)(hk:P.cellsOf e=k)(hz:zeroOf P t=some z)(hp:Zl (QX G K) parts=some ps)(hf:X9 (fun i=>some (i *k,k)) ps z=some r):
  U3 P G K (.build t parts) st (.agg r) st:=.of fun T hT c d ty pos af g=>by
 show ret (Wg P t parts (QI G T)) st=_;unfold Wg;simp only[u,ue,QO,hz,Ql,hT.parts hp,hk,hf,JX];rfl
theorem HX:(Tryz.prog.underlying 3).isSome=true:=by kernel_rfl
theorem Gm(a b x y:Int):Yw Tryz.prog 177 [.int .i64 a,.int .i64 b] [.int .i64 x,.int .i64 y]=some (Qo (F9 a x) (F9 b y) false):=by kernel_rfl
def wX:AV→Bool
 |.nils=>true
 |_=>false
theorem OP{yt:TypeId}{x y:Operand}{kb:AV}(hn:Y8 kb=some n)(ht:P.underlying t=some (.slice e))(hx:QX G K x=some kb)(hy:QX G K y=some .nils):U3 P G K (.binOp .eql t x y yt) st (.bool (wX kb)) st:=
 UO hx hy (by
  cases kb<;>first|(cases hn;done)|skip
  all_goals
   show QN (Eh (P.underlying t) _) (ob (Et _ .nils) fun b=>some (AV.bool b))=_
   rw[ht];rfl)
theorem Sw{kb:AV}(h:wX kb=true):kb=.nils:=by cases kb<;>first|rfl|cases h
end Go.Proofs.YtiknomepbklibaaGreatDoor
end
