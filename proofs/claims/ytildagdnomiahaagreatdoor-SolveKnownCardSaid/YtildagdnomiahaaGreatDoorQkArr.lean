/-
  A set as a text: pool.key.
-/
import Derived.Lib.AppendIntMem
import Derived.Lib.ItoaLen
import Derived.Lib.Slices
import Derived.Lib.Hide
import Derived.Laws.IdiomStrings
import Derived.OwnWalk
import Derived.WalkKit
import Derived.BigCall
import Derived.Test.YtildagdnomiahaaGreatDoorQkEnv
import Derived.Test.YtildagdnomiahaaGreatDoorQkEv4
import Derived.Test.YtildagdnomiahaaGreatDoorQkSortI
import Derived.ChangeShapes
import Derived.ChangeOld
import Derived.Below
import Derived.Carry
set_option maxRecDepth 100000
set_option linter.unusedVariables false
namespace Go.Proofs.YtildagdnomiahaaGreatDoor
section
open Go Go.Shelf Go.RowKit Go.Sort

theorem jV:(Tryz.prog.info? 5).map (fun i=>(i.zero,i.size,i.bytes))=some (some (.int .u8 0),1,1):=by kernel_rfl
def Wn:List Int→List UInt8
 |[]=>[]
 |n::l=>Lib.itoa n++44::Wn l
theorem C8: ∀(a b:List Int),Wn (a++b)=Wn a++Wn b
 |[],b=>rfl
 |n::a,b=>by rw[List.cons_append,Wn,Wn,C8 a b,List.append_assoc];rfl
theorem TJ{zs:List Int}{k:Nat}{z:Int}(h:zs[k]? =some z):Wn (zs.take (k+1))=Wn (zs.take k)++(Lib.itoa z++[44]):=by
 rw[List.take_add_one,h,C8];rfl
theorem C7: ∀l:List Int,(∀z∈l,-9223372036854775808≤z∧z≤9223372036854775807)→(Wn l).length≤22 *l.length
 |[],_=>by simp[Wn]
 |n::l,h=>by
  have h1:=C7 l fun z hz=>h z (List.mem_cons_of_mem _ hz);have h2:=h n (List.mem_cons_self ..);have h3:=Lib.itoa_length_le n h2.1 h2.2;rw[Wn,List.length_append,List.length_cons,List.length_cons];omega
theorem jN: ∀l:List Int,(Wn l).map UInt8.toNat=Yt l
 |[]=>rfl
 |n::l=>by rw[Wn,Yt,List.map_append,List.map_cons,jN l];rfl

set_option maxHeartbeats 6400000 in
set_option maxRecDepth 100000 in
theorem RS(A:Option Addr)(blk off cap:Nat)(zs:List Int)(w:World)(hz: ∀z∈zs,-9223372036854775808≤z∧z≤9223372036854775807)(hH:Holds (Value.int .i64) w blk off zs.toArray)(hA:0<zs.length→A=some ⟨blk,off,none⟩∧blk<w.heap.size)(hl:zs.length≤1000000)
  (htab:Lib.TabIs Tryz.prog w "internal/strconv.uint64pow10" .u64 Lib.pow10Tab):
  Calls Tryz.prog 300 #[.slice A zs.length cap] w fun e w'=>e=.returned (.string ⟨(Wn zs).toArray⟩)∧Below w.heap.size w w':=by
 obtain⟨i0,hi,hz0,hz1,hz2⟩:=info_parts jV;have hT:=Lib.tabBelow_of_tabIs htab;have HH:=Lib.hid hH;clear hH
 go_enter Tryz.func300,Tryz.ntmps300
 go_wp2
 go_loopg [3,8] zs.length (fun q v3 v8 wr=> ∃k:Nat,q=zs.length-k∧k≤zs.length∧v8=.int .i64 k∧wr.ownsRow w.heap.size 5 1 v3 (Wn (zs.take k)).length (Lib.byteCells (Wn (zs.take k)))∧Below w.heap.size w wr)
 case atStart=>exact⟨0,by omega,Nat.zero_le _,rfl,World.ownsRow_nil _ _ _ _,Below.refl _ _⟩
 case round=>
  obtain⟨k,hq,hk,rfl,hown,hb⟩:=hrel
  by_cases hlt:k<zs.length
  ·obtain⟨rfl,hblk⟩:=hA Qe;obtain⟨c1,f1⟩:=HH.out k (by simpa using hlt)
   have c2:wr.cell? ⟨blk,off+k,none⟩=some (.int .i64 (zs[k])):=by
    rw[hb.cell (p:=⟨blk,off+k,none⟩) hblk,c1];simp[getElem!_pos,hlt]
   have hget:zs[k]? =some zs[k]:=List.getElem?_eq_getElem hlt;have hbz:=hz _ (List.getElem_mem hlt);obtain⟨z,hzk⟩: ∃z,z=zs[k]:=⟨_,rfl⟩;rw[←hzk]at c2 hget hbz;have hlz:=Lib.itoa_length_le z hbz.1 hbz.2;have hkl:=C7 (zs.take k) fun z hz'=>hz z (List.mem_of_mem_take hz');rw[List.length_take]at hkl;have HG:=Lib.hid hget;have HK:=Lib.hid hzk;clear hget hzk;obtain⟨L,hL⟩: ∃L,L=Wn (zs.take k):=⟨_,rfl⟩;rw[←hL]at hown hkl;have HL:=Lib.hid hL;clear hL
   go_wp2_with (go_at_call 323;refine(Any.strconv_AppendInt_10 jD w.heap.size L.length z hbz.1 hbz.2 _ _ wr hown hb.size Qe (hT.on hb)).mono ?_;rintro e w1 ⟨v1,rfl,hown1,hnx1,-⟩;refine Hid.out ?_)
   refine Lib.hid ?_;have hown1:w1.ownsRow w.heap.size 5 1 v1 (L.length+(Lib.itoa z).length) (Lib.byteCells L++Lib.byteCells (Lib.itoa z)):=hown1;have hs1:=hnx1.size;have hs2:=hb.size
   go_wp2_with (at_builtin;refine wpList_append_own _ rfl _ _ 66 rfl w.heap.size 5 i0 (.int .u8 0) 1 1 Tryz.underlying66 hi hz0 hz1 hz2 rfl QA _ _ _ rfl (hown1.alloc _) ⟨w1.heap.size,0,none⟩ 1 1 [Value.int .u8 44] rfl rfl ?c1 ?c2 ?c3 ?c4 ?c5 ?_)
   case c1=>exact Mt _ _ _ _ rfl
   case c2=>intro u hu;simp at hu;subst hu;rfl
   case c3=>unfold maxLen;omega
   case c4=>omega
   case c5=>simp;omega
   intro v2 w2 hown2 hgrow _;have hnx2:Below w.heap.size w w2:=((hb.trans hnx1).alloc (by have:=hnx1.size;have:=hb.size;omega) _).grown hgrow (by have:=hnx1.size;have:=hb.size;simp;omega) (fun k hk=>(hown1.lt k hk).1)
   go_wp2
   go_roundg (zs.length-(k+1))
   case measure=>omega
   case rel=>
    refine⟨k+1,rfl,by omega,rfl,?_,hnx2⟩;rw[TJ HG.out,←HL.out]
    have e1:Lib.byteCells (L++(Lib.itoa z++[44]))=Lib.byteCells L++(Lib.byteCells (Lib.itoa z)++[Value.int .u8 44]):=by simp[Lib.byteCells]
    have e2:(L++(Lib.itoa z++[44])).length=L.length+(Lib.itoa z).length+1:=by simp;omega
    rw[e1,e2]
    simpa [List.append_assoc]using hown2
  ·have hkk:zs.take k=zs:=List.take_of_length_le Qe;rw[hkk]at hown;obtain⟨l,hl'⟩: ∃l,l=Wn zs:=⟨_,rfl⟩;rw[←hl']at hown;have HL:=Lib.hid hl';clear hl';rcases hown.2 with⟨rfl,h0⟩|⟨g,cap',cur,rfl,-,-,-,-,-,-⟩
   ·have hcv:(convert 66 9 (.slice none 0 0)).run Tryz.prog wr=.ok (.string ⟨#[]⟩) wr:=by
     rw[run_convert_bytes_string wr 66 9 5 none 0 0 Tryz.underlying66 Tryz.underlying5 Tryz.underlying9];simp[Conv.bytesToString];rfl
    go_wp2
    go_ret
    have h1:=HL.out;have h2:l=[]:=List.length_eq_zero_iff.1 Qe;rw[←h1,h2];exact⟨rfl,hb⟩
   ·have hcv:=run_convert_bytes_back (P:=Tryz.prog) wr 66 9 5 ⟨g,0,none⟩ cap' l Tryz.underlying66 Tryz.underlying5 Tryz.underlying9 (fun j hj=>hown.cells (g:=g) rfl j _ (by simp[Lib.byteCells,hj]))
    go_wp2
    go_ret
    rw[←HL.out];exact⟨rfl,hb⟩
end
section
open Go Go.RowKit Go.Shelf Go.Sort

noncomputable def Df:Nat→Nat→List Nat→List Nat
 |0,_,acc=>acc
 |f+1,u,acc=>Qj (Nat.ble u 9) ((48+u)::acc) (Df f (u/10) ((48+u % 10)::acc))
noncomputable def vP:Int→List Nat
 |.ofNat u=>Df 20 u []
 |.negSucc u=>45::Df 20 (u+1) []
noncomputable def xC:List Int→List Nat
 |[]=>[]
 |n::l=>vP n++44::xC l
theorem De: ∀(f u:Nat) (acc:List Nat),u<10^(f+1)→Df (f+1) u acc=(Lib.decDigits u).map UInt8.toNat++acc:=by
 intro f
 induction f with
 |zero=>
  intro u acc h
  have h9:u<10:=by simpa using h
  rw[Df,Lib.decDigits,dif_pos h9,Nat.ble_eq_true_of_le Qe,Qs,List.map_singleton,Wq u h9];rfl
 |succ f ih=>
  intro u acc h;rw[Df,Lib.decDigits]
  by_cases h9:u<10
  ·rw[dif_pos h9,Nat.ble_eq_true_of_le Qe,Qs,List.map_singleton,Wq u h9];rfl
  ·have hb:Nat.ble u 9=false:=by
    cases hb:Nat.ble u 9 with
    |false=>rfl
    |true=>have:=Nat.le_of_ble_eq_true hb;omega
   rw[dif_neg h9,hb,Qp,ih (u/10) _ (by rw[Nat.pow_succ]at h;omega),List.map_append,List.map_singleton,Wq _ (Nat.mod_lt _ QA),List.append_assoc];rfl
theorem jQ{z:Int}(h1: -9223372036854775808≤z)(h2:z≤9223372036854775807):vP z=Oi z:=by
 have hp:(10:Nat)^20=100000000000000000000:=by decide
 cases z with
 |ofNat u=>
  have h2:(u:Int)≤9223372036854775807:=h2;show Df 20 u []=(Lib.itoa (u:Int)).map UInt8.toNat;rw[De 19 u [] (by rw[hp];omega),List.append_nil,Lib.itoa,if_neg Qe];rfl
 |negSucc u=>
  have h1: -9223372036854775808≤Int.negSucc u:=h1;show 45::Df 20 (u+1) []=(Lib.itoa (Int.negSucc u)).map UInt8.toNat;rw[De 19 (u+1) [] (by rw[hp];omega),List.append_nil,Lib.itoa,if_pos Qe];rfl
def il(z:Int):Bool:=decide (-9223372036854775808≤z)&&decide (z≤9223372036854775807)
theorem PA{z:Int}:il z=true↔ -9223372036854775808≤z∧z≤9223372036854775807:=by unfold il;rw[Bool.and_eq_true,decide_eq_true_eq,decide_eq_true_eq]
theorem IN: ∀{l:List Int},l.all il=true→xC l=Yt l
 |[],_=>rfl
 |z::l,h=>by
  rw[List.all_cons,Bool.and_eq_true]at h;have:=PA.1 h.1;rw[xC,Yt,jQ this.1 this.2,IN h.2]

def Wz(w:World):Prop:=Lib.TabIs Tryz.prog w "internal/strconv.uint64pow10" .u64 Lib.pow10Tab
theorem Wz.below{w w':World}(h:Wz w)(hb:Below w.heap.size w w'):Wz w':=Lib.tabBelow_of_tabIs h w' hb

noncomputable def Km:List AV→St→Option (AV×St)
 |[.nils],st=>some (.str [],st)
 |[.sl c m 0 len 1],st=>match st.h.get c with
  |some (.row false ms)=>match ms[m]? with
   |some (e,vs,some l)=>match Z4 (l.take len)with
    |some zs=>if zs.length=len∧len≤1000000∧zs.all il=true then some (.str (xC zs),st)else none
    |none=>none
   |_=>none
  |_=>none
 |_,_=>none
theorem Og(zs:List Int):(⟨(Wn zs).toArray⟩:ByteArray)=bytesOf (Yt zs):=by
 unfold bytesOf;rw[←jN,List.map_map]
 have:(UInt8.ofNat∘UInt8.toNat)=id:=by funext x;simp
 rw[this,List.map_id]
theorem xA{G:Env}(hI: ∀w0 w,G.i w0→Below w0.heap.size w0 w→Wz w):Ep Tryz.prog G 300 Km:=by
 intro args st v st' hs hf ha;have hr:Real Tryz.prog 300:=⟨_,Tryz.func300,rfl,by decide⟩;unfold Km at hs
 split at hs
 ·injection hs with hs
  injection hs with e1 e2
  subst e1 e2;refine⟨hr,fun w0 p w H hG=>⟨Ab.refl _,?_⟩⟩;have h:=RS none 0 0 0 [] w Q0 (fun j hj=>absurd hj Q0) (fun h=>absurd h Q0) Q0 (hI w0 w hG.2 H.under);refine h.mono fun e w' he=>?_;obtain⟨rfl,hb⟩:=he;exact⟨p,by rw[Og];rfl,H.VT hb,fun x hx=>by cases hx⟩
 ·rename_i c m len
  split at hs
  ·rename_i ms hc
   split at hs
   ·rename_i e vs l hm
    split at hs
    ·rename_i zs hzs
     split at hs
     ·rename_i hcond;obtain⟨hlen,h1M,hall⟩:=hcond
      injection hs with hs
      injection hs with e1 e2
      subst e1 e2;have hbz: ∀z∈zs,-9223372036854775808≤z∧z≤9223372036854775807:=fun z hz=>PA.1 (List.all_eq_true.1 hall z hz);refine⟨hr,fun w0 p w H hG=>⟨Ab.refl _,?_⟩⟩;have hR:=H.cls c _ hc;obtain⟨q,arr,el,g1,g2,g3,g4,g5,g6⟩:=hR.mem m e vs (some l) hm;obtain⟨k1,k2⟩:=g6 l rfl;have hb:=g2.own;have hblt:=(Array.getElem?_eq_some_iff.1 hb).1;have hzl:l.take len=zs.map AP:=Oj hzs
      have hH:Holds (Value.int .i64) w q.b q.d zs.toArray:=by
       intro j hj
       have hj':j<zs.length:=by simpa using hj
       refine⟨?_,by simp[World.frozen?,hb]⟩
       have ha1:l[j]? =some (AP zs[j]):=by
        have h:=congrArg (fun x=>x[j]?) hzl;simp only[List.getElem?_map,List.getElem?_eq_getElem hj']at h;rw[List.getElem?_take_of_lt Qe]at h;exact h
       obtain⟨j1,_,_⟩:=k2 j _ ha1;simp only[World.cell?,hb];simp only[Option.isSome_none,Bool.false_eq_true,if_false];rw[j1];simp[hj',AP,Qd]
      have hargs:(Qm p [AV.sl c m 0 len 1]).toArray= #[.slice (some ⟨q.b,q.d,none⟩) zs.length q.e]:=by
       show #[Qd p (AV.sl c m 0 len 1)]=_;simp only[Qd,g1];rw[hlen];simp
      rw[hargs];refine(RS (some ⟨q.b,q.d,none⟩) q.b q.d q.e zs w hbz hH (fun _=>⟨rfl,hblt⟩) Qe (hI w0 w hG.2 H.under)).mono fun e' w' he=>?_;obtain⟨rfl,hb'⟩:=he;refine⟨p,?_,H.VT hb',?_⟩
      ·rw[Og,←IN hall];rfl
      ·rw[IN hall];exact Lc zs
     ·cases hs
    ·cases hs
   ·cases hs
  ·cases hs
 ·cases hs
theorem BE{P:Program}{G G':Env}(hG0: ∀g,G.g g=false)(hE:Eu P G)(hI: ∀w0 w,G'.i w0→Below w0.heap.size w0 w→G.i w)(hm:P.follows .mixedOrders=true){f:FuncId}{L fuel n:Nat}(h:isTrue (Jf P G L fuel f [] ⟨n,.nil⟩)=true):Ep P G' f Fb:=by
 intro args st v st' hs hf ha
 cases args with
 |cons a l=>cases hs
 |nil=>
  injection hs with hs
  injection hs with e1 e2
  subst e1 e2
  obtain⟨⟨u,st2⟩,h1⟩: ∃r,Jf P G L fuel f [] ⟨n,.nil⟩=some r:=by
   cases hr:Jf P G L fuel f [] ⟨n,.nil⟩with
   |none=>rw[hr]at h;cases h
   |some r=>exact⟨r,rfl⟩
  refine⟨(IU (IS hm) hE L fuel f [] _ _ _ h1 (fun _ _=>rfl) trivial).1,fun w0 p w H hG=>⟨Ab.refl _,?_⟩⟩;refine(Ii hG0 hE hm (args:=[]) (by simp[Yx]) h w (hI w0 w hG.2 H.under)).mono fun e w' he=>?_;obtain⟨rfl,hb⟩:=he;exact⟨p,rfl,H.VT hb,trivial⟩

noncomputable section
end
end
section
open Go Go.RowKit Go.Shelf Go.Sort

noncomputable section
def NO:List (FuncId×(List AV→St→Option (AV×St))):=
 (300,Km)::
 (261,YB Uy WG fun _=>.tup [])::
 (271,YB Ah Ei id)::
 []
def PQ:Env:=⟨fun _=>false,CP Dz,Ll NO,Wz⟩
abbrev QP:=Ev Tryz.prog PQ
end
theorem GK:Eu Tryz.prog PQ:=⟨fun f q h=>LM (f,q) (Hy h),fun f sm h=>by
 have h:Ll NO f=some sm:=h;have h:=Md h;unfold NO at h;rcases List.mem_cons.1 h with h|h
 ·injection h with e1 e2;subst e1 e2;exact xA fun w0 w h hb=>Wz.below h hb
 rcases List.mem_cons.1 h with h|h
 ·injection h with e1 e2;subst e1 e2;exact SW
 rcases List.mem_cons.1 h with h|h
 ·injection h with e1 e2;subst e1 e2;exact GU
 cases h⟩
end
section
open Go

theorem Qr:tk Tryz.prog 3=.one:=by kernel_rfl
theorem OR:Yb Tryz.prog 3=some 1:=by kernel_rfl
theorem FZ:zeroOf Tryz.prog 3=some [.int .i64 0]:=by kernel_rfl
theorem wz:Tryz.prog.underlying 3=some (.int .i64):=by kernel_rfl
theorem XW:tk Tryz.prog 4=.one:=by kernel_rfl
theorem E1:Yb Tryz.prog 4=some 1:=by kernel_rfl
theorem Ew:zeroOf Tryz.prog 4=some [.bool false]:=by kernel_rfl
theorem Ya:Tryz.prog.underlying 4=some (.bool):=by kernel_rfl
theorem Hf:tk Tryz.prog 9=.one:=by kernel_rfl
theorem NI:zeroOf Tryz.prog 9=some [.str []]:=by kernel_rfl
theorem Hd:Tryz.prog.underlying 9=some (.string):=by kernel_rfl
theorem JT:Tryz.prog.underlying 22=some (.slice 40):=by kernel_rfl
theorem HN:Tryz.prog.underlying 47=some (.slice 9):=by kernel_rfl
theorem BL:AK Tryz.prog 47 9 1:=⟨HN,by kernel_rfl,⟨_,NI,rfl⟩,by kernel_rfl,by decide,by decide+kernel⟩
end
section
open Go

theorem LZ:tk Tryz.prog 42=.one:=by kernel_rfl
theorem JD:Tryz.prog.underlying 42=some (.slice 44):=by kernel_rfl
theorem US:JP Tryz.prog 42=some 6:=by kernel_rfl
theorem J6:tk Tryz.prog 44=.agg 6:=by kernel_rfl
theorem YV:Yb Tryz.prog 44=some 6:=by kernel_rfl
theorem XS:zeroOf Tryz.prog 44=some [.str [],.int .i64 0,.int .i64 0,.int .i64 0,.int .i64 0,.nils]:=by kernel_rfl
theorem N7:Q5 Tryz.prog 44 0=some 0:=by kernel_rfl
theorem N6:Q5 Tryz.prog 44 1=some 1:=by kernel_rfl
theorem N5:Q5 Tryz.prog 44 2=some 2:=by kernel_rfl
theorem N4:Q5 Tryz.prog 44 3=some 3:=by kernel_rfl
theorem N3:Q5 Tryz.prog 44 4=some 4:=by kernel_rfl
theorem N2:Q5 Tryz.prog 44 5=some 5:=by kernel_rfl
theorem BI:Rk Tryz.prog 44 [(0,1),(1,1),(2,1),(3,1),(4,1),(5,1)] [.str [],.int .i64 0,.int .i64 0,.int .i64 0,.int .i64 0,.nils]:=⟨⟨_,Tryz.underlying44,by kernel_rfl,by kernel_rfl⟩,XS⟩
theorem NN:tk Tryz.prog 222=.agg 2:=by kernel_rfl
theorem SQ:Yb Tryz.prog 222=some 2:=by kernel_rfl
theorem YU:zeroOf Tryz.prog 222=some [.int .i64 0,.int .i64 0]:=by kernel_rfl
theorem Jd:tk Tryz.prog 48=.one:=by kernel_rfl
theorem Kj:Yb Tryz.prog 48=some 1:=by kernel_rfl
theorem Zd:zeroOf Tryz.prog 48=some [.nils]:=by kernel_rfl
theorem Jr:Tryz.prog.underlying 48=some (.slice 3):=by kernel_rfl
theorem QF:JP Tryz.prog 48=some 1:=by kernel_rfl
theorem EX:AK Tryz.prog 42 44 6:=⟨JD,by kernel_rfl,⟨_,XS,rfl⟩,by kernel_rfl,by decide,by decide+kernel⟩
theorem QR:AK Tryz.prog 48 3 1:=⟨Jr,by kernel_rfl,⟨_,FZ,rfl⟩,by kernel_rfl,by decide,by decide+kernel⟩
end
section
open Go Go.RowKit

structure LR{K:Type}(h:Hp)(z:Nat)(R:K→List AV→Prop)(l:List K)(kk:AV)(ls:List (List AV)):Prop where
 r:Jb h [] z ls kk
 ln:ls.length=l.length
 at_: ∀(i:Nat) (k:K),l[i]? =some k→ ∃cs,ls[i]? =some cs∧R k cs
def zC(l:List Int):List (List AV):=l.map fun z=>[AV.int .i64 z]
theorem Qz(l:List Int):(zC l).length=l.length:=by simp[zC]
theorem JB{l:List Int}{i:Nat}{z:Int}(h:l[i]? =some z):(zC l)[i]? =some [AV.int .i64 z]:=by rw[zC,List.getElem?_map,h];rfl
theorem Uv(a b:List Int):zC (a++b)=zC a++zC b:=by simp[zC]
theorem OH(l:List Int): ∀cs∈zC l,cs.length=1:=by
 intro cs h;obtain⟨s,_,rfl⟩:=List.mem_map.1 h;rfl
def FU(l:List Int):Prop:= ∀z∈l,-9223372036854775808≤z∧z≤9223372036854775807
end
section
open Go

theorem QO:tk Tryz.prog 167=.one:=by kernel_rfl
theorem Z1:Yb Tryz.prog 167=some 1:=by kernel_rfl
theorem UD:Tryz.prog.underlying 167=some (.slice 48):=by kernel_rfl
theorem J4:JP Tryz.prog 167=some 1:=by kernel_rfl
theorem Yj:tk Tryz.prog 293=.one:=by kernel_rfl
theorem WB:Tryz.prog.underlying 293=some (.pointer 318):=by kernel_rfl
theorem Y9:tk Tryz.prog 316=.one:=by kernel_rfl
theorem OG:zeroOf Tryz.prog 318=some [.nils,.nilm]:=by kernel_rfl
theorem Yn:Q5 Tryz.prog 318 0=some 0:=by kernel_rfl
theorem WZ:Q5 Tryz.prog 318 1=some 1:=by kernel_rfl
theorem OS:Rk Tryz.prog 318 [(0,1),(1,1)] [.nils,.nilm]:=⟨⟨_,Tryz.underlying318,by kernel_rfl,by kernel_rfl⟩,OG⟩
theorem JC:AK Tryz.prog 167 48 1:=⟨UD,by kernel_rfl,⟨_,Zd,rfl⟩,by kernel_rfl,by decide,by decide+kernel⟩
theorem Wx:Tryz.prog.underlying 316=some (.map 9 3):=by kernel_rfl
end
section
open Go

section
variable {P:Program} {G:Env} {K:List (Nat×AV)} {st:St} {t yt e:TypeId} {x y:Operand}
theorem U2{c m o:Nat}(ht:P.underlying t=some (.pointer e))(hx:QE G K x=some (.ptr c m o))(hy:QE G K y=some .nilp):Uk P G K (.binOp .eql t x y yt) st (.bool false) st:=
 U5 hx hy (by
  show Q4 (Ee (P.underlying t) (.ptr c m o)) (ob (Ed (.ptr c m o) .nilp) fun b=>some (AV.bool b))=_
  rw[ht];rfl)
theorem zP{c m o:Nat}(ht:P.underlying t=some (.pointer e))(hx:QE G K x=some (.ptr c m o))(hy:QE G K y=some .nilp):Uk P G K (.binOp .neq t x y yt) st (.bool true) st:=
 U5 hx hy (by
  show Q4 (Ee (P.underlying t) (.ptr c m o)) (ob (Ed (.ptr c m o) .nilp) fun b=>some (AV.bool !b))=_
  rw[ht];rfl)
end
end
section
open Go
variable {G:Env} {K:List (Nat×AV)} {P:Program} {e t:TypeId} {n:Nat} {st:St}

theorem E5{x i:Operand}{c m off z:Nat}{k:IntKind}{j:Nat}(he:Vr P t=some (n,e))(hz:P.cellsOf e=z)(hx:QE G K x=some (.ptr c m off))(hi:QE G K i=some (.int k (j:Int)))(hj:j<n):
  Uk P G K (.indexAddr t x i) st (.ptr c m (off+j *z)) st:=.of fun T hT cc d ty pos af g=>by
 show ret (ob (QI G T x) fun x=>ob (QI G T i) fun i=>J3 P t x i) st=_;rw[hT.QI hx,hT.QI hi,Qf,Qf];show ret (ob (B7 (j:Int)) fun i=>ob (Vr P t) fun q=>Q4 (Nat.ble (i+1) q.1) (JA (off+i *P.cellsOf q.2) fun o=>some (AV.ptr c m o))) st=_;show ret (ob (Vr P t) fun q=>Q4 (Nat.ble (j+1) q.1) (JA (off+j *P.cellsOf q.2) fun o=>some (AV.ptr c m o))) st=_;rw[he,Qf];show ret (Q4 (Nat.ble (j+1) n) (JA (off+j *P.cellsOf e) fun o=>some (AV.ptr c m o))) st=_;rw[Nat.ble_eq_true_of_le hj,hz];show ret (JA (off+j *z) fun o=>some (AV.ptr c m o)) st=_;rw[QC];rfl
theorem IW:Vr Tryz.prog 222=some (2,3):=by kernel_rfl
theorem Zn:Program.cellsOf Tryz.prog 3=1:=by kernel_rfl
theorem E0:Tryz.prog.underlying 222=some (.array 2 3):=by kernel_rfl
theorem YW{parts:Array (Nat×Operand)}{k:Nat}{z r:List AV}{ps:List (Nat×AV)}(u:P.underlying t=some (.array n e))(ue:(P.underlying e).isSome=true)(hk:P.cellsOf e=k)(hz:zeroOf P t=some z)(hp:Yz (QE G K) parts=some ps)(hf:ZT (fun i=>some (i *k,k)) ps z=some r):
  Uk P G K (.build t parts) st (.agg r) st:=.of fun T hT c d ty pos af g=>by
 show ret (Vq P t parts (QI G T)) st=_;unfold Vq;simp only[u,ue,Q6,hz,Qf,hT.parts hp,hk,hf,Ju];rfl
theorem Hc:(Tryz.prog.underlying 3).isSome=true:=by kernel_rfl
theorem Ow(a b x y:Int):UO Tryz.prog 222 [.int .i64 a,.int .i64 b] [.int .i64 x,.int .i64 y]=some (Qj (A5 a x) (A5 b y) false):=by kernel_rfl
def fZ:AV→Bool
 |.nils=>true
 |_=>false
theorem NV{yt:TypeId}{x y:Operand}{kb:AV}(hn:JZ kb=some n)(ht:P.underlying t=some (.slice e))(hx:QE G K x=some kb)(hy:QE G K y=some .nils):Uk P G K (.binOp .eql t x y yt) st (.bool (fZ kb)) st:=
 U5 hx hy (by
  cases kb<;>first|(cases hn;done)|skip
  all_goals
   show Q4 (Ee (P.underlying t) _) (ob (Ed _ .nils) fun b=>some (AV.bool b))=_
   rw[ht];rfl)
theorem RK{kb:AV}(h:fZ kb=true):kb=.nils:=by cases kb<;>first|rfl|cases h
end
end Go.Proofs.YtildagdnomiahaaGreatDoor
