/-
  A set as a text: pool.key.
-/
import Derived.Lib.AppendIntMem
import Derived.Lib.ItoaLen
import Derived.Lib.Slices
import Derived.Lib.Hide
import Derived.Laws.IdiomStrings
import Derived.OwnWalk
import Derived.WalkKit
import Derived.BigCall
import Derived.Test.YtildagdnomiahaaGreatDoorQvSortI
import Derived.Test.YtildagdnomiahaaGreatDoorQvEnv
import Derived.Test.YtildagdnomiahaaGreatDoorQvEv4
import Derived.ChangeShapes
import Derived.ChangeOld
import Derived.Below
import Derived.Carry
set_option maxRecDepth 100000
set_option linter.unusedVariables false
namespace Go.Proofs.YtildagdnomiahaaGreatDoor
section
open Go Go.Shelf Go.RowKit Go.Sort

theorem uR:(Tryz.prog.info? 5).map (fun i=>(i.zero,i.size,i.bytes))=some (some (.int .u8 0),1,1):=by kernel_rfl
def WM:List Int→List UInt8
 |[]=>[]
 |n::l=>Lib.itoa n++44::WM l
theorem Dx: ∀(a b:List Int),WM (a++b)=WM a++WM b
 |[],b=>rfl
 |n::a,b=>by rw[List.cons_append,WM,WM,Dx a b,List.append_assoc];rfl
theorem My{zs:List Int}{k:Nat}{z:Int}(h:zs[k]? =some z):WM (zs.take (k+1))=WM (zs.take k)++(Lib.itoa z++[44]):=by
 rw[List.take_add_one,h,Dx];rfl
theorem Dw: ∀l:List Int,(∀z∈l,-9223372036854775808≤z∧z≤9223372036854775807)→(WM l).length≤22 *l.length
 |[],_=>by simp[WM]
 |n::l,h=>by
  have h1:=Dw l fun z hz=>h z (List.mem_cons_of_mem _ hz);have h2:=h n (List.mem_cons_self ..);have h3:=Lib.itoa_length_le n h2.1 h2.2;rw[WM,List.length_append,List.length_cons,List.length_cons];omega
theorem uI: ∀l:List Int,(WM l).map UInt8.toNat=Y7 l
 |[]=>rfl
 |n::l=>by rw[WM,Y7,List.map_append,List.map_cons,uI l];rfl

set_option maxHeartbeats 6400000 in
set_option maxRecDepth 100000 in
theorem SK(A:Option Addr)(blk off cap:Nat)(zs:List Int)(w:World)(hz: ∀z∈zs,-9223372036854775808≤z∧z≤9223372036854775807)(hH:Holds (Value.int .i64) w blk off zs.toArray)(hA:0<zs.length→A=some ⟨blk,off,none⟩∧blk<w.heap.size)(hl:zs.length≤1000000)
  (htab:Lib.TabIs Tryz.prog w "internal/strconv.uint64pow10" .u64 Lib.pow10Tab):
  Calls Tryz.prog 300 #[.slice A zs.length cap] w fun e w'=>e=.returned (.string ⟨(WM zs).toArray⟩)∧Below w.heap.size w w':=by
 obtain⟨i0,hi,hz0,hz1,hz2⟩:=info_parts uR;have hT:=Lib.tabBelow_of_tabIs htab;have HH:=Lib.hid hH;clear hH
 go_enter Tryz.func300,Tryz.ntmps300
 go_wp2
 go_loopg [3,8] zs.length (fun q v3 v8 wr=> ∃k:Nat,q=zs.length-k∧k≤zs.length∧v8=.int .i64 k∧wr.ownsRow w.heap.size 5 1 v3 (WM (zs.take k)).length (Lib.byteCells (WM (zs.take k)))∧Below w.heap.size w wr)
 case atStart=>exact⟨0,by omega,Nat.zero_le _,rfl,World.ownsRow_nil _ _ _ _,Below.refl _ _⟩
 case round=>
  obtain⟨k,hq,hk,rfl,hown,hb⟩:=hrel
  by_cases hlt:k<zs.length
  ·obtain⟨rfl,hblk⟩:=hA Qd;obtain⟨c1,f1⟩:=HH.out k (by simpa using hlt)
   have c2:wr.cell? ⟨blk,off+k,none⟩=some (.int .i64 (zs[k])):=by
    rw[hb.cell (p:=⟨blk,off+k,none⟩) hblk,c1];simp[getElem!_pos,hlt]
   have hget:zs[k]? =some zs[k]:=List.getElem?_eq_getElem hlt;have hbz:=hz _ (List.getElem_mem hlt);obtain⟨z,hzk⟩: ∃z,z=zs[k]:=⟨_,rfl⟩;rw[←hzk]at c2 hget hbz;have hlz:=Lib.itoa_length_le z hbz.1 hbz.2;have hkl:=Dw (zs.take k) fun z hz'=>hz z (List.mem_of_mem_take hz');rw[List.length_take]at hkl;have HG:=Lib.hid hget;have HK:=Lib.hid hzk;clear hget hzk;obtain⟨L,hL⟩: ∃L,L=WM (zs.take k):=⟨_,rfl⟩;rw[←hL]at hown hkl;have HL:=Lib.hid hL;clear hL
   go_wp2_with (go_at_call 323;refine(Any.strconv_AppendInt_10 ux w.heap.size L.length z hbz.1 hbz.2 _ _ wr hown hb.size Qd (hT.on hb)).mono ?_;rintro e w1 ⟨v1,rfl,hown1,hnx1,-⟩;refine Hid.out ?_)
   refine Lib.hid ?_;have hown1:w1.ownsRow w.heap.size 5 1 v1 (L.length+(Lib.itoa z).length) (Lib.byteCells L++Lib.byteCells (Lib.itoa z)):=hown1;have hs1:=hnx1.size;have hs2:=hb.size
   go_wp2_with (at_builtin;refine wpList_append_own _ rfl _ _ 66 rfl w.heap.size 5 i0 (.int .u8 0) 1 1 Tryz.underlying66 hi hz0 hz1 hz2 rfl Q9 _ _ _ rfl (hown1.alloc _) ⟨w1.heap.size,0,none⟩ 1 1 [Value.int .u8 44] rfl rfl ?c1 ?c2 ?c3 ?c4 ?c5 ?_)
   case c1=>exact MX _ _ _ _ rfl
   case c2=>intro u hu;simp at hu;subst hu;rfl
   case c3=>unfold maxLen;omega
   case c4=>omega
   case c5=>simp;omega
   intro v2 w2 hown2 hgrow _;have hnx2:Below w.heap.size w w2:=((hb.trans hnx1).alloc (by have:=hnx1.size;have:=hb.size;omega) _).grown hgrow (by have:=hnx1.size;have:=hb.size;simp;omega) (fun k hk=>(hown1.lt k hk).1)
   go_wp2
   go_roundg (zs.length-(k+1))
   case measure=>omega
   case rel=>
    refine⟨k+1,rfl,by omega,rfl,?_,hnx2⟩;rw[My HG.out,←HL.out]
    have e1:Lib.byteCells (L++(Lib.itoa z++[44]))=Lib.byteCells L++(Lib.byteCells (Lib.itoa z)++[Value.int .u8 44]):=by simp[Lib.byteCells]
    have e2:(L++(Lib.itoa z++[44])).length=L.length+(Lib.itoa z).length+1:=by simp;omega
    rw[e1,e2]
    simpa [List.append_assoc]using hown2
  ·have hkk:zs.take k=zs:=List.take_of_length_le Qd;rw[hkk]at hown;obtain⟨l,hl'⟩: ∃l,l=WM zs:=⟨_,rfl⟩;rw[←hl']at hown;have HL:=Lib.hid hl';clear hl';rcases hown.2 with⟨rfl,h0⟩|⟨g,cap',cur,rfl,-,-,-,-,-,-⟩
   ·have hcv:(convert 66 9 (.slice none 0 0)).run Tryz.prog wr=.ok (.string ⟨#[]⟩) wr:=by
     rw[run_convert_bytes_string wr 66 9 5 none 0 0 Tryz.underlying66 Tryz.underlying5 Tryz.underlying9];simp[Conv.bytesToString];rfl
    go_wp2
    go_ret
    have h1:=HL.out;have h2:l=[]:=List.length_eq_zero_iff.1 Qd;rw[←h1,h2];exact⟨rfl,hb⟩
   ·have hcv:=run_convert_bytes_back (P:=Tryz.prog) wr 66 9 5 ⟨g,0,none⟩ cap' l Tryz.underlying66 Tryz.underlying5 Tryz.underlying9 (fun j hj=>hown.cells (g:=g) rfl j _ (by simp[Lib.byteCells,hj]))
    go_wp2
    go_ret
    rw[←HL.out];exact⟨rfl,hb⟩
end
section
open Go Go.RowKit Go.Shelf Go.Sort

noncomputable def DS:Nat→Nat→List Nat→List Nat
 |0,_,acc=>acc
 |f+1,u,acc=>Qj (Nat.ble u 9) ((48+u)::acc) (DS f (u/10) ((48+u % 10)::acc))
noncomputable def wB:Int→List Nat
 |.ofNat u=>DS 20 u []
 |.negSucc u=>45::DS 20 (u+1) []
noncomputable def vp:List Int→List Nat
 |[]=>[]
 |n::l=>wB n++44::vp l
theorem DR: ∀(f u:Nat) (acc:List Nat),u<10^(f+1)→DS (f+1) u acc=(Lib.decDigits u).map UInt8.toNat++acc:=by
 intro f
 induction f with
 |zero=>
  intro u acc h
  have h9:u<10:=by simpa using h
  rw[DS,Lib.decDigits,dif_pos h9,Nat.ble_eq_true_of_le Qd,Qv,List.map_singleton,WQ u h9];rfl
 |succ f ih=>
  intro u acc h;rw[DS,Lib.decDigits]
  by_cases h9:u<10
  ·rw[dif_pos h9,Nat.ble_eq_true_of_le Qd,Qv,List.map_singleton,WQ u h9];rfl
  ·have hb:Nat.ble u 9=false:=by
    cases hb:Nat.ble u 9 with
    |false=>rfl
    |true=>have:=Nat.le_of_ble_eq_true hb;omega
   rw[dif_neg h9,hb,Qq,ih (u/10) _ (by rw[Nat.pow_succ]at h;omega),List.map_append,List.map_singleton,WQ _ (Nat.mod_lt _ Q9),List.append_assoc];rfl
theorem uL{z:Int}(h1: -9223372036854775808≤z)(h2:z≤9223372036854775807):wB z=Ga z:=by
 have hp:(10:Nat)^20=100000000000000000000:=by decide
 cases z with
 |ofNat u=>
  have h2:(u:Int)≤9223372036854775807:=h2;show DS 20 u []=(Lib.itoa (u:Int)).map UInt8.toNat;rw[DR 19 u [] (by rw[hp];omega),List.append_nil,Lib.itoa,if_neg Qd];rfl
 |negSucc u=>
  have h1: -9223372036854775808≤Int.negSucc u:=h1;show 45::DS 20 (u+1) []=(Lib.itoa (Int.negSucc u)).map UInt8.toNat;rw[DR 19 (u+1) [] (by rw[hp];omega),List.append_nil,Lib.itoa,if_pos Qd];rfl
def kh(z:Int):Bool:=decide (-9223372036854775808≤z)&&decide (z≤9223372036854775807)
theorem Ru{z:Int}:kh z=true↔ -9223372036854775808≤z∧z≤9223372036854775807:=by unfold kh;rw[Bool.and_eq_true,decide_eq_true_eq,decide_eq_true_eq]
theorem KM: ∀{l:List Int},l.all kh=true→vp l=Y7 l
 |[],_=>rfl
 |z::l,h=>by
  rw[List.all_cons,Bool.and_eq_true]at h;have:=Ru.1 h.1;rw[vp,Y7,uL this.1 this.2,KM h.2]

def W0(w:World):Prop:=Lib.TabIs Tryz.prog w "internal/strconv.uint64pow10" .u64 Lib.pow10Tab
theorem W0.below{w w':World}(h:W0 w)(hb:Below w.heap.size w w'):W0 w':=Lib.tabBelow_of_tabIs h w' hb

noncomputable def Lg:List AV→St→Option (AV×St)
 |[.nils],st=>some (.str [],st)
 |[.sl c m 0 len 1],st=>match st.h.get c with
  |some (.row false ms)=>match ms[m]? with
   |some (e,vs,some l)=>match ZP (l.take len)with
    |some zs=>if zs.length=len∧len≤1000000∧zs.all kh=true then some (.str (vp zs),st)else none
    |none=>none
   |_=>none
  |_=>none
 |_,_=>none
theorem OX(zs:List Int):(⟨(WM zs).toArray⟩:ByteArray)=bytesOf (Y7 zs):=by
 unfold bytesOf;rw[←uI,List.map_map]
 have:(UInt8.ofNat∘UInt8.toNat)=id:=by funext x;simp
 rw[this,List.map_id]
theorem vm{G:Env}(hI: ∀w0 w,G.i w0→Below w0.heap.size w0 w→W0 w):W2 Tryz.prog G 300 Lg:=by
 intro args st v st' hs hf ha;have hr:Real Tryz.prog 300:=⟨_,Tryz.func300,rfl,by decide⟩;unfold Lg at hs
 split at hs
 ·injection hs with hs
  injection hs with e1 e2
  subst e1 e2;refine⟨hr,fun w0 p w H hG=>⟨Ab.refl _,?_⟩⟩;have h:=SK none 0 0 0 [] w Qx (fun j hj=>absurd hj Qx) (fun h=>absurd h Qx) Qx (hI w0 w hG.2 H.under);refine h.mono fun e w' he=>?_;obtain⟨rfl,hb⟩:=he;exact⟨p,by rw[OX];rfl,H.Wv hb,fun x hx=>by cases hx⟩
 ·rename_i c m len
  split at hs
  ·rename_i ms hc
   split at hs
   ·rename_i e vs l hm
    split at hs
    ·rename_i zs hzs
     split at hs
     ·rename_i hcond;obtain⟨hlen,h1M,hall⟩:=hcond
      injection hs with hs
      injection hs with e1 e2
      subst e1 e2;have hbz: ∀z∈zs,-9223372036854775808≤z∧z≤9223372036854775807:=fun z hz=>Ru.1 (List.all_eq_true.1 hall z hz);refine⟨hr,fun w0 p w H hG=>⟨Ab.refl _,?_⟩⟩;have hR:=H.cls c _ hc;obtain⟨q,arr,el,g1,g2,g3,g4,g5,g6⟩:=hR.mem m e vs (some l) hm;obtain⟨k1,k2⟩:=g6 l rfl;have hb:=g2.own;have hblt:=(Array.getElem?_eq_some_iff.1 hb).1;have hzl:l.take len=zs.map FG:=Gb hzs
      have hH:Holds (Value.int .i64) w q.b q.d zs.toArray:=by
       intro j hj
       have hj':j<zs.length:=by simpa using hj
       refine⟨?_,by simp[World.frozen?,hb]⟩
       have ha1:l[j]? =some (FG zs[j]):=by
        have h:=congrArg (fun x=>x[j]?) hzl;simp only[List.getElem?_map,List.getElem?_eq_getElem hj']at h;rw[List.getElem?_take_of_lt Qd]at h;exact h
       obtain⟨j1,_,_⟩:=k2 j _ ha1;simp only[World.cell?,hb];simp only[Option.isSome_none,Bool.false_eq_true,if_false];rw[j1];simp[hj',FG,Qe]
      have hargs:(Qm p [AV.sl c m 0 len 1]).toArray= #[.slice (some ⟨q.b,q.d,none⟩) zs.length q.e]:=by
       show #[Qe p (AV.sl c m 0 len 1)]=_;simp only[Qe,g1];rw[hlen];simp
      rw[hargs];refine(SK (some ⟨q.b,q.d,none⟩) q.b q.d q.e zs w hbz hH (fun _=>⟨rfl,hblt⟩) Qd (hI w0 w hG.2 H.under)).mono fun e' w' he=>?_;obtain⟨rfl,hb'⟩:=he;refine⟨p,?_,H.Wv hb',?_⟩
      ·rw[OX,←KM hall];rfl
      ·rw[KM hall];exact LR zs
     ·cases hs
    ·cases hs
   ·cases hs
  ·cases hs
 ·cases hs
theorem C5{P:Program}{G G':Env}(hG0: ∀g,G.g g=false)(hE:Ea P G)(hI: ∀w0 w,G'.i w0→Below w0.heap.size w0 w→G.i w)(hm:P.follows .mixedOrders=true){f:FuncId}{L fuel n:Nat}(h:isTrue (Jp P G L fuel f [] ⟨n,.nil⟩)=true):W2 P G' f Ah:=by
 intro args st v st' hs hf ha
 cases args with
 |cons a l=>cases hs
 |nil=>
  injection hs with hs
  injection hs with e1 e2
  subst e1 e2
  obtain⟨⟨u,st2⟩,h1⟩: ∃r,Jp P G L fuel f [] ⟨n,.nil⟩=some r:=by
   cases hr:Jp P G L fuel f [] ⟨n,.nil⟩with
   |none=>rw[hr]at h;cases h
   |some r=>exact⟨r,rfl⟩
  refine⟨(H9 (Hz hm) hE L fuel f [] _ _ _ h1 (fun _ _=>rfl) trivial).1,fun w0 p w H hG=>⟨Ab.refl _,?_⟩⟩;refine(IV hG0 hE hm (args:=[]) (by simp[YC]) h w (hI w0 w hG.2 H.under)).mono fun e w' he=>?_;obtain⟨rfl,hb⟩:=he;exact⟨p,rfl,H.Wv hb,trivial⟩

noncomputable section
end
end
section
open Go Go.RowKit Go.Shelf Go.Sort

noncomputable section
def IC:List (FuncId×(List AV→St→Option (AV×St))):=
 (300,Lg)::
 (261,YT U4 Et fun _=>.tup [])::
 (271,YT AT EM id)::
 []
def DM:Env:=⟨fun _=>false,Gg Gu,Hr IC,W0⟩
abbrev QV:=Ev Tryz.prog DM
end
theorem Hy:Ea Tryz.prog DM:=⟨fun f q h=>N8 (f,q) (Ir h),fun f sm h=>by
 have h:Hr IC f=some sm:=h;have h:=MJ h;unfold IC at h;rcases List.mem_cons.1 h with h|h
 ·injection h with e1 e2;subst e1 e2;exact vm fun w0 w h hb=>W0.below h hb
 rcases List.mem_cons.1 h with h|h
 ·injection h with e1 e2;subst e1 e2;exact TJ
 rcases List.mem_cons.1 h with h|h
 ·injection h with e1 e2;subst e1 e2;exact BH
 cases h⟩
end
section
open Go

theorem Qs:tk Tryz.prog 3=.one:=by kernel_rfl
theorem GI:UX Tryz.prog 3=some 1:=by kernel_rfl
theorem HJ:zeroOf Tryz.prog 3=some [.int .i64 0]:=by kernel_rfl
theorem ec:Tryz.prog.underlying 3=some (.int .i64):=by kernel_rfl
theorem Vt:tk Tryz.prog 4=.one:=by kernel_rfl
theorem Ae:UX Tryz.prog 4=some 1:=by kernel_rfl
theorem EW:zeroOf Tryz.prog 4=some [.bool false]:=by kernel_rfl
theorem Ym:Tryz.prog.underlying 4=some (.bool):=by kernel_rfl
theorem HT:tk Tryz.prog 9=.one:=by kernel_rfl
theorem O8:zeroOf Tryz.prog 9=some [.str []]:=by kernel_rfl
theorem HP:Tryz.prog.underlying 9=some (.string):=by kernel_rfl
theorem QJ:Tryz.prog.underlying 22=some (.slice 40):=by kernel_rfl
theorem ZZ:JQ Tryz.prog 22=some 3:=by kernel_rfl
theorem I9:Tryz.prog.underlying 47=some (.slice 9):=by kernel_rfl
theorem Xg:tk Tryz.prog 40=.agg 3:=by kernel_rfl
theorem C4:UX Tryz.prog 40=some 3:=by kernel_rfl
theorem Ck:zeroOf Tryz.prog 40=some [.str [],.int .i64 0,.int .i64 0]:=by kernel_rfl
theorem Oo:Q5 Tryz.prog 40 0=some 0:=by kernel_rfl
theorem On:Q5 Tryz.prog 40 1=some 1:=by kernel_rfl
theorem CE:F8 Tryz.prog 47 9 1:=⟨I9,by kernel_rfl,⟨_,O8,rfl⟩,by kernel_rfl,by decide,by decide+kernel⟩
end
section
open Go

theorem NN:tk Tryz.prog 42=.one:=by kernel_rfl
theorem JI:Tryz.prog.underlying 42=some (.slice 44):=by kernel_rfl
theorem Yf:JQ Tryz.prog 42=some 6:=by kernel_rfl
theorem Jh:tk Tryz.prog 44=.agg 6:=by kernel_rfl
theorem Ub:UX Tryz.prog 44=some 6:=by kernel_rfl
theorem Zn:zeroOf Tryz.prog 44=some [.str [],.int .i64 0,.int .i64 0,.int .i64 0,.int .i64 0,.nils]:=by kernel_rfl
theorem Ox:Q5 Tryz.prog 44 0=some 0:=by kernel_rfl
theorem Ow:Q5 Tryz.prog 44 1=some 1:=by kernel_rfl
theorem Ov:Q5 Tryz.prog 44 2=some 2:=by kernel_rfl
theorem Ou:Q5 Tryz.prog 44 3=some 3:=by kernel_rfl
theorem Ot:Q5 Tryz.prog 44 4=some 4:=by kernel_rfl
theorem Oq:Q5 Tryz.prog 44 5=some 5:=by kernel_rfl
theorem CA:P3 Tryz.prog 44 [(0,1),(1,1),(2,1),(3,1),(4,1),(5,1)] [.str [],.int .i64 0,.int .i64 0,.int .i64 0,.int .i64 0,.nils]:=⟨⟨_,Tryz.underlying44,by kernel_rfl,by kernel_rfl⟩,Zn⟩
theorem OF:tk Tryz.prog 222=.agg 2:=by kernel_rfl
theorem TE:UX Tryz.prog 222=some 2:=by kernel_rfl
theorem Zo:zeroOf Tryz.prog 222=some [.int .i64 0,.int .i64 0]:=by kernel_rfl
theorem Jn:tk Tryz.prog 48=.one:=by kernel_rfl
theorem XP:UX Tryz.prog 48=some 1:=by kernel_rfl
theorem Yt:zeroOf Tryz.prog 48=some [.nils]:=by kernel_rfl
theorem Jm:Tryz.prog.underlying 48=some (.slice 3):=by kernel_rfl
theorem QD:JQ Tryz.prog 48=some 1:=by kernel_rfl
theorem ZW:F8 Tryz.prog 42 44 6:=⟨JI,by kernel_rfl,⟨_,Zn,rfl⟩,by kernel_rfl,by decide,by decide+kernel⟩
theorem QR:F8 Tryz.prog 48 3 1:=⟨Jm,by kernel_rfl,⟨_,HJ,rfl⟩,by kernel_rfl,by decide,by decide+kernel⟩
end
section
open Go Go.RowKit

structure AX{K:Type}(h:Hp)(z:Nat)(R:K→List AV→Prop)(l:List K)(kk:AV)(ls:List (List AV)):Prop where
 r:Jg h [] z ls kk
 ln:ls.length=l.length
 at_: ∀(i:Nat) (k:K),l[i]? =some k→ ∃cs,ls[i]? =some cs∧R k cs
def zC(l:List Int):List (List AV):=l.map fun z=>[AV.int .i64 z]
theorem Qy(l:List Int):(zC l).length=l.length:=by simp[zC]
theorem JG{l:List Int}{i:Nat}{z:Int}(h:l[i]? =some z):(zC l)[i]? =some [AV.int .i64 z]:=by rw[zC,List.getElem?_map,h];rfl
theorem JJ(a b:List Int):zC (a++b)=zC a++zC b:=by simp[zC]
theorem G7(l:List Int): ∀cs∈zC l,cs.length=1:=by
 intro cs h;obtain⟨s,_,rfl⟩:=List.mem_map.1 h;rfl
def HC(l:List Int):Prop:= ∀z∈l,-9223372036854775808≤z∧z≤9223372036854775807
end
section
open Go

theorem QW:tk Tryz.prog 167=.one:=by kernel_rfl
theorem ZM:UX Tryz.prog 167=some 1:=by kernel_rfl
theorem UO:Tryz.prog.underlying 167=some (.slice 48):=by kernel_rfl
theorem QK:JQ Tryz.prog 167=some 1:=by kernel_rfl
theorem Yx:tk Tryz.prog 293=.one:=by kernel_rfl
theorem Ep:Tryz.prog.underlying 293=some (.pointer 318):=by kernel_rfl
theorem YR:tk Tryz.prog 316=.one:=by kernel_rfl
theorem G6:zeroOf Tryz.prog 318=some [.nils,.nilm]:=by kernel_rfl
theorem Y2:Q5 Tryz.prog 318 0=some 0:=by kernel_rfl
theorem EC:Q5 Tryz.prog 318 1=some 1:=by kernel_rfl
theorem GK:P3 Tryz.prog 318 [(0,1),(1,1)] [.nils,.nilm]:=⟨⟨_,Tryz.underlying318,by kernel_rfl,by kernel_rfl⟩,G6⟩
theorem J3:F8 Tryz.prog 167 48 1:=⟨UO,by kernel_rfl,⟨_,Yt,rfl⟩,by kernel_rfl,by decide,by decide+kernel⟩
theorem WY:Tryz.prog.underlying 316=some (.map 9 3):=by kernel_rfl
end
section
open Go

section
variable {P:Program} {G:Env} {K:List (Nat×AV)} {st:St} {t yt e:TypeId} {x y:Operand}
theorem UA{c m o:Nat}(ht:P.underlying t=some (.pointer e))(hx:QG G K x=some (.ptr c m o))(hy:QG G K y=some .nilp):Us P G K (.binOp .eql t x y yt) st (.bool false) st:=
 UF hx hy (by
  show Q6 (EH (P.underlying t) (.ptr c m o)) (ob (EG (.ptr c m o) .nilp) fun b=>some (AV.bool b))=_
  rw[ht];rfl)
theorem xD{c m o:Nat}(ht:P.underlying t=some (.pointer e))(hx:QG G K x=some (.ptr c m o))(hy:QG G K y=some .nilp):Us P G K (.binOp .neq t x y yt) st (.bool true) st:=
 UF hx hy (by
  show Q6 (EH (P.underlying t) (.ptr c m o)) (ob (EG (.ptr c m o) .nilp) fun b=>some (AV.bool !b))=_
  rw[ht];rfl)
end
end
section
open Go
variable {G:Env} {K:List (Nat×AV)} {P:Program} {e t:TypeId} {n:Nat} {st:St}

theorem Am{x i:Operand}{c m off z:Nat}{k:IntKind}{j:Nat}(he:VG P t=some (n,e))(hz:P.cellsOf e=z)(hx:QG G K x=some (.ptr c m off))(hi:QG G K i=some (.int k (j:Int)))(hj:j<n):
  Us P G K (.indexAddr t x i) st (.ptr c m (off+j *z)) st:=.of fun T hT cc d ty pos af g=>by
 show ret (ob (QN G T x) fun x=>ob (QN G T i) fun i=>JA P t x i) st=_;rw[hT.QN hx,hT.QN hi,Qg,Qg];show ret (ob (Cu (j:Int)) fun i=>ob (VG P t) fun q=>Q6 (Nat.ble (i+1) q.1) (JF (off+i *P.cellsOf q.2) fun o=>some (AV.ptr c m o))) st=_;show ret (ob (VG P t) fun q=>Q6 (Nat.ble (j+1) q.1) (JF (off+j *P.cellsOf q.2) fun o=>some (AV.ptr c m o))) st=_;rw[he,Qg];show ret (Q6 (Nat.ble (j+1) n) (JF (off+j *P.cellsOf e) fun o=>some (AV.ptr c m o))) st=_;rw[Nat.ble_eq_true_of_le hj,hz];show ret (JF (off+j *z) fun o=>some (AV.ptr c m o)) st=_;rw[QE];rfl
theorem KT:VG Tryz.prog 222=some (2,3):=by kernel_rfl
theorem Z6:Program.cellsOf Tryz.prog 3=1:=by kernel_rfl
theorem Ad:Tryz.prog.underlying 222=some (.array 2 3):=by kernel_rfl
theorem Zr{parts:Array (Nat×Operand)}{k:Nat}{z r:List AV}{ps:List (Nat×AV)}(u:P.underlying t=some (.array n e))(ue:(P.underlying e).isSome=true)(hk:P.cellsOf e=k)(hz:zeroOf P t=some z)(hp:YD (QG G K) parts=some ps)(hf:Xq (fun i=>some (i *k,k)) ps z=some r):
  Us P G K (.build t parts) st (.agg r) st:=.of fun T hT c d ty pos af g=>by
 show ret (VF P t parts (QN G T)) st=_;unfold VF;simp only[u,ue,Q7,hz,Qg,hT.parts hp,hk,hf,J1];rfl
theorem HO:(Tryz.prog.underlying 3).isSome=true:=by kernel_rfl
theorem Gj(a b x y:Int):Yb Tryz.prog 222 [.int .i64 a,.int .i64 b] [.int .i64 x,.int .i64 y]=some (Qj (Fu a x) (Fu b y) false):=by kernel_rfl
def iR:AV→Bool
 |.nils=>true
 |_=>false
theorem ON{yt:TypeId}{x y:Operand}{kb:AV}(hn:J8 kb=some n)(ht:P.underlying t=some (.slice e))(hx:QG G K x=some kb)(hy:QG G K y=some .nils):Us P G K (.binOp .eql t x y yt) st (.bool (iR kb)) st:=
 UF hx hy (by
  cases kb<;>first|(cases hn;done)|skip
  all_goals
   show Q6 (EH (P.underlying t) _) (ob (EG _ .nils) fun b=>some (AV.bool b))=_
   rw[ht];rfl)
theorem SB{kb:AV}(h:iR kb=true):kb=.nils:=by cases kb<;>first|rfl|cases h
end
end Go.Proofs.YtildagdnomiahaaGreatDoor
