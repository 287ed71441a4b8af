/-
  A set as a text: pool.key.
-/
import Derived.Lib.AppendIntMem
import Derived.Lib.ItoaLen
import Derived.Lib.Slices
import Derived.Lib.Hide
import Derived.Laws.IdiomStrings
import Derived.OwnWalk
import Derived.WalkKit
import Derived.BigCall
import Derived.Test.YtiknomepbklibaaGreatDoorQhSortI
import Derived.Test.YtiknomepbklibaaGreatDoorQhEnv
import Derived.ChangeShapes
import Derived.ChangeOld
import Derived.Below
import Derived.Carry
set_option maxRecDepth 1000000
set_option linter.unusedVariables false
namespace Go.Proofs.YtiknomepbklibaaGreatDoor
section
open Go Go.Shelf Go.RowKit Go.Sort

theorem yh:(Tryz.prog.info? 5).map (fun i=>(i.zero,i.size,i.bytes))=some (some (.int .u8 0),1,1):=by kernel_rfl
def Es:List Int→List UInt8
 |[]=>[]
 |n::l=>Lib.itoa n++44::Es l
theorem DN: ∀(a b:List Int),Es (a++b)=Es a++Es b
 |[],b=>rfl
 |n::a,b=>by rw[List.cons_append,Es,Es,DN a b,List.append_assoc];rfl
theorem qb{zs:List Int}{k:Nat}{z:Int}(h:zs[k]? =some z):Es (zs.take (k+1))=Es (zs.take k)++(Lib.itoa z++[44]):=by
 rw[List.take_add_one,h,DN];rfl
theorem DM: ∀l:List Int,(∀z∈l,-9223372036854775808≤z∧z≤9223372036854775807)→(Es l).length≤22 *l.length
 |[],_=>by simp[Es]
 |n::l,h=>by
  have h1:=DM l fun z hz=>h z (List.mem_cons_of_mem _ hz);have h2:=h n (List.mem_cons_self ..);have h3:=Lib.itoa_length_le n h2.1 h2.2;rw[Es,List.length_append,List.length_cons,List.length_cons];omega
theorem yc: ∀l:List Int,(Es l).map UInt8.toNat=Zi l
 |[]=>rfl
 |n::l=>by rw[Es,Zi,List.map_append,List.map_cons,yc l];rfl

set_option maxHeartbeats 6400000 in
set_option maxRecDepth 100000 in
theorem T8(A:Option Addr)(blk off cap:Nat)(zs:List Int)(w:World)(hz: ∀z∈zs,-9223372036854775808≤z∧z≤9223372036854775807)(hH:Holds (Value.int .i64) w blk off zs.toArray)(hA:0<zs.length→A=some ⟨blk,off,none⟩∧blk<w.heap.size)(hl:zs.length≤1000000)
  (htab:Lib.TabIs Tryz.prog w "internal/strconv.uint64pow10" .u64 Lib.pow10Tab):
  Calls Tryz.prog 87 #[.slice A zs.length cap] w fun e w'=>e=.returned (.string ⟨(Es zs).toArray⟩)∧Below w.heap.size w w':=by
 obtain⟨i0,hi,hz0,hz1,hz2⟩:=info_parts yh;have hT:=Lib.tabBelow_of_tabIs htab;have HH:=Lib.hid hH;clear hH
 go_enter Tryz.func87,Tryz.ntmps87
 go_wp2
 go_loopg [3,8] zs.length (fun q v3 v8 wr=> ∃k:Nat,q=zs.length-k∧k≤zs.length∧v8=.int .i64 k∧wr.ownsRow w.heap.size 5 1 v3 (Es (zs.take k)).length (Lib.byteCells (Es (zs.take k)))∧Below w.heap.size w wr)
 case atStart=>exact⟨0,by omega,Nat.zero_le _,rfl,World.ownsRow_nil _ _ _ _,Below.refl _ _⟩
 case round=>
  obtain⟨k,hq,hk,rfl,hown,hb⟩:=hrel
  by_cases hlt:k<zs.length
  ·obtain⟨rfl,hblk⟩:=hA Qc;obtain⟨c1,f1⟩:=HH.out k (by simpa using hlt)
   have c2:wr.cell? ⟨blk,off+k,none⟩=some (.int .i64 (zs[k])):=by
    rw[hb.cell (p:=⟨blk,off+k,none⟩) hblk,c1];simp[getElem!_pos,hlt]
   have hget:zs[k]? =some zs[k]:=List.getElem?_eq_getElem hlt;have hbz:=hz _ (List.getElem_mem hlt);obtain⟨z,hzk⟩: ∃z,z=zs[k]:=⟨_,rfl⟩;rw[←hzk]at c2 hget hbz;have hlz:=Lib.itoa_length_le z hbz.1 hbz.2;have hkl:=DM (zs.take k) fun z hz'=>hz z (List.mem_of_mem_take hz');rw[List.length_take]at hkl;have HG:=Lib.hid hget;have HK:=Lib.hid hzk;clear hget hzk;obtain⟨L,hL⟩: ∃L,L=Es (zs.take k):=⟨_,rfl⟩;rw[←hL]at hown hkl;have HL:=Lib.hid hL;clear hL
   go_wp2_with (go_at_call 112;refine(Any.strconv_AppendInt_10 uO w.heap.size L.length z hbz.1 hbz.2 _ _ wr hown hb.size Qc (hT.on hb)).mono ?_;rintro e w1 ⟨v1,rfl,hown1,hnx1,-⟩;refine Hid.out ?_)
   refine Lib.hid ?_;have hown1:w1.ownsRow w.heap.size 5 1 v1 (L.length+(Lib.itoa z).length) (Lib.byteCells L++Lib.byteCells (Lib.itoa z)):=hown1;have hs1:=hnx1.size;have hs2:=hb.size
   go_wp2_with (at_builtin;refine wpList_append_own _ rfl _ _ 143 rfl w.heap.size 5 i0 (.int .u8 0) 1 1 Tryz.underlying143 hi hz0 hz1 hz2 rfl Q9 _ _ _ rfl (hown1.alloc _) ⟨w1.heap.size,0,none⟩ 1 1 [Value.int .u8 44] rfl rfl ?c1 ?c2 ?c3 ?c4 ?c5 ?_)
   case c1=>exact qG _ _ _ _ rfl
   case c2=>intro u hu;simp at hu;subst hu;rfl
   case c3=>unfold maxLen;omega
   case c4=>omega
   case c5=>simp;omega
   intro v2 w2 hown2 hgrow _;have hnx2:Below w.heap.size w w2:=((hb.trans hnx1).alloc (by have:=hnx1.size;have:=hb.size;omega) _).grown hgrow (by have:=hnx1.size;have:=hb.size;simp;omega) (fun k hk=>(hown1.lt k hk).1)
   go_wp2
   go_roundg (zs.length-(k+1))
   case measure=>omega
   case rel=>
    refine⟨k+1,rfl,by omega,rfl,?_,hnx2⟩;rw[qb HG.out,←HL.out]
    have e1:Lib.byteCells (L++(Lib.itoa z++[44]))=Lib.byteCells L++(Lib.byteCells (Lib.itoa z)++[Value.int .u8 44]):=by simp[Lib.byteCells]
    have e2:(L++(Lib.itoa z++[44])).length=L.length+(Lib.itoa z).length+1:=by simp;omega
    rw[e1,e2]
    simpa [List.append_assoc]using hown2
  ·have hkk:zs.take k=zs:=List.take_of_length_le Qc;rw[hkk]at hown;obtain⟨l,hl'⟩: ∃l,l=Es zs:=⟨_,rfl⟩;rw[←hl']at hown;have HL:=Lib.hid hl';clear hl';rcases hown.2 with⟨rfl,h0⟩|⟨g,cap',cur,rfl,-,-,-,-,-,-⟩
   ·have hcv:(convert 143 9 (.slice none 0 0)).run Tryz.prog wr=.ok (.string ⟨#[]⟩) wr:=by
     rw[run_convert_bytes_string wr 143 9 5 none 0 0 Tryz.underlying143 Tryz.underlying5 Tryz.underlying9];simp[Conv.bytesToString];rfl
    go_wp2
    go_ret
    have h1:=HL.out;have h2:l=[]:=List.length_eq_zero_iff.1 Qc;rw[←h1,h2];exact⟨rfl,hb⟩
   ·have hcv:=run_convert_bytes_back (P:=Tryz.prog) wr 143 9 5 ⟨g,0,none⟩ cap' l Tryz.underlying143 Tryz.underlying5 Tryz.underlying9 (fun j hj=>hown.cells (g:=g) rfl j _ (by simp[Lib.byteCells,hj]))
    go_wp2
    go_ret
    rw[←HL.out];exact⟨rfl,hb⟩
end
section
open Go Go.RowKit Go.Shelf Go.Sort

noncomputable def Pk:Nat→Nat→List Nat→List Nat
 |0,_,acc=>acc
 |f+1,u,acc=>Qj (Nat.ble u 9) ((48+u)::acc) (Pk f (u/10) ((48+u % 10)::acc))
noncomputable def vZ:Int→List Nat
 |.ofNat u=>Pk 20 u []
 |.negSucc u=>45::Pk 20 (u+1) []
noncomputable def vf:List Int→List Nat
 |[]=>[]
 |n::l=>vZ n++44::vf l
theorem Pj: ∀(f u:Nat) (acc:List Nat),u<10^(f+1)→Pk (f+1) u acc=(Lib.decDigits u).map UInt8.toNat++acc:=by
 intro f
 induction f with
 |zero=>
  intro u acc h
  have h9:u<10:=by simpa using h
  rw[Pk,Lib.decDigits,dif_pos h9,Nat.ble_eq_true_of_le Qc,Qz,List.map_singleton,E6 u h9];rfl
 |succ f ih=>
  intro u acc h;rw[Pk,Lib.decDigits]
  by_cases h9:u<10
  ·rw[dif_pos h9,Nat.ble_eq_true_of_le Qc,Qz,List.map_singleton,E6 u h9];rfl
  ·have hb:Nat.ble u 9=false:=by
    cases hb:Nat.ble u 9 with
    |false=>rfl
    |true=>have:=Nat.le_of_ble_eq_true hb;omega
   rw[dif_neg h9,hb,Qu,ih (u/10) _ (by rw[Nat.pow_succ]at h;omega),List.map_append,List.map_singleton,E6 _ (Nat.mod_lt _ Q9),List.append_assoc];rfl
theorem yf{z:Int}(h1: -9223372036854775808≤z)(h2:z≤9223372036854775807):vZ z=GH z:=by
 have hp:(10:Nat)^20=100000000000000000000:=by decide
 cases z with
 |ofNat u=>
  have h2:(u:Int)≤9223372036854775807:=h2;show Pk 20 u []=(Lib.itoa (u:Int)).map UInt8.toNat;rw[Pj 19 u [] (by rw[hp];omega),List.append_nil,Lib.itoa,if_neg Qc];rfl
 |negSucc u=>
  have h1: -9223372036854775808≤Int.negSucc u:=h1;show 45::Pk 20 (u+1) []=(Lib.itoa (Int.negSucc u)).map UInt8.toNat;rw[Pj 19 (u+1) [] (by rw[hp];omega),List.append_nil,Lib.itoa,if_pos Qc];rfl
def fi(z:Int):Bool:=decide (-9223372036854775808≤z)&&decide (z≤9223372036854775807)
theorem RM{z:Int}:fi z=true↔ -9223372036854775808≤z∧z≤9223372036854775807:=by unfold fi;rw[Bool.and_eq_true,decide_eq_true_eq,decide_eq_true_eq]
theorem L4: ∀{l:List Int},l.all fi=true→vf l=Zi l
 |[],_=>rfl
 |z::l,h=>by
  rw[List.all_cons,Bool.and_eq_true]at h;have:=RM.1 h.1;rw[vf,Zi,yf this.1 this.2,L4 h.2]

def EJ(w:World):Prop:=Lib.TabIs Tryz.prog w "internal/strconv.uint64pow10" .u64 Lib.pow10Tab
theorem EJ.below{w w':World}(h:EJ w)(hb:Below w.heap.size w w'):EJ w':=Lib.tabBelow_of_tabIs h w' hb

noncomputable def I8:List AV→St→Option (AV×St)
 |[.nils],st=>some (.str [],st)
 |[.sl c m 0 len 1],st=>match st.h.get c with
  |some (.row false ms)=>match ms[m]? with
   |some (e,vs,some l)=>match XR (l.take len)with
    |some zs=>if zs.length=len∧len≤1000000∧zs.all fi=true then some (.str (vf zs),st)else none
    |none=>none
   |_=>none
  |_=>none
 |_,_=>none
theorem GF(zs:List Int):(⟨(Es zs).toArray⟩:ByteArray)=bytesOf (Zi zs):=by
 unfold bytesOf;rw[←yc,List.map_map]
 have:(UInt8.ofNat∘UInt8.toNat)=id:=by funext x;simp
 rw[this,List.map_id]
theorem T7{G:Env}(hI: ∀w0 w,G.i w0→Below w0.heap.size w0 w→EJ w):Bg Tryz.prog G 87 I8:=by
 intro args st v st' hs hf ha;have hr:Real Tryz.prog 87:=⟨_,Tryz.func87,rfl,by decide⟩;unfold I8 at hs
 split at hs
 ·injection hs with hs
  injection hs with e1 e2
  subst e1 e2;refine⟨hr,fun w0 p w H hG=>⟨Ab.refl _,?_⟩⟩;have h:=T8 none 0 0 0 [] w Q7 (fun j hj=>absurd hj Q7) (fun h=>absurd h Q7) Q7 (hI w0 w hG.2 H.under);refine h.mono fun e w' he=>?_;obtain⟨rfl,hb⟩:=he;exact⟨p,by rw[GF];rfl,H.Ft hb,fun x hx=>by cases hx⟩
 ·rename_i c m len
  split at hs
  ·rename_i ms hc
   split at hs
   ·rename_i e vs l hm
    split at hs
    ·rename_i zs hzs
     split at hs
     ·rename_i hcond;obtain⟨hlen,h1M,hall⟩:=hcond
      injection hs with hs
      injection hs with e1 e2
      subst e1 e2;have hbz: ∀z∈zs,-9223372036854775808≤z∧z≤9223372036854775807:=fun z hz=>RM.1 (List.all_eq_true.1 hall z hz);refine⟨hr,fun w0 p w H hG=>⟨Ab.refl _,?_⟩⟩;have hR:=H.cls c _ hc;obtain⟨q,arr,el,g1,g2,g3,g4,g5,g6⟩:=hR.mem m e vs (some l) hm;obtain⟨k1,k2⟩:=g6 l rfl;have hb:=g2.own;have hblt:=(Array.getElem?_eq_some_iff.1 hb).1;have hzl:l.take len=zs.map Hu:=GI hzs
      have hH:Holds (Value.int .i64) w q.b q.d zs.toArray:=by
       intro j hj
       have hj':j<zs.length:=by simpa using hj
       refine⟨?_,by simp[World.frozen?,hb]⟩
       have ha1:l[j]? =some (Hu zs[j]):=by
        have h:=congrArg (fun x=>x[j]?) hzl;simp only[List.getElem?_map,List.getElem?_eq_getElem hj']at h;rw[List.getElem?_take_of_lt Qc]at h;exact h
       obtain⟨j1,_,_⟩:=k2 j _ ha1;simp only[World.cell?,hb];simp only[Option.isSome_none,Bool.false_eq_true,if_false];rw[j1];simp[hj',Hu,Qh]
      have hargs:(Qr p [AV.sl c m 0 len 1]).toArray= #[.slice (some ⟨q.b,q.d,none⟩) zs.length q.e]:=by
       show #[Qh p (AV.sl c m 0 len 1)]=_;simp only[Qh,g1];rw[hlen];simp
      rw[hargs];refine(T8 (some ⟨q.b,q.d,none⟩) q.b q.d q.e zs w hbz hH (fun _=>⟨rfl,hblt⟩) Qc (hI w0 w hG.2 H.under)).mono fun e' w' he=>?_;obtain⟨rfl,hb'⟩:=he;refine⟨p,?_,H.Ft hb',?_⟩
      ·rw[GF,←L4 hall];rfl
      ·rw[L4 hall];exact NG zs
     ·cases hs
    ·cases hs
   ·cases hs
  ·cases hs
 ·cases hs
theorem CR{P:Program}{G G':Env}(hG0: ∀g,G.g g=false)(hE:KN P G)(hI: ∀w0 w,G'.i w0→Below w0.heap.size w0 w→G.i w)(hm:P.follows .mixedOrders=true){f:FuncId}{L fuel n:Nat}(h:isTrue (Ug P G L fuel f [] ⟨n,.nil⟩)=true):Bg P G' f Bw:=by
 intro args st v st' hs hf ha
 cases args with
 |cons a l=>cases hs
 |nil=>
  injection hs with hs
  injection hs with e1 e2
  subst e1 e2
  obtain⟨⟨u,st2⟩,h1⟩: ∃r,Ug P G L fuel f [] ⟨n,.nil⟩=some r:=by
   cases hr:Ug P G L fuel f [] ⟨n,.nil⟩with
   |none=>rw[hr]at h;cases h
   |some r=>exact⟨r,rfl⟩
  refine⟨(Cv (Cl hm) hE L fuel f [] _ _ _ h1 (fun _ _=>rfl) trivial).1,fun w0 p w H hG=>⟨Ab.refl _,?_⟩⟩;refine(Ps hG0 hE hm (args:=[]) (by simp[Zk]) h w (hI w0 w hG.2 H.under)).mono fun e w' he=>?_;obtain⟨rfl,hb⟩:=he;exact⟨p,rfl,H.Ft hb,trivial⟩

noncomputable section
def jq:List (FuncId×(List AV→St→Option (AV×St))):=
 (87,I8)::
 (67,Zg AD E8 id)::
 []
def fl:Env:=⟨fun _=>false,TG TV,GM jq,EJ⟩
end
theorem vv:KN Tryz.prog fl:=⟨fun f q h=>P1 (f,q) (GN h),fun f sm h=>by
 have h:GM jq f=some sm:=h;have h:=GL h;unfold jq at h;rcases List.mem_cons.1 h with h|h
 ·injection h with e1 e2;subst e1 e2;exact T7 fun w0 w h hb=>EJ.below h hb
 rcases List.mem_cons.1 h with h|h
 ·injection h with e1 e2;subst e1 e2;exact It
 cases h⟩
end
section
open Go

theorem Cd:isTrue (Ug Tryz.prog fl 10000 1000 22 [] ⟨0,.nil⟩)=true:=by decide+kernel

end
section
open Go Go.RowKit Go.Shelf Go.Sort

noncomputable section
def jr:List (FuncId×(List AV→St→Option (AV×St))):=
 (87,I8)::
 (22,Bw)::
 (66,Zg XO LS fun _=>.tup [])::
 (67,Zg AD E8 id)::
 []
def yB:Env:=⟨fun _=>false,TG TV,GM jr,EJ⟩
abbrev Jh:=Ev Tryz.prog yB
end
theorem vw:KN Tryz.prog yB:=⟨fun f q h=>P1 (f,q) (GN h),fun f sm h=>by
 have h:GM jr f=some sm:=h;have h:=GL h;unfold jr at h;rcases List.mem_cons.1 h with h|h
 ·injection h with e1 e2;subst e1 e2;exact T7 fun w0 w h hb=>EJ.below h hb
 rcases List.mem_cons.1 h with h|h
 ·injection h with e1 e2;subst e1 e2;exact CR (fun _=>rfl) vv (fun w0 w h hb=>EJ.below h hb) mixed Cd
 rcases List.mem_cons.1 h with h|h
 ·injection h with e1 e2;subst e1 e2;exact Ml
 rcases List.mem_cons.1 h with h|h
 ·injection h with e1 e2;subst e1 e2;exact It
 cases h⟩
theorem RD(st:St):Jh 22 [] st (.bool true) st:=⟨0,1,rfl⟩
end
section
open Go

theorem Qn:tk Tryz.prog 3=.one:=by kernel_rfl
theorem I7:YM Tryz.prog 3=some 1:=by kernel_rfl
theorem XL:zeroOf Tryz.prog 3=some [.int .i64 0]:=by kernel_rfl
theorem eZ:Tryz.prog.cellsOf 3=1:=by kernel_rfl
theorem U1:Tryz.prog.underlying 3=some (.int .i64):=by kernel_rfl
theorem J7:tk Tryz.prog 4=.one:=by kernel_rfl
theorem AR:YM Tryz.prog 4=some 1:=by kernel_rfl
theorem Vd:zeroOf Tryz.prog 4=some [.bool false]:=by kernel_rfl
theorem Yv:Tryz.prog.underlying 4=some (.bool):=by kernel_rfl
theorem I5:tk Tryz.prog 9=.one:=by kernel_rfl
theorem Gj:zeroOf Tryz.prog 9=some [.str []]:=by kernel_rfl
theorem W8:Tryz.prog.underlying 9=some (.string):=by kernel_rfl
theorem Kn:Tryz.prog.underlying 142=some (.slice 9):=by kernel_rfl
theorem QP:Ue Tryz.prog 142=some 1:=by kernel_rfl
theorem UT:Tryz.prog.underlying 58=some (.int .u64):=by kernel_rfl
theorem CZ:Ho Tryz.prog 142 9 1:=⟨Kn,by kernel_rfl,⟨_,Gj,rfl⟩,by kernel_rfl,by decide,by decide+kernel⟩
end
section
open Go

theorem O8:tk Tryz.prog 42=.one:=by kernel_rfl
theorem JY:Tryz.prog.underlying 42=some (.slice 44):=by kernel_rfl
theorem Jn:Ue Tryz.prog 42=some 6:=by kernel_rfl
theorem Jg:tk Tryz.prog 44=.agg 6:=by kernel_rfl
theorem ZJ:YM Tryz.prog 44=some 6:=by kernel_rfl
theorem CF:zeroOf Tryz.prog 44=some [.str [],.int .i64 0,.int .i64 0,.int .i64 0,.int .i64 0,.nils]:=by kernel_rfl
theorem OX:QH Tryz.prog 44 0=some 0:=by kernel_rfl
theorem OW:QH Tryz.prog 44 1=some 1:=by kernel_rfl
theorem OV:QH Tryz.prog 44 2=some 2:=by kernel_rfl
theorem OU:QH Tryz.prog 44 3=some 3:=by kernel_rfl
theorem OT:QH Tryz.prog 44 4=some 4:=by kernel_rfl
theorem OS:QH Tryz.prog 44 5=some 5:=by kernel_rfl
theorem Gp:tk Tryz.prog 177=.agg 2:=by kernel_rfl
theorem Mg:YM Tryz.prog 177=some 2:=by kernel_rfl
theorem ZI:zeroOf Tryz.prog 177=some [.int .i64 0,.int .i64 0]:=by kernel_rfl
theorem Jb:tk Tryz.prog 54=.one:=by kernel_rfl
theorem CQ:YM Tryz.prog 54=some 1:=by kernel_rfl
theorem Uu:zeroOf Tryz.prog 54=some [.nils]:=by kernel_rfl
theorem Ja:Tryz.prog.underlying 54=some (.slice 3):=by kernel_rfl
theorem Qo:Ue Tryz.prog 54=some 1:=by kernel_rfl
theorem QJ:Ho Tryz.prog 54 3 1:=⟨Ja,by kernel_rfl,⟨_,XL,rfl⟩,by kernel_rfl,by decide,by decide+kernel⟩
end
section
open Go Go.RowKit
variable {h:Hp} {xs:List AV}

structure EK{K:Type}(h:Hp)(z:Nat)(R:K→List AV→Prop)(l:List K)(kk:AV)(ls:List (List AV)):Prop where
 r:Jj h [] z ls kk
 ln:ls.length=l.length
 at_: ∀(i:Nat) (k:K),l[i]? =some k→ ∃cs,ls[i]? =some cs∧R k cs
theorem jF{K:Type}{z:Nat}{R:K→List AV→Prop}{H:Type}{P:Program}{t e:TypeId}(k0:K)(hu:P.underlying t=some (.slice e))(hz:P.cellsOf e=z)(hR: ∀(cs:List AV) (d:DataW H),Rd P h e cs d→ ∃k,R k cs){d:DataW H}(r:Rd P h t xs d):
  ∃ks l ls,xs=[ks]∧EK h z R l ks ls:=by
 cases r with
 |bool ht=>rw[hu]at ht;cases ht
 |int ht hw=>rw[hu]at ht;cases ht
 |str ht hs=>rw[hu]at ht;cases ht
 |nil ht=>exact⟨_,[],[],rfl,⟨.nil _ _ _,rfl,fun i k hi=>by simp at hi⟩⟩
 |none ht=>exact⟨_,[],[],rfl,⟨⟨rfl,by simp,rfl,fun i cs hi=>by simp at hi,fun _ _ _ _ _ e=>by cases e⟩,rfl,fun i k hi=>by simp at hi⟩⟩
 |row ht hz' hr hl he hm hd=>
  rename_i e' c m len cells elems rest;rw[hu]at ht
  injection ht with ht
  injection ht with ht
  subst ht;subst hz
  have hk: ∀i,∃k,i<len→R k ((cells.drop (i *P.cellsOf e)).take (P.cellsOf e)):=fun i=>by
   by_cases hi:i<len
   ·obtain⟨k,hk⟩:=hR _ _ (hd i elems[i] (List.getElem?_eq_getElem (he▸hi)));exact⟨k,fun _=>hk⟩
   ·exact⟨k0,fun h=>absurd h hi⟩
  obtain⟨f,hf⟩:=Classical.axiomOfChoice hk
  have hmx:(len:Int)≤9223372036854775807:=by
   have h1:(maxLen:Int)≤9223372036854775807:=by decide
   omega
  have hlen:((List.range len).map fun i=>(cells.drop (i *P.cellsOf e)).take (P.cellsOf e)).length=len:=by simp
  have hfit: ∀i,i<len→i *P.cellsOf e+P.cellsOf e≤cells.length:=fun i hi=>by
   have:=Nat.mul_le_mul_right (P.cellsOf e) (show i+1≤len from hi);rw[Nat.succ_mul]at this;omega
  refine⟨_,(List.range len).map f,(List.range len).map fun i=>(cells.drop (i *P.cellsOf e)).take (P.cellsOf e),rfl,⟨⟨by rw[hlen];rfl,by rw[hlen];exact hmx,rfl,fun i cs hi=>?_,fun c' m' off' n' z' e'=>?_⟩,by simp,fun i k hi=>?_⟩⟩
  ·rw[List.getElem?_map]at hi
   have hlt:i<len:=by
    by_cases hi':i<len
    ·exact hi'
    ·rw[List.getElem?_eq_none (by simp;omega)]at hi;cases hi
   rw[List.getElem?_range hlt]at hi
   injection hi with hi
   refine⟨c,m,0,cells,by rw[hlen],by simp,hr,?_,by rw[Nat.zero_add];exact hi⟩;rw[←hi,List.length_take,List.length_drop];have:=hfit i hlt;omega
  ·injection e' with e1 e2 e3 e4 e5
   subst e1 e2 e3 e4 e5;exact⟨by simp,cells,hr,by omega⟩
  ·rw[List.getElem?_map]at hi
   have hlt:i<len:=by
    by_cases hi':i<len
    ·exact hi'
    ·rw[List.getElem?_eq_none (by simp;omega)]at hi;cases hi
   rw[List.getElem?_range hlt]at hi
   injection hi with hi
   refine⟨_,?_,by rw[←hi];exact hf i hlt⟩;rw[List.getElem?_map,List.getElem?_range hlt];rfl
 |agg ht hl hp hd=>rw[hu]at ht;cases ht
def zC(l:List Int):List (List AV):=l.map fun z=>[AV.int .i64 z]
theorem Qq(l:List Int):(zC l).length=l.length:=by simp[zC]
theorem Jm{l:List Int}{i:Nat}{z:Int}(h:l[i]? =some z):(zC l)[i]? =some [AV.int .i64 z]:=by rw[zC,List.getElem?_map,h];rfl
theorem JX(a b:List Int):zC (a++b)=zC a++zC b:=by simp[zC]
theorem FM(l:List Int): ∀cs∈zC l,cs.length=1:=by
 intro cs h;obtain⟨s,_,rfl⟩:=List.mem_map.1 h;rfl
def Xx(l:List Int):Prop:= ∀z∈l,-9223372036854775808≤z∧z≤9223372036854775807
def ay(z:Int)(cs:List AV):Prop:=cs=[.int .i64 z]∧ -9223372036854775808≤z∧z≤9223372036854775807
theorem xu{l:List Int}{kk:AV}{ls:List (List AV)}(H:EK h 1 ay l kk ls):Jj h [] 1 (zC l) kk∧Xx l:=by
 have e:ls=zC l:=by
  apply List.ext_getElem?;intro i
  cases hi:l[i]? with
  |none=>
   have h1:=List.getElem?_eq_none_iff.1 hi;rw[List.getElem?_eq_none (by rw[H.ln];exact h1),List.getElem?_eq_none (by rw[Qq];exact h1)]
  |some z=>
   obtain⟨cs,h1,h2,_⟩:=H.at_ i z hi;rw[h1,Jm hi,h2]
 refine⟨e▸H.r,fun z hz=>?_⟩;obtain⟨i,hi,rfl⟩:=List.mem_iff_getElem.1 hz;obtain⟨cs,_,_,h3⟩:=H.at_ i _ (List.getElem?_eq_getElem hi);exact h3
theorem HE{H:Type}{d:DataW H}(r:Rd Tryz.prog h 3 xs d): ∃z:Int,ay z xs:=by
 cases r with
 |bool ht=>rw[U1]at ht;cases ht
 |int ht hw=>
  rw[U1]at ht
  injection ht with ht
  injection ht with ht
  subst ht;simp only[Lit.wf,Bool.and_eq_true,decide_eq_true_eq]at hw;refine⟨_,rfl,?_⟩
  first
   |exact hw
   |(have h1:IntKind.i64.wrap _=_:=hw;have:=IntWalk.i64_bounds h1;exact this)
   |skip
 |str ht hs=>rw[U1]at ht;cases ht
 |nil ht=>rw[U1]at ht;cases ht
 |none ht=>rw[U1]at ht;cases ht
 |row ht hz' hr hl he hm hd=>rw[U1]at ht;cases ht
 |agg ht hl hp hd=>rw[U1]at ht;cases ht
theorem jG{H:Type}{d:DataW H}(r:Rd Tryz.prog h 54 xs d): ∃ks l,xs=[ks]∧Jj h [] 1 (zC l) ks∧Xx l:=by
 obtain⟨ks,l,ls,e,H⟩:=jF (R:=ay) 0 Ja eZ (fun cs d r=>HE r) r;exact⟨ks,l,e,xu H⟩
theorem Rx:Nk Tryz.prog [54,3]=true:=by kernel_rfl
theorem RR{H:Type}{enc:TypeId×Value→H}{W:World}{ml:Kh}(hM:Xg W ml){v:Value}{d:DataW H}{p:List MemPlace}(h:DataW.Trod enc Tryz.prog W 0 (fun _=>true) true 54 v d p)(hna: ∀cs,v≠ .agg cs):
  ∃ml' ks l,ml<+:ml'∧Xg W ml'∧Jj (Fy ml') [] 1 (zC l) ks∧Xx l∧WF (Fy ml') ks∧Qh (Nn ml') ks=v:=by
 obtain⟨fuel,h⟩:=h;obtain⟨ml',cs,h1,h2,h3,h4,h5,h6⟩:=lift _ Rx fuel 54 _ d p ml Q7 h hM;obtain⟨ks,l,rfl,hr,hi⟩:=jG h6;refine⟨ml',ks,l,h1,h2,hr,hi,?_,?_⟩
 ·first|exact h4.1|exact h4|simpa [WF,Zk]using h4
 ·obtain⟨e1,e2⟩:=FJ h3 h5;obtain⟨a,e,h⟩:=e2 hna
  injection e with e
  rw[e];exact h
end
end Go.Proofs.YtiknomepbklibaaGreatDoor
