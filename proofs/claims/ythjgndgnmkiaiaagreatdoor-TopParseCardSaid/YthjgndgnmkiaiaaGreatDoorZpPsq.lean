/-
  A set as a text: pool.key.
-/
import Derived.Lib.AppendIntMem
import Derived.Lib.ItoaLen
import Derived.Lib.Slices
import Derived.Lib.Hide
import Derived.Laws.IdiomStrings
import Derived.OwnWalk
import Derived.WalkKit
import Derived.BigCall
import Derived.Test.YthjgndgnmkiaiaaGreatDoorZpSortI
set_option linter.unusedVariables false
namespace Go.Proofs.YthjgndgnmkiaiaaGreatDoor
section
open Go Go.Shelf Go.RowKit Go.Sort

theorem infoByte:(Tryz.prog.info? 5).map (fun i=>(i.zero,i.size,i.bytes))=some (some (.int .u8 0),1,1):=by kernel_rfl
def Aj:List Int→List UInt8
 |[]=>[]
 |n::l=>Lib.itoa n++44::Aj l
theorem PW: ∀(a b:List Int),Aj (a++b)=Aj a++Aj b
 |[],b=>rfl
 |n::a,b=>by rw[List.cons_append,Aj,Aj,PW a b,List.append_assoc];rfl
theorem jL{zs:List Int}{k:Nat}{z:Int}(h:zs[k]? =some z):Aj (zs.take (k+1))=Aj (zs.take k)++(Lib.itoa z++[44]):=by
 rw[List.take_add_one,h,PW];rfl
theorem PV: ∀l:List Int,(∀z∈l,-9223372036854775808≤z∧z≤9223372036854775807)→(Aj l).length≤22 *l.length
 |[],_=>by simp[Aj]
 |n::l,h=>by
  have h1:=PV l fun z hz=>h z (List.mem_cons_of_mem _ hz);have h2:=h n (List.mem_cons_self ..);have h3:=Lib.itoa_length_le n h2.1 h2.2;rw[Aj,List.length_append,List.length_cons,List.length_cons];omega
theorem xh: ∀l:List Int,(Aj l).map UInt8.toNat=PU l
 |[]=>rfl
 |n::l=>by rw[Aj,PU,List.map_append,List.map_cons,xh l];rfl

set_option maxHeartbeats 6400000 in
set_option maxRecDepth 100000 in
theorem MI(A:Option Addr)(blk off cap:Nat)(zs:List Int)(w:World)(hz: ∀z∈zs,-9223372036854775808≤z∧z≤9223372036854775807)(hH:Holds (Value.int .i64) w blk off zs.toArray)(hA:0<zs.length→A=some ⟨blk,off,none⟩∧blk<w.heap.size)(hl:zs.length≤1000000)
  (htab:Lib.TabIs Tryz.prog w "internal/strconv.uint64pow10" .u64 Lib.pow10Tab):
  Calls Tryz.prog 290 #[.slice A zs.length cap] w fun e w'=>e=.returned (.string ⟨(Aj zs).toArray⟩)∧Below w.heap.size w w':=by
 obtain⟨i0,hi,hz0,hz1,hz2⟩:=info_parts infoByte;have hT:=Lib.tabBelow_of_tabIs htab;have HH:=Lib.hid hH;clear hH
 go_enter Tryz.func290,Tryz.ntmps290
 go_wp2
 go_loopg [3,8] zs.length (fun q v3 v8 wr=> ∃k:Nat,q=zs.length-k∧k≤zs.length∧v8=.int .i64 k∧wr.ownsRow w.heap.size 5 1 v3 (Aj (zs.take k)).length (Lib.byteCells (Aj (zs.take k)))∧Below w.heap.size w wr)
 case atStart=>exact⟨0,by omega,Nat.zero_le _,rfl,World.ownsRow_nil _ _ _ _,Below.refl _ _⟩
 case round=>
  obtain⟨k,hq,hk,rfl,hown,hb⟩:=hrel
  by_cases hlt:k<zs.length
  ·obtain⟨rfl,hblk⟩:=hA Qk;obtain⟨c1,f1⟩:=HH.out k (by simpa using hlt)
   have c2:wr.cell? ⟨blk,off+k,none⟩=some (.int .i64 (zs[k])):=by
    rw[hb.cell (p:=⟨blk,off+k,none⟩) hblk,c1];simp[getElem!_pos,hlt]
   have hget:zs[k]? =some zs[k]:=List.getElem?_eq_getElem hlt;have hbz:=hz _ (List.getElem_mem hlt);obtain⟨z,hzk⟩: ∃z,z=zs[k]:=⟨_,rfl⟩;rw[←hzk]at c2 hget hbz;have hlz:=Lib.itoa_length_le z hbz.1 hbz.2;have hkl:=PV (zs.take k) fun z hz'=>hz z (List.mem_of_mem_take hz');rw[List.length_take]at hkl;have HG:=Lib.hid hget;have HK:=Lib.hid hzk;clear hget hzk;obtain⟨L,hL⟩: ∃L,L=Aj (zs.take k):=⟨_,rfl⟩;rw[←hL]at hown hkl;have HL:=Lib.hid hL;clear hL
   go_wp2_with (go_at_call 313;refine(Any.strconv_AppendInt_10 xa w.heap.size L.length z hbz.1 hbz.2 _ _ wr hown hb.size Qk (hT.on hb)).mono ?_;rintro e w1 ⟨v1,rfl,hown1,hnx1,-⟩;refine Hid.out ?_)
   refine Lib.hid ?_;have hown1:w1.ownsRow w.heap.size 5 1 v1 (L.length+(Lib.itoa z).length) (Lib.byteCells L++Lib.byteCells (Lib.itoa z)):=hown1;have hs1:=hnx1.size;have hs2:=hb.size
   go_wp2_with (at_builtin;refine wpList_append_own _ rfl _ _ 51 rfl w.heap.size 5 i0 (.int .u8 0) 1 1 Tryz.underlying51 hi hz0 hz1 hz2 rfl Qo _ _ _ rfl (hown1.alloc _) ⟨w1.heap.size,0,none⟩ 1 1 [Value.int .u8 44] rfl rfl ?c1 ?c2 ?c3 ?c4 ?c5 ?_)
   case c1=>exact We _ _ _ _ rfl
   case c2=>intro u hu;simp at hu;subst hu;rfl
   case c3=>unfold maxLen;omega
   case c4=>omega
   case c5=>simp;omega
   intro v2 w2 hown2 hgrow _;have hnx2:Below w.heap.size w w2:=((hb.trans hnx1).alloc (by have:=hnx1.size;have:=hb.size;omega) _).grown hgrow (by have:=hnx1.size;have:=hb.size;simp;omega) (fun k hk=>(hown1.lt k hk).1)
   go_wp2
   go_roundg (zs.length-(k+1))
   case measure=>omega
   case rel=>
    refine⟨k+1,rfl,by omega,rfl,?_,hnx2⟩;rw[jL HG.out,←HL.out]
    have e1:Lib.byteCells (L++(Lib.itoa z++[44]))=Lib.byteCells L++(Lib.byteCells (Lib.itoa z)++[Value.int .u8 44]):=by simp[Lib.byteCells]
    have e2:(L++(Lib.itoa z++[44])).length=L.length+(Lib.itoa z).length+1:=by simp;omega
    rw[e1,e2]
    simpa [List.append_assoc]using hown2
  ·have hkk:zs.take k=zs:=List.take_of_length_le Qk;rw[hkk]at hown;obtain⟨l,hl'⟩: ∃l,l=Aj zs:=⟨_,rfl⟩;rw[←hl']at hown;have HL:=Lib.hid hl';clear hl';rcases hown.2 with⟨rfl,h0⟩|⟨g,cap',cur,rfl,-,-,-,-,-,-⟩
   ·have hcv:(convert 51 9 (.slice none 0 0)).run Tryz.prog wr=.ok (.string ⟨#[]⟩) wr:=by
     rw[run_convert_bytes_string wr 51 9 5 none 0 0 Tryz.underlying51 Tryz.underlying5 Tryz.underlying9];simp[Conv.bytesToString];rfl
    go_wp2
    go_ret
    have h1:=HL.out;have h2:l=[]:=List.length_eq_zero_iff.1 Qk;rw[←h1,h2];exact⟨rfl,hb⟩
   ·have hcv:=run_convert_bytes_back (P:=Tryz.prog) wr 51 9 5 ⟨g,0,none⟩ cap' l Tryz.underlying51 Tryz.underlying5 Tryz.underlying9 (fun j hj=>hown.cells (g:=g) rfl j _ (by simp[Lib.byteCells,hj]))
    go_wp2
    go_ret
    rw[←HL.out];exact⟨rfl,hb⟩
end
section
open Go Go.RowKit Go.Shelf Go.Sort

noncomputable def Rz:Nat→Nat→List Nat→List Nat
 |0,_,acc=>acc
 |f+1,u,acc=>Ql (Nat.ble u 9) ((48+u)::acc) (Rz f (u/10) ((48+u % 10)::acc))
noncomputable def aK:Int→List Nat
 |.ofNat u=>Rz 20 u []
 |.negSucc u=>45::Rz 20 (u+1) []
noncomputable def ef:List Int→List Nat
 |[]=>[]
 |n::l=>aK n++44::ef l
theorem Ry: ∀(f u:Nat) (acc:List Nat),u<10^(f+1)→Rz (f+1) u acc=(Lib.decDigits u).map UInt8.toNat++acc:=by
 intro f
 induction f with
 |zero=>
  intro u acc h
  have h9:u<10:=by simpa using h
  rw[Rz,Lib.decDigits,dif_pos h9,Nat.ble_eq_true_of_le Qk,QN,List.map_singleton,Dq u h9];rfl
 |succ f ih=>
  intro u acc h;rw[Rz,Lib.decDigits]
  by_cases h9:u<10
  ·rw[dif_pos h9,Nat.ble_eq_true_of_le Qk,QN,List.map_singleton,Dq u h9];rfl
  ·have hb:Nat.ble u 9=false:=by
    cases hb:Nat.ble u 9 with
    |false=>rfl
    |true=>have:=Nat.le_of_ble_eq_true hb;omega
   rw[dif_neg h9,hb,QL,ih (u/10) _ (by rw[Nat.pow_succ]at h;omega),List.map_append,List.map_singleton,Dq _ (Nat.mod_lt _ Qo),List.append_assoc];rfl
theorem xm{z:Int}(h1: -9223372036854775808≤z)(h2:z≤9223372036854775807):aK z=xl z:=by
 have hp:(10:Nat)^20=100000000000000000000:=by decide
 cases z with
 |ofNat u=>
  have h2:(u:Int)≤9223372036854775807:=h2;show Rz 20 u []=(Lib.itoa (u:Int)).map UInt8.toNat;rw[Ry 19 u [] (by rw[hp];omega),List.append_nil,Lib.itoa,if_neg Qk];rfl
 |negSucc u=>
  have h1: -9223372036854775808≤Int.negSucc u:=h1;show 45::Rz 20 (u+1) []=(Lib.itoa (Int.negSucc u)).map UInt8.toNat;rw[Ry 19 (u+1) [] (by rw[hp];omega),List.append_nil,Lib.itoa,if_pos Qk];rfl
def ns(z:Int):Bool:=decide (-9223372036854775808≤z)&&decide (z≤9223372036854775807)
theorem xp{z:Int}:ns z=true↔ -9223372036854775808≤z∧z≤9223372036854775807:=by unfold ns;rw[Bool.and_eq_true,decide_eq_true_eq,decide_eq_true_eq]
theorem CW: ∀{l:List Int},l.all ns=true→ef l=PU l
 |[],_=>rfl
 |z::l,h=>by
  rw[List.all_cons,Bool.and_eq_true]at h;have:=xp.1 h.1;rw[ef,PU,xm this.1 this.2,CW h.2]

def VC(w:World):Prop:=Lib.TabIs Tryz.prog w "internal/strconv.uint64pow10" .u64 Lib.pow10Tab
theorem VC.below{w w':World}(h:VC w)(hb:Below w.heap.size w w'):VC w':=Lib.tabBelow_of_tabIs h w' hb

noncomputable def S8:List AV→St→Option (AV×St)
 |[.nils],st=>some (.str [],st)
 |[.sl c m 0 len 1],st=>match st.h.get c with
  |some (.row false ms)=>match ms[m]? with
   |some (e,vs,some l)=>match HA (l.take len)with
    |some zs=>if zs.length=len∧len≤1000000∧zs.all ns=true then some (.str (ef zs),st)else none
    |none=>none
   |_=>none
  |_=>none
 |_,_=>none
theorem BE(zs:List Int):(⟨(Aj zs).toArray⟩:ByteArray)=bytesOf (PU zs):=by
 unfold bytesOf;rw[←xh,List.map_map]
 have:(UInt8.ofNat∘UInt8.toNat)=id:=by funext x;simp
 rw[this,List.map_id]
theorem ee{G:Env}(hI: ∀w0 w,G.i w0→Below w0.heap.size w0 w→VC w):Vh Tryz.prog G 290 S8:=by
 intro args st v st' hs hf ha;have hr:Real Tryz.prog 290:=⟨_,Tryz.func290,rfl,by decide⟩;unfold S8 at hs
 split at hs
 ·injection hs with hs
  injection hs with e1 e2
  subst e1 e2;refine⟨hr,fun w0 p w H hG=>⟨Ab.refl _,?_⟩⟩;have h:=MI none 0 0 0 [] w Q1 (fun j hj=>absurd hj Q1) (fun h=>absurd h Q1) Q1 (hI w0 w hG.2 H.under);refine h.mono fun e w' he=>?_;obtain⟨rfl,hb⟩:=he;exact⟨p,by rw[BE];rfl,H.Zy hb,fun x hx=>by cases hx⟩
 ·rename_i c m len
  split at hs
  ·rename_i ms hc
   split at hs
   ·rename_i e vs l hm
    split at hs
    ·rename_i zs hzs
     split at hs
     ·rename_i hcond;obtain⟨hlen,h1M,hall⟩:=hcond
      injection hs with hs
      injection hs with e1 e2
      subst e1 e2;have hbz: ∀z∈zs,-9223372036854775808≤z∧z≤9223372036854775807:=fun z hz=>xp.1 (List.all_eq_true.1 hall z hz);refine⟨hr,fun w0 p w H hG=>⟨Ab.refl _,?_⟩⟩;have hR:=H.cls c _ hc;obtain⟨q,arr,el,g1,g2,g3,g4,g5,g6⟩:=hR.mem m e vs (some l) hm;obtain⟨k1,k2⟩:=g6 l rfl;have hb:=g2.own;have hblt:=(Array.getElem?_eq_some_iff.1 hb).1;have hzl:l.take len=zs.map u9:=BK hzs
      have hH:Holds (Value.int .i64) w q.b q.d zs.toArray:=by
       intro j hj
       have hj':j<zs.length:=by simpa using hj
       refine⟨?_,by simp[World.frozen?,hb]⟩
       have ha1:l[j]? =some (u9 zs[j]):=by
        have h:=congrArg (fun x=>x[j]?) hzl;simp only[List.getElem?_map,List.getElem?_eq_getElem hj']at h;rw[List.getElem?_take_of_lt Qk]at h;exact h
       obtain⟨j1,_,_⟩:=k2 j _ ha1;simp only[World.cell?,hb];simp only[Option.isSome_none,Bool.false_eq_true,if_false];rw[j1];simp[hj',u9,Qe]
      have hargs:(Qn p [AV.sl c m 0 len 1]).toArray= #[.slice (some ⟨q.b,q.d,none⟩) zs.length q.e]:=by
       show #[Qe p (AV.sl c m 0 len 1)]=_;simp only[Qe,g1];rw[hlen];simp
      rw[hargs];refine(MI (some ⟨q.b,q.d,none⟩) q.b q.d q.e zs w hbz hH (fun _=>⟨rfl,hblt⟩) Qk (hI w0 w hG.2 H.under)).mono fun e' w' he=>?_;obtain⟨rfl,hb'⟩:=he;refine⟨p,?_,H.Zy hb',?_⟩
      ·rw[BE,←CW hall];rfl
      ·rw[CW hall];exact O3 zs
     ·cases hs
    ·cases hs
   ·cases hs
  ·cases hs
 ·cases hs
noncomputable section
def Ba:List (FuncId×(List AV→St→Option (AV×St))):=
 (290,S8)::
 (262,Ni vi Dy id)::
 []
def Xm:Env:=⟨fun _=>false,LG LQ,WO Ba,VC⟩
end
theorem FH:WT Tryz.prog Xm:=⟨fun f q h=>EF (f,q) (Wb h),fun f sm h=>by
 have h:WO Ba f=some sm:=h;have h:=FF h;unfold Ba at h;rcases List.mem_cons.1 h with h|h
 ·injection h with e1 e2;subst e1 e2;exact ee fun w0 w h hb=>VC.below h hb
 rcases List.mem_cons.1 h with h|h
 ·injection h with e1 e2;subst e1 e2;exact Dx
 cases h⟩
end
end Go.Proofs.YthjgndgnmkiaiaaGreatDoor
