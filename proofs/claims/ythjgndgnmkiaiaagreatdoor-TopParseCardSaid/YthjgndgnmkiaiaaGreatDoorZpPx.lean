/-
  show.Prog: the walk.
-/
import Derived.Test.YthjgndgnmkiaiaaGreatDoorZpPw
namespace Go.Proofs.YthjgndgnmkiaiaaGreatDoor
open Go Go.RowKit Go.Shelf
set_option linter.unusedVariables false
set_option maxRecDepth 100000
variable {w:World}
attribute [local go_sem] ZM YL

def Ll(g:Pg):Prop:=Vd g=true∧YT g.main≤1000∧(∀p∈g.preds,YT p.body≤1000)∧g.decls.length≤10∧g.preds.length≤5
theorem iA{base:Nat}{v:Value}{xs:List (List Nat)}(h:w.ownsRow base 9 1 v xs.length (xs.map fun x=>Value.string (bytesOf x)))(hxl:xs.length≤1000)(hl:(Ze [44,32] xs).length≤100000000):Calls Tryz.prog 18 #[v,.string ⟨#[44,32]⟩] w fun e w'=>e=.returned (.string (bytesOf (Ze [44,32] xs)))∧Below w.heap.size w w':=by
 obtain⟨A,cap,rfl,h1,h2,h3⟩:=KQ h
 cases hxs:xs with
 |nil=>
  refine(Any.strings_Join_none IU EE A cap ⟨#[44,32]⟩ w).mono fun e w' he=>?_;obtain⟨rfl,rfl⟩:=he;exact⟨rfl,Below.refl _ _⟩
 |cons x0 xr=>
  rw[←hxs];obtain⟨b,rfl,_,hb,hc⟩:=h3 (by rw[hxs];simp)
  have hjo:Lib.join ((xs.map bytesOf).map (·.data.toList)) (bytesOf [44,32]).data.toList=u8 (Ze [44,32] xs):=by
   rw[←CY,List.map_map]
   congr 1
  have h4:=Any.strings_Join IU EE b 0 cap (xs.map bytesOf) (bytesOf [44,32]) w (fun j x hj=>by
   rw[Nat.zero_add];rw[List.getElem?_map]at hj
   cases hxj:xs[j]? with
   |none=>rw[hxj]at hj;cases hj
   |some y=>
    rw[hxj]at hj
    injection hj with hj
    subst hj;have:=(List.getElem?_eq_some_iff.1 hxj).1
    rw[hc j Qk,List.getElem?_map,hxj];rfl) hb (by rw[List.length_map];omega) (by rw[List.length_map];exact h1) (by rw[hjo];unfold u8;rw[List.length_map];omega)
  rw[List.length_map]at h4;refine h4.mono fun e w' he=>?_;obtain⟨rfl,hb'⟩:=he;exact⟨by rw[hjo];rfl,hb'⟩
theorem ei(w:World):uF (w.alloc (.cells #[.pointer none,.slice none 0 0] 53)) w.heap.size []:=
 Lib.IsBuilderF.of (.inl ⟨Nat.le_refl _,_,heap_alloc_new w _,World.ownsRow_nil _ _ _ _,by simp[Value.ownBlock]⟩)
theorem jt{base:Nat}{v:Value}{ds:List Dc}(h:w.ownsRow base 9 1 v ds.length (ds.map fun d=>Value.string (bytesOf (QQ (Jc d))))):w.drew.ownsRow base 9 1 v (ds.map fun d=>QQ (Jc d)).length ((ds.map fun d=>QQ (Jc d)).map fun x=>Value.string (bytesOf x)):=by
 rw[List.length_map,List.map_map];exact h.drew
theorem ek:(Tryz.prog.info? 9).map (fun i=>(i.zero,i.size,i.bytes))=some (some (.string ⟨#[]⟩),1,16):=by kernel_rfl
set_option maxHeartbeats 4000000 in
theorem jo{g:Pg}{KD KP:Value}{o s:ByteArray}{n a:Int}{kk:Value}{rows:List (List Value)}(hg:Ll g)
  (hD:aj w KD 3 (g.decls.map kv)) (hDd: ∀d∈g.decls,Ch w d) (hP:aj w KP 8 rows) (hPl:rows.length=g.preds.length) (hPp: ∀(i:Nat) p,g.preds[i]? =some p→ ∃vs,rows[i]? =some vs∧vI w p vs) (hPd: ∀p∈g.preds,∀d∈p.params,Ch w d)
  (hM:qv w g.main #[.string o,.string s,.int .i64 n,.int .i64 a,kk]):
  Calls Tryz.prog 7 #[.agg #[KD,KP,.string o,.string s,.int .i64 n,.int .i64 a,kk]] w fun e w'=>e=.returned (.string (bytesOf (QQ (Xk g))))∧Below w.heap.size w w':=by
 obtain⟨hB,hz,hzp,hdl,hpl⟩:=hg;obtain⟨i0,hi,hz0,hz1,hz2⟩:=info_parts ek;obtain⟨AD,cD,rfl,hDc⟩:=hD;obtain⟨AP,cP,rfl,hPc⟩:=hP;rw[hPl]at hPc ⊢;rw[List.length_map]at hDc ⊢;have HB:=Lib.hid hB;have HZ:=Lib.hid hz;have HZP:=Lib.hid hzp;have HDC:=Lib.hid hDc;have HPC:=Lib.hid hPc;have HPP:=Lib.hid hPp;have HPD:=Lib.hid hPd;have HDD:=Lib.hid hDd;have HM:=Lib.hid hM
 have hLD: ∀k,(QQ (JU (g.decls.take k))).length≤20120:=fun k=>by
  have hBd:g.decls.all Ya=true:=by unfold Vd at hB;simp only[Bool.and_eq_true]at hB;exact hB.1
  have h:=Ib (g.decls.take k) (List.all_eq_true.2 fun d hd=>List.all_eq_true.1 hBd d (List.mem_of_mem_take hd));have h2:(g.decls.take k).length≤10:=Nat.le_trans (List.length_take_le' _ _) hdl;omega
 have hLP: ∀k,(QQ (JP (g.preds.take k))).length≤10300000:=fun k=>by
  have hBp:g.preds.all XN=true:=by unfold Vd at hB;simp only[Bool.and_eq_true]at hB;exact hB.2.1
  have h:=Hw (g.preds.take k) (List.all_eq_true.2 fun d hd=>List.all_eq_true.1 hBp d (List.mem_of_mem_take hd)) fun p hp=>hzp p (List.mem_of_mem_take hp);have h2:(g.preds.take k).length≤5:=Nat.le_trans (List.length_take_le' _ _) hpl;omega
 have HDL:Hid (∀d∈g.decls,(bytesOf (QQ (Jc d))).size≤2010):=Lib.hid fun d hd=>by
  have hBd:g.decls.all Ya=true:=by unfold Vd at hB;simp only[Bool.and_eq_true]at hB;exact hB.1
  rw[JD];exact FI (List.all_eq_true.1 hBd d hd)
 have HPL:Hid (∀p∈g.preds,p.params.length≤6∧(bytesOf p.name).size≤2000∧(bytesOf (QQ (Q8 p.body))).size≤2040000∧(Ze [44,32] (p.params.map fun d=>QQ (Jc d))).length≤12072∧ ∀d∈p.params,(bytesOf (QQ (Jc d))).size≤2010):=Lib.hid fun p hp=>by
  have hBp:g.preds.all XN=true:=by unfold Vd at hB;simp only[Bool.and_eq_true]at hB;exact hB.2.1
  obtain⟨h1,h2,h3,h4⟩:=ID (List.all_eq_true.1 hBp p hp);have k2:=L7 h3 h2;rw[←IW [44,32] _ rfl,List.map_map]at k2;refine⟨h2,by rw[JD];exact Zp h1,by rw[JD];exact UJ h4 (hzp p hp),k2,fun d hd=>?_⟩;rw[JD];exact FI (List.all_eq_true.1 h3 d hd)
 have HML:Hid ((bytesOf (QQ (Q8 g.main))).size≤2040000):=Lib.hid (by
  rw[JD];unfold Vd at hB;simp only[Bool.and_eq_true]at hB
  exact UJ hB.2.2.2 hz)
 have HLD:=Lib.hid hLD;have HLP:=Lib.hid hLP;clear hB hz hzp hDc hPc hPp hPd hDd hM hPl hLD hLP
 go_enter Tryz.func7,Tryz.ntmps7
 go_wp2_with fail
 have hW0: ∀x:Obj,(w.alloc x).heap.size=w.heap.size+1:=fun x=>by simp
 obtain⟨bx,hbx⟩: ∃bx,bx=Obj.cells #[.slice AD g.decls.length cD,.slice AP g.preds.length cP,.string o,.string s,.int .i64 n,.int .i64 a,kk] 28:=⟨_,rfl⟩
 go_loopg [14] g.decls.length (fun m iv wr=> ∃k,m=g.decls.length-k∧k≤g.decls.length∧iv=.int .i64 k∧Hid (uF wr (w.heap.size+1) (QQ (JU (g.decls.take k))))∧Hid (Below (w.heap.size+1) (w.alloc bx) wr))
 case atStart=>
  subst hbx;have h:=ei (w.alloc (Obj.cells #[.slice AD g.decls.length cD,.slice AP g.preds.length cP,.string o,.string s,.int .i64 n,.int .i64 a,kk] 28));rw[hW0]at h;exact⟨0,rfl,Nat.zero_le _,rfl,Lib.hid h,Lib.hid ((Below.refl _ _).alloc (by rw[hW0];exact Nat.le_refl _) _)⟩
 case round=>
  obtain⟨k,rfl,hk,rfl,HI,HW⟩:=hrel;have hw1:Below w.heap.size w wr:=((Below.refl w.heap.size w).alloc (Nat.le_refl _) bx).trans (HW.out.mono Qk)
  have hsz:w.heap.size+1≤wr.heap.size:=by have:=HW.out.size;rwa [hW0]at this
  by_cases hn:k<g.decls.length
  ·obtain⟨d,hd⟩: ∃d,g.decls[k]? =some d:=⟨_,List.getElem?_eq_getElem hn⟩;have hdm:=List.mem_of_getElem? hd;obtain⟨b,ob,rfl,hb,hc⟩:=HDC.out Qk;have hc1:=hc k (kv d) (by rw[List.getElem?_map,hd];rfl);have c0:wr.cell? ⟨b,ob+k *3,none⟩=_:=(hw1.cell (p:=⟨b,ob+k *3+0,none⟩) hb).trans (hc1 0 _ rfl);have c1:=(hw1.cell (p:=⟨b,ob+k *3+1,none⟩) hb).trans (hc1 1 _ rfl);have c2:=(hw1.cell (p:=⟨b,ob+k *3+2,none⟩) hb).trans (hc1 2 _ rfl);have HW1:=Lib.hid hw1;have HD1:=Lib.hid hd;have hds:=HDL.out d hdm;clear hc hc1 hw1 hd
   go_wp2_with fail
   refine(HDD.out d hdm _ (HW1.out.alloc HW1.out.size _)).mono ?_
   rintro e w2 ⟨rfl,hb2⟩
   have hI2:=(HI.out.kept ((Below.refl _ _).alloc (Nat.le_refl _) _)).kept hb2;have hW2:Below (w.heap.size+1) (w.alloc bx) w2:=(HW.out.alloc hsz _).trans (hb2.mono (by simp;omega))
   have hsz2:w.heap.size+1≤w2.heap.size:=by have:=hW2.size;rwa [hW0]at this
   have HI2:=Lib.hid hI2;have HW2:=Lib.hid hW2;clear hI2 hW2 hb2
   go_wp2_with fail
   rw[show bytesOf (QQ (Jc d))++⟨#[59,10]⟩=bytesOf (QQ (Jc d)++[59,10])from ZO _ [59,10]];refine(Ma HI2.out (by rw[←List.length_append,←Gb HD1.out];have:=HLD.out (k+1);omega) hsz2).mono ?_
   rintro e w3 ⟨rfl,hI3,hb3,_⟩
   rw[←Gb HD1.out]at hI3;have HI3:=Lib.hid hI3;have HW3:=Lib.hid (HW2.out.trans hb3);clear hI3 hb3
   go_wp2
   go_roundg (g.decls.length-(k+1))
   case measure=>omega
   case rel=>exact⟨k+1,rfl,hn,by go_num,HI3,HW3⟩
  ·have hke:k=g.decls.length:=by omega
   subst hke;rw[List.take_length]at HI;have hbk:wr.heap[w.heap.size]? =some bx:=(HW.out.block w.heap.size (Nat.lt_succ_self _)).trans (heap_alloc_new w _);rw[hbx]at hbk;have c1:wr.cell? ⟨w.heap.size,1,none⟩=some (.slice AP g.preds.length cP):=cell_of_row wr w.heap.size 1 _ _ _ hbk;clear hw1 hbk
   go_wp2_with fail
   go_loopg [26] g.preds.length (fun m iv wr=> ∃k,m=g.preds.length-k∧k≤g.preds.length∧iv=.int .i64 k∧Hid (uF wr (w.heap.size+1) (QQ (JU g.decls)++QQ (JP (g.preds.take k))))∧Hid (Below (w.heap.size+1) (w.alloc bx) wr))
   case atStart=>exact⟨0,rfl,Nat.zero_le _,rfl,by rw[List.take_zero,JP];exact Lib.hid (by rw[show QQ []=[]from rfl,List.append_nil];exact HI.out),HW⟩
   case round=>
    clear HI HW c1 hsz;obtain⟨k,rfl,hk,rfl,HI,HW⟩:=hrel;have hw1:Below w.heap.size w wr:=((Below.refl w.heap.size w).alloc (Nat.le_refl _) bx).trans (HW.out.mono Qk)
    have hsz:w.heap.size+1≤wr.heap.size:=by have:=HW.out.size;rwa [hW0]at this
    by_cases hn:k<g.preds.length
    ·obtain⟨p,hp⟩: ∃p,g.preds[k]? =some p:=⟨_,List.getElem?_eq_getElem hn⟩;have hpm:=List.mem_of_getElem? hp;obtain⟨vs,hvs,kp,po,ps,pn,pa,pA,pl,pc,rfl,⟨AR,cR,rfl,hRc⟩,hF⟩:=HPP.out k p hp;rw[List.length_map]at hRc;obtain⟨b,ob,rfl,hb,hc⟩:=HPC.out Qk;have hc1:=hc k _ hvs;have c0:wr.cell? ⟨b,ob+k *8,none⟩=_:=(hw1.cell (p:=⟨b,ob+k *8+0,none⟩) hb).trans (hc1 0 _ rfl);have c1:=(hw1.cell (p:=⟨b,ob+k *8+1,none⟩) hb).trans (hc1 1 _ rfl);have c2:=(hw1.cell (p:=⟨b,ob+k *8+2,none⟩) hb).trans (hc1 2 _ rfl);have c3:=(hw1.cell (p:=⟨b,ob+k *8+3,none⟩) hb).trans (hc1 3 _ rfl);have c4:=(hw1.cell (p:=⟨b,ob+k *8+4,none⟩) hb).trans (hc1 4 _ rfl);have c5:=(hw1.cell (p:=⟨b,ob+k *8+5,none⟩) hb).trans (hc1 5 _ rfl);have c6:=(hw1.cell (p:=⟨b,ob+k *8+6,none⟩) hb).trans (hc1 6 _ rfl);have c7:=(hw1.cell (p:=⟨b,ob+k *8+7,none⟩) hb).trans (hc1 7 _ rfl);have HRC:=Lib.hid hRc;have HF:=Lib.hid hF;obtain⟨hp6,hpn,hpf,hpj,hpd⟩:=HPL.out p hpm;have HPJ:=Lib.hid hpj;have HPDL:=Lib.hid hpd;clear hpj hpd;have HP1:=Lib.hid hp;have HW1:=Lib.hid hw1;rw[List.length_map]at c1;clear hc hc1 hw1 hvs hRc hF hp
     go_wp2_with fail
     obtain⟨wo,rfl⟩: ∃wo,wo=wr:=⟨_,rfl⟩
     have hV0: ∀x:Obj,(wo.alloc x).heap.size=wo.heap.size+1:=fun x=>by simp
     obtain⟨bp,hbp⟩: ∃bp,bp=Obj.cells #[.string (bytesOf p.name),.slice AR p.params.length cR,.string po,.string ps,.int .i64 pn,.int .i64 pa,.slice pA pl pc,.int .i64 p.at_] 31:=⟨_,rfl⟩
     go_loopg [8,33] p.params.length (fun m lv iv wr=> ∃j,m=p.params.length-j∧j≤p.params.length∧iv=.int .i64 j∧Hid (wr.ownsRow (wo.heap.size+1) 9 1 lv j ((p.params.take j).map fun d=>Value.string (bytesOf (QQ (Jc d)))))∧Hid (Below (wo.heap.size+1) (wo.alloc bp) wr))
     case atStart=>
      subst hbp;exact⟨0,rfl,Nat.zero_le _,rfl,Lib.hid (World.ownsRow_nil _ _ _ _),Lib.hid (Below.refl _ _)⟩
     case round=>
      clear c0 c1 c2 c3 c4 c5 c6 c7;obtain⟨j,rfl,hj,rfl,HO,HX⟩:=hrel;have hx1:Below w.heap.size w wr:=(HW1.out.trans (((Below.refl wo.heap.size wo).alloc (Nat.le_refl _) bp).mono HW1.out.size)).trans (HX.out.mono (Nat.le_succ_of_le HW1.out.size))
      have hxs:wo.heap.size+1≤wr.heap.size:=by have:=HX.out.size;rwa [hV0]at this
      by_cases hnj:j<p.params.length
      ·obtain⟨d,hd⟩: ∃d,p.params[j]? =some d:=⟨_,List.getElem?_eq_getElem hnj⟩;have hdm:=List.mem_of_getElem? hd;obtain⟨rb,ro,rfl,hrb,hrc⟩:=HRC.out Qk;have hrc1:=hrc j (kv d) (by rw[List.getElem?_map,hd];rfl);have c0:wr.cell? ⟨rb,ro+j *3,none⟩=_:=(hx1.cell (p:=⟨rb,ro+j *3+0,none⟩) hrb).trans (hrc1 0 _ rfl);have c1:=(hx1.cell (p:=⟨rb,ro+j *3+1,none⟩) hrb).trans (hrc1 1 _ rfl);have c2:=(hx1.cell (p:=⟨rb,ro+j *3+2,none⟩) hrb).trans (hrc1 2 _ rfl);have HX1:=Lib.hid hx1;have HD1:=Lib.hid hd;have hds:=HPDL.out d hdm;clear hrc hrc1 hx1 hd
       go_wp2_with fail
       refine(HPD.out p hpm d hdm _ (HX1.out.alloc HX1.out.size _)).mono ?_
       rintro e w2 ⟨rfl,hb2⟩
       have hO2:=XO (XO HO.out ((Below.refl _ _).alloc (Nat.le_refl _) _)) hb2;have hX2:Below (wo.heap.size+1) (wo.alloc bp) w2:=(HX.out.alloc hxs _).trans (hb2.mono (by simp;omega))
       have hs2:wo.heap.size+1≤w2.heap.size:=by have:=hX2.size;rwa [hV0]at this
       have hownT:=hO2.alloc (.cells #[.string (bytesOf (QQ (Jc d)))] 9);have HX2:=Lib.hid hX2;clear hO2 hX2 hb2
       go_wp2_with (at_builtin;refine wpList_append_own _ rfl _ _ 61 rfl (wo.heap.size+1) 9 i0 _ 1 16 Tryz.underlying61 hi hz0 hz1 hz2 rfl Qo _ _ _ rfl hownT ⟨w2.heap.size,0,none⟩ 1 1 [.string (bytesOf (QQ (Jc d)))] rfl rfl ?c1 ?c2 ?c3 ?c4 ?c5 ?_)
       case c1=>exact We _ _ _ _ rfl
       case c2=>intro u hu;simp at hu;subst hu;rfl
       case c3=>unfold maxLen;omega
       case c4=>omega
       case c5=>simp;omega
       intro v' w5 hown5 hgrow5 _;have hX5:=Li (HX2.out.alloc hs2 _) hownT hgrow5 (Nat.le_refl _) (by simp;omega)
       have hO5:w5.ownsRow (wo.heap.size+1) 9 1 v' (j+1) ((p.params.take (j+1)).map fun d=>Value.string (bytesOf (QQ (Jc d)))):=by
        rw[List.map_take,List.take_add_one,List.getElem?_map,HD1.out];exact hown5
       have HO5:=Lib.hid hO5;have HX5:=Lib.hid hX5;clear hown5 hgrow5 hownT hX5 hO5
       go_wp2
       go_roundg (p.params.length-(j+1))
       case measure=>omega
       case rel=>exact⟨j+1,rfl,hnj,by go_num,HO5,HX5⟩
      ·have hje:j=p.params.length:=by omega
       subst hje;rw[List.take_length]at HO;have hbk:wr.heap[wo.heap.size]? =some bp:=(HX.out.block wo.heap.size (Nat.lt_succ_self _)).trans (heap_alloc_new wo _);rw[hbp]at hbk
       have hlt:wo.heap.size<wr.heap.size:=by omega
       have hOJ:=jt HO.out;have hIr:uF wr.drew (w.heap.size+1) (QQ (JU g.decls)++QQ (JP (g.preds.take k))):=((HI.out.kept ((Below.refl _ _).alloc (Nat.le_refl _) bp)).kept (by rw[hV0];exact HX.out)).kept (Below.refl _ _).drew;have hWr:Below (w.heap.size+1) (w.alloc bx) wr.drew:=((HW.out.trans (((Below.refl wo.heap.size wo).alloc (Nat.le_refl _) bp).mono hsz)).trans (HX.out.mono Qk)).drew;have hxd:Below w.heap.size w wr.drew:=hx1.drew
       have hjz:(bytesOf (Ze [44,32] (p.params.map fun d=>QQ (Jc d)))).size≤12072:=by rw[JD];exact HPJ.out
       have heT:(⟨#[112,114,101,100,32]⟩:ByteArray)++bytesOf p.name++⟨#[40]⟩++bytesOf (Ze [44,32] (p.params.map fun d=>QQ (Jc d)))++⟨#[41,32,61,32]⟩++bytesOf (QQ (Q8 p.body))++⟨#[59,10]⟩=bytesOf (IE p):=by
        unfold IE;simp only[←ZO];rfl
       have hbd:(QQ (JU g.decls)++QQ (JP (g.preds.take k))).length+(IE p).length≤100000000:=by
        have h1:=HLP.out (k+1);have h2:=HLD.out g.decls.length;rw[Oa HP1.out,List.length_append]at h1;rw[List.take_length]at h2;rw[List.length_append];omega
       have c0:=cell_of_row wr wo.heap.size 0 _ _ _ hbk;have c2:=cell_of_row wr wo.heap.size 2 _ _ _ hbk;have c3:=cell_of_row wr wo.heap.size 3 _ _ _ hbk;have c4:=cell_of_row wr wo.heap.size 4 _ _ _ hbk;have c5:=cell_of_row wr wo.heap.size 5 _ _ _ hbk;have c6:=cell_of_row wr wo.heap.size 6 _ _ _ hbk
       have s1: ¬9223372036854775807<5+(bytesOf p.name).size:=by omega
       have s2: ¬9223372036854775807<5+(bytesOf p.name).size+1:=by omega
       have s3: ¬9223372036854775807<5+(bytesOf p.name).size+1+(bytesOf (Ze [44,32] (p.params.map fun d=>QQ (Jc d)))).size:=by omega
       have s4: ¬9223372036854775807<5+(bytesOf p.name).size+1+(bytesOf (Ze [44,32] (p.params.map fun d=>QQ (Jc d)))).size+4:=by omega
       have s5: ¬9223372036854775807<5+(bytesOf p.name).size+1+(bytesOf (Ze [44,32] (p.params.map fun d=>QQ (Jc d)))).size+4+(bytesOf (QQ (Q8 p.body))).size:=by omega
       have s6: ¬9223372036854775807<5+(bytesOf p.name).size+1+(bytesOf (Ze [44,32] (p.params.map fun d=>QQ (Jc d)))).size+4+(bytesOf (QQ (Q8 p.body))).size+2:=by omega
       have hBlt:w.heap.size+1<wo.heap.size:=HI.out.elim (fun h=>h.lt) (fun h=>h.lt)
       have hsd:w.heap.size+1≤wr.drew.heap.size:=by show w.heap.size+1≤wr.heap.size;omega
       have HOJ:=Lib.hid hOJ;have HIR:=Lib.hid hIr;have HWR:=Lib.hid hWr;have HXD:=Lib.hid hxd;have HET:=Lib.hid heT;have HBD:=Lib.hid hbd;have HBK:=Lib.hid hbk;clear hOJ hIr hWr hxd heT hbd hbk hx1
       go_wp2_with fail
       go_region_held3 (fun w'=>w'.cell? ⟨wo.heap.size,0,none⟩=some (.string (bytesOf p.name))∧w'.cell? ⟨wo.heap.size,2,none⟩=some (.string po)∧w'.cell? ⟨wo.heap.size,3,none⟩=some (.string ps)∧w'.cell? ⟨wo.heap.size,4,none⟩=some (.int .i64 pn)∧w'.cell? ⟨wo.heap.size,5,none⟩=some (.int .i64 pa)∧w'.cell? ⟨wo.heap.size,6,none⟩=some (.slice pA pl pc))
        (first|exact⟨c0,c2,c3,c4,c5,c6⟩|exact k2|exact k3|exact k4)
        (first
         |(go_at_call 18;refine(iA HOJ.out (by rw[List.length_map];omega) (by have:=HPJ.out;omega)).mono ?_;rintro e w2 ⟨rfl,hb2⟩;have k2:=And.intro ((hb2.cell (p:=⟨wo.heap.size,0,none⟩) hlt).trans c0) (And.intro ((hb2.cell (p:=⟨wo.heap.size,2,none⟩) hlt).trans c2) (And.intro ((hb2.cell (p:=⟨wo.heap.size,3,none⟩) hlt).trans c3) (And.intro ((hb2.cell (p:=⟨wo.heap.size,4,none⟩) hlt).trans c4) (And.intro ((hb2.cell (p:=⟨wo.heap.size,5,none⟩) hlt).trans c5) ((hb2.cell (p:=⟨wo.heap.size,6,none⟩) hlt).trans c6))))))
         |(go_at_call 19;refine(HF.out w2 (HXD.out.trans (hb2.mono HXD.out.size))).mono ?_;rintro e w3 ⟨rfl,hb3⟩;have k3:=And.intro ((hb3.cell (p:=⟨wo.heap.size,0,none⟩) (Nat.lt_of_lt_of_le hlt hb2.size)).trans k2.1) (And.intro ((hb3.cell (p:=⟨wo.heap.size,2,none⟩) (Nat.lt_of_lt_of_le hlt hb2.size)).trans k2.2.1) (And.intro ((hb3.cell (p:=⟨wo.heap.size,3,none⟩) (Nat.lt_of_lt_of_le hlt hb2.size)).trans k2.2.2.1) (And.intro ((hb3.cell (p:=⟨wo.heap.size,4,none⟩) (Nat.lt_of_lt_of_le hlt hb2.size)).trans k2.2.2.2.1) (And.intro ((hb3.cell (p:=⟨wo.heap.size,5,none⟩) (Nat.lt_of_lt_of_le hlt hb2.size)).trans k2.2.2.2.2.1) ((hb3.cell (p:=⟨wo.heap.size,6,none⟩) (Nat.lt_of_lt_of_le hlt hb2.size)).trans k2.2.2.2.2.2))))))
         |(go_at_call 16;rw[HET.out];refine(Ma ((HIR.out.kept hb2).kept hb3) HBD.out (Nat.le_trans hsd (Nat.le_trans hb2.size hb3.size))).mono ?_;rintro e w4 ⟨rfl,hI4,hb4,ho4⟩;have hbk4:=ho4 _ _ ((hb3.block _ (Nat.lt_of_lt_of_le hlt hb2.size)).trans ((hb2.block _ hlt).trans HBK.out)) (fun e=>by injection e with e;omega) (fun c fz e=>by injection e with _ e;cases e);have k4:=And.intro (cell_of_row w4 wo.heap.size 0 _ _ _ hbk4) (And.intro (cell_of_row w4 wo.heap.size 2 _ _ _ hbk4) (And.intro (cell_of_row w4 wo.heap.size 3 _ _ _ hbk4) (And.intro (cell_of_row w4 wo.heap.size 4 _ _ _ hbk4) (And.intro (cell_of_row w4 wo.heap.size 5 _ _ _ hbk4) (cell_of_row w4 wo.heap.size 6 _ _ _ hbk4)))))))
       rw[List.append_assoc,←Oa HP1.out]at hI4;have HI4:=Lib.hid hI4;have HW4:=Lib.hid (((HWR.out.trans (hb2.mono hsd)).trans (hb3.mono (Nat.le_trans hsd hb2.size))).trans hb4);clear hI4 hb2 hb3 hb4 ho4 hbk4 k2 k3 k4
       go_wp2
       go_roundg (g.preds.length-(k+1))
       case measure=>omega
       case rel=>exact⟨k+1,rfl,hn,by go_num,HI4,HW4⟩
    ·have hke:k=g.preds.length:=by omega
     subst hke;rw[List.take_length]at HI;have hbk:wr.heap[w.heap.size]? =some bx:=(HW.out.block w.heap.size (Nat.lt_succ_self _)).trans (heap_alloc_new w _);rw[hbx]at hbk;have c2:=cell_of_row wr w.heap.size 2 _ _ _ hbk;have c3:=cell_of_row wr w.heap.size 3 _ _ _ hbk;have c4:=cell_of_row wr w.heap.size 4 _ _ _ hbk;have c5:=cell_of_row wr w.heap.size 5 _ _ _ hbk;have c6:=cell_of_row wr w.heap.size 6 _ _ _ hbk;have hId:uF wr.drew (w.heap.size+1) (QQ (JU g.decls)++QQ (JP g.preds)):=HI.out.kept (Below.refl _ _).drew
     have hlt:w.heap.size<wr.heap.size:=by omega
     have hms:=HML.out
     have hz1:(bytesOf (QQ (JU g.decls)++QQ (JP g.preds))).size≤100000000:=by
      have h1:=HLP.out g.preds.length;have h2:=HLD.out g.decls.length;rw[List.take_length]at h1 h2;rw[JD,List.length_append];omega
     have s1: ¬9223372036854775807<(bytesOf (QQ (JU g.decls)++QQ (JP g.preds))).size+(bytesOf (QQ (Q8 g.main))).size:=by omega
     have s2: ¬9223372036854775807<(bytesOf (QQ (JU g.decls)++QQ (JP g.preds))).size+(bytesOf (QQ (Q8 g.main))).size+2:=by omega
     have HID:=Lib.hid hId;have HW1:=Lib.hid hw1;clear hId hw1 hbk HI
     go_wp2_with fail
     go_region_held3 (fun w'=>w'.cell? ⟨w.heap.size,2,none⟩=some (.string o)∧w'.cell? ⟨w.heap.size,3,none⟩=some (.string s)∧w'.cell? ⟨w.heap.size,4,none⟩=some (.int .i64 n)∧w'.cell? ⟨w.heap.size,5,none⟩=some (.int .i64 a)∧w'.cell? ⟨w.heap.size,6,none⟩=some kk)
      (first|exact⟨c2,c3,c4,c5,c6⟩|exact k2|exact k3)
      (first
       |(go_at_call 20;refine(yl HID.out hsz).mono ?_;rintro e w2 ⟨rfl,hb2⟩;have k2:=And.intro ((hb2.cell (p:=⟨w.heap.size,2,none⟩) (Nat.lt_succ_self _)).trans c2) (And.intro ((hb2.cell (p:=⟨w.heap.size,3,none⟩) (Nat.lt_succ_self _)).trans c3) (And.intro ((hb2.cell (p:=⟨w.heap.size,4,none⟩) (Nat.lt_succ_self _)).trans c4) (And.intro ((hb2.cell (p:=⟨w.heap.size,5,none⟩) (Nat.lt_succ_self _)).trans c5) ((hb2.cell (p:=⟨w.heap.size,6,none⟩) (Nat.lt_succ_self _)).trans c6)))))
       |(go_at_call 19;refine(HM.out w2 (HW1.out.drew.trans (hb2.mono (Nat.le_succ _)))).mono ?_;rintro e w3 ⟨rfl,hb3⟩;have hlt3:=Nat.lt_of_lt_of_le hlt hb2.size;have k3:=And.intro ((hb3.cell (p:=⟨w.heap.size,2,none⟩) hlt3).trans k2.1) (And.intro ((hb3.cell (p:=⟨w.heap.size,3,none⟩) hlt3).trans k2.2.1) (And.intro ((hb3.cell (p:=⟨w.heap.size,4,none⟩) hlt3).trans k2.2.2.1) (And.intro ((hb3.cell (p:=⟨w.heap.size,5,none⟩) hlt3).trans k2.2.2.2.1) ((hb3.cell (p:=⟨w.heap.size,6,none⟩) hlt3).trans k2.2.2.2.2))))))
     go_wp2
     go_ret
     refine⟨?_,(HW1.out.drew.trans (hb2.mono (Nat.le_succ _))).trans (hb3.mono (Nat.le_trans (Nat.le_of_lt hlt) hb2.size))⟩;show Ending.returned (.string (bytesOf (QQ (JU g.decls)++QQ (JP g.preds))++bytesOf (QQ (Q8 g.main))++bytesOf [59,10]))=_;rw[Bu,ZO,ZO]
end Go.Proofs.YthjgndgnmkiaiaaGreatDoor
