/-
  The reader of 'sibylref2': 'Tokens', 'IsName'; the program's 'isName'.
-/
import Derived.Test.YtaomhhkflohhgaaGreatDoorMgTokEq
set_option maxHeartbeats 8000000
set_option maxRecDepth 100000
set_option linter.unusedSimpArgs false
set_option linter.unusedVariables false
namespace Go.Proofs.YtaomhhkflohhgaaGreatDoor
section
open Go Go.RowKit
variable {p:Nat} {st:St}

theorem zH(hf:Qw st)(l:List Nat)(hl:l.length≤2000): ∃v st',Ev Tryz.prog QR 39 [.str l] st v st'∧ ∃ks,v=.tup [ks,.int .i64 (JB (each (bytesOf l)).2)]∧OE st st' 2 ks ((each (bytesOf l)).1.map XZ)∧Qt st st':=by
 have hlen:=EW (bytesOf l) (bytesOf l).size 0;have hlen:(each (bytesOf l)).1.length≤(bytesOf l).size:=hlen;rw[Jm]at hlen
 obtain⟨ks,st',h1,h2,h3⟩:=Bd (P:=Tryz.prog) (G:=QR) (f:=39) (F:=CU) (z:=2) (ls:=(each (bytesOf l)).1.map XZ) (rest:=[.int .i64 (JB (each (bytesOf l)).2)]) rfl hf (args:=[.str l]) (fun cs hc=>by
  obtain⟨x,_,rfl⟩:=List.mem_map.1 hc;rfl) (by simp;omega) (by
  unfold CU;simp only[Nat.ble_eq_true_of_le (show l.length≤100000 by omega),QV,List.length_map]
  rfl)
 exact⟨_,st',h1,ks,rfl,h2,h3⟩
theorem Tl(hf:Qw st)(l:List Nat)(hb:(tokens (bytesOf l)).1.length≤1000000): ∃v st',Ev Tryz.prog QR 71 [.str l] st v st'∧ ∃ks,v=.tup [ks,.int .i64 (tokens (bytesOf l)).2.1,.int .i64 (tokens (bytesOf l)).2.2]∧OE st st' 4 ks ((tokens (bytesOf l)).1.map Yk.cells)∧Qt st st':=by
 obtain⟨ks,st',h1,h2,h3⟩:=Bd (P:=Tryz.prog) (G:=QR) (f:=71) (F:=IJ) (z:=4) (ls:=(tokens (bytesOf l)).1.map Yk.cells) (rest:=[.int .i64 (tokens (bytesOf l)).2.1,.int .i64 (tokens (bytesOf l)).2.2]) rfl hf (args:=[.str l]) (fun cs hc=>by
  obtain⟨x,_,rfl⟩:=List.mem_map.1 hc;rfl) (by simpa using hb) (by
  unfold IJ;simp only[List.length_map]
  rfl)
 exact⟨_,st',h1,ks,rfl,h2,h3⟩
theorem jT(s:ByteArray)(fin:Nat): ∀(f:Nat) (r:List (Nat×Nat)) (l:List Yk),(WL s fin f r).1=some l→l.length≤r.length:=by
 intro f
 induction f with
 |zero=>intro r l h;injection h with h;subst h;simp
 |succ f ih=>
  intro r l h
  cases r with
  |nil=>injection h with h;subst h;simp
  |cons x r=>
   rw[WL]at h
   split at h
   ·rename_i hok;have hp:=Ni s fin (x::r) hok;simp only at h
    cases hx:(WL s fin f (((x::r).drop (V8 s fin (x::r)).len).drop (QY false ((x::r).drop (V8 s fin (x::r)).len)))).1 with
    |none=>rw[hx]at h;cases h
    |some l'=>
     rw[hx]at h
     injection h with h
     subst h;have:=ih _ _ hx;simp only[List.length_drop,List.length_cons]at this ⊢;omega
   ·cases h
theorem Nh(s:ByteArray):(tokens s).1.length≤2001:=by
 unfold tokens
 split
 ·simp
 ·rename_i hs;have hlen:=EW s s.size 0;have hlen:(each s).1.length≤s.size:=hlen
  split
  ·simp
  ·rename_i l x h
   split
   ·simp
   ·have:=jT _ _ _ _ l (by rw[h]);simp only[List.length_drop,List.length_append,List.length_cons,List.length_nil]at this ⊢;omega
theorem PM(l:List Nat)(bad:Option Nat)(L:List (Nat×Nat))(n:Nat): ∃k t m p,(EJ l bad L n).1=[.int .i64 k,.str t,.int .i64 m,.int .i64 p]:=by
 unfold EJ
 split
 ·exact⟨_,_,_,_,rfl⟩
 ·split
  ·exact⟨_,_,_,_,rfl⟩
  ·obtain⟨a,b,c,h⟩:=Lq l bad L n;exact⟨a,b,0,c,h⟩
theorem OD.new{g:Nat}{l:List Nat}{ks:AV}(hl:l.length≤2000)(hr:Jj st.h.get g 0 [.str l,ks,.int .i64 (JB (each (bytesOf l)).2),.int .i64 ((0:Nat):Int)])(hk:QS st.h.get [g] 2 ((each (bytesOf l)).1.map XZ) ks):OD st.h.get g l ks (each (bytesOf l)).1 (each (bytesOf l)).2 0:=by
 have hlen:=EW (bytesOf l) (bytesOf l).size 0;have hlen:(each (bytesOf l)).1.length≤(bytesOf l).size:=hlen;rw[Jm]at hlen;refine⟨hr,hk,by omega,Nat.zero_le _,by omega,fun i j hij=>?_⟩;have:=Zj (bytesOf l) i j hij;rw[Jm]at this;exact this
theorem Acc.apart{h0:Hp}{n0 n1 z:Nat}{X:List Nat}{L A B:List (Nat×Nat×List AV)}{ks:AV}{ls:List (List AV)}(hM:Mem h0 n0 X st (L++(A++B)))(hA:Acc n1 z A ks ls){k c m:Nat}{l:List AV}(hk:L[k]? =some (c,m,l)):QS st.h.get [c] z ls ks:=by
 have r:=hM.LJ hA
 cases hA with
 |none=>exact .nil _ _ _
 |own hc hz hb=>
  rename_i c' m';refine QS.own (hM.row c' m' _ Q3) hz ?_ Qh;simp only[List.mem_singleton];intro e;subst e;have hn:=hM.nodup;rw[List.map_append,List.nodup_append]at hn;exact hn.2.2 c' (List.mem_map.2 ⟨_,List.mem_of_getElem? hk,rfl⟩) c' Q3 rfl
theorem uV(x:Option (List Yk)×Nat):comb [] x=x:=by
 obtain⟨y1,y2⟩:=x
 cases y1<;>simp[comb]
theorem C9{s:ByteArray}(h:2000<s.size):tokens s=([],0,3):=by rw[tokens,if_pos h]
theorem RZ{s:ByteArray}(h: ¬2000<s.size)(hx:WL s (Je s (each s).2) ((each s).1.length+1) ((each s).1.drop (QY false (each s).1))=(none,p)):tokens s=([],p,2):=by
 rw[tokens,if_neg h,hx]
theorem RX{s:ByteArray}{a:List Yk}{q:Nat}(h: ¬2000<s.size)(hx:WL s (Je s (each s).2) ((each s).1.length+1) ((each s).1.drop (QY false (each s).1))=(some a,p))(hq:(each s).2=some q):tokens s=([],q,2):=by
 rw[tokens,if_neg h,hx];simp only[hq]
theorem RY{s:ByteArray}{a:List Yk}(h: ¬2000<s.size)(hx:WL s (Je s (each s).2) ((each s).1.length+1) ((each s).1.drop (QY false (each s).1))=(some a,p))(hq:(each s).2=none):tokens s=(a++[A3 s],s.size,0):=by
 rw[tokens,if_neg h,hx];simp only[hq]

theorem PL(hf:Qw st)(l:List Nat)(hB:Bytes l): ∃v st',Ev Tryz.prog QR 18 [.str l] st v st'∧ ∃ks,v=.tup [ks,iZ (tokens (bytesOf l)).2.1,iZ (tokens (bytesOf l)).2.2]∧OE st st' 4 ks ((tokens (bytesOf l)).1.map Yk.cells)∧Qt st st':=by
 have hEl:(each (bytesOf l)).1.length≤l.length:=by
  have h:=EW (bytesOf l) (bytesOf l).size 0;have h:(each (bytesOf l)).1.length≤(bytesOf l).size:=h;rw[Jm]at h;exact h
 have hmp:((each (bytesOf l)).1.map XZ).length=(each (bytesOf l)).1.length:=by simp
 refine Yu Tryz.func18 Tryz.ntmps18 fun T K=>?_;have M:=Mem.start hf;refine Qc 4 K M fun _ K=>?_;refine p1 K (Vz Up rfl rfl) fun _ K=>?_;refine Qc 1 K M fun _ K=>?_;refine JU K rfl (fun h12=>?_) fun h12=>?_
 · replace h12:=of_decide_eq_true h12;refine Qc 3 K M fun _ K=>?_;refine Jv ⟨.inr rfl,_,(Ua (QF K rfl) (QF K rfl) (QF K rfl)),?_⟩;rw[C9 (by rw[Jm];omega)];exact⟨.nils,rfl,⟨[],.none,fun _ _ _ h=>by cases h⟩,M.qt⟩
 · replace h12:=of_decide_eq_false h12;refine au 7 K M ?_;intro c15 _ _ K _ M;obtain⟨v20,st20,ev20,ks20,rfl,nr20,q20⟩:=zH M.fresh l Qh;refine p1 K (Qe rfl ev20) fun _ K=>?_;obtain⟨A20,hA20,M⟩:=M.Wp q20 nr20;refine Qc 5 K M fun _ K=>?_;refine Ws (k:=0) K M rfl rfl rfl Hs (hA20.cell) rfl fun _ M=>?_;refine au 5 K M ?_;intro _ _ K _ M;obtain⟨v28,st28,ev28,rfl,q28,r28⟩:=CY M.fresh (OD.new Qh (M.Qn (k:=0) rfl) (Acc.apart (L:=[(c15,0,[.str l,ks20,iZ (JB (each (bytesOf l)).2),iZ 0])]) (B:=[]) M hA20 (k:=0) rfl));refine p1 K (Qe rfl ev28) fun _ K=>?_;have hrow28:=r28.row;have hle28:=r28.le;replace M:=M.J8 (k:=0) rfl q28 hrow28;refine Qc 0 K M fun _ K=>?_;refine JQ (fun mm1 T st9=> ∃(k f:Nat) (acc:List Yk) (ks:AV) (A:List (Nat×Nat×List AV)),mm1=(each (bytesOf l)).1.length-k∧Jr [(0,.str l),(5,.ptr c15 0 0),(6,ks)] T∧Mem st.h.get st.n [] st9 ((c15,0,[.str l,ks20,iZ (JB (each (bytesOf l)).2),iN k])::(A20++(A++[])))∧Acc st.n 4 A ks (acc.map Yk.cells)∧k≤(each (bytesOf l)).1.length∧acc.length≤k∧comb acc (WL (bytesOf l) (Je (bytesOf l) (each (bytesOf l)).2) f ((each (bytesOf l)).1.drop k))=WL (bytesOf l) (Je (bytesOf l) (each (bytesOf l)).2) ((each (bytesOf l)).1.length+1) ((each (bytesOf l)).1.drop (QY false (each (bytesOf l)).1))∧(each (bytesOf l)).1.length<k+f) (fun mm1 T st9 hI=>?_) _ _ _ ⟨0+QY false ((each (bytesOf l)).1.drop 0),(each (bytesOf l)).1.length+1,[],.nils,[],rfl,(K.sub rfl),M.less (.refl _),.none,r28.le,(Nat.zero_le _),(by rw[uV,Nat.zero_add,List.drop_zero]),Qh⟩;obtain⟨k,f,acc,ks,A,rfl,K,M,hA,hk,hacc,hinv,hf⟩:=hI;refine UR<|UR ?_;refine Ja (l:=[(0,0),(1,0),(2,0),(3,0),(4,0),(5,0),(6,0),(7,0),(8,0),(9,0)]) (by kernel_rfl) ?_;refine Ui 8 K M fun _ K=>?_;refine q1 rfl K (Jg YD rfl rfl hA20.len) fun _ K=>q1 rfl K (Rf rfl rfl) fun _ K=>Ji ?_;show W _ _ _ _ _ _ _;refine JU K rfl (fun h38=>?_) fun h38=>?_
   ·replace h38:=of_decide_eq_true h38;refine Qc 1 K M fun _ K=>?_;refine oQ K M (Sl M.fresh (r28.next (M.Qn (k:=0) rfl) (Acc.apart (L:=[(c15,0,[.str l,ks20,iZ (JB (each (bytesOf l)).2),iN k])]) (B:=(A++[])) M hA20 (k:=0) rfl) Qh) Qh) rfl rfl fun _ _ K M=>?_;refine Qc 2 K M fun _ K=>?_;obtain⟨tk,tt,tm,tp,hsc⟩:=PM l (each (bytesOf l)).2 (each (bytesOf l)).1 k;obtain⟨v45,st45,ev45,rfl,q45,r45⟩:=hsc▸T8 M.fresh (r28.next (M.Qn (k:=0) rfl) (Acc.apart (L:=[(c15,0,[.str l,ks20,iZ (JB (each (bytesOf l)).2),iN k])]) (B:=(A++[])) M hA20 (k:=0) rfl) Qh) Qh;refine p1 K (Qe rfl ev45) fun _ K=>?_;have hrow45:=r45.row;have hle45:=r45.le;replace M:=M.J8 (k:=0) rfl q45 hrow45;refine au 8 K M ?_;intro c8 _ _ K _ M;refine JU K rfl (fun h49=>?_) fun h49=>?_
    ·replace h49:((EJ l (each (bytesOf l)).2 (each (bytesOf l)).1 k).2.1)=false:=by simpa using h49
     refine Qc 4 K M fun _ K=>?_;refine Jv ⟨.inr rfl,_,(Ua (QF K rfl) (QF K rfl) (QF K rfl)),?_⟩;obtain⟨f,rfl⟩: ∃f',f=f'+1:=⟨f-1,by omega⟩;obtain⟨te1,te2⟩:=qp hB (n:=k) Qh;rw[h49]at te1;rw[DV _ _ _ _ _ (by rw[List.length_drop];omega) te1.symm]at hinv;rw[RZ (by rw[Jm];omega) hinv.symm,Zi,Nat.add_zero];exact⟨.nils,rfl,⟨[],.none,fun _ _ _ h=>by cases h⟩,M.qt⟩
    ·replace h49:((EJ l (each (bytesOf l)).2 (each (bytesOf l)).1 k).2.1)=true:=by simpa using h49
     refine au 3 K M ?_;intro c53 _ _ K _ M;refine ZW (k2:=0) (L:=((c53,0,[iZ tk,.str tt,iZ tm,iZ tp])::(c8,0,[iZ tk,.str tt,iZ tm,iZ tp])::(c15,0,[.str l,ks20,iZ (JB (each (bytesOf l)).2),iZ (k+(EJ l (each (bytesOf l)).2 (each (bytesOf l)).1 k).2.2:Nat)])::(A20++[]))) (B:=[]) K (Mem.cast M (by simp only[List.append_assoc,List.cons_append,List.nil_append,List.append_nil];rfl)) hA W7 rfl rfl rfl rfl (by simp only[List.length_map];omega) rfl fun ks54 A54 _ _ K hA54 M=>?_;replace M:=Mem.cast (M':=((c53,0,[iZ tk,.str tt,iZ tm,iZ tp])::(c8,0,[iZ tk,.str tt,iZ tm,iZ tp])::(c15,0,[.str l,ks20,iZ (JB (each (bytesOf l)).2),iZ (k+(EJ l (each (bytesOf l)).2 (each (bytesOf l)).1 k).2.2:Nat)])::(A20++(A54++[])))) M (by simp only[List.append_assoc,List.cons_append,List.nil_append,List.append_nil]);refine Qc 2 K M fun _ K=>?_;obtain⟨v40,st40,ev40,rfl,q40,r40⟩:=CY M.fresh (r28.next (M.Qn (k:=2) rfl) (Acc.apart (L:=[(c53,0,[iZ tk,.str tt,iZ tm,iZ tp]),(c8,0,[iZ tk,.str tt,iZ tm,iZ tp]),(c15,0,[.str l,ks20,iZ (JB (each (bytesOf l)).2),iZ (k+(EJ l (each (bytesOf l)).2 (each (bytesOf l)).1 k).2.2:Nat)])]) (B:=(A54++[])) M hA20 (k:=2) rfl) Qh);refine p1 K (Qe rfl ev40) fun _ K=>?_;have hrow40:=r40.row;have hle40:=r40.le;replace M:=M.J8 (k:=2) rfl q40 hrow40;refine Y5 ?_;obtain⟨f,rfl⟩: ∃f',f=f'+1:=⟨f-1,by omega⟩;obtain⟨te1,te2⟩:=qp hB (n:=k) Qh;rw[h49]at te1;replace te2:=te2 te1.symm;have tp1:=Ni _ _ _ te1.symm;have hr40:=r40.le;rw[SQ _ _ _ _ _ (by rw[List.length_drop];omega) te1.symm]at hinv;simp only[List.drop_drop]at hinv;rw[←te2.2]at hinv;exact⟨_,Qh,_,f,acc++[V8 (bytesOf l) (Je (bytesOf l) (each (bytesOf l)).2) ((each (bytesOf l)).1.drop k)],ks54,A54,rfl,(K.sub rfl),M.less (.cons _ (.cons _ (.refl _))),(by rw[List.map_append,List.map_singleton,←te2.1,hsc];exact hA54),hr40,(by simp;omega),(by simpa only[Nat.add_comm,Nat.add_left_comm,Nat.add_assoc]using hinv),Qh⟩
   ·replace h38:=of_decide_eq_false h38;refine Jx ?_;show W _ _ _ _ _ _ _;refine Qc 5 K M fun _ K=>?_;refine JU K rfl (fun h59=>?_) fun h59=>?_
    ·replace h59:=of_decide_eq_true h59;refine UR ?_;refine Ja (l:=[(0,0),(1,0),(2,0),(3,0),(4,0),(5,0),(6,0)]) (by kernel_rfl) ?_;refine Ui 7 K M fun _ K=>?_;refine Ji ?_;show W _ _ _ _ _ _ _;refine Jv ⟨.inr rfl,_,(Ua (QF K rfl) (QF K rfl) (QF K rfl)),?_⟩;rw[show(each (bytesOf l)).1.drop k=[]from List.drop_eq_nil_of_le Qh,Ou]at hinv;obtain⟨q,hq⟩:=Kx h59;rw[RX (by rw[Jm];omega) hinv.symm hq,hq];exact⟨.nils,rfl,⟨[],.none,fun _ _ _ h=>by cases h⟩,M.qt⟩
    ·replace h59:=of_decide_eq_false h59;refine Qc 2 K M fun _ K=>?_;refine p1 K (Vz Up rfl rfl) fun _ K=>?_;refine au 2 K M ?_;intro c68 _ _ K _ M;refine ZW (k2:=0) (L:=((c68,0,[iZ 4,.str [],iZ 0,iZ ((l).length:Nat)])::(c15,0,[.str l,ks20,iZ (JB (each (bytesOf l)).2),iN k])::(A20++[]))) (B:=[]) K (Mem.cast M (by simp only[List.append_assoc,List.cons_append,List.nil_append,List.append_nil])) hA W7 rfl rfl rfl rfl (by simp only[List.length_map];omega) rfl fun ks69 A69 _ _ K hA69 M=>?_;replace M:=Mem.cast (M':=((c68,0,[iZ 4,.str [],iZ 0,iZ ((l).length:Nat)])::(c15,0,[.str l,ks20,iZ (JB (each (bytesOf l)).2),iN k])::(A20++(A69++[])))) M (by simp only[List.append_assoc,List.cons_append,List.nil_append,List.append_nil]);refine Qc 1 K M fun _ K=>?_;refine p1 K (Vz Up rfl rfl) fun _ K=>?_;refine Qc 3 K M fun _ K=>?_;refine Jv ⟨.inr rfl,_,(Ua (QF K rfl) (QF K rfl) (QF K rfl)),?_⟩;rw[show(each (bytesOf l)).1.drop k=[]from List.drop_eq_nil_of_le Qh,Ou]at hinv;rw[RY (by rw[Jm];omega) hinv.symm (Ky h59),Jm];refine⟨_,rfl,?_,M.qt⟩;rw[List.map_append]
     have hE:[A3 (bytesOf l)].map Yk.cells=[[iZ 4,.str [],iZ 0,iZ (l.length:Int)]]:=by simp[A3,Yk.cells,Jm,YP]
     rw[hE];exact Mem.jI (L:=((c68,0,[iZ 4,.str [],iZ 0,iZ ((l).length:Nat)])::(c15,0,[.str l,ks20,iZ (JB (each (bytesOf l)).2),iN k])::(A20++[]))) (B:=[]) (Mem.cast M (by simp only[List.append_assoc,List.cons_append,List.nil_append,List.append_nil])) hA69
end
section
open Go Go.RowKit

def Vb(l:List Nat):Bool:=decide ((tokens (bytesOf l)).2.2=0)&&(decide ((((tokens (bytesOf l)).1.length:Nat):Int)=2)&&(match(tokens (bytesOf l)).1[0]? with
 |some t=>decide (t.kind=1)&&decide (YP t.text=l)
 |none=>false))

theorem Wy{st:St}(hf:Qw st)(l:List Nat): ∃v st',Ev Tryz.prog QR 53 [.str l] st v st'∧v=.bool (Vb l)∧Qt st st':=by
 have htl:=Nh (bytesOf l)
 have hml:((tokens (bytesOf l)).1.map Yk.cells).length=(tokens (bytesOf l)).1.length:=by simp
 refine Yu Tryz.func53 Tryz.ntmps53 fun T K=>?_;have M:=Mem.start hf;refine Qc 2 K M fun _ K=>?_;obtain⟨v8,st8,ev8,ks8,rfl,nr8,q8⟩:=Tl M.fresh l Qh;refine p1 K (Qe rfl ev8) fun _ K=>?_;obtain⟨A8,hA8,M⟩:=M.Wp q8 nr8;refine Qc 9 K M fun _ K=>?_;refine oB K (Q9 rfl) rfl fun b14 _ e14 K=>?_;cases b14
 ·replace e14:=of_decide_eq_false e14;refine Qc 20 K M ?_;refine⟨?_,M.qt⟩
  simp_all [Vb,Qp]
 ·replace e14:=of_decide_eq_true e14;refine Qc 1 K M fun _ K=>?_;refine pg K rfl rfl (Jg W2 rfl rfl hA8.len) fun _ K=>?_;refine Qc 2 K M fun _ K=>?_;refine oB K (Q9 rfl) rfl fun b19 _ e19 K=>?_;cases b19
  ·replace e19:=of_decide_eq_false e19;refine Qc 15 K M ?_;refine⟨?_,M.qt⟩
   simp_all [Vb,Qp]
  ·replace e19:=of_decide_eq_true e19;refine Qc 1 K M fun _ K=>?_;obtain⟨t21,ht21⟩: ∃t,(tokens (bytesOf l)).1[0]? =some t:=⟨_,List.getElem?_eq_getElem Qh⟩;obtain⟨x21,m21,f21,q21,_,la21,lo21,lp21⟩:=(Mem.LJ (L:=[]) (B:=[]) M hA8).load (i:=0) (cs:=_) (by rw[List.getElem?_map,ht21];rfl);refine pg K rfl rfl (Q5 (j:=0) ZS (congrArg some q21) rfl (by rw[List.length_map];omega)) fun _ K=>?_;refine Qc 1 K M fun _ K=>?_;refine pg K rfl rfl (QW rfl (lo21 _ 0 _ QH rfl)) fun _ K=>?_;refine Qc 2 K M fun _ K=>?_;refine oB K (Q9 rfl) rfl fun b26 _ e26 K=>?_;cases b26
   ·replace e26:=of_decide_eq_false e26;refine Qc 8 K M ?_;refine⟨?_,M.qt⟩
    simp_all [Vb,Qp]
   ·replace e26:=of_decide_eq_true e26;refine Qc 1 K M fun _ K=>?_;obtain⟨t28,ht28⟩: ∃t,(tokens (bytesOf l)).1[0]? =some t:=⟨_,List.getElem?_eq_getElem Qh⟩;obtain⟨x28,m28,f28,q28,_,la28,lo28,lp28⟩:=(Mem.LJ (L:=[]) (B:=[]) M hA8).load (i:=0) (cs:=_) (by rw[List.getElem?_map,ht28];rfl);refine pg K rfl rfl (Q5 (j:=0) ZS (congrArg some q28) rfl (by rw[List.length_map];omega)) fun _ K=>?_;refine Qc 1 K M fun _ K=>?_;refine pg K rfl rfl (QW rfl (lo28 _ 1 _ J0 rfl)) fun _ K=>?_;refine Qc 4 K M ?_;refine⟨?_,M.qt⟩
    simp_all [Vb,Qp]
end
section
open Go Go.RowKit
variable {i:Nat} {k:Nd} {kids:List Nd}

structure Ed(h:Hp)(kids:List Nd)(kk:AV)(ls:List (List AV)):Prop where
 r:QS h [] 5 ls kk
 ln:ls.length=kids.length
 at_: ∀(i:Nat) (k:Nd),kids[i]? =some k→ ∃cs,ls[i]? =some cs∧XE h k cs
theorem Ed.len{h:Hp}{kids:List Nd}{kk:AV}{ls:List (List AV)}(H:Ed h kids kk ls):XI kk=some kids.length:=by rw[←H.ln];exact H.r.len
theorem Ed.cell{h:Hp}{kids:List Nd}{kk:AV}{ls:List (List AV)}(H:Ed h kids kk ls):Jl kk=true:=H.r.cell
theorem Ed.YZ{h:Hp}{kids:List Nd}{kk:AV}{ls:List (List AV)}(H:Ed h kids kk ls):(kids.length:Int)≤9223372036854775807:=by rw[←H.ln];exact H.r.YZ
theorem XE.Jn{h:Hp}{op name:List Nat}{n at_:Int}{cs:List AV}(r:XE h (.mk op name n at_ kids) cs):
  ∃kk ls,cs=[.str op,.str name,.int .i64 n,.int .i64 at_,kk]∧Ed h kids kk ls∧Bytes op∧Bytes name:=by
 cases r with
 |leaf hs ha hb=>
  rename_i ks;refine⟨ks,[],rfl,⟨⟨hs,by simp,Vq hs,fun i cs hi=>by simp at hi,fun c m off n z e=>by subst e;cases ha⟩,rfl,fun i k hi=>by simp at hi⟩,hb⟩
 |node hr hn hl hk hb=>
  rename_i c m off cells
  have hlen:((List.range kids.length).map fun i=>(cells.drop (off+i *5)).take 5).length=kids.length:=by simp
  have hat: ∀(i:Nat) (cs:List AV),((List.range kids.length).map fun i=>(cells.drop (off+i *5)).take 5)[i]? =some cs→i<kids.length∧cs=(cells.drop (off+i *5)).take 5:=by
   intro i cs hi;rw[List.getElem?_map]at hi
   have hlt:i<kids.length:=by
    by_cases h:i<kids.length
    ·exact h
    ·rw[List.getElem?_eq_none (by simp;omega)]at hi;cases hi
   rw[List.getElem?_range hlt]at hi
   injection hi with hi
   exact⟨hlt,hi.symm⟩
  refine⟨_,(List.range kids.length).map fun i=>(cells.drop (off+i *5)).take 5,rfl,⟨⟨by rw[hlen];rfl,by rw[hlen];exact hn,rfl,fun i cs hi=>?_,fun c' m' off' n' z e=>?_⟩,hlen,fun i k hi=>?_⟩,hb⟩
  ·obtain⟨h1,rfl⟩:=hat i cs hi;refine⟨c,m,off,cells,by rw[hlen],by simp,hr,?_,rfl⟩;rw[List.length_take,List.length_drop];omega
  ·injection e with e1 e2 e3 e4 e5
   subst e1 e2 e3 e4 e5;exact⟨by simp,cells,hr,hl⟩
  ·have hlt:=(List.getElem?_eq_some_iff.1 hi).1;refine⟨_,?_,hk i k hi⟩;rw[List.getElem?_map,List.getElem?_range hlt];rfl
theorem XE.qt{st st':St}(hf:Qw st)(q:Qt st st'){cs:List AV}(r:XE st.h.get k cs):XE st'.h.get k cs:=r.mono (q.rows hf)
def Nd.op:Nd→List Nat
 |.mk op _ _ _ _=>op
theorem U7(h:kids[i]? =some k):k∈kids:=List.mem_of_getElem? h

mutual
def MC:Nd→Nat
 |.mk _ _ _ _ kids=>zJ kids+1
def zJ:List Nd→Nat
 |[]=>0
 |a::l=>max (MC a) (zJ l)
end
theorem IG(k:Nd):1≤Uj k:=by cases k;rw[Uj];omega
theorem zI(k:Nd):1≤MC k:=by cases k;rw[MC];omega
theorem CI(h:kids[i]? =some k):FN (kids.drop i)=Uj k+FN (kids.drop (i+1)):=by
 obtain⟨h1,h2⟩:=List.getElem?_eq_some_iff.1 h;rw[List.drop_eq_getElem_cons h1,FN,h2]
theorem uO(h:kids[i]? =some k):zJ (kids.drop i)=max (MC k) (zJ (kids.drop (i+1))):=by
 obtain⟨h1,h2⟩:=List.getElem?_eq_some_iff.1 h;rw[List.drop_eq_getElem_cons h1,zJ,h2]
theorem UM{α:Type}{l:List α}(h:l.length≤i):l.drop i=[]:=List.drop_eq_nil_of_le h

def Vk:List Nat:=[118,97,114]
def ZK:List Nat:=[110,117,109]
def US:List Nat:=[112,108,117,115]
def X7:List Nat:=[115,101,116]
def JR(op:List Nat):Bool:=decide (op=[117,110,105,111,110])||(decide (op=[105,110,116,101,114])||decide (op=[109,105,110,117,115]))
def J4(name:List Nat)(n:Int)(kids:List Nd)(m:Int):Bool:=decide (name=[])&&(decide (n=0)&&decide (((kids.length:Nat):Int)=m))
def QO(x:Nd):Bool:=match x with
 |.mk op name n _ kids=>
  if op=Vk then Vb name&&(decide (n=0)&&decide (((kids.length:Nat):Int)=0))
  else if op=ZK then decide (name=[])&&(decide (0≤n)&&(decide (n≤99)&&decide (((kids.length:Nat):Int)=0)))
  else if op=US then decide (name=[])&&(decide (1≤n)&&(decide (n≤99)&&(decide (((kids.length:Nat):Int)=1)&&kids.attach.all fun k=>decide (k.1.op=Vk)&&QO k.1)))
  else if op=X7 then decide (name=[])&&(decide (n=0)&&(decide (((kids.length:Nat):Int)≤6)&&kids.attach.all fun k=>QO k.1&&(!JR k.1.op&& !decide (k.1.op=X7))))
  else if JR op then J4 name n kids 2&&((kids.attach.all fun k=>QO k.1)&&(match kids[1]? with|some k=> !JR k.op|none=>true))
  else false
termination_by Uj x
decreasing_by
 all_goals
  simp_wf
  have:=Z4 k.2;rw[Uj];omega
theorem Vv{α:Type}(l:List α)(p:α→Bool):(l.attach.all fun x=>p x.1)=l.all p:=by
 rw[List.all_eq,List.all_eq];simp
def Y3(k:Nd):Bool:=QO k&&(!JR k.op&& !decide (k.op=X7))
theorem J6(op name:List Nat)(n at_:Int)(kids:List Nd):QO (.mk op name n at_ kids)=
  if op=Vk then Vb name&&(decide (n=0)&&decide (((kids.length:Nat):Int)=0))
  else if op=ZK then decide (name=[])&&(decide (0≤n)&&(decide (n≤99)&&decide (((kids.length:Nat):Int)=0)))
  else if op=US then decide (name=[])&&(decide (1≤n)&&(decide (n≤99)&&(decide (((kids.length:Nat):Int)=1)&&kids.all fun k=>decide (k.op=Vk)&&QO k)))
  else if op=X7 then decide (name=[])&&(decide (n=0)&&(decide (((kids.length:Nat):Int)≤6)&&kids.all Y3))
  else if JR op then J4 name n kids 2&&((kids.all QO)&&(match kids[1]? with|some k=> !JR k.op|none=>true))
  else false:=by
 rw[QO];rw[Vv kids fun k=>decide (k.op=Vk)&&QO k,Vv kids fun k=>QO k&&(!JR k.op&& !decide (k.op=X7)),Vv kids QO];rfl
def oneOf(op:List Nat)(l:List (List Nat)):Bool:=l.any fun x=>decide (op=x)
def Jw(x:Nd):Bool:=match x with
 |.mk op name n _ kids=>
  if oneOf op [[116,114,117,101],[102,97,108,115,101]]then J4 name n kids 0
  else if op=[110,111,116]then J4 name n kids 1&&kids.attach.all fun k=>Jw k.1
  else if oneOf op [[97,110,100],[111,114],[105,109,112],[105,102,102]]then J4 name n kids 2&&kids.attach.all fun k=>Jw k.1
  else if oneOf op [[101,120],[97,108,108]]then Vb name&&(decide (0≤n)&&(decide (n<3)&&(decide (((kids.length:Nat):Int)=1)&&kids.attach.all fun k=>Jw k.1)))
  else if op=[105,115]then Vb name&&(decide (n=0)&&decide (((kids.length:Nat):Int)=0))
  else if oneOf op [[101,113],[110,101],[108,116],[108,101],[105,110],[110,111,116,105,110],[115,117,98]]then J4 name n kids 2&&kids.all QO
  else if op=[99,97,108,108]then Vb name&&(decide (n=0)&&(decide (((kids.length:Nat):Int)≤6)&&kids.all QO))
  else false
termination_by Uj x
decreasing_by
 all_goals
  simp_wf
  have:=Z4 k.2;rw[Uj];omega
theorem J7(op name:List Nat)(n at_:Int)(kids:List Nd):Jw (.mk op name n at_ kids)=
  if oneOf op [[116,114,117,101],[102,97,108,115,101]]then J4 name n kids 0
  else if op=[110,111,116]then J4 name n kids 1&&kids.all Jw
  else if oneOf op [[97,110,100],[111,114],[105,109,112],[105,102,102]]then J4 name n kids 2&&kids.all Jw
  else if oneOf op [[101,120],[97,108,108]]then Vb name&&(decide (0≤n)&&(decide (n<3)&&(decide (((kids.length:Nat):Int)=1)&&kids.all Jw)))
  else if op=[105,115]then Vb name&&(decide (n=0)&&decide (((kids.length:Nat):Int)=0))
  else if oneOf op [[101,113],[110,101],[108,116],[108,101],[105,110],[110,111,116,105,110],[115,117,98]]then J4 name n kids 2&&kids.all QO
  else if op=[99,97,108,108]then Vb name&&(decide (n=0)&&(decide (((kids.length:Nat):Int)≤6)&&kids.all QO))
  else false:=by
 rw[Jw];rw[Vv kids Jw]
end
section
open Go Go.RowKit

theorem yO (x : Nd) : ∀ (most : Int) (st : St) (cs : List AV), Qw st → XE st.h.get x cs → 1 ≤ most → most ≤ 1000000 → ∃ v st', Ev Tryz.prog QR 62 [.agg cs, iZ most] st v st' ∧ v = iZ (min ((Uj x : Nat) : Int) most) ∧ Qt st st' := by
 refine Uz (M := fun x => ∀ (most : Int) (st : St) (cs : List AV), Qw st → XE st.h.get x cs → 1 ≤ most → most ≤ 1000000 → ∃ v st', Ev Tryz.prog QR 62 [.agg cs, iZ most] st v st' ∧ v = iZ (min ((Uj x : Nat) : Int) most) ∧ Qt st st') (fun o s z a l ih => ?_) x;intro most st cs hf hr h1 h2;have hr0 := hr;obtain ⟨kk, ls, rfl, hK, hb⟩ := hr.Jn;have hln := hK.ln;have hbn := hK.YZ;refine Yu Tryz.func62 Tryz.ntmps62 fun T K => ?_;have M := Mem.start hf;refine Qc 0 K M fun _ K => ?_;refine J3 K M rfl (Qa rfl (Qa rfl (Qa rfl (Qa rfl (Qa hK.cell Qo))))) QT fun c2 _ _ K M => ?_;refine Qc 3 K M fun _ K => ?_;refine JU K rfl (fun h9 => ?_) fun h9 => ?_
 · have hb9 := h9;replace h9 := of_decide_eq_true h9;refine Qc 1 K M ?_
   first
    | (exfalso; omega)
    | (refine ⟨?_, M.qt⟩; rw [hinv]; congr 1; have hz : i = l.length := by omega
       rw [UM Qh, FN]; omega)
    | (refine ⟨?_, M.qt⟩; rw [hinv]; congr 1; omega)
 · have hb9 := h9;replace h9 := of_decide_eq_false h9;refine Qc 3 K M fun _ K => ?_;refine p1 K (Jg QI rfl rfl hK.len) fun _ K => ?_;refine Qc 1 K M fun _ K => ?_;refine JQ (fun mm1 T st9 => ∃ (i : Nat) (m : Int), mm1 = l.length - i ∧ Jr [(1, iZ most), (4, iZ 0), (5, iZ m), (11, kk), (12, iZ (l.length : Nat)), (13, iN i)] T ∧ Mem st.h.get st.n [] st9 [(c2, 0, [.str o, .str s, iZ z, iZ a, kk])] ∧ i ≤ l.length ∧ 1 ≤ m ∧ m ≤ most ∧ min (((Uj (.mk o s z a l)) : Nat) : Int) most = min (m + ((FN (l.drop i) : Nat) : Int)) most) (fun mm1 T st9 hI => ?_) _ _ _ ⟨0, 1, rfl, (K.sub rfl), M.less (.refl _), (Nat.zero_le _), Qh, h1, (by rw [Uj, List.drop_zero]; omega)⟩;obtain ⟨i, m, rfl, K, M, hi, hm1, hm2, hinv⟩ := hI;refine Qc 1 K M fun _ K => ?_;refine JU K rfl (fun h14 => ?_) fun h14 => ?_
   · have hb14 := h14;replace h14 := of_decide_eq_true h14;refine Qc 0 K M fun _ K => ?_;obtain ⟨⟨o15, s15, z15, a15, l15⟩, hi15⟩ : ∃ k, l[i]? = some k := ⟨_, List.getElem?_eq_getElem Qh⟩;have hm15 := U7 hi15;obtain ⟨_, hc15, hn15⟩ := hK.at_ _ _ hi15;have hp15 := hn15;obtain ⟨kk15, ls15, rfl, hK15, hb15⟩ := hp15.Jn;refine OJ (hK.r.mem M Q3) hc15 K Jf Qv rfl rfl fun _ _ _ _ K => ?_;refine au 1 K M ?_;intro c7 _ _ K _ M;refine Qz (k := 0) K M rfl rfl rfl Qi rfl (Qa rfl (Qa rfl (Qa rfl (Qa rfl (Qa hK15.cell Qo))))) rfl fun _ M => ?_;refine Qc 3 K M fun _ K => ?_;refine JU K rfl (fun h19 => ?_) fun h19 => ?_
     · have hb19 := h19;replace h19 := of_decide_eq_true h19;refine Jx ?_;show W _ _ _ _ _ _ _;refine Qc 2 K M ?_
       first
        | (exfalso; omega)
        | (refine ⟨?_, M.qt⟩; rw [hinv]; congr 1; have hz : i = l.length := by omega
           rw [UM Qh, FN]; omega)
        | (refine ⟨?_, M.qt⟩; rw [hinv]; congr 1; omega)
     · have hb19 := h19;replace h19 := of_decide_eq_false h19;refine Qc 5 K M fun _ K => ?_;refine oQ K M (ih _ (hm15) (most - m) _ _ M.fresh (hn15.mono M.rows) Qh Qh) rfl rfl fun _ _ K M => ?_;refine Qc 4 K M fun _ K => ?_;have hst := CI hi15;have hsp := IG (.mk o15 s15 z15 a15 l15);exact ⟨_, Qh, i + 1, (m + min ((Uj (.mk o15 s15 z15 a15 l15) : Nat) : Int) (most - m)), rfl, (K.sub rfl), M.less (.cons _ (.refl _)), Qh, Qh, Qh, Qh⟩
   · have hb14 := h14;replace h14 := of_decide_eq_false h14;refine Jx ?_;show W _ _ _ _ _ _ _;refine Qc 2 K M ?_
     first
      | (exfalso; omega)
      | (refine ⟨?_, M.qt⟩; rw [hinv]; congr 1; have hz : i = l.length := by omega
         rw [UM Qh, FN]; omega)
      | (refine ⟨?_, M.qt⟩; rw [hinv]; congr 1; omega)

theorem ME (x : Nd) : ∀ (most : Int) (st : St) (cs : List AV), Qw st → XE st.h.get x cs → 1 ≤ most → most ≤ 1000000 → ∃ v st', Ev Tryz.prog QR 11 [.agg cs, iZ most] st v st' ∧ v = iZ (min ((Uj x : Nat) : Int) most) ∧ Qt st st' := by
 refine Uz (M := fun x => ∀ (most : Int) (st : St) (cs : List AV), Qw st → XE st.h.get x cs → 1 ≤ most → most ≤ 1000000 → ∃ v st', Ev Tryz.prog QR 11 [.agg cs, iZ most] st v st' ∧ v = iZ (min ((Uj x : Nat) : Int) most) ∧ Qt st st') (fun o s z a l ih => ?_) x;intro most st cs hf hr h1 h2;have hr0 := hr;obtain ⟨kk, ls, rfl, hK, hb⟩ := hr.Jn;have hln := hK.ln;have hbn := hK.YZ;refine Yu Tryz.func11 Tryz.ntmps11 fun T K => ?_;have M := Mem.start hf;refine Qc 0 K M fun _ K => ?_;refine J3 K M rfl (Qa rfl (Qa rfl (Qa rfl (Qa rfl (Qa hK.cell Qo))))) QT fun c2 _ _ K M => ?_;refine Qc 3 K M fun _ K => ?_;refine JQ (fun mm1 T st9 => ∃ (i : Nat) (m : Int), mm1 = l.length - i ∧ Jr [(1, iZ most), (2, .ptr c2 0 0), (4, iZ 0), (5, iZ m), (6, iN i)] T ∧ Mem st.h.get st.n [] st9 [(c2, 0, [.str o, .str s, iZ z, iZ a, kk])] ∧ i ≤ l.length ∧ 1 ≤ m ∧ m ≤ most ∧ min (((Uj (.mk o s z a l)) : Nat) : Int) most = min (m + ((FN (l.drop i) : Nat) : Int)) most) (fun mm1 T st9 hI => ?_) _ _ _ ⟨0, 1, rfl, (K.sub rfl), M.less (.refl _), (Nat.zero_le _), Qh, h1, (by rw [Uj, List.drop_zero]; omega)⟩;obtain ⟨i, m, rfl, K, M, hi, hm1, hm2, hinv⟩ := hI;refine Qc 3 K M fun _ K => ?_;refine p1 K (Jg QI rfl rfl hK.len) fun _ K => ?_;refine Qc 1 K M fun _ K => ?_;refine oB K (Q9 rfl) rfl fun b12 _ e12 K => ?_;cases b12
 · replace e12 := of_decide_eq_false e12;refine Qc 5 K M fun _ K => ?_;refine Jx ?_;show W _ _ _ _ _ _ _;refine Qc 2 K M fun _ K => ?_;refine p1 K (Re rfl rfl) fun _ K => ?_;refine Qc 1 K M ?_
   first
    | (refine ⟨?_, M.qt⟩; rw [hinv]; congr 1; have hz : i = l.length := by omega
       rw [UM Qh, FN]; omega)
    | (refine ⟨?_, M.qt⟩; rw [hinv]; congr 1; omega)
 · replace e12 := of_decide_eq_true e12;refine Qc 4 K M fun _ K => ?_;refine JU K rfl (fun h16 => ?_) fun h16 => ?_
   · have hb16 := h16;replace h16 := of_decide_eq_true h16;refine Qc 4 K M fun _ K => ?_;obtain ⟨⟨o23, s23, z23, a23, l23⟩, hi23⟩ : ∃ k, l[i]? = some k := ⟨_, List.getElem?_eq_getElem Qh⟩;have hm23 := U7 hi23;obtain ⟨_, hc23, hn23⟩ := hK.at_ _ _ hi23;have hp23 := hn23;obtain ⟨kk23, ls23, rfl, hK23, hb23⟩ := hp23.Jn;refine OJ (hK.r.mem M Q3) hc23 K Jf Qv rfl rfl fun _ _ _ _ K => ?_;refine Qc 3 K M fun _ K => ?_;refine oQ K M (ih _ (hm23) (most - m) _ _ M.fresh (hn23.mono M.rows) Qh Qh) rfl rfl fun _ _ K M => ?_;refine Qc 5 K M fun _ K => ?_;have hst := CI hi23;have hsp := IG (.mk o23 s23 z23 a23 l23);exact ⟨_, Qh, i + 1, (m + min ((Uj (.mk o23 s23 z23 a23 l23) : Nat) : Int) (most - m)), rfl, (K.sub rfl), M.less (.refl _), Qh, Qh, Qh, Qh⟩
   · have hb16 := h16;replace h16 := of_decide_eq_false h16;refine Jx ?_;show W _ _ _ _ _ _ _;refine Qc 2 K M fun _ K => ?_;refine p1 K (Re rfl rfl) fun _ K => ?_;refine Qc 1 K M ?_
     first
      | (refine ⟨?_, M.qt⟩; rw [hinv]; congr 1; have hz : i = l.length := by omega
         rw [UM Qh, FN]; omega)
      | (refine ⟨?_, M.qt⟩; rw [hinv]; congr 1; omega)

theorem uR(x:Nd): ∀(most:Int) (st:St) (cs:List AV),Qw st→XE st.h.get x cs→1≤most→most≤1000000→ ∃v st',Ev Tryz.prog QR 87 [.agg cs,iZ most] st v st'∧v=iZ (min ((MC x:Nat):Int) most)∧Qt st st':=by
 refine Uz (M:=fun x=> ∀(most:Int) (st:St) (cs:List AV),Qw st→XE st.h.get x cs→1≤most→most≤1000000→ ∃v st',Ev Tryz.prog QR 87 [.agg cs,iZ most] st v st'∧v=iZ (min ((MC x:Nat):Int) most)∧Qt st st') (fun o s z a l ih=>?_) x;intro most st cs hf hr h1 h2;have hr0:=hr;obtain⟨kk,ls,rfl,hK,hb⟩:=hr.Jn;have hln:=hK.ln;have hbn:=hK.YZ;refine Yu Tryz.func87 Tryz.ntmps87 fun T K=>?_;have M:=Mem.start hf;refine Qc 0 K M fun _ K=>?_;refine J3 K M rfl (Qa rfl (Qa rfl (Qa rfl (Qa rfl (Qa hK.cell Qo))))) QT fun c2 _ _ K M=>?_;refine Qc 4 K M fun _ K=>?_;refine JU K rfl (fun h9=>?_) fun h9=>?_
 ·have hb9:=h9;replace h9:=of_decide_eq_true h9;refine Qc 2 K M fun _ K=>?_;refine p1 K (Jg QI rfl rfl hK.len) fun _ K=>?_;refine Qc 1 K M fun _ K=>?_;refine JQ (fun mm1 T st9=> ∃(i:Nat) (m:Int),mm1=l.length-i∧Jr [(1,iZ most),(4,iZ 0),(5,iZ m),(11,kk),(12,iZ (l.length:Nat)),(13,iN i)] T∧Mem st.h.get st.n [] st9 [(c2,0,[.str o,.str s,iZ z,iZ a,kk])]∧i≤l.length∧0≤m∧m≤most-1∧min (((zJ l):Nat):Int) (most-1)=max m (min ((zJ (l.drop i):Nat):Int) (most-1))) (fun mm1 T st9 hI=>?_) _ _ _ ⟨0,0,rfl,(K.sub rfl),M.less (.refl _),(Nat.zero_le _),Qh,Qh,(by rw[List.drop_zero];omega)⟩;obtain⟨i,m,rfl,K,M,hi,hm1,hm2,hinv⟩:=hI;refine Qc 1 K M fun _ K=>?_;refine JU K rfl (fun h14=>?_) fun h14=>?_
  · have hb14:=h14;replace h14:=of_decide_eq_true h14;refine Qc 0 K M fun _ K=>?_;obtain⟨⟨o15,s15,z15,a15,l15⟩,hi15⟩: ∃k,l[i]? =some k:=⟨_,List.getElem?_eq_getElem Qh⟩;have hm15:=U7 hi15;obtain⟨_,hc15,hn15⟩:=hK.at_ _ _ hi15;have hp15:=hn15;obtain⟨kk15,ls15,rfl,hK15,hb15⟩:=hp15.Jn;refine OJ (hK.r.mem M Q3) hc15 K Jf Qv rfl rfl fun _ _ _ _ K=>?_;refine au 1 K M ?_;intro c7 _ _ K _ M;refine Qz (k:=0) K M rfl rfl rfl Qi rfl (Qa rfl (Qa rfl (Qa rfl (Qa rfl (Qa hK15.cell Qo))))) rfl fun _ M=>?_;refine Qc 4 K M fun _ K=>?_;refine oQ K M (ih _ (hm15) (most-1) _ _ M.fresh (hn15.mono M.rows) Qh Qh) rfl rfl fun _ _ K M=>?_;refine p1 K (xU rfl rfl) fun _ K=>?_;refine Qc 3 K M fun _ K=>?_;have hst:=uO hi15;have hsp:=zI (.mk o15 s15 z15 a15 l15);exact⟨_,Qh,i+1,(max m (min ((MC (.mk o15 s15 z15 a15 l15):Nat):Int) (most-1))),rfl,(K.sub rfl),M.less (.cons _ (.refl _)),Qh,Qh,Qh,Qh⟩
  · have hb14:=h14;replace h14:=of_decide_eq_false h14;refine Jx ?_;show W _ _ _ _ _ _ _;refine Qc 3 K M ?_;refine⟨congrArg (AV.int .i64) ?_,M.qt⟩
    first
     |(rw[MC,UM (show l.length≤i by omega),zJ]at *;omega)
     |(rw[MC];omega)
 ·have hb9:=h9;replace h9:=of_decide_eq_false h9;refine Qc 3 K M ?_;refine⟨congrArg (AV.int .i64) ?_,M.qt⟩
  first
   |(rw[MC,UM (show l.length≤i by omega),zJ]at *;omega)
   |(rw[MC];omega)

end
section
open Go

theorem Af:tk Tryz.prog 77=.one:=by kernel_rfl
end
end Go.Proofs.YtaomhhkflohhgaaGreatDoor
