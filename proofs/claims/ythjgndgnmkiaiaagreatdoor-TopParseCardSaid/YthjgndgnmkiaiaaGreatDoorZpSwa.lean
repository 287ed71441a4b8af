/-
  What is shown, as 'sibylref5' shows it: terms.
-/
import Derived.Test.YthjgndgnmkiaiaaGreatDoorZpPpC
import Derived.Test.YthjgndgnmkiaiaaGreatDoorZpEnW
import Derived.Test.YthjgndgnmkiaiaaGreatDoorZpTq
set_option maxRecDepth 100000
set_option maxHeartbeats 8000000
set_option linter.unnecessarySimpa false
set_option linter.unusedSectionVars false
set_option linter.unusedSimpArgs false
set_option linter.unusedVariables false
namespace Go.Proofs.YthjgndgnmkiaiaaGreatDoor
open Go Go.RowKit
section

theorem eP: ∀z:Nat,(U4 z).length≤z+1:=fun z=>by
 refine Nat.strongRecOn (motive:=fun z=>(U4 z).length≤z+1) z fun z ih=>?_;rw[U4]
 split
 ·simp
 ·have:=ih (z/10) Qk;rw[List.length_append,List.length_singleton];omega
theorem Wz(z:Int)(h:z≤99):(U4 z.toNat).length≤100:=Nat.le_trans (eP _) Qk
theorem DW: ∀(l:List Nd) (i:Nat),WC (l.take i)≤WC l
 |[],i=>by simp
 |k::l,0=>by simp[WC]
 |k::l,i+1=>by
  have:=DW l i;rw[List.take_succ_cons,WC,WC];omega
theorem wj{l:List Nd}(hT: ∀k∈l,QM k=true)(hz:WC l≤1000)(i:Nat):(QQ (UF (Js (l.take i)))).length≤2040000:=by
 have h1:=I9 (Js (l.take i))
 have h2:=EN (B:=2040) (l.take i) fun k hk=>by
  have:=V3 _ k (Nat.le_refl _) (hT k (List.mem_of_mem_take hk));omega
 have h3:=DW l i;have h4:2040 *WC (l.take i)≤2040 *1000:=Nat.mul_le_mul_left _ Qk;omega
theorem IV{k:Nd}(h:QM k=true)(hz:YT k≤1000):(QQ (QP k)).length≤2040000:=by
 have:=V3 _ k (Nat.le_refl _) h;have h4:2040 *YT k≤2040 *1000:=Nat.mul_le_mul_left _ hz;omega

end
section
variable {k x y:Nd} {l:List Nd} {o:List Nat} {st:St}

theorem NR(hT: ∀k∈l,QM k=true)(hz:WC l≤1000):(QQ (UF (Js l))).length≤2040000:=by
 have:=wj hT hz l.length;rw[List.take_length]at this;exact this
theorem C3{s:List Nat}{z a:Int}(h:YT (.mk o s z a l)≤1000):WC l≤1000:=by
 rw[YT]at h;omega
theorem fj{j:Nd}(h:l=[x,y])(h0:l[0]? =some k)(h1:l[1]? =some j):x=k∧y=j:=by
 subst h
 injection h0 with h0
 injection h1 with h1
 exact⟨h0,h1⟩
theorem Ea(h:l=[x])(h0:l[0]? =some k):x=k:=by
 subst h
 injection h0 with h0
theorem y5(h:Jf o=true):o.length≤5:=by
 rcases EV h with rfl|rfl|rfl<;>decide
theorem Ij(h:l=[x,y])(h0:l[0]? =some k):x=k:=by
 subst h;injection h0 with h0
theorem Ii(h:l=[x,y])(h0:l[1]? =some k):y=k:=by
 subst h;injection h0 with h0
theorem UJ(h:Jg k=true)(hz:YT k≤1000):(QQ (Q8 k)).length≤2040000:=by
 have:=Fg _ k (Nat.le_refl _) h;have h4:2040 *YT k≤2040 *1000:=Nat.mul_le_mul_left _ hz;omega
theorem l4(h:o=[101,120]∨o=[97,108,108]):o.length≤3:=by rcases h with rfl|rfl<;>decide
theorem ME: ∀l:List Nd,l.length≤WC l
 |[]=>Nat.zero_le _
 |k::l=>by
  have:=ME l;have:=XJ k;rw[List.length_cons,WC];omega
theorem zy(h:Jf o=true):o∈aI∧o.length≤6:=by rcases EV h with rfl|rfl|rfl<;>decide
theorem ik(h:G2 o=true):o∈aI∧o.length≤6:=by rcases KL h with rfl|rfl|rfl|rfl|rfl|rfl|rfl<;>decide
theorem CN(h:o=[97,110,100]∨o=[111,114]∨o=[105,109,112]∨o=[105,102,102]):o∈aI∧o.length≤6:=by rcases h with rfl|rfl|rfl|rfl<;>decide
def N8(l:List Nd):List (List Nat):=(Js l).map QQ
theorem uR(a b:List Nd):N8 (a++b)=N8 a++N8 b:=by unfold N8;rw[NF,List.map_append]
theorem qF{i:Nat}(h:l[i]? =some k):N8 (l.take (i+1))=N8 (l.take i)++[QQ (QP k)]:=by
 have e:l.take (i+1)=l.take i++[k]:=by rw[List.take_add_one,h];rfl
 rw[e,uR];rfl
theorem DN(l:List Nd):(N8 l).length=l.length:=by unfold N8;rw[List.length_map,ZA]
theorem O4(l:List Nd):Ze [44,32] (N8 l)=QQ (UF (Js l)):=IW _ _ rfl
theorem vR(d:Dc):QQ (Jc d)=WB++U4 d.order.toNat++[32]++d.name:=by rw[Jc,Qz,Qz,Qz];simp[Pc.tx,QQ]

theorem vd(hf:Q3 st){nm:List Nat}{od at_:Int}(hd:Ya ⟨nm,od,at_⟩=true): ∃v st',Ev Tryz.prog HV 17 [.agg [.str nm,iZ od,iZ at_]] st v st'∧v=.str (QQ (Jc ⟨nm,od,at_⟩))∧Qt st st':=by
 obtain⟨hnm,k0,hk0,hod,_⟩:=Ko hd;have hod:od=((k0:Nat):Int):=hod;have hnl:nm.length≤2000:=Zp hnm;refine XB Tryz.func17 Tryz.ntmps17 fun T K=>?_;have M:=Mem.start hf;refine au 2 K M ?_;intro c1 _ _ K _ M;refine QU (l:=[(0,0),(1,0),(2,0),(3,0),(4,0),(5,0),(6,1),(7,0),(8,0)]) (by kernel_rfl) ?_;have Mq:=M;refine Ue 2 K M fun _ K=>?_;obtain⟨v5,st5,ev5,rfl,q5⟩:=Fe (z:=od) M.fresh Qk Qk;refine qA rfl K (Qh rfl ev5) fun _ K=>?_;replace M:=M.quiet q5;have hdl:=Wz (od) Qk;have Mp:=Mq;have Mq:=M;refine q1 rfl K (Jt (a:=[118,97,114]) rfl rfl (by first|omega|(simp only[List.length_append,List.length_cons,List.length_nil];omega))) fun _ K=>q1 rfl K (Jt (b:=[32]) rfl rfl (by first|omega|(simp only[List.length_append,List.length_cons,List.length_nil];omega))) fun _ K=>?_;refine Ue 1 K M fun _ K=>?_;refine QO rfl K rfl (M.load (k:=0) rfl (Qj Qr rfl)) (Mp.load (k:=0) rfl (Qj Qr rfl)) (Ji rfl) rfl Qo fun _ K=>?_;refine q1 rfl K (Jt rfl rfl (by first|omega|(simp only[List.length_append,List.length_cons,List.length_nil];omega))) fun _ K=>q1 rfl K (JL rfl) fun _ K=>QZ ?_;show W _ _ _ _ _ _ _;refine Qg 0 K M ?_;refine⟨?_,M.qt⟩;rw[vR];simp[WB]

theorem Vo(hf:Q3 st){x y:List Nat}(ho:o∈aI∧o.length≤6)(hx:x.length≤3000000)(hy:y.length≤3000000): ∃v st',Ev Tryz.prog HV 41 [.str x,.str o,.str y] st v st'∧v=.str (x++[32]++Pc.tx (Vs o)++[32]++y)∧Qt st st':=by
 refine XB Tryz.func41 Tryz.ntmps41 fun T K=>?_;have M:=Mem.start hf;refine Qg 2 K M fun _ K=>?_;refine p1 K (Jt (b:=[32]) rfl rfl (by first|omega|(simp only[List.length_append,List.length_cons,List.length_nil];omega))) fun _ K=>?_;refine Qg 1 K M fun _ K=>?_;refine oQ K M (yx M.fresh ho.1) rfl rfl fun _ _ K M=>?_;have hsg:=WX o;have ho6:=ho.2;refine p1 K (Jt rfl rfl (by first|omega|(simp only[List.length_append,List.length_cons,List.length_nil];omega))) fun _ K=>p1 K (Jt (b:=[32]) rfl rfl (by first|omega|(simp only[List.length_append,List.length_cons,List.length_nil];omega))) fun _ K=>?_;refine Qg 1 K M fun _ K=>?_;refine p1 K (Jt rfl rfl (by first|omega|(simp only[List.length_append,List.length_cons,List.length_nil];omega))) fun _ K=>?_;refine Qg 1 K M ?_;exact⟨rfl,M.qt⟩

theorem PM(hf:Q3 st){kk:AV}{ls:List (List AV)}(hK:F0 st.h.get l kk ls)(hTm: ∀k∈l,QM k=true)(hz:WC l≤1000)(hC: ∀(k:Nd),k∈l→ ∀(st1:St) (cs:List AV),Q3 st1→XW st1.h.get k cs→ ∃v st',Ev Tryz.prog HV 43 [.agg cs] st1 v st'∧v=.str (QQ (QP k))∧Qt st1 st'): ∃v st',Ev Tryz.prog HV 42 [kk] st v st'∧v=.str (QQ (UF (Js l)))∧Qt st st':=by
 have hln:=hK.ln;have hbn:=hK.W9;have hls:=ME l;have hrl:=NR hTm hz;refine XB Tryz.func42 Tryz.ntmps42 fun T K=>?_;have M:=Mem.start hf;refine Qg 3 K M fun _ K=>?_;refine p1 K (Jp Jj rfl rfl hK.len) fun _ K=>?_;refine Qg 1 K M fun _ K=>?_;refine UE (fun mm1 T st9=> ∃(i:Nat) (ks:AV) (A:List (Nat×Nat×List AV)),mm1=l.length-i∧Jn [(2,.str []),(3,ks),(6,kk),(7,iZ (l.length:Nat)),(8,iN i)] T∧Mem st.h.get st.n [] st9 (A++[])∧Acc st.n 1 A ks (uS (N8 (l.take i)))∧i≤l.length) (fun mm1 T st9 hI=>?_) _ _ _ ⟨0,.nils,[],rfl,(K.sub rfl),M.less (.refl _),(by simpa [N8,Js,uS]using .none),(Nat.zero_le _)⟩;obtain⟨i,ks,A,rfl,K,M,hA,hi⟩:=hI;refine Qg 1 K M fun _ K=>?_;refine WU K rfl (fun h9=>?_) fun h9=>?_
 ·refine Qg 0 K M fun _ K=>?_;obtain⟨⟨o10,s10,z10,a10,l10⟩,hi10⟩: ∃k,l[i]? =some k:=⟨_,List.getElem?_eq_getElem (by first|omega|(have:=bare_len (m:=1) (l:=l) (by assumption);omega)|(have:=bare_len (m:=2) (l:=l) (by assumption);omega)|(have:=Q5 (m:=1) (l:=l) (by assumption);omega))⟩;have hm10:=J7 hi10;obtain⟨_,hc10,hn10⟩:=hK.at_ _ _ hi10;have hp10:=hn10;obtain⟨kk10,ls10,rfl,hK10,hb10⟩:=hp10.J3;refine aJ (hK.r.mem M Q1) hc10 K QB Qs rfl rfl fun _ _ _ _ K=>?_;refine au 1 K M ?_;intro c5 _ _ K _ M;refine Jr (k:=0) K M rfl rfl rfl Q9 rfl (Qa rfl (Qa rfl (Qa rfl (Qa rfl (Qa hK10.cell QV))))) rfl fun _ M=>?_;refine Qg 2 K M fun _ K=>?_;refine oQ K M (hC _ hm10 _ _ M.fresh (hn10.mono M.rows)) rfl rfl fun _ _ K M=>?_;refine au 1 K M ?_;intro c15 _ _ K _ M;refine F1 (k2:=0) (L:=[(c15,0,[.str ((QQ (QP (.mk o10 s10 z10 a10 l10))))]),(c5,0,[.str o10,.str s10,iZ z10,iZ a10,kk10])]) (B:=[]) K M hA Lu rfl rfl rfl rfl (by rw[Cn,DN,List.length_take];omega) rfl fun ks16 A16 _ _ K hA16 M=>?_;refine Qg 3 K M fun _ K=>?_;exact⟨_,Qk,i+1,ks16,A16,rfl,(K.sub rfl),M.less (.cons _ (.cons _ (.refl _))),(by rw[qF hi10,vS];exact hA16),Qk⟩
 refine Uz ?_;show W _ _ _ _ _ _ _;refine Qg 1 K M fun _ K=>?_;refine oQ K M (xj (sep:=[44,32]) M.fresh hA (fun x hx=>M.row _ _ _ (by simp[hx])) (by rw[DN,List.length_take];omega) (by rw[List.take_of_length_le Qk,O4];omega)) rfl rfl fun _ _ K M=>?_;refine Qg 1 K M ?_;have hfull:l.take i=l:=List.take_of_length_le Qk
 rw[hfull,O4]at *
 exact⟨rfl,M.qt⟩

theorem NC(x:Nd): ∀(st:St) (cs:List AV),Q3 st→XW st.h.get x cs→QM x=true→YT x≤1000→ ∃v st',Ev Tryz.prog HV 43 [.agg cs] st v st'∧v=.str (QQ (QP x))∧Qt st st':=by
 refine H4 (M:=fun x=> ∀(st:St) (cs:List AV),Q3 st→XW st.h.get x cs→QM x=true→YT x≤1000→ ∃v st',Ev Tryz.prog HV 43 [.agg cs] st v st'∧v=.str (QQ (QP x))∧Qt st st') (fun o s z a l ih=>?_) x;intro st cs hf hr hTm hz;have hr0:=hr;obtain⟨kk,ls,rfl,hK,hb⟩:=hr.J3;have hln:=hK.ln;have hbn:=hK.W9;refine XB Tryz.func43 Tryz.ntmps43 fun T K=>?_;have M:=Mem.start hf;refine Qg 0 K M fun _ K=>?_;refine Y8 K M rfl (Qa rfl (Qa rfl (Qa rfl (Qa rfl (Qa hK.cell QV))))) Qo fun c1 _ _ K M=>?_;refine Qg 3 K M fun _ K=>?_;refine p1 K (Jw (b:=[118,97,114]) rfl rfl) fun _ K=>?_;refine Qg 1 K M fun _ K=>?_;refine WU K rfl (fun h5=>?_) fun h5=>?_
 ·refine Qg 3 K M ?_;exact⟨by rw[fl hTm h5],M.qt⟩
 refine Qg 0 K M fun _ K=>?_;refine p1 K (Jw (b:=[110,117,109]) rfl rfl) fun _ K=>?_;refine Qg 1 K M fun _ K=>?_;refine WU K rfl (fun h9=>?_) fun h9=>?_
 ·refine JK ?_;obtain⟨htt,hz0,hz9⟩:=fq hTm h9;refine Qg 2 K M fun _ K=>?_;refine oQ K M (Fe (z:=z) M.fresh hz0 hz9) rfl rfl fun _ _ K M=>?_;have hdl:=Wz (z) hz9;refine Qg 1 K M ?_;exact⟨by rw[htt],M.qt⟩
 refine Qg 0 K M fun _ K=>?_;refine p1 K (Jw (b:=[112,108,117,115]) rfl rfl) fun _ K=>?_;refine Qg 1 K M fun _ K=>?_;refine WU K rfl (fun h14=>?_) fun h14=>?_
 ·refine JK ?_;obtain⟨⟨k0,hl0,htt⟩,hz0,hz9⟩:=vT hTm h14
  have hl1:l.length=1:=by rw[hl0];rfl
  refine QU (l:=[(0,0),(1,0),(2,0),(3,0),(4,0),(6,0),(7,1),(8,0),(5,0),(9,0),(10,0)]) (by kernel_rfl) ?_;have Mq:=M;refine Ue 2 K M fun _ K=>?_;obtain⟨⟨o18,s18,z18,a18,l18⟩,hi18⟩: ∃k,l[0]? =some k:=⟨_,List.getElem?_eq_getElem (by first|omega|(have:=bare_len (m:=1) (l:=l) (by assumption);omega)|(have:=bare_len (m:=2) (l:=l) (by assumption);omega)|(have:=Q5 (m:=1) (l:=l) (by assumption);omega))⟩;have hm18:=J7 hi18;obtain⟨_,hc18,hn18⟩:=hK.at_ _ _ hi18;have hp18:=hn18;obtain⟨kk18,ls18,rfl,hK18,hb18⟩:=hp18.J3;refine iT rfl rfl (hK.r.mem M Q1) hc18 K QB Qs rfl rfl fun _ _ _ _ K=>?_;obtain⟨v20,st20,ev20,rfl,q20⟩:=ih _ hm18 _ _ M.fresh (hn18.mono M.rows) (XI hTm hm18) (JZ hz hm18);refine qA rfl K (Qh rfl ev20) fun _ K=>?_;replace M:=M.quiet q20;have hkl20:=IV (XI hTm hm18) (JZ hz hm18);have Mp:=Mq;have Mq:=M;refine Ue 1 K M fun _ K=>?_;refine QO rfl K rfl (M.load (k:=0) rfl (Qj J4 rfl)) (Mp.load (k:=0) rfl (Qj J4 rfl)) (Ji rfl) rfl Qo fun _ K=>?_;obtain⟨v24,st24,ev24,rfl,q24⟩:=Fe (z:=z) M.fresh hz0 hz9;refine qA rfl K (Qh rfl ev24) fun _ K=>?_;replace M:=M.quiet q24;have hdl:=Wz (z) hz9;have Mp:=Mq;have Mq:=M;refine q1 rfl K (Jt (b:=[32,43,32]) rfl rfl (by first|omega|(simp only[List.length_append,List.length_cons,List.length_nil];omega))) fun _ K=>q1 rfl K (Jt rfl rfl (by first|omega|(simp only[List.length_append,List.length_cons,List.length_nil];omega))) fun _ K=>q1 rfl K (JL rfl) fun _ K=>QZ ?_;show W _ _ _ _ _ _ _;refine Qg 0 K M ?_;exact⟨by rw[htt,Ea hl0 hi18],M.qt⟩
 refine Qg 0 K M fun _ K=>?_;refine p1 K (Jw (b:=[115,101,116]) rfl rfl) fun _ K=>?_;refine Qg 1 K M fun _ K=>?_;refine WU K rfl (fun h26=>?_) fun h26=>?_
 ·refine Qg 2 K M fun _ K=>?_;refine oQ K M (PM M.fresh (hK.mem M) (fun k hk=>XI hTm hk) (C3 hz) (fun k hk st1 cs hf1 hr1=>ih k hk st1 cs hf1 hr1 (XI hTm hk) (JZ hz hk))) rfl rfl fun _ _ K M=>?_;have hrl:=NR (l:=l) (fun k hk=>XI hTm hk) (C3 hz);refine p1 K (Jt (a:=[123]) rfl rfl (by first|omega|(simp only[List.length_append,List.length_cons,List.length_nil];omega))) fun _ K=>p1 K (Jt (b:=[125]) rfl rfl (by first|omega|(simp only[List.length_append,List.length_cons,List.length_nil];omega))) fun _ K=>?_;refine Qg 1 K M ?_;exact⟨by rw[fp hTm h26],M.qt⟩
 refine Qg 0 K M fun _ K=>?_;obtain⟨x0,y0,hl0,hso,htt⟩:=fm hTm h5 h9 h14 h26
 have hl2:l.length=2:=by rw[hl0];rfl
 have hol:=y5 hso;refine QU (l:=[(0,0),(1,0),(2,0),(3,0),(4,0),(7,0),(8,1),(9,0),(10,1),(11,0),(5,0),(6,2),(12,0),(13,0)]) (by kernel_rfl) ?_;have Mq:=M;have Mz0:=M;refine Ue 2 K M fun _ K=>?_;obtain⟨⟨o35,s35,z35,a35,l35⟩,hi35⟩: ∃k,l[0]? =some k:=⟨_,List.getElem?_eq_getElem (by first|omega|(have:=bare_len (m:=1) (l:=l) (by assumption);omega)|(have:=bare_len (m:=2) (l:=l) (by assumption);omega)|(have:=Q5 (m:=1) (l:=l) (by assumption);omega))⟩;have hm35:=J7 hi35;obtain⟨_,hc35,hn35⟩:=hK.at_ _ _ hi35;have hp35:=hn35;obtain⟨kk35,ls35,rfl,hK35,hb35⟩:=hp35.J3;refine iT rfl rfl (hK.r.mem M Q1) hc35 K QB Qs rfl rfl fun _ _ _ _ K=>?_;obtain⟨v37,st37,ev37,rfl,q37⟩:=ih _ hm35 _ _ M.fresh (hn35.mono M.rows) (XI hTm hm35) (JZ hz hm35);refine qA rfl K (Qh rfl ev37) fun _ K=>?_;replace M:=M.quiet q37;have hkl37:=IV (XI hTm hm35) (JZ hz hm35);have Mp:=Mq;have Mq:=M;have Mz1:=M;refine Ue 1 K M fun _ K=>?_;refine QO rfl K rfl (M.load (k:=0) rfl (Qj Jk rfl)) (Mp.load (k:=0) rfl (Qj Jk rfl)) (Ji (Jz hK.len)) rfl Qo fun _ K=>?_;obtain⟨⟨o42,s42,z42,a42,l42⟩,hi42⟩: ∃k,l[1]? =some k:=⟨_,List.getElem?_eq_getElem (by first|omega|(have:=bare_len (m:=1) (l:=l) (by assumption);omega)|(have:=bare_len (m:=2) (l:=l) (by assumption);omega)|(have:=Q5 (m:=1) (l:=l) (by assumption);omega))⟩;have hm42:=J7 hi42;obtain⟨_,hc42,hn42⟩:=hK.at_ _ _ hi42;have hp42:=hn42;obtain⟨kk42,ls42,rfl,hK42,hb42⟩:=hp42.J3;obtain⟨x42,m42,f42,q42,_,la42,lo42,lp42,la'42,lo'42,lp'42⟩:=Ja.Wq (hK.r.mem M Q1) (hK.r.mem Mp Q1) (i:=1) (cs:=_) hc42;refine q1 rfl K (Qp (j:=1) QB (congrArg some q42) rfl (by rw[hK.ln];first|omega|(have:=bare_len (m:=1) (l:=l) (by assumption);omega)|(have:=bare_len (m:=2) (l:=l) (by assumption);omega)|(have:=Q5 (m:=1) (l:=l) (by assumption);omega))) fun _ K=>?_;refine QO rfl K rfl (la42 _ Qs) (la'42 _ Qs) (YR (by simp[Yj,Yk,UB,Jz hK42.len])) rfl Qo fun _ K=>?_;obtain⟨v44,st44,ev44,rfl,q44⟩:=ih _ hm42 _ _ M.fresh (hn42.mono M.rows) (XI hTm hm42) (JZ hz hm42);refine qA rfl K (Qh rfl ev44) fun _ K=>?_;replace M:=M.quiet q44;have hkl44:=IV (XI hTm hm42) (JZ hz hm42);have Mp:=Mq;have Mq:=M;have Mz2:=M;refine Ue 1 K M fun _ K=>?_
 refine Xf rfl K rfl (M.load (k:=0) rfl (Qj Qr rfl)) Q1 (by intro s hs;simp only[List.take_succ_cons,List.take_zero,List.mem_cons,List.not_mem_nil,or_false]at hs;rcases hs with rfl|rfl<;>first|exact(Mz1.load (k:=0) rfl (Qj Qr rfl))|exact(Mz0.load (k:=0) rfl (Qj Qr rfl))) (Ji rfl) rfl Qo fun _ K=>?_
 obtain⟨v45,st45,ev45,rfl,q45⟩:=Vo (x:=(QQ (QP (.mk o35 s35 z35 a35 l35)))) (o:=o) (y:=(QQ (QP (.mk o42 s42 z42 a42 l42)))) M.fresh (zy hso) Qk Qk;refine qA rfl K (Qh rfl ev45) fun _ K=>?_;replace M:=M.quiet q45;have hsg:=WX o;have ho6:=((zy hso)).2;have Mp:=Mq;have Mq:=M;have Mz3:=M;refine q1 rfl K (JL rfl) fun _ K=>QZ ?_;show W _ _ _ _ _ _ _;refine Qg 0 K M ?_;obtain⟨e1,e2⟩:=fj hl0 hi35 hi42;exact⟨by rw[htt,e1,e2],M.qt⟩
end
end Go.Proofs.YthjgndgnmkiaiaaGreatDoor
