/-
  What is shown, as 'sibylref5' shows it: terms.
-/
import Derived.Test.YtmgkfceomhagaaaGreatDoorPsShT
import Derived.Test.YtmgkfceomhagaaaGreatDoorPsPpC
namespace Go.Proofs.YtmgkfceomhagaaaGreatDoor
open Go Go.RowKit
set_option maxHeartbeats 8000000
set_option linter.unusedVariables false
set_option linter.unusedSimpArgs false
set_option linter.unnecessarySimpa false
set_option linter.unusedSectionVars false
set_option maxRecDepth 100000

theorem Tw: ∀z:Nat,(Y1 z).length≤z+1:=fun z=>by
 refine Nat.strongRecOn (motive:=fun z=>(Y1 z).length≤z+1) z fun z ih=>?_;rw[Y1]
 split
 ·simp
 ·have:=ih (z/10) Qq;rw[List.length_append,List.length_singleton];omega
theorem Ao(z:Int)(h:z≤99):(Y1 z.toNat).length≤100:=Nat.le_trans (Tw _) Qq
theorem CP: ∀(l:List Nd) (i:Nat),Eo (l.take i)≤Eo l
 |[],i=>by simp
 |k::l,0=>by simp[Eo]
 |k::l,i+1=>by
  have:=CP l i;rw[List.take_succ_cons,Eo,Eo];omega
theorem SM{l:List Nd}(hT: ∀k∈l,Ji k=true)(hz:Eo l≤1000)(i:Nat):(Uc (Zk (J5 (l.take i)))).length≤2040000:=by
 have h1:=Iw (J5 (l.take i))
 have h2:=EM (B:=2040) (l.take i) fun k hk=>by
  have:=VG _ k (Nat.le_refl _) (hT k (List.mem_of_mem_take hk));omega
 have h3:=CP l i;have h4:2040 *Eo (l.take i)≤2040 *1000:=Nat.mul_le_mul_left _ Qq;omega
theorem Wp{k:Nd}(h:Ji k=true)(hz:Xl k≤1000):(Uc (Jp k)).length≤2040000:=by
 have:=VG _ k (Nat.le_refl _) h;have h4:2040 *Xl k≤2040 *1000:=Nat.mul_le_mul_left _ hz;omega

theorem MZ(z:Nat): ∀(st:St),QC st→z≤1000000→ ∃v st',Ev Tryz.prog Jy 15 [iN z] st v st'∧v=.str (Y1 z)∧Qt st st':=by
 refine Nat.strongRecOn (motive:=fun z=> ∀(st:St),QC st→z≤1000000→ ∃v st',Ev Tryz.prog Jy 15 [iN z] st v st'∧v=.str (Y1 z)∧Qt st st') z (fun z ih=>?_);intro st hf hz;refine Zw Tryz.func15 Tryz.ntmps15 fun T K=>?_;have M:=Mem.start hf;refine Qf 2 K M fun _ K=>?_;refine p1 K (SY (a:=z) (b:=10) rfl rfl Qz) fun _ K=>p1 K (ua (a:=48) (b:=((z % 10:Nat):Int)) rfl rfl Qq Qq) fun _ K=>p1 K (NK (c:=(48+((z % 10:Nat):Int))) XT Nl rfl (IntWalk.u8_in _ Qq)) fun _ K=>?_;refine au 1 K M ?_;intro c8 _ _ K _ M;refine p1 K (F8 Vz XT UF rfl (Jh.Vr (M.Ql (k:=0) rfl)) (show 48+z % 10≤255 by omega)) fun _ K=>?_;refine Qf 3 K M fun _ K=>?_;refine XR K rfl (fun h11=>?_) fun h11=>?_
 ·refine Qf 2 K M ?_;refine⟨?_,M.qt⟩;rw[Y1,if_pos Qq,Nat.mod_eq_of_lt Qq]
 refine Qf 1 K M fun _ K=>?_;refine p1 K (Ta (a:=z) (b:=10) rfl rfl Qq Qz) fun _ K=>?_;refine oQ K M (ih (z/10) Qq _ M.fresh Qq) rfl rfl fun _ _ K M=>?_;have hdl:(Y1 (z/10)).length≤1000000:=Nat.le_trans (Tw (z/10)) Qq;refine Qf 1 K M fun _ K=>?_;refine p1 K (QS rfl rfl (by first|omega|(simp only[List.length_append,List.length_cons,List.length_nil];omega))) fun _ K=>?_;refine Qf 1 K M ?_;refine⟨?_,M.qt⟩;rw[show Y1 z=Y1 (z/10)++[48+z % 10] by rw[Y1,if_neg Qq]]

theorem Ip{st:St}(hf:QC st)(o:List Nat)(ho:o≠[109,105,110,117,115]): ∃v st',Ev Tryz.prog Jy 17 [.str o] st v st'∧v=.str (Pc.tx (XI o))∧Qt st st':=by
 refine Zw Tryz.func17 Tryz.ntmps17 fun T K=>?_;have M:=Mem.start hf;refine au 2 K M ?_;intro c6 _ _ K _ M;replace M:Mem st.h.get st.n [] _ [(c6,0,[.str [97,110,100],.str [111,114],.str [105,109,112],.str [105,102,102],.str [101,113],.str [110,101],.str [108,116],.str [108,101]])]:=M;refine au 2 K M ?_;intro c7 _ _ K _ M;replace M:Mem st.h.get st.n [] _ [(c7,0,[.str [38],.str [124],.str [61,62],.str [60,61,62],.str [61],.str [126,61],.str [60],.str [60,61]]),(c6,0,[.str [97,110,100],.str [111,114],.str [105,109,112],.str [105,102,102],.str [101,113],.str [110,101],.str [108,116],.str [108,101]])]:=M;refine Qf 2 K M fun _ K=>?_;refine J1 ?_;refine Qf 4 K M fun _ K=>?_;refine Uj K rfl (fun h11=>?_) fun h11=>?_
 ·have hb11:=h11;replace h11:=of_decide_eq_true h11;refine Qf 2 K M fun _ K=>?_;refine p1 K (Qo QM rfl rfl Qz) fun _ K=>?_;refine Qf 3 K M fun _ K=>?_;refine Uj K rfl (fun h19=>?_) fun h19=>?_
  ·have hb19:=h19;replace h19:=of_decide_eq_true h19;refine Qf 2 K M fun _ K=>?_;refine p1 K (Qo QM rfl rfl Qz) fun _ K=>?_;refine Qf 2 K M ?_;refine⟨congrArg AV.str ?_,M.qt⟩;unfold XI
   first|(subst_vars;rfl)|(subst_vars;decide)|(simp_all [Pc.tx];done)|(have hs:=fun(x:List Nat) (h: ¬x=o)=>fun e:o=x=>h e.symm;simp_all [Pc.tx])
  have hb19:=h19;replace h19:=of_decide_eq_false h19;refine Qf 3 K M fun _ K=>?_;refine J1 ?_;refine Qf 4 K M fun _ K=>?_;refine Uj K rfl (fun h11=>?_) fun h11=>?_
  ·have hb11:=h11;replace h11:=of_decide_eq_true h11;refine Qf 2 K M fun _ K=>?_;refine p1 K (Qo QM rfl rfl Qz) fun _ K=>?_;refine Qf 3 K M fun _ K=>?_;refine Uj K rfl (fun h19=>?_) fun h19=>?_
   ·have hb19:=h19;replace h19:=of_decide_eq_true h19;refine Qf 2 K M fun _ K=>?_;refine p1 K (Qo QM rfl rfl Qz) fun _ K=>?_;refine Qf 2 K M ?_;refine⟨congrArg AV.str ?_,M.qt⟩;unfold XI
    first|(subst_vars;rfl)|(subst_vars;decide)|(simp_all [Pc.tx];done)|(have hs:=fun(x:List Nat) (h: ¬x=o)=>fun e:o=x=>h e.symm;simp_all [Pc.tx])
   have hb19:=h19;replace h19:=of_decide_eq_false h19;refine Qf 3 K M fun _ K=>?_;refine J1 ?_;refine Qf 4 K M fun _ K=>?_;refine Uj K rfl (fun h11=>?_) fun h11=>?_
   ·have hb11:=h11;replace h11:=of_decide_eq_true h11;refine Qf 2 K M fun _ K=>?_;refine p1 K (Qo QM rfl rfl Qz) fun _ K=>?_;refine Qf 3 K M fun _ K=>?_;refine Uj K rfl (fun h19=>?_) fun h19=>?_
    ·have hb19:=h19;replace h19:=of_decide_eq_true h19;refine Qf 2 K M fun _ K=>?_;refine p1 K (Qo QM rfl rfl Qz) fun _ K=>?_;refine Qf 2 K M ?_;refine⟨congrArg AV.str ?_,M.qt⟩;unfold XI
     first|(subst_vars;rfl)|(subst_vars;decide)|(simp_all [Pc.tx];done)|(have hs:=fun(x:List Nat) (h: ¬x=o)=>fun e:o=x=>h e.symm;simp_all [Pc.tx])
    have hb19:=h19;replace h19:=of_decide_eq_false h19;refine Qf 3 K M fun _ K=>?_;refine J1 ?_;refine Qf 4 K M fun _ K=>?_;refine Uj K rfl (fun h11=>?_) fun h11=>?_
    ·have hb11:=h11;replace h11:=of_decide_eq_true h11;refine Qf 2 K M fun _ K=>?_;refine p1 K (Qo QM rfl rfl Qz) fun _ K=>?_;refine Qf 3 K M fun _ K=>?_;refine Uj K rfl (fun h19=>?_) fun h19=>?_
     ·have hb19:=h19;replace h19:=of_decide_eq_true h19;refine Qf 2 K M fun _ K=>?_;refine p1 K (Qo QM rfl rfl Qz) fun _ K=>?_;refine Qf 2 K M ?_;refine⟨congrArg AV.str ?_,M.qt⟩;unfold XI
      first|(subst_vars;rfl)|(subst_vars;decide)|(simp_all [Pc.tx];done)|(have hs:=fun(x:List Nat) (h: ¬x=o)=>fun e:o=x=>h e.symm;simp_all [Pc.tx])
     have hb19:=h19;replace h19:=of_decide_eq_false h19;refine Qf 3 K M fun _ K=>?_;refine J1 ?_;refine Qf 4 K M fun _ K=>?_;refine Uj K rfl (fun h11=>?_) fun h11=>?_
     ·have hb11:=h11;replace h11:=of_decide_eq_true h11;refine Qf 2 K M fun _ K=>?_;refine p1 K (Qo QM rfl rfl Qz) fun _ K=>?_;refine Qf 3 K M fun _ K=>?_;refine Uj K rfl (fun h19=>?_) fun h19=>?_
      ·have hb19:=h19;replace h19:=of_decide_eq_true h19;refine Qf 2 K M fun _ K=>?_;refine p1 K (Qo QM rfl rfl Qz) fun _ K=>?_;refine Qf 2 K M ?_;refine⟨congrArg AV.str ?_,M.qt⟩;unfold XI
       first|(subst_vars;rfl)|(subst_vars;decide)|(simp_all [Pc.tx];done)|(have hs:=fun(x:List Nat) (h: ¬x=o)=>fun e:o=x=>h e.symm;simp_all [Pc.tx])
      have hb19:=h19;replace h19:=of_decide_eq_false h19;refine Qf 3 K M fun _ K=>?_;refine J1 ?_;refine Qf 4 K M fun _ K=>?_;refine Uj K rfl (fun h11=>?_) fun h11=>?_
      ·have hb11:=h11;replace h11:=of_decide_eq_true h11;refine Qf 2 K M fun _ K=>?_;refine p1 K (Qo QM rfl rfl Qz) fun _ K=>?_;refine Qf 3 K M fun _ K=>?_;refine Uj K rfl (fun h19=>?_) fun h19=>?_
       ·have hb19:=h19;replace h19:=of_decide_eq_true h19;refine Qf 2 K M fun _ K=>?_;refine p1 K (Qo QM rfl rfl Qz) fun _ K=>?_;refine Qf 2 K M ?_;refine⟨congrArg AV.str ?_,M.qt⟩;unfold XI
        first|(subst_vars;rfl)|(subst_vars;decide)|(simp_all [Pc.tx];done)|(have hs:=fun(x:List Nat) (h: ¬x=o)=>fun e:o=x=>h e.symm;simp_all [Pc.tx])
       have hb19:=h19;replace h19:=of_decide_eq_false h19;refine Qf 3 K M fun _ K=>?_;refine J1 ?_;refine Qf 4 K M fun _ K=>?_;refine Uj K rfl (fun h11=>?_) fun h11=>?_
       ·have hb11:=h11;replace h11:=of_decide_eq_true h11;refine Qf 2 K M fun _ K=>?_;refine p1 K (Qo QM rfl rfl Qz) fun _ K=>?_;refine Qf 3 K M fun _ K=>?_;refine Uj K rfl (fun h19=>?_) fun h19=>?_
        ·have hb19:=h19;replace h19:=of_decide_eq_true h19;refine Qf 2 K M fun _ K=>?_;refine p1 K (Qo QM rfl rfl Qz) fun _ K=>?_;refine Qf 2 K M ?_;refine⟨congrArg AV.str ?_,M.qt⟩;unfold XI
         first|(subst_vars;rfl)|(subst_vars;decide)|(simp_all [Pc.tx];done)|(have hs:=fun(x:List Nat) (h: ¬x=o)=>fun e:o=x=>h e.symm;simp_all [Pc.tx])
        have hb19:=h19;replace h19:=of_decide_eq_false h19;refine Qf 3 K M fun _ K=>?_;refine J1 ?_;refine Qf 4 K M fun _ K=>?_;refine Uj K rfl (fun h11=>?_) fun h11=>?_
        ·have hb11:=h11;replace h11:=of_decide_eq_true h11;refine Qf 2 K M fun _ K=>?_;refine p1 K (Qo QM rfl rfl Qz) fun _ K=>?_;refine Qf 3 K M fun _ K=>?_;refine Uj K rfl (fun h19=>?_) fun h19=>?_
         ·have hb19:=h19;replace h19:=of_decide_eq_true h19;refine Qf 2 K M fun _ K=>?_;refine p1 K (Qo QM rfl rfl Qz) fun _ K=>?_;refine Qf 2 K M ?_;refine⟨congrArg AV.str ?_,M.qt⟩;unfold XI
          first|(subst_vars;rfl)|(subst_vars;decide)|(simp_all [Pc.tx];done)|(have hs:=fun(x:List Nat) (h: ¬x=o)=>fun e:o=x=>h e.symm;simp_all [Pc.tx])
         have hb19:=h19;replace h19:=of_decide_eq_false h19;refine Qf 3 K M fun _ K=>?_;refine J1 ?_;refine Qf 4 K M fun _ K=>?_;refine Uj K rfl (fun h11=>?_) fun h11=>?_
         ·have hb11:=h11;replace h11:=of_decide_eq_true h11
          exfalso;omega
         have hb11:=h11;replace h11:=of_decide_eq_false h11;refine Un ?_;show W _ _ _ _ _ _ _;refine Qf 2 K M ?_;refine⟨congrArg AV.str ?_,M.qt⟩;unfold XI
         first|(subst_vars;rfl)|(subst_vars;decide)|(simp_all [Pc.tx];done)|(have hs:=fun(x:List Nat) (h: ¬x=o)=>fun e:o=x=>h e.symm;simp_all [Pc.tx])
        have hb11:=h11;replace h11:=of_decide_eq_false h11
        exfalso;omega
       have hb11:=h11;replace h11:=of_decide_eq_false h11
       exfalso;omega
      have hb11:=h11;replace h11:=of_decide_eq_false h11
      exfalso;omega
     have hb11:=h11;replace h11:=of_decide_eq_false h11
     exfalso;omega
    have hb11:=h11;replace h11:=of_decide_eq_false h11
    exfalso;omega
   have hb11:=h11;replace h11:=of_decide_eq_false h11
   exfalso;omega
  have hb11:=h11;replace h11:=of_decide_eq_false h11
  exfalso;omega
 have hb11:=h11;replace h11:=of_decide_eq_false h11
 exfalso;omega

theorem SF{st:St}(hf:QC st){l:List Nd}{kk:AV}{ls:List (List AV)}(hK:F1 st.h.get l kk ls)(hTm: ∀k∈l,Ji k=true)(hz:Eo l≤1000)(hC: ∀(k:Nd),k∈l→ ∀(st1:St) (cs:List AV),QC st1→VD st1.h.get k cs→ ∃v st',Ev Tryz.prog Jy 18 [.agg cs] st1 v st'∧v=.str (Uc (Jp k))∧Qt st1 st'): ∃v st',Ev Tryz.prog Jy 16 [kk] st v st'∧v=.str (Uc (Zk (J5 l)))∧Qt st st':=by
 have hln:=hK.ln;have hbn:=hK.Na;refine Zw Tryz.func16 Tryz.ntmps16 fun T K=>?_;have M:=Mem.start hf;refine Qf 3 K M fun _ K=>?_;refine UM (fun mm1 T st9=> ∃(i:Nat) (w:List Nat),mm1=l.length-i∧JC [(0,kk),(2,.str []),(3,.str w),(4,iN i)] T∧Mem st.h.get st.n [] st9 []∧i≤l.length∧w=Uc (Zk (J5 (l.take i)))) (fun mm1 T st9 hI=>?_) _ _ _ ⟨0,[],rfl,(K.sub rfl),M.less (.refl _),(Nat.zero_le _),(by simp[J5,Zk,Uc])⟩;obtain⟨i,w,rfl,K,M,hi,hw⟩:=hI;have hwl:=SM hTm hz i;rw[←hw]at hwl;refine Qf 2 K M fun _ K=>?_;refine p1 K (JJ Jr rfl rfl hK.len) fun _ K=>?_;refine Qf 1 K M fun _ K=>?_;refine XR K rfl (fun h8=>?_) fun h8=>?_
 ·refine Qf 2 K M fun _ K=>?_;refine XR K rfl (fun h12=>?_) fun h12=>?_
  ·refine Qf 1 K M fun _ K=>?_;refine p1 K (QS (b:=[44,32]) rfl rfl (by first|omega|(simp only[List.length_append,List.length_cons,List.length_nil];omega))) fun _ K=>?_;refine Qf 4 K M fun _ K=>?_;obtain⟨⟨o18,s18,z18,a18,l18⟩,hi18⟩: ∃k,l[i]? =some k:=⟨_,List.getElem?_eq_getElem (by first|omega|(have:=bare_len (m:=1) (l:=l) (by assumption);omega)|(have:=bare_len (m:=2) (l:=l) (by assumption);omega)|(have:=QL (m:=1) (l:=l) (by assumption);omega))⟩;have hm18:=JG hi18;obtain⟨_,hc18,hn18⟩:=hK.at_ _ _ hi18;have hp18:=hn18;obtain⟨kk18,ls18,rfl,hK18,hb18⟩:=hp18.JT;obtain⟨x18,m18,f18,q18,_,la18,lo18,lp18⟩:=(hK.r.mem M Q3).load (i:=i) (cs:=_) hc18;refine p1 K (Qo (j:=i) QN (congrArg some q18) rfl (by rw[hK.ln];first|omega|(have:=bare_len (m:=1) (l:=l) (by assumption);omega)|(have:=bare_len (m:=2) (l:=l) (by assumption);omega)|(have:=QL (m:=1) (l:=l) (by assumption);omega))) fun _ K=>p1 K (Je rfl (la18 _ Qp)) fun _ K=>?_;obtain⟨v20,st20,ev20,rfl,q20⟩:=hC _ hm18 _ _ M.fresh (hn18.mono M.rows);refine p1 K (Qe rfl ev20) fun _ K=>?_;replace M:=M.quiet q20;have hkl:=Wp (hTm _ hm18) (Nat.le_trans (Nat.le_of_lt_succ (Nat.lt_succ_of_le (Ed hm18))) hz);refine p1 K (QS rfl rfl (by first|omega|(simp only[List.length_append,List.length_cons,List.length_nil];omega))) fun _ K=>?_;refine Qf 4 K M fun _ K=>?_;exact⟨_,Qq,i+1,(((w++[44,32])++(Uc (Jp (.mk o18 s18 z18 a18 l18))))),rfl,(K.sub rfl),M.less (.refl _),Qq,(by rw[Dj hi18,if_pos Qq,←hw])⟩
  refine Qf 3 K M fun _ K=>?_;obtain⟨⟨o18,s18,z18,a18,l18⟩,hi18⟩: ∃k,l[i]? =some k:=⟨_,List.getElem?_eq_getElem (by first|omega|(have:=bare_len (m:=1) (l:=l) (by assumption);omega)|(have:=bare_len (m:=2) (l:=l) (by assumption);omega)|(have:=QL (m:=1) (l:=l) (by assumption);omega))⟩;have hm18:=JG hi18;obtain⟨_,hc18,hn18⟩:=hK.at_ _ _ hi18;have hp18:=hn18;obtain⟨kk18,ls18,rfl,hK18,hb18⟩:=hp18.JT;obtain⟨x18,m18,f18,q18,_,la18,lo18,lp18⟩:=(hK.r.mem M Q3).load (i:=i) (cs:=_) hc18;refine p1 K (Qo (j:=i) QN (congrArg some q18) rfl (by rw[hK.ln];first|omega|(have:=bare_len (m:=1) (l:=l) (by assumption);omega)|(have:=bare_len (m:=2) (l:=l) (by assumption);omega)|(have:=QL (m:=1) (l:=l) (by assumption);omega))) fun _ K=>p1 K (Je rfl (la18 _ Qp)) fun _ K=>?_;obtain⟨v20,st20,ev20,rfl,q20⟩:=hC _ hm18 _ _ M.fresh (hn18.mono M.rows);refine p1 K (Qe rfl ev20) fun _ K=>?_;replace M:=M.quiet q20;have hkl:=Wp (hTm _ hm18) (Nat.le_trans (Nat.le_of_lt_succ (Nat.lt_succ_of_le (Ed hm18))) hz);refine p1 K (QS rfl rfl (by first|omega|(simp only[List.length_append,List.length_cons,List.length_nil];omega))) fun _ K=>?_;refine Qf 4 K M fun _ K=>?_;exact⟨_,Qq,i+1,((w++(Uc (Jp (.mk o18 s18 z18 a18 l18))))),rfl,(K.sub rfl),M.less (.refl _),Qq,(by rw[Dj hi18,if_neg Qq,←hw])⟩
 refine Un ?_;show W _ _ _ _ _ _ _;refine Qf 2 K M ?_;refine⟨?_,M.qt⟩;rw[hw,List.take_of_length_le Qq]
end Go.Proofs.YtmgkfceomhagaaaGreatDoor
