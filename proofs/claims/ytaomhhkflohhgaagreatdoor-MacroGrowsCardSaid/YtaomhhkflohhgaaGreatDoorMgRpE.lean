/-
  The reference's parser: programs. What is read: 'parseN'.
-/
import Derived.Test.YtaomhhkflohhgaaGreatDoorMgRpD
namespace Go.Proofs.YtaomhhkflohhgaaGreatDoor
open Go Go.RowKit
set_option maxHeartbeats 8000000
set_option linter.unusedVariables false
set_option linter.unusedSimpArgs false
set_option linter.unnecessarySimpa false
set_option linter.unusedSectionVars false
set_option maxRecDepth 100000
variable {X:List Nat} {h0:Hp} {n0:Nat} {st:St}

def Yk.tk(t:Yk):Tk:=⟨t.kind,YP t.text,t.num,t.at'⟩
def VP(l:List Nat):List Tk:=(tokens (bytesOf l)).1.map Yk.tk
def Ds:Pg:=⟨[],[],YT⟩
def UJ(l:List Nat):Pg×Int×Int:=
 if(tokens (bytesOf l)).2.2≠0 then(Ds,(tokens (bytesOf l)).2.1,(tokens (bytesOf l)).2.2)
 else if(X6 (VP l)).1.e≠0 then(Ds,(X6 (VP l)).1.a,(X6 (VP l)).1.e)else((X6 (VP l)).2,((l.length:Nat):Int),0)
theorem qu(l:List Nat):(tokens (bytesOf l)).1.map Yk.cells=(VP l).map Tk.cells:=by rw[VP,List.map_map];rfl
theorem qm(s:ByteArray)(h:(tokens s).2.2=0): ∃a,(tokens s).1=a++[A3 s]:=by
 by_cases hl:2000<s.size
 ·rw[C9 hl]at h;exact absurd h (show¬(3:Int)=0 by decide)
 ·rcases hx:WL s (Je s (each s).2) ((each s).1.length+1) ((each s).1.drop (QY false (each s).1))with⟨a,p⟩
  cases a with
  |none=>rw[RZ hl hx]at h;exact absurd h (show¬(2:Int)=0 by decide)
  |some a=>
   cases hq:(each s).2 with
   |some q=>rw[RX hl hx hq]at h;exact absurd h (show¬(2:Int)=0 by decide)
   |none=>rw[RY hl hx hq];exact⟨a,rfl⟩
theorem RW(l:List Nat)(h:(tokens (bytesOf l)).2.2=0):Y2 (VP l)∧0<(VP l).length:=by
 obtain⟨a,ha⟩:=qm _ h;have hlen:=Nh (bytesOf l)
 have hl:VP l=a.map Yk.tk++[(A3 (bytesOf l)).tk]:=by rw[VP,ha,List.map_append];rfl
 refine⟨⟨fun j t hj hk=>?_,fun t ht=>?_,by rw[VP,List.length_map];omega⟩,by rw[hl];simp⟩
 ·have h1:=(List.getElem?_eq_some_iff.1 hj).1;rw[hl]at hj h1 ⊢;rw[List.length_append,List.length_singleton]at h1 ⊢
  by_cases he:j=(a.map Yk.tk).length
  ·subst he;rw[List.getElem?_append_right (Nat.le_refl _),Nat.sub_self]at hj
   injection hj with hj
   subst hj;exact absurd rfl hk
  ·omega
 ·obtain⟨x,_,rfl⟩:=List.mem_map.1 ht;exact AB _
section
variable {L:List Tk} {S:PS} {k:Nat} {o:Int}
theorem zp(hO:Y2 L)(h:(QK L S).e=0):S.i<(QK L S).i:=by
 unfold QK at h ⊢
 split at h
 ·rename_i hk;unfold Qy at h
  split at h
  ·exact absurd h (show¬(2:Int)=0 by decide)
  ·contradiction
 ·rename_i hk
  have hk1:(Qd L S).k=1:=by omega
  rw[if_neg Qh];refine Sv Qh ?_
  by_cases he:S.e=0
  ·exact he
  ·rw[LR he]at hk1;exact absurd hk1 QT
theorem Ot(hO:Y2 L): ∀f S l,(YI L o f S l).2.length+S.i≤l.length+(YI L o f S l).1.i+1
 |0,S,l=>by rw[YI];simp only;omega
 |f+1,S,l=>by
  rw[YI]
  split
  ·simp only;omega
  split
  ·rename_i hw;have h1:=Ot hO f (Qb L (QK L S)) (l++[⟨(QG L S).s,o,(QG L S).a⟩]);have h2:=VT hO hw;have h3:=zp hO (uf hw);rw[List.length_append,List.length_singleton]at h1;omega
  ·have h1:=(Jk hO.t S).1;have h2:=(JO hO.t (QK L S) [59]).1;rw[List.length_append,List.length_singleton];simp only;omega
theorem DO(hO:Y2 L)(h:0≤QD L S [118,97,114]):(UT L S).2.length+S.i≤(UT L S).1.i:=by
 have h1:=Ot (o:=QD L S [118,97,114]) hO (L.length+1) (Qb L S) [];have h2:=N7 hO h;show(YI L _ (L.length+1) (Qb L S) []).2.length+S.i≤(YI L _ (L.length+1) (Qb L S) []).1.i;simp only[List.length_nil]at h1;omega
theorem SN(hO:Y2 L)(h:0≤QD L S [118,97,114]):S.i<(UT L S).1.i:=Nat.lt_of_lt_of_le (N7 hO h) (I6 hO.t _ _ _ _).1
theorem pred_lt(hO:Y2 L){w:List Nat}(h:Yv L S w=true):S.i<(JW L S).1.i:=by
 refine Nat.lt_of_lt_of_le (VT hO h) ?_;unfold JW;exact((((((Jk hO.t _).trans (JO hO.t _ _)).trans (Ec hO.t _)).trans (JO hO.t _ _)).trans (YC hO.t _ _ _)).trans (JO hO.t _ _)).1
theorem ZH{ds:List Dc}{ps:List Pd}(h: ¬S.e=0∨(Yv L S [112,114,101,100]=false∧QD L S [118,97,114]<0)):Z0 L (k+1) S ds ps=(S,ds,ps):=by
 rw[Z0]
 by_cases he:S.e=0
 ·obtain⟨h1,h2⟩:=h.resolve_left (fun h=>h he);rw[if_neg (by simp[he]),if_neg (by simp[h1]),if_neg Qh]
 ·rw[if_pos he]
theorem Lr{ds:List Dc}{ps:List Pd}(h:Yv L S [112,114,101,100]=true):Z0 L (k+1) S ds ps=Z0 L k (JW L S).1 ds (ps++[(JW L S).2]):=by rw[Z0,if_neg (by simp[uf h]),if_pos h]
theorem Ls{ds:List Dc}{ps:List Pd}(he:S.e=0)(h:Yv L S [112,114,101,100]=false)(ho:0≤QD L S [118,97,114]):Z0 L (k+1) S ds ps=Z0 L k (UT L S).1 (ds++(UT L S).2) ps:=by rw[Z0,if_neg (by simp[he]),if_neg (by simp[h]),if_pos ho]
theorem VD{S4:PS}{ds:List Dc}{ps:List Pd}(h:Z0 L (L.length+1) ⟨0,0,0⟩ [] []=(S,ds,ps))(h4:(if(Qd L (Q6 L (Qs L L.length S 0).1 [59])).k≠4 then Qy (Q6 L (Qs L L.length S 0).1 [59]) (Qd L (Q6 L (Qs L L.length S 0).1 [59])).a 2 else Q6 L (Qs L L.length S 0).1 [59])=S4):
  X6 L=(S4,⟨ds,ps,(Qs L L.length S 0).2⟩):=by
 unfold X6;simp only[h,h4]
end
def Gm(R:Xh)(ps:List Pd)(lsp:List (List AV)):Prop:= ∀(i:Nat) (p:Pd) (cs:List AV),ps[i]? =some p→lsp[i]? =some cs→xv R p cs
theorem Gm.nil{R:Xh}{lsp:List (List AV)}:Gm R [] lsp:=fun i p cs h=>by simp at h
theorem Gm.mono{R R':Xh}(h: ∀c m l,R c m l→R' c m l){ps:List Pd}{lsp:List (List AV)}(r:Gm R ps lsp):Gm R' ps lsp:=fun i p cs h1 h2=>(r i p cs h1 h2).mono h
theorem Gm.snoc{R:Xh}{A B:JJ}{ps:List Pd}{lsp:List (List AV)}{p:Pd}{cs:List AV}(h:Gm (JX R B) ps lsp)(hl:lsp.length=ps.length)(hp:xv (JX R A) p cs):Gm (JX R (B++A)) (ps++[p]) (lsp++[cs]):=by
 intro i q cs' h1 h2
 by_cases hi:i<ps.length
 ·rw[List.getElem?_append_left hi]at h1;rw[List.getElem?_append_left Qh]at h2;exact(h i q cs' h1 h2).mono (Q2 (fun _ _ _ h=>h) fun x hx=>List.mem_append_left _ hx)
 ·have hi2:=(List.getElem?_eq_some_iff.1 h1).1;rw[List.length_append,List.length_singleton]at hi2
  have hi3:i=ps.length:=by omega
  subst hi3;rw[List.getElem?_append_right (Nat.le_refl _),Nat.sub_self]at h1;rw[List.getElem?_append_right Qh,hl,Nat.sub_self]at h2
  injection h1 with h1
  injection h2 with h2
  subst h1 h2;exact hp.mono (Q2 (fun _ _ _ h=>h) fun x hx=>List.mem_append_right _ hx)
def yw(R:Xh)(g:Pg)(cs:List AV):Prop:= ∃kd kp o s z a kk lsp,cs=[kd,kp,.str o,.str s,.int .i64 z,.int .i64 a,kk]∧(∃A,(∀x∈A,R x.1 x.2.1 x.2.2)∧ ∃n0,Acc n0 3 A kd (g.decls.map Dc.cells))∧(∃A,(∀x∈A,R x.1 x.2.1 x.2.2)∧ ∃n0,Acc n0 8 A kp lsp)∧lsp.length=g.preds.length∧Gm R g.preds lsp∧Uo R g.main [.str o,.str s,.int .i64 z,.int .i64 a,kk]
theorem yw.none{R:Xh}:yw R Ds [.nils,.nils,.str [],.str [],.int .i64 0,.int .i64 0,.nils]:=
 ⟨_,_,_,_,_,_,_,[],rfl,⟨[],by simp,0,.none⟩,⟨[],by simp,0,.none⟩,rfl,.nil,Ya ⟨Ql,Ql⟩⟩
theorem Mem.wX{n1 z:Nat}{M A:JJ}{ks:AV}{ls:List (List AV)}(h:Mem h0 n0 X st M)(hA:Acc n1 z A ks ls)(hs: ∀x∈A,x∈M):QS st.h.get [] z ls ks:=by
 cases hA with
 |none=>exact .nil _ _ _
 |own hc hz hb=>exact QS.own (h.row _ _ _ (hs _ (List.mem_singleton.2 rfl))) hz Q3 Qh
theorem Mem.Hn{n1 z cp:Nat}{M A:JJ}{ks:AV}{ls:List (List AV)}(h:Mem h0 n0 X st M)(hA:Acc n1 z A ks ls)(hne: ∀x∈A,x.1≠cp)(hs: ∀x∈A,x∈M):QS st.h.get [cp] z ls ks:=by
 cases hA with
 |none=>exact .nil _ _ _
 |own hc hz hb=>exact QS.own (h.row _ _ _ (hs _ (List.mem_singleton.2 rfl))) hz (by simpa using hne _ (List.mem_singleton.2 rfl)) Qh
theorem Mem.eL{M:JJ}{c m:Nat}{l:List AV}(h:Mem h0 n0 X st ((c,m,l)::M)): ∀x∈M,x.1≠c:=fun x hx e=>by
 have:=h.nodup;rw[List.map_cons,List.nodup_cons]at this;exact this.1 (List.mem_map.2 ⟨x,hx,e⟩)
theorem uU{l:List Dc}: ∀cs∈l.map Dc.cells,cs.length=3:=by
 intro cs hc;obtain⟨x,_,rfl⟩:=List.mem_map.1 hc;rfl

theorem je(hf:Qw st)(l:List Nat)(hB:Bytes l)(hl:l.length≤140737488351232): ∃v st',Ev Tryz.prog QR 10 [.str l] st v st'∧ ∃cs,v=.tup [.agg cs,iZ (UJ l).2.1,iZ (UJ l).2.2]∧(∃A,P3 st.n st' A∧yw (JX R0 A) (UJ l).1 cs)∧Qt st st':=by
 refine Yu Tryz.func10 Tryz.ntmps10 fun T K=>?_;have M:=Mem.start hf;refine au 4 K M ?_;intro c2 _ _ K _ M;obtain⟨v12,st12,ev12,ks12,rfl,nr12,q12⟩:=PL M.fresh l hB;refine p1 K (Qe rfl ev12) fun _ K=>?_;obtain⟨A12,hA12,M⟩:=M.Wp q12 nr12;refine Qc 9 K M fun _ K=>?_;refine C5 K rfl (fun h17=>?_) fun h17=>?_
 ·refine au 6 K M ?_;intro _ _ K _ M;refine Jv ⟨.inr rfl,_,(Ua (JC K rfl (M.load (k:=0) rfl (QA Ys rfl))) (QF K rfl) (QF K rfl)),?_⟩;exact⟨_,by rw[UJ,if_pos (by simp_all)],⟨[],M.KI (List.nil_sublist _),by rw[UJ,if_pos (by simp_all)];exact yw.none⟩,M.qt⟩
 refine Qc 1 K M fun _ K=>?_;refine p1 K (Fx VZ rfl ((ES rfl hA12.cell rfl).trans rfl)) fun _ K=>?_;refine J3 K M rfl (Qa hA12.cell (Qa rfl (Qa rfl (Qa rfl Qo)))) QT fun c23 _ _ K M=>?_;refine au 4 K M ?_;intro c9 _ _ K _ M
 have hE:(tokens (bytesOf l)).2.2=0:=by simp_all
 obtain⟨hO,h0⟩:=RW l hE;rw[qu]at hA12;obtain⟨L,hLe⟩: ∃L,L=VP l:=⟨_,rfl⟩;rw[←hLe]at hO h0 hA12;have hne: ∀x∈A12,x.1≠c23:=fun x hx=>(M.perm (List.Perm.swap _ _ _)).eL x (by simp[hx]);refine JQ (fun mm1 T st9=> ∃(S1:PS) (kd:AV) (kp:AV) (A1:JJ) (A2:JJ) (ds:List Dc) (ps:List Pd) (lsp:List (List AV)) (B:JJ) (k:Nat),mm1=k+1∧Jr [(0,.str l),(2,.ptr c2 0 0),(3,iZ 0),(4,iZ 0),(8,.ptr c23 0 0),(9,.ptr c9 0 0)] T∧Mem st.h.get st.n [] st9 ((c9,0,[kd,kp,.str [],.str [],iZ 0,iZ 0,.nils])::(c23,0,[ks12,iZ (S1.i:Nat),iZ (S1.e),iZ (S1.a)])::(c2,0,[.nils,.nils,.str [],.str [],iZ 0,iZ 0,.nils])::(A12++(A1++(A2++(B++[])))))∧S1.i<L.length∧Acc st.n 3 A1 kd (ds.map Dc.cells)∧Acc st.n 8 A2 kp lsp∧lsp.length=ps.length∧Gm (JX R0 B) ps lsp∧ds.length≤S1.i∧ps.length≤S1.i∧L.length+1≤k+S1.i∧Z0 L (L.length+1) ⟨0,0,0⟩ [] []=Z0 L k S1 ds ps) (fun mm1 T st9 hI=>?_) _ _ _ ⟨⟨0,0,0⟩,.nils,.nils,[],[],[],[],[],[],L.length+1,rfl,(K.sub rfl),M.less (.refl _),h0,.none,.none,rfl,.nil,(Nat.le_refl _),(Nat.le_refl _),(Nat.le_refl _),rfl⟩;obtain⟨S1,kd,kp,A1,A2,ds,ps,lsp,B,k,rfl,K,M,hi1,hA1,hA2,hlp,hPA,hds,hps,hk1,hgo⟩:=hI;have hLn:=hO.n;obtain⟨k,rfl⟩: ∃j,k=j+1:=⟨k-1,by omega⟩;refine Qc 5 K M fun _ K=>?_;refine Eh K rfl (fun _ e30 K=>?_) fun _ e30 K=>?_
 ·refine Qc 9 K M fun _ K=>?_;refine Jx ?_;show W _ _ _ _ _ _ _;refine Qc 1 K M fun _ K=>?_;obtain⟨v55,st55,ev55,⟨on55,sn55,zn55,an55,ln55,kkn55,A55,en55,rfl,hS55,hN55⟩,q55,r55⟩:=(Io hO Qh (d:=0)) _ _ M.fresh (M.Hn hA12 hne (fun x hx=>by simp[hx])) hO (M.Qn (k:=1) rfl) hi1 (Nat.le_add_right _ _);refine p1 K (Qe rfl ev55) fun _ K=>?_;replace M:=M.Jd (k:=1) rfl q55 r55 hS55;replace M:=Mem.cast (M':=((c9,0,[kd,kp,.str [],.str [],iZ 0,iZ 0,.nils])::(c23,0,[ks12,iZ ((Qs L L.length S1 0).1.i:Nat),iZ ((Qs L L.length S1 0).1.e),iZ ((Qs L L.length S1 0).1.a)])::(c2,0,[.nils,.nils,.str [],.str [],iZ 0,iZ 0,.nils])::(A12++(A1++(A2++((B++A55)++[])))))) M Za;refine Qc 1 K M fun _ K=>?_;refine Qz (k:=0) K M rfl rfl rfl Qi rfl (Qa rfl (Qa rfl (Qa rfl (Qa rfl (Qa hN55.JK Qo))))) rfl fun _ M=>?_;refine Qc 1 K M fun _ K=>?_;obtain⟨v58,st58,ev58,rfl,q58,r58⟩:=Y9 M.fresh (M.Hn hA12 hne (fun x hx=>by simp[hx])) hO (M.Qn (k:=1) rfl) ((YC hO.t _ _ 0).2 hi1) [59];refine p1 K (Qe rfl ev58) fun _ K=>?_;replace M:=M.J8 (k:=1) rfl q58 r58;refine Qc 1 K M fun _ K=>?_;obtain⟨v60,st60,ev60,rfl,q60⟩:=Y6 M.fresh (M.Hn hA12 hne (fun x hx=>by simp[hx])) hO (M.Qn (k:=1) rfl) ((JO hO.t _ _).2 ((YC hO.t _ _ 0).2 hi1));refine p1 K (Qe rfl ev60) fun _ K=>?_;replace M:=M.quiet q60;refine p1 K (Yy rfl ((WO _).trans (Qj QH rfl))) fun _ K=>?_;refine Qc 1 K M fun _ K=>?_;refine JU K rfl (fun h62=>?_) fun h62=>?_
  ·have hb62:=h62
   replace h62: ¬((Qd L (Q6 L (Qs L L.length S1 0).1 [59])).k=4):=by simpa using h62
   refine Qc 2 K M fun _ K=>?_;obtain⟨v65,st65,ev65,rfl,q65⟩:=Y6 M.fresh (M.Hn hA12 hne (fun x hx=>by simp[hx])) hO (M.Qn (k:=1) rfl) ((JO hO.t _ _).2 ((YC hO.t _ _ 0).2 hi1));refine p1 K (Qe rfl ev65) fun _ K=>?_;replace M:=M.quiet q65;refine p1 K (Yy rfl ((U0 _).trans (Qj QH rfl))) fun _ K=>?_;obtain⟨v67,st67,ev67,rfl,q67,r67⟩:=UG M.fresh (M.Qn (k:=1) rfl) ((Qd L (Q6 L (Qs L L.length S1 0).1 [59])).a) 2;refine p1 K (Qe rfl ev67) fun _ K=>?_;replace M:=M.J8 (k:=1) rfl q67 r67;refine Qc 5 K M fun _ K=>?_;refine JU K rfl (fun h72=>?_) fun h72=>?_
   ·have hb72:=h72
    replace h72: ¬((Qy (Q6 L (Qs L L.length S1 0).1 [59]) ((Qd L (Q6 L (Qs L L.length S1 0).1 [59])).a) 2).e=0):=by simpa using h72
    refine UR ?_;refine Ja (l:=[(0,0),(9,0),(1,0),(2,0),(3,0),(4,1),(5,0),(6,0),(7,0),(8,1),(10,0),(11,0)]) (by kernel_rfl) ?_;have Mq:=M;refine Ui 1 K M fun _ K=>?_;refine JL (k:=2) rfl K M rfl rfl rfl UY rfl rfl rfl fun _ M=>?_;have Mp:=Mq;have Mq:=M;refine Ui 3 K M fun _ K=>?_;refine QL rfl K rfl (M.load (k:=1) rfl (Qj QH rfl)) (Mp.load (k:=1) rfl (Qj QH rfl)) (J2 rfl) rfl QT fun _ K=>?_;refine Ui 3 K M fun _ K=>?_;refine QL rfl K rfl (M.load (k:=1) rfl (Qj QH rfl)) (Mp.load (k:=1) rfl (Qj QH rfl)) (J2 rfl) rfl QT fun _ K=>?_;refine Ui 2 K M fun _ K=>?_;refine Ji ?_;show W _ _ _ _ _ _ _;refine Jv ⟨.inr rfl,_,(Ua (JC K rfl (M.load (k:=2) rfl (QA Ys rfl))) (QF K rfl) (QF K rfl)),?_⟩;have hP:X6 L=((Qy (Q6 L (Qs L L.length S1 0).1 [59]) ((Qd L (Q6 L (Qs L L.length S1 0).1 [59])).a) 2),⟨ds,ps,(Qs L L.length S1 0).2⟩):=VD (hgo.trans (ZH (by first|omega|(simp_all;done)|(simp_all;omega)))) (if_pos (by first|omega|(simp_all;done)|(simp_all;omega)))
    have hPN:UJ l=(Ds,((Qy (Q6 L (Qs L L.length S1 0).1 [59]) ((Qd L (Q6 L (Qs L L.length S1 0).1 [59])).a) 2)).a,((Qy (Q6 L (Qs L L.length S1 0).1 [59]) ((Qd L (Q6 L (Qs L L.length S1 0).1 [59])).a) 2)).e):=by rw[UJ,if_neg (by simp[hE]),←hLe,hP,if_pos (by first|omega|(simp_all;done)|(simp_all;omega))]
    rw[hPN];exact⟨_,rfl,⟨[],M.KI (List.nil_sublist _),yw.none⟩,M.qt⟩
   have hb72:=h72
   replace h72:((Qy (Q6 L (Qs L L.length S1 0).1 [59]) ((Qd L (Q6 L (Qs L L.length S1 0).1 [59])).a) 2).e=0):=by simpa using h72
   refine Qc 2 K M fun _ K=>?_;refine p1 K (Vz Up rfl rfl) fun _ K=>?_;refine Qz (k:=2) K M rfl rfl rfl UY rfl (Qa hA1.cell (Qa hA2.cell (Qa rfl (Qa rfl (Qa rfl (Qa rfl (Qa hN55.JK Qo))))))) rfl fun _ M=>?_;refine Qc 2 K M fun _ K=>?_;refine Jv ⟨.inr rfl,_,(Ua (JC K rfl (M.load (k:=2) rfl (QA Ys rfl))) (QF K rfl) (QF K rfl)),?_⟩;have hP:X6 L=((Qy (Q6 L (Qs L L.length S1 0).1 [59]) ((Qd L (Q6 L (Qs L L.length S1 0).1 [59])).a) 2),⟨ds,ps,(Qs L L.length S1 0).2⟩):=VD (hgo.trans (ZH (by first|omega|(simp_all;done)|(simp_all;omega)))) (if_pos (by first|omega|(simp_all;done)|(simp_all;omega)))
   have hPN:UJ l=(⟨ds,ps,(Qs L L.length S1 0).2⟩,((l.length:Nat):Int),0):=by rw[UJ,if_neg (by simp[hE]),←hLe,hP,if_neg (by first|omega|(simp_all;done)|(simp_all;omega))]
   rw[hPN];exact⟨_,rfl,⟨((c9,0,[kd,kp,.str on55,.str sn55,iZ zn55,iZ an55,kkn55])::(c23,0,[ks12,iZ ((Qy (Q6 L (Qs L L.length S1 0).1 [59]) ((Qd L (Q6 L (Qs L L.length S1 0).1 [59])).a) 2).i:Nat),iZ ((Qy (Q6 L (Qs L L.length S1 0).1 [59]) ((Qd L (Q6 L (Qs L L.length S1 0).1 [59])).a) 2).e),iZ ((Qy (Q6 L (Qs L L.length S1 0).1 [59]) ((Qd L (Q6 L (Qs L L.length S1 0).1 [59])).a) 2).a)])::(c2,0,[kd,kp,.str on55,.str sn55,iZ zn55,iZ an55,kkn55])::(A12++(A1++(A2++((B++A55)++[]))))),M.KI (.refl _),kd,kp,_,_,_,_,_,lsp,rfl,⟨A1,fun x hx=>.inr (by simp[hx]),_,hA1⟩,⟨A2,fun x hx=>.inr (by simp[hx]),_,hA2⟩,hlp,hPA.mono (Q2 (fun _ _ _ h=>h) (fun x hx=>by simp[hx])),hN55.mono (Q2 (fun _ _ _ h=>h) (fun x hx=>by simp[hx]))⟩,M.qt⟩
  have hb62:=h62
  replace h62:((Qd L (Q6 L (Qs L L.length S1 0).1 [59])).k=4):=by simpa using h62
  refine Qc 5 K M fun _ K=>?_;refine JU K rfl (fun h72=>?_) fun h72=>?_
  ·have hb72:=h72
   replace h72: ¬((Q6 L (Qs L L.length S1 0).1 [59]).e=0):=by simpa using h72
   refine UR ?_;refine Ja (l:=[(0,0),(9,0),(1,0),(2,0),(3,0),(4,1),(5,0),(6,0),(7,0),(8,1),(10,0),(11,0)]) (by kernel_rfl) ?_;have Mq:=M;refine Ui 1 K M fun _ K=>?_;refine JL (k:=2) rfl K M rfl rfl rfl UY rfl rfl rfl fun _ M=>?_;have Mp:=Mq;have Mq:=M;refine Ui 3 K M fun _ K=>?_;refine QL rfl K rfl (M.load (k:=1) rfl (Qj QH rfl)) (Mp.load (k:=1) rfl (Qj QH rfl)) (J2 rfl) rfl QT fun _ K=>?_;refine Ui 3 K M fun _ K=>?_;refine QL rfl K rfl (M.load (k:=1) rfl (Qj QH rfl)) (Mp.load (k:=1) rfl (Qj QH rfl)) (J2 rfl) rfl QT fun _ K=>?_;refine Ui 2 K M fun _ K=>?_;refine Ji ?_;show W _ _ _ _ _ _ _;refine Jv ⟨.inr rfl,_,(Ua (JC K rfl (M.load (k:=2) rfl (QA Ys rfl))) (QF K rfl) (QF K rfl)),?_⟩;have hP:X6 L=((Q6 L (Qs L L.length S1 0).1 [59]),⟨ds,ps,(Qs L L.length S1 0).2⟩):=VD (hgo.trans (ZH (by first|omega|(simp_all;done)|(simp_all;omega)))) (if_neg (by first|omega|(simp_all;done)|(simp_all;omega)))
   have hPN:UJ l=(Ds,((Q6 L (Qs L L.length S1 0).1 [59])).a,((Q6 L (Qs L L.length S1 0).1 [59])).e):=by rw[UJ,if_neg (by simp[hE]),←hLe,hP,if_pos (by first|omega|(simp_all;done)|(simp_all;omega))]
   rw[hPN];exact⟨_,rfl,⟨[],M.KI (List.nil_sublist _),yw.none⟩,M.qt⟩
  have hb72:=h72
  replace h72:((Q6 L (Qs L L.length S1 0).1 [59]).e=0):=by simpa using h72
  refine Qc 2 K M fun _ K=>?_;refine p1 K (Vz Up rfl rfl) fun _ K=>?_;refine Qz (k:=2) K M rfl rfl rfl UY rfl (Qa hA1.cell (Qa hA2.cell (Qa rfl (Qa rfl (Qa rfl (Qa rfl (Qa hN55.JK Qo))))))) rfl fun _ M=>?_;refine Qc 2 K M fun _ K=>?_;refine Jv ⟨.inr rfl,_,(Ua (JC K rfl (M.load (k:=2) rfl (QA Ys rfl))) (QF K rfl) (QF K rfl)),?_⟩;have hP:X6 L=((Q6 L (Qs L L.length S1 0).1 [59]),⟨ds,ps,(Qs L L.length S1 0).2⟩):=VD (hgo.trans (ZH (by first|omega|(simp_all;done)|(simp_all;omega)))) (if_neg (by first|omega|(simp_all;done)|(simp_all;omega)))
  have hPN:UJ l=(⟨ds,ps,(Qs L L.length S1 0).2⟩,((l.length:Nat):Int),0):=by rw[UJ,if_neg (by simp[hE]),←hLe,hP,if_neg (by first|omega|(simp_all;done)|(simp_all;omega))]
  rw[hPN];exact⟨_,rfl,⟨((c9,0,[kd,kp,.str on55,.str sn55,iZ zn55,iZ an55,kkn55])::(c23,0,[ks12,iZ ((Q6 L (Qs L L.length S1 0).1 [59]).i:Nat),iZ ((Q6 L (Qs L L.length S1 0).1 [59]).e),iZ ((Q6 L (Qs L L.length S1 0).1 [59]).a)])::(c2,0,[kd,kp,.str on55,.str sn55,iZ zn55,iZ an55,kkn55])::(A12++(A1++(A2++((B++A55)++[]))))),M.KI (.refl _),kd,kp,_,_,_,_,_,lsp,rfl,⟨A1,fun x hx=>.inr (by simp[hx]),_,hA1⟩,⟨A2,fun x hx=>.inr (by simp[hx]),_,hA2⟩,hlp,hPA.mono (Q2 (fun _ _ _ h=>h) (fun x hx=>by simp[hx])),hN55.mono (Q2 (fun _ _ _ h=>h) (fun x hx=>by simp[hx]))⟩,M.qt⟩
 refine Qc 1 K M fun _ K=>?_;obtain⟨v32,st32,ev32,rfl,q32⟩:=Zr M.fresh (M.Hn hA12 hne (fun x hx=>by simp[hx])) hO (M.Qn (k:=1) rfl) hi1 [112,114,101,100];refine pg K rfl rfl (Qe rfl ev32) fun _ K=>?_;replace M:=M.quiet q32;refine xl K rfl rfl (Q9 rfl) rfl fun b33 _ e33 K=>?_;cases b33
 ·refine Qc 1 K M fun _ K=>?_;obtain⟨v35,st35,ev35,rfl,q35⟩:=IQ M.fresh (M.Hn hA12 hne (fun x hx=>by simp[hx])) hO (M.Qn (k:=1) rfl) hi1 [118,97,114] QT;refine pg K rfl rfl (Qe rfl ev35) fun _ K=>?_;replace M:=M.quiet q35;refine Qc 3 K M fun _ K=>?_;refine Xj K rfl (fun h38=>?_) fun h38=>?_
  ·refine Qc 1 K M fun _ K=>?_;obtain⟨v40,st40,ev40,rfl,q40⟩:=Zr M.fresh (M.Hn hA12 hne (fun x hx=>by simp[hx])) hO (M.Qn (k:=1) rfl) hi1 [112,114,101,100];refine p1 K (Qe rfl ev40) fun _ K=>?_;replace M:=M.quiet q40;refine Qc 0 K M fun _ K=>?_;refine JU K rfl (fun h40=>?_) fun h40=>?_
   ·have hb40:=h40;refine Ja (l:=[(2,0),(3,0),(0,0),(1,1),(4,0),(5,0),(6,0),(7,0)]) (by kernel_rfl) ?_;have Mq:=M;refine q1 rfl K (Q9 rfl) fun _ K=>?_;obtain⟨v44,st44,ev44,⟨A44,hS44,_,rfl,kp44,on44,sn44,zn44,an44,kkn44,rfl,⟨Ap44,hxp44,np44,hap44⟩,hN44⟩,q44,r44⟩:=Sm M.fresh (M.Hn hA12 hne (fun x hx=>by simp[hx])) hO (M.Qn (k:=1) rfl) hi1;refine qA rfl K (Qe rfl ev44) fun _ K=>?_;replace M:=M.Jd (k:=1) rfl q44 r44 hS44;replace M:=Mem.cast (M':=((c9,0,[kd,kp,.str [],.str [],iZ 0,iZ 0,.nils])::(c23,0,[ks12,iZ ((JW L S1).1.i:Nat),iZ ((JW L S1).1.e),iZ ((JW L S1).1.a)])::(c2,0,[.nils,.nils,.str [],.str [],iZ 0,iZ 0,.nils])::(A12++(A1++(A2++((B++A44)++[])))))) M Za;have Mp:=Mq;have Mq:=M;refine Ui 1 K M fun _ K=>?_;refine QL rfl K rfl (M.load (k:=0) rfl (Qj UB rfl)) (Mp.load (k:=0) rfl (Qj UB rfl)) (J2 (Yc hA2.len)) rfl QT fun _ K=>?_;refine Z3 rfl K M UU ZA rfl rfl (Qa rfl (Qa hap44.cell (Qa rfl (Qa rfl (Qa rfl (Qa rfl (Qa hN44.JK (Qa rfl Qo)))))))) rfl rfl fun c45 _ _ K M=>?_;refine XT (k2:=0) (L:=((c45,0,[.str ((JW L S1).2.name),kp44,.str on44,.str sn44,iZ zn44,iZ an44,kkn44,iZ ((JW L S1).2.at_)])::(c9,0,[kd,kp,.str [],.str [],iZ 0,iZ 0,.nils])::(c23,0,[ks12,iZ ((JW L S1).1.i:Nat),iZ ((JW L S1).1.e),iZ ((JW L S1).1.a)])::(c2,0,[.nils,.nils,.str [],.str [],iZ 0,iZ 0,.nils])::(A12++(A1++[])))) (B:=((B++A44)++[])) rfl K (Mem.cast M Za) hA2 UU rfl rfl rfl rfl Qh rfl fun ks46 A46 _ _ K hA46 M=>?_;replace M:=Mem.cast (M':=((c45,0,[.str ((JW L S1).2.name),kp44,.str on44,.str sn44,iZ zn44,iZ an44,kkn44,iZ ((JW L S1).2.at_)])::(c9,0,[kd,kp,.str [],.str [],iZ 0,iZ 0,.nils])::(c23,0,[ks12,iZ ((JW L S1).1.i:Nat),iZ ((JW L S1).1.e),iZ ((JW L S1).1.a)])::(c2,0,[.nils,.nils,.str [],.str [],iZ 0,iZ 0,.nils])::(A12++(A1++(A46++((B++A44)++[])))))) M Za;have Mp:=Mq;have Mq:=M;refine Ui 1 K M fun _ K=>?_;refine Zt (k:=1) rfl K M rfl rfl rfl Xu (hA46.cell) rfl fun _ M=>?_;have Mp:=Mq;have Mq:=M;refine Ji ?_
    have hip:Yv L S1 [112,114,101,100]=true:=by simp_all
    have hlt:=pred_lt hO hip
    have hlsn:(lsp++[[.str ((JW L S1).2.name),kp44,.str on44,.str sn44,iZ zn44,iZ an44,kkn44,iZ ((JW L S1).2.at_)]]).length=(ps++[(JW L S1).2]).length:=by simp[hlp]
    exact⟨_,Qh,(JW L S1).1,kd,ks46,A1,A46,ds,ps++[(JW L S1).2],(lsp++[[.str ((JW L S1).2.name),kp44,.str on44,.str sn44,iZ zn44,iZ an44,kkn44,iZ ((JW L S1).2.at_)]]),(B++A44),k,rfl,(K.sub rfl),M.less (.cons _ (.refl _)),((Pv hO.t _).2 hi1),hA1,hA46,hlsn,(hPA.snoc hlp ⟨_,_,_,_,_,_,rfl,⟨Ap44,hxp44,np44,hap44⟩,hN44⟩),Qh,(by rw[List.length_append,List.length_singleton];omega),Qh,(hgo.trans (Lr hip))⟩
   have hb40:=h40;refine Ja (l:=[(2,0),(3,0),(0,0),(1,1),(4,0),(5,0),(6,0)]) (by kernel_rfl) ?_;have Mq:=M;refine q1 rfl K (Q9 rfl) fun _ K=>?_;obtain⟨v51,st51,ev51,⟨A51,hA51,hS51⟩,q51,r51⟩:=SO M.fresh (M.Hn hA12 hne (fun x hx=>by simp[hx])) hO (M.Qn (k:=1) rfl) hi1;refine qA rfl K (Qe rfl ev51) fun _ K=>?_;replace M:=M.Jd (k:=1) rfl q51 r51 hS51;have hdl:=DO hO (show 0≤QD L S1 [118,97,114]from by first|omega|(simp_all;done)|(simp_all;omega));have hi2:=(KC hO.t S1).2 hi1;replace M:=Mem.cast (M':=((c9,0,[kd,kp,.str [],.str [],iZ 0,iZ 0,.nils])::(c23,0,[ks12,iZ ((UT L S1).1.i:Nat),iZ ((UT L S1).1.e),iZ ((UT L S1).1.a)])::(c2,0,[.nils,.nils,.str [],.str [],iZ 0,iZ 0,.nils])::(A12++(A1++(A2++((B++A51)++[])))))) M Za;have Mp:=Mq;have Mq:=M;refine Ui 1 K M fun _ K=>?_;refine QL rfl K rfl (M.load (k:=0) rfl (Qj Yt rfl)) (Mp.load (k:=0) rfl (Qj Yt rfl)) (J2 (Yc hA1.len)) rfl QT fun _ K=>?_;refine RU (L:=((c9,0,[kd,kp,.str [],.str [],iZ 0,iZ 0,.nils])::(c23,0,[ks12,iZ ((UT L S1).1.i:Nat),iZ ((UT L S1).1.e),iZ ((UT L S1).1.a)])::(c2,0,[.nils,.nils,.str [],.str [],iZ 0,iZ 0,.nils])::(A12++[]))) (B:=(A2++((B++A51)++[]))) rfl K (Mem.cast M Za) hA1 JZ rfl rfl (M.wX hA51 (fun x hx=>by simp[hx])) uU (by rw[List.length_map,List.length_map];omega) rfl fun ks52 A52 _ _ K hA52 M=>?_;replace M:=Mem.cast (M':=((c9,0,[kd,kp,.str [],.str [],iZ 0,iZ 0,.nils])::(c23,0,[ks12,iZ ((UT L S1).1.i:Nat),iZ ((UT L S1).1.e),iZ ((UT L S1).1.a)])::(c2,0,[.nils,.nils,.str [],.str [],iZ 0,iZ 0,.nils])::(A12++(A52++(A2++((B++A51)++[])))))) M Za;have Mp:=Mq;have Mq:=M;refine Ui 1 K M fun _ K=>?_;refine Zt (k:=0) rfl K M rfl rfl rfl Vy (hA52.cell) rfl fun _ M=>?_;have Mp:=Mq;have Mq:=M;refine Ji ?_
   have hip:Yv L S1 [112,114,101,100]=false:=by simp_all
   have ho:0≤QD L S1 [118,97,114]:=by first|omega|(simp_all;done)|(simp_all;omega)
   have hE1:S1.e=0:=by simp_all
   have hlt:=SN hO ho;exact⟨_,Qh,(UT L S1).1,ks52,kp,A52,A2,ds++(UT L S1).2,ps,lsp,(B++A51),k,rfl,(K.sub rfl),M.less (.refl _),((KC hO.t _).2 hi1),(by rw[List.map_append];exact hA52),hA2,hlp,(hPA.mono (Q2 (fun _ _ _ h=>h) (fun x hx=>List.mem_append_left _ hx))),(by rw[List.length_append];omega),Qh,Qh,(hgo.trans (Ls hE1 hip ho))⟩
  refine Jx ?_;show W _ _ _ _ _ _ _;refine Qc 1 K M fun _ K=>?_;obtain⟨v55,st55,ev55,⟨on55,sn55,zn55,an55,ln55,kkn55,A55,en55,rfl,hS55,hN55⟩,q55,r55⟩:=(Io hO Qh (d:=0)) _ _ M.fresh (M.Hn hA12 hne (fun x hx=>by simp[hx])) hO (M.Qn (k:=1) rfl) hi1 (Nat.le_add_right _ _);refine p1 K (Qe rfl ev55) fun _ K=>?_;replace M:=M.Jd (k:=1) rfl q55 r55 hS55;replace M:=Mem.cast (M':=((c9,0,[kd,kp,.str [],.str [],iZ 0,iZ 0,.nils])::(c23,0,[ks12,iZ ((Qs L L.length S1 0).1.i:Nat),iZ ((Qs L L.length S1 0).1.e),iZ ((Qs L L.length S1 0).1.a)])::(c2,0,[.nils,.nils,.str [],.str [],iZ 0,iZ 0,.nils])::(A12++(A1++(A2++((B++A55)++[])))))) M Za;refine Qc 1 K M fun _ K=>?_;refine Qz (k:=0) K M rfl rfl rfl Qi rfl (Qa rfl (Qa rfl (Qa rfl (Qa rfl (Qa hN55.JK Qo))))) rfl fun _ M=>?_;refine Qc 1 K M fun _ K=>?_;obtain⟨v58,st58,ev58,rfl,q58,r58⟩:=Y9 M.fresh (M.Hn hA12 hne (fun x hx=>by simp[hx])) hO (M.Qn (k:=1) rfl) ((YC hO.t _ _ 0).2 hi1) [59];refine p1 K (Qe rfl ev58) fun _ K=>?_;replace M:=M.J8 (k:=1) rfl q58 r58;refine Qc 1 K M fun _ K=>?_;obtain⟨v60,st60,ev60,rfl,q60⟩:=Y6 M.fresh (M.Hn hA12 hne (fun x hx=>by simp[hx])) hO (M.Qn (k:=1) rfl) ((JO hO.t _ _).2 ((YC hO.t _ _ 0).2 hi1));refine p1 K (Qe rfl ev60) fun _ K=>?_;replace M:=M.quiet q60;refine p1 K (Yy rfl ((WO _).trans (Qj QH rfl))) fun _ K=>?_;refine Qc 1 K M fun _ K=>?_;refine JU K rfl (fun h62=>?_) fun h62=>?_
  ·have hb62:=h62
   replace h62: ¬((Qd L (Q6 L (Qs L L.length S1 0).1 [59])).k=4):=by simpa using h62
   refine Qc 2 K M fun _ K=>?_;obtain⟨v65,st65,ev65,rfl,q65⟩:=Y6 M.fresh (M.Hn hA12 hne (fun x hx=>by simp[hx])) hO (M.Qn (k:=1) rfl) ((JO hO.t _ _).2 ((YC hO.t _ _ 0).2 hi1));refine p1 K (Qe rfl ev65) fun _ K=>?_;replace M:=M.quiet q65;refine p1 K (Yy rfl ((U0 _).trans (Qj QH rfl))) fun _ K=>?_;obtain⟨v67,st67,ev67,rfl,q67,r67⟩:=UG M.fresh (M.Qn (k:=1) rfl) ((Qd L (Q6 L (Qs L L.length S1 0).1 [59])).a) 2;refine p1 K (Qe rfl ev67) fun _ K=>?_;replace M:=M.J8 (k:=1) rfl q67 r67;refine Qc 5 K M fun _ K=>?_;refine JU K rfl (fun h72=>?_) fun h72=>?_
   ·have hb72:=h72
    replace h72: ¬((Qy (Q6 L (Qs L L.length S1 0).1 [59]) ((Qd L (Q6 L (Qs L L.length S1 0).1 [59])).a) 2).e=0):=by simpa using h72
    refine UR ?_;refine Ja (l:=[(0,0),(9,0),(1,0),(2,0),(3,0),(4,1),(5,0),(6,0),(7,0),(8,1),(10,0),(11,0)]) (by kernel_rfl) ?_;have Mq:=M;refine Ui 1 K M fun _ K=>?_;refine JL (k:=2) rfl K M rfl rfl rfl UY rfl rfl rfl fun _ M=>?_;have Mp:=Mq;have Mq:=M;refine Ui 3 K M fun _ K=>?_;refine QL rfl K rfl (M.load (k:=1) rfl (Qj QH rfl)) (Mp.load (k:=1) rfl (Qj QH rfl)) (J2 rfl) rfl QT fun _ K=>?_;refine Ui 3 K M fun _ K=>?_;refine QL rfl K rfl (M.load (k:=1) rfl (Qj QH rfl)) (Mp.load (k:=1) rfl (Qj QH rfl)) (J2 rfl) rfl QT fun _ K=>?_;refine Ui 2 K M fun _ K=>?_;refine Ji ?_;show W _ _ _ _ _ _ _;refine Jv ⟨.inr rfl,_,(Ua (JC K rfl (M.load (k:=2) rfl (QA Ys rfl))) (QF K rfl) (QF K rfl)),?_⟩;have hP:X6 L=((Qy (Q6 L (Qs L L.length S1 0).1 [59]) ((Qd L (Q6 L (Qs L L.length S1 0).1 [59])).a) 2),⟨ds,ps,(Qs L L.length S1 0).2⟩):=VD (hgo.trans (ZH (by first|omega|(simp_all;done)|(simp_all;omega)))) (if_pos (by first|omega|(simp_all;done)|(simp_all;omega)))
    have hPN:UJ l=(Ds,((Qy (Q6 L (Qs L L.length S1 0).1 [59]) ((Qd L (Q6 L (Qs L L.length S1 0).1 [59])).a) 2)).a,((Qy (Q6 L (Qs L L.length S1 0).1 [59]) ((Qd L (Q6 L (Qs L L.length S1 0).1 [59])).a) 2)).e):=by rw[UJ,if_neg (by simp[hE]),←hLe,hP,if_pos (by first|omega|(simp_all;done)|(simp_all;omega))]
    rw[hPN];exact⟨_,rfl,⟨[],M.KI (List.nil_sublist _),yw.none⟩,M.qt⟩
   have hb72:=h72
   replace h72:((Qy (Q6 L (Qs L L.length S1 0).1 [59]) ((Qd L (Q6 L (Qs L L.length S1 0).1 [59])).a) 2).e=0):=by simpa using h72
   refine Qc 2 K M fun _ K=>?_;refine p1 K (Vz Up rfl rfl) fun _ K=>?_;refine Qz (k:=2) K M rfl rfl rfl UY rfl (Qa hA1.cell (Qa hA2.cell (Qa rfl (Qa rfl (Qa rfl (Qa rfl (Qa hN55.JK Qo))))))) rfl fun _ M=>?_;refine Qc 2 K M fun _ K=>?_;refine Jv ⟨.inr rfl,_,(Ua (JC K rfl (M.load (k:=2) rfl (QA Ys rfl))) (QF K rfl) (QF K rfl)),?_⟩;have hP:X6 L=((Qy (Q6 L (Qs L L.length S1 0).1 [59]) ((Qd L (Q6 L (Qs L L.length S1 0).1 [59])).a) 2),⟨ds,ps,(Qs L L.length S1 0).2⟩):=VD (hgo.trans (ZH (by first|omega|(simp_all;done)|(simp_all;omega)))) (if_pos (by first|omega|(simp_all;done)|(simp_all;omega)))
   have hPN:UJ l=(⟨ds,ps,(Qs L L.length S1 0).2⟩,((l.length:Nat):Int),0):=by rw[UJ,if_neg (by simp[hE]),←hLe,hP,if_neg (by first|omega|(simp_all;done)|(simp_all;omega))]
   rw[hPN];exact⟨_,rfl,⟨((c9,0,[kd,kp,.str on55,.str sn55,iZ zn55,iZ an55,kkn55])::(c23,0,[ks12,iZ ((Qy (Q6 L (Qs L L.length S1 0).1 [59]) ((Qd L (Q6 L (Qs L L.length S1 0).1 [59])).a) 2).i:Nat),iZ ((Qy (Q6 L (Qs L L.length S1 0).1 [59]) ((Qd L (Q6 L (Qs L L.length S1 0).1 [59])).a) 2).e),iZ ((Qy (Q6 L (Qs L L.length S1 0).1 [59]) ((Qd L (Q6 L (Qs L L.length S1 0).1 [59])).a) 2).a)])::(c2,0,[kd,kp,.str on55,.str sn55,iZ zn55,iZ an55,kkn55])::(A12++(A1++(A2++((B++A55)++[]))))),M.KI (.refl _),kd,kp,_,_,_,_,_,lsp,rfl,⟨A1,fun x hx=>.inr (by simp[hx]),_,hA1⟩,⟨A2,fun x hx=>.inr (by simp[hx]),_,hA2⟩,hlp,hPA.mono (Q2 (fun _ _ _ h=>h) (fun x hx=>by simp[hx])),hN55.mono (Q2 (fun _ _ _ h=>h) (fun x hx=>by simp[hx]))⟩,M.qt⟩
  have hb62:=h62
  replace h62:((Qd L (Q6 L (Qs L L.length S1 0).1 [59])).k=4):=by simpa using h62
  refine Qc 5 K M fun _ K=>?_;refine JU K rfl (fun h72=>?_) fun h72=>?_
  ·have hb72:=h72
   replace h72: ¬((Q6 L (Qs L L.length S1 0).1 [59]).e=0):=by simpa using h72
   refine UR ?_;refine Ja (l:=[(0,0),(9,0),(1,0),(2,0),(3,0),(4,1),(5,0),(6,0),(7,0),(8,1),(10,0),(11,0)]) (by kernel_rfl) ?_;have Mq:=M;refine Ui 1 K M fun _ K=>?_;refine JL (k:=2) rfl K M rfl rfl rfl UY rfl rfl rfl fun _ M=>?_;have Mp:=Mq;have Mq:=M;refine Ui 3 K M fun _ K=>?_;refine QL rfl K rfl (M.load (k:=1) rfl (Qj QH rfl)) (Mp.load (k:=1) rfl (Qj QH rfl)) (J2 rfl) rfl QT fun _ K=>?_;refine Ui 3 K M fun _ K=>?_;refine QL rfl K rfl (M.load (k:=1) rfl (Qj QH rfl)) (Mp.load (k:=1) rfl (Qj QH rfl)) (J2 rfl) rfl QT fun _ K=>?_;refine Ui 2 K M fun _ K=>?_;refine Ji ?_;show W _ _ _ _ _ _ _;refine Jv ⟨.inr rfl,_,(Ua (JC K rfl (M.load (k:=2) rfl (QA Ys rfl))) (QF K rfl) (QF K rfl)),?_⟩;have hP:X6 L=((Q6 L (Qs L L.length S1 0).1 [59]),⟨ds,ps,(Qs L L.length S1 0).2⟩):=VD (hgo.trans (ZH (by first|omega|(simp_all;done)|(simp_all;omega)))) (if_neg (by first|omega|(simp_all;done)|(simp_all;omega)))
   have hPN:UJ l=(Ds,((Q6 L (Qs L L.length S1 0).1 [59])).a,((Q6 L (Qs L L.length S1 0).1 [59])).e):=by rw[UJ,if_neg (by simp[hE]),←hLe,hP,if_pos (by first|omega|(simp_all;done)|(simp_all;omega))]
   rw[hPN];exact⟨_,rfl,⟨[],M.KI (List.nil_sublist _),yw.none⟩,M.qt⟩
  have hb72:=h72
  replace h72:((Q6 L (Qs L L.length S1 0).1 [59]).e=0):=by simpa using h72
  refine Qc 2 K M fun _ K=>?_;refine p1 K (Vz Up rfl rfl) fun _ K=>?_;refine Qz (k:=2) K M rfl rfl rfl UY rfl (Qa hA1.cell (Qa hA2.cell (Qa rfl (Qa rfl (Qa rfl (Qa rfl (Qa hN55.JK Qo))))))) rfl fun _ M=>?_;refine Qc 2 K M fun _ K=>?_;refine Jv ⟨.inr rfl,_,(Ua (JC K rfl (M.load (k:=2) rfl (QA Ys rfl))) (QF K rfl) (QF K rfl)),?_⟩;have hP:X6 L=((Q6 L (Qs L L.length S1 0).1 [59]),⟨ds,ps,(Qs L L.length S1 0).2⟩):=VD (hgo.trans (ZH (by first|omega|(simp_all;done)|(simp_all;omega)))) (if_neg (by first|omega|(simp_all;done)|(simp_all;omega)))
  have hPN:UJ l=(⟨ds,ps,(Qs L L.length S1 0).2⟩,((l.length:Nat):Int),0):=by rw[UJ,if_neg (by simp[hE]),←hLe,hP,if_neg (by first|omega|(simp_all;done)|(simp_all;omega))]
  rw[hPN];exact⟨_,rfl,⟨((c9,0,[kd,kp,.str on55,.str sn55,iZ zn55,iZ an55,kkn55])::(c23,0,[ks12,iZ ((Q6 L (Qs L L.length S1 0).1 [59]).i:Nat),iZ ((Q6 L (Qs L L.length S1 0).1 [59]).e),iZ ((Q6 L (Qs L L.length S1 0).1 [59]).a)])::(c2,0,[kd,kp,.str on55,.str sn55,iZ zn55,iZ an55,kkn55])::(A12++(A1++(A2++((B++A55)++[]))))),M.KI (.refl _),kd,kp,_,_,_,_,_,lsp,rfl,⟨A1,fun x hx=>.inr (by simp[hx]),_,hA1⟩,⟨A2,fun x hx=>.inr (by simp[hx]),_,hA2⟩,hlp,hPA.mono (Q2 (fun _ _ _ h=>h) (fun x hx=>by simp[hx])),hN55.mono (Q2 (fun _ _ _ h=>h) (fun x hx=>by simp[hx]))⟩,M.qt⟩
 refine Qc 7 K M fun _ K=>?_;obtain⟨v40,st40,ev40,rfl,q40⟩:=Zr M.fresh (M.Hn hA12 hne (fun x hx=>by simp[hx])) hO (M.Qn (k:=1) rfl) hi1 [112,114,101,100];refine p1 K (Qe rfl ev40) fun _ K=>?_;replace M:=M.quiet q40;refine Qc 0 K M fun _ K=>?_;refine JU K rfl (fun h40=>?_) fun h40=>?_
 ·have hb40:=h40;refine Ja (l:=[(2,0),(3,0),(0,0),(1,1),(4,0),(5,0),(6,0),(7,0)]) (by kernel_rfl) ?_;have Mq:=M;refine q1 rfl K (Q9 rfl) fun _ K=>?_;obtain⟨v44,st44,ev44,⟨A44,hS44,_,rfl,kp44,on44,sn44,zn44,an44,kkn44,rfl,⟨Ap44,hxp44,np44,hap44⟩,hN44⟩,q44,r44⟩:=Sm M.fresh (M.Hn hA12 hne (fun x hx=>by simp[hx])) hO (M.Qn (k:=1) rfl) hi1;refine qA rfl K (Qe rfl ev44) fun _ K=>?_;replace M:=M.Jd (k:=1) rfl q44 r44 hS44;replace M:=Mem.cast (M':=((c9,0,[kd,kp,.str [],.str [],iZ 0,iZ 0,.nils])::(c23,0,[ks12,iZ ((JW L S1).1.i:Nat),iZ ((JW L S1).1.e),iZ ((JW L S1).1.a)])::(c2,0,[.nils,.nils,.str [],.str [],iZ 0,iZ 0,.nils])::(A12++(A1++(A2++((B++A44)++[])))))) M Za;have Mp:=Mq;have Mq:=M;refine Ui 1 K M fun _ K=>?_;refine QL rfl K rfl (M.load (k:=0) rfl (Qj UB rfl)) (Mp.load (k:=0) rfl (Qj UB rfl)) (J2 (Yc hA2.len)) rfl QT fun _ K=>?_;refine Z3 rfl K M UU ZA rfl rfl (Qa rfl (Qa hap44.cell (Qa rfl (Qa rfl (Qa rfl (Qa rfl (Qa hN44.JK (Qa rfl Qo)))))))) rfl rfl fun c45 _ _ K M=>?_;refine XT (k2:=0) (L:=((c45,0,[.str ((JW L S1).2.name),kp44,.str on44,.str sn44,iZ zn44,iZ an44,kkn44,iZ ((JW L S1).2.at_)])::(c9,0,[kd,kp,.str [],.str [],iZ 0,iZ 0,.nils])::(c23,0,[ks12,iZ ((JW L S1).1.i:Nat),iZ ((JW L S1).1.e),iZ ((JW L S1).1.a)])::(c2,0,[.nils,.nils,.str [],.str [],iZ 0,iZ 0,.nils])::(A12++(A1++[])))) (B:=((B++A44)++[])) rfl K (Mem.cast M Za) hA2 UU rfl rfl rfl rfl Qh rfl fun ks46 A46 _ _ K hA46 M=>?_;replace M:=Mem.cast (M':=((c45,0,[.str ((JW L S1).2.name),kp44,.str on44,.str sn44,iZ zn44,iZ an44,kkn44,iZ ((JW L S1).2.at_)])::(c9,0,[kd,kp,.str [],.str [],iZ 0,iZ 0,.nils])::(c23,0,[ks12,iZ ((JW L S1).1.i:Nat),iZ ((JW L S1).1.e),iZ ((JW L S1).1.a)])::(c2,0,[.nils,.nils,.str [],.str [],iZ 0,iZ 0,.nils])::(A12++(A1++(A46++((B++A44)++[])))))) M Za;have Mp:=Mq;have Mq:=M;refine Ui 1 K M fun _ K=>?_;refine Zt (k:=1) rfl K M rfl rfl rfl Xu (hA46.cell) rfl fun _ M=>?_;have Mp:=Mq;have Mq:=M;refine Ji ?_
  have hip:Yv L S1 [112,114,101,100]=true:=by simp_all
  have hlt:=pred_lt hO hip
  have hlsn:(lsp++[[.str ((JW L S1).2.name),kp44,.str on44,.str sn44,iZ zn44,iZ an44,kkn44,iZ ((JW L S1).2.at_)]]).length=(ps++[(JW L S1).2]).length:=by simp[hlp]
  exact⟨_,Qh,(JW L S1).1,kd,ks46,A1,A46,ds,ps++[(JW L S1).2],(lsp++[[.str ((JW L S1).2.name),kp44,.str on44,.str sn44,iZ zn44,iZ an44,kkn44,iZ ((JW L S1).2.at_)]]),(B++A44),k,rfl,(K.sub rfl),M.less (.cons _ (.refl _)),((Pv hO.t _).2 hi1),hA1,hA46,hlsn,(hPA.snoc hlp ⟨_,_,_,_,_,_,rfl,⟨Ap44,hxp44,np44,hap44⟩,hN44⟩),Qh,(by rw[List.length_append,List.length_singleton];omega),Qh,(hgo.trans (Lr hip))⟩
 have hb40:=h40;refine Ja (l:=[(2,0),(3,0),(0,0),(1,1),(4,0),(5,0),(6,0)]) (by kernel_rfl) ?_;have Mq:=M;refine q1 rfl K (Q9 rfl) fun _ K=>?_;obtain⟨v51,st51,ev51,⟨A51,hA51,hS51⟩,q51,r51⟩:=SO M.fresh (M.Hn hA12 hne (fun x hx=>by simp[hx])) hO (M.Qn (k:=1) rfl) hi1;refine qA rfl K (Qe rfl ev51) fun _ K=>?_;replace M:=M.Jd (k:=1) rfl q51 r51 hS51;have hdl:=DO hO (show 0≤QD L S1 [118,97,114]from by first|omega|(simp_all;done)|(simp_all;omega));have hi2:=(KC hO.t S1).2 hi1;replace M:=Mem.cast (M':=((c9,0,[kd,kp,.str [],.str [],iZ 0,iZ 0,.nils])::(c23,0,[ks12,iZ ((UT L S1).1.i:Nat),iZ ((UT L S1).1.e),iZ ((UT L S1).1.a)])::(c2,0,[.nils,.nils,.str [],.str [],iZ 0,iZ 0,.nils])::(A12++(A1++(A2++((B++A51)++[])))))) M Za;have Mp:=Mq;have Mq:=M;refine Ui 1 K M fun _ K=>?_;refine QL rfl K rfl (M.load (k:=0) rfl (Qj Yt rfl)) (Mp.load (k:=0) rfl (Qj Yt rfl)) (J2 (Yc hA1.len)) rfl QT fun _ K=>?_;refine RU (L:=((c9,0,[kd,kp,.str [],.str [],iZ 0,iZ 0,.nils])::(c23,0,[ks12,iZ ((UT L S1).1.i:Nat),iZ ((UT L S1).1.e),iZ ((UT L S1).1.a)])::(c2,0,[.nils,.nils,.str [],.str [],iZ 0,iZ 0,.nils])::(A12++[]))) (B:=(A2++((B++A51)++[]))) rfl K (Mem.cast M Za) hA1 JZ rfl rfl (M.wX hA51 (fun x hx=>by simp[hx])) uU (by rw[List.length_map,List.length_map];omega) rfl fun ks52 A52 _ _ K hA52 M=>?_;replace M:=Mem.cast (M':=((c9,0,[kd,kp,.str [],.str [],iZ 0,iZ 0,.nils])::(c23,0,[ks12,iZ ((UT L S1).1.i:Nat),iZ ((UT L S1).1.e),iZ ((UT L S1).1.a)])::(c2,0,[.nils,.nils,.str [],.str [],iZ 0,iZ 0,.nils])::(A12++(A52++(A2++((B++A51)++[])))))) M Za;have Mp:=Mq;have Mq:=M;refine Ui 1 K M fun _ K=>?_;refine Zt (k:=0) rfl K M rfl rfl rfl Vy (hA52.cell) rfl fun _ M=>?_;have Mp:=Mq;have Mq:=M;refine Ji ?_
 have hip:Yv L S1 [112,114,101,100]=false:=by simp_all
 have ho:0≤QD L S1 [118,97,114]:=by first|omega|(simp_all;done)|(simp_all;omega)
 have hE1:S1.e=0:=by simp_all
 have hlt:=SN hO ho;exact⟨_,Qh,(UT L S1).1,ks52,kp,A52,A2,ds++(UT L S1).2,ps,lsp,(B++A51),k,rfl,(K.sub rfl),M.less (.refl _),((KC hO.t _).2 hi1),(by rw[List.map_append];exact hA52),hA2,hlp,(hPA.mono (Q2 (fun _ _ _ h=>h) (fun x hx=>List.mem_append_left _ hx))),(by rw[List.length_append];omega),Qh,Qh,(hgo.trans (Ls hE1 hip ho))⟩
end Go.Proofs.YtaomhhkflohhgaaGreatDoor
