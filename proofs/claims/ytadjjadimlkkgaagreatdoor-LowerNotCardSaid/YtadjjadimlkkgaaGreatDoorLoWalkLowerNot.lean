/-
  The reference's parser: programs. What is read: 'parseN'.
-/
import Derived.Test.YtadjjadimlkkgaaGreatDoorLoRpD
set_option maxHeartbeats 8000000
set_option maxRecDepth 100000
set_option linter.unnecessarySimpa false
set_option linter.unusedSectionVars false
set_option linter.unusedSimpArgs false
set_option linter.unusedVariables false
section
namespace Go.Proofs.YtadjjadimlkkgaaGreatDoor
open Go Go.RowKit

def Yw.tk(t:Yw):Tk:=⟨t.kind,UO t.text,t.num,t.at'⟩
def VZ(l:List Nat):List Tk:=(tokens (bytesOf l)).1.map Yw.tk
def Cl:Pg:=⟨[],[],XT⟩
def Yf(l:List Nat):Pg×Int×Int:=
 if(tokens (bytesOf l)).2.2≠0 then(Cl,(tokens (bytesOf l)).2.1,(tokens (bytesOf l)).2.2)
 else if(X8 (VZ l)).1.e≠0 then(Cl,(X8 (VZ l)).1.a,(X8 (VZ l)).1.e)else((X8 (VZ l)).2,((l.length:Nat):Int),0)
theorem TS(l:List Nat):(tokens (bytesOf l)).1.map Yw.cells=(VZ l).map Tk.cells:=by rw[VZ,List.map_map];rfl
theorem TM(s:ByteArray)(h:(tokens s).2.2=0): ∃a,(tokens s).1=a++[AH s]:=by
 by_cases hl:2000<s.size
 ·rw[BC hl]at h;exact absurd h (show¬(3:Int)=0 by decide)
 ·rcases hx:WO s (Jx s (each s).2) ((each s).1.length+1) ((each s).1.drop (Jl false (each s).1))with⟨a,p⟩
  cases a with
  |none=>rw[Rb hl hx]at h;exact absurd h (show¬(2:Int)=0 by decide)
  |some a=>
   cases hq:(each s).2 with
   |some q=>rw[PZ hl hx hq]at h;exact absurd h (show¬(2:Int)=0 by decide)
   |none=>rw[Ra hl hx hq];exact⟨a,rfl⟩
theorem PY(l:List Nat)(h:(tokens (bytesOf l)).2.2=0):YJ (VZ l)∧0<(VZ l).length:=by
 obtain⟨a,ha⟩:=TM _ h;have hlen:=LO (bytesOf l)
 have hl:VZ l=a.map Yw.tk++[(AH (bytesOf l)).tk]:=by rw[VZ,ha,List.map_append];rfl
 refine⟨⟨fun j t hj hk=>?_,fun t ht=>?_,by rw[VZ,List.length_map];omega⟩,by rw[hl];simp⟩
 ·have h1:=(List.getElem?_eq_some_iff.1 hj).1;rw[hl]at hj h1 ⊢;rw[List.length_append,List.length_singleton]at h1 ⊢
  by_cases he:j=(a.map Yw.tk).length
  ·subst he;rw[List.getElem?_append_right (Nat.le_refl _),Nat.sub_self]at hj
   injection hj with hj
   subst hj;exact absurd rfl hk
  ·omega
 ·obtain⟨x,_,rfl⟩:=List.mem_map.1 ht;exact Zy _
section
variable {L:List Tk} {S:PS} {k:Nat} {o:Int}
theorem uB(hO:YJ L)(h:(Jf L S).e=0):S.i<(Jf L S).i:=by
 unfold Jf at h ⊢
 split at h
 ·rename_i hk;unfold Q4 at h
  split at h
  ·exact absurd h (show¬(2:Int)=0 by decide)
  ·contradiction
 ·rename_i hk
  have hk1:(Qi L S).k=1:=by omega
  rw[if_neg (by omega)];refine Rt (by omega) ?_
  by_cases he:S.e=0
  ·exact he
  ·rw[L6 he]at hk1;exact absurd hk1 (by decide)
theorem NQ(hO:YJ L): ∀f S l,(Zc L o f S l).2.length+S.i≤l.length+(Zc L o f S l).1.i+1
 |0,S,l=>by rw[Zc];simp only;omega
 |f+1,S,l=>by
  rw[Zc]
  split
  ·simp only;omega
  split
  ·rename_i hw;have h1:=NQ hO f (Qd L (Jf L S)) (l++[⟨(Je L S).s,o,(Je L S).a⟩]);have h2:=Wd hO hw;have h3:=uB hO (qk hw);rw[List.length_append,List.length_singleton]at h1;omega
  ·have h1:=(J4 hO.t S).1;have h2:=(Ue hO.t (Jf L S) [59]).1;rw[List.length_append,List.length_singleton];simp only;omega
theorem CN(hO:YJ L)(h:0≤QQ L S [118,97,114]):(Ug L S).2.length+S.i≤(Ug L S).1.i:=by
 have h1:=NQ (o:=QQ L S [118,97,114]) hO (L.length+1) (Qd L S) [];have h2:=Nu hO h;show(Zc L _ (L.length+1) (Qd L S) []).2.length+S.i≤(Zc L _ (L.length+1) (Qd L S) []).1.i;simp only[List.length_nil]at h1;omega
theorem R9(hO:YJ L)(h:0≤QQ L S [118,97,114]):S.i<(Ug L S).1.i:=Nat.lt_of_lt_of_le (Nu hO h) (It hO.t _ _ _ _).1
theorem pred_lt(hO:YJ L){w:List Nat}(h:UN L S w=true):S.i<(Jv L S).1.i:=by
 refine Nat.lt_of_lt_of_le (Wd hO h) ?_;unfold Jv;exact((((((J4 hO.t _).trans (Ue hO.t _ _)).trans (Ee hO.t _)).trans (Ue hO.t _ _)).trans (YW hO.t _ _ _)).trans (Ue hO.t _ _)).1
theorem ZW{ds:List Dc}{ps:List Pd}(h: ¬S.e=0∨(UN L S [112,114,101,100]=false∧QQ L S [118,97,114]<0)):Z9 L (k+1) S ds ps=(S,ds,ps):=by
 rw[Z9]
 by_cases he:S.e=0
 ·obtain⟨h1,h2⟩:=h.resolve_left (fun h=>h he);rw[if_neg (by simp[he]),if_neg (by simp[h1]),if_neg (by omega)]
 ·rw[if_pos he]
theorem KT{ds:List Dc}{ps:List Pd}(h:UN L S [112,114,101,100]=true):Z9 L (k+1) S ds ps=Z9 L k (Jv L S).1 ds (ps++[(Jv L S).2]):=by rw[Z9,if_neg (by simp[qk h]),if_pos h]
theorem KU{ds:List Dc}{ps:List Pd}(he:S.e=0)(h:UN L S [112,114,101,100]=false)(ho:0≤QQ L S [118,97,114]):Z9 L (k+1) S ds ps=Z9 L k (Ug L S).1 (ds++(Ug L S).2) ps:=by rw[Z9,if_neg (by simp[he]),if_neg (by simp[h]),if_pos ho]
theorem VM{S4:PS}{ds:List Dc}{ps:List Pd}(h:Z9 L (L.length+1) ⟨0,0,0⟩ [] []=(S,ds,ps))(h4:(if(Qi L (QS L (Q3 L L.length S 0).1 [59])).k≠4 then Q4 (QS L (Q3 L L.length S 0).1 [59]) (Qi L (QS L (Q3 L L.length S 0).1 [59])).a 2 else QS L (Q3 L L.length S 0).1 [59])=S4):
  X8 L=(S4,⟨ds,ps,(Q3 L L.length S 0).2⟩):=by
 unfold X8;simp only[h,h4]
end
def OB(R:YX)(ps:List Pd)(lsp:List (List AV)):Prop:= ∀(i:Nat) (p:Pd) (cs:List AV),ps[i]? =some p→lsp[i]? =some cs→zQ R p cs
theorem OB.nil{R:YX}{lsp:List (List AV)}:OB R [] lsp:=fun i p cs h=>by simp at h
theorem OB.mono{R R':YX}(h: ∀c m l,R c m l→R' c m l){ps:List Pd}{lsp:List (List AV)}(r:OB R ps lsp):OB R' ps lsp:=fun i p cs h1 h2=>(r i p cs h1 h2).mono h
theorem OB.snoc{R:YX}{A B:QJ}{ps:List Pd}{lsp:List (List AV)}{p:Pd}{cs:List AV}(h:OB (Jo R B) ps lsp)(hl:lsp.length=ps.length)(hp:zQ (Jo R A) p cs):OB (Jo R (B++A)) (ps++[p]) (lsp++[cs]):=by
 intro i q cs' h1 h2
 by_cases hi:i<ps.length
 ·rw[List.getElem?_append_left hi]at h1;rw[List.getElem?_append_left (by omega)]at h2;exact(h i q cs' h1 h2).mono (Qm (fun _ _ _ h=>h) fun x hx=>List.mem_append_left _ hx)
 ·have hi2:=(List.getElem?_eq_some_iff.1 h1).1;rw[List.length_append,List.length_singleton]at hi2
  have hi3:i=ps.length:=by omega
  subst hi3;rw[List.getElem?_append_right (Nat.le_refl _),Nat.sub_self]at h1;rw[List.getElem?_append_right (by omega),hl,Nat.sub_self]at h2
  injection h1 with h1
  injection h2 with h2
  subst h1 h2;exact hp.mono (Qm (fun _ _ _ h=>h) fun x hx=>List.mem_append_right _ hx)
def yS(R:YX)(g:Pg)(cs:List AV):Prop:= ∃kd kp o s z a kk lsp,cs=[kd,kp,.str o,.str s,.int .i64 z,.int .i64 a,kk]∧(∃A,(∀x∈A,R x.1 x.2.1 x.2.2)∧ ∃n0,Acc n0 3 A kd (g.decls.map Dc.cells))∧(∃A,(∀x∈A,R x.1 x.2.1 x.2.2)∧ ∃n0,Acc n0 8 A kp lsp)∧lsp.length=g.preds.length∧OB R g.preds lsp∧Yh R g.main [.str o,.str s,.int .i64 z,.int .i64 a,kk]
theorem yS.none{R:YX}:yS R Cl [.nils,.nils,.str [],.str [],.int .i64 0,.int .i64 0,.nils]:=
 ⟨_,_,_,_,_,_,_,[],rfl,⟨[],by simp,0,.none⟩,⟨[],by simp,0,.none⟩,rfl,.nil,YL ⟨Qs,Qs⟩⟩
theorem Mem.xu{h0:Hp}{n0 n1 z:Nat}{X:List Nat}{st:St}{M A:QJ}{ks:AV}{ls:List (List AV)}(h:Mem h0 n0 X st M)(hA:Acc n1 z A ks ls)(hs: ∀x∈A,x∈M):J1 st.h.get [] z ls ks:=by
 cases hA with
 |none=>exact .nil _ _ _
 |own hc hz hb=>exact J1.own (h.row _ _ _ (hs _ (List.mem_singleton.2 rfl))) hz (by simp) (by omega)
theorem Mem.Hh{h0:Hp}{n0 n1 z cp:Nat}{X:List Nat}{st:St}{M A:QJ}{ks:AV}{ls:List (List AV)}(h:Mem h0 n0 X st M)(hA:Acc n1 z A ks ls)(hne: ∀x∈A,x.1≠cp)(hs: ∀x∈A,x∈M):J1 st.h.get [cp] z ls ks:=by
 cases hA with
 |none=>exact .nil _ _ _
 |own hc hz hb=>exact J1.own (h.row _ _ _ (hs _ (List.mem_singleton.2 rfl))) hz (by simpa using hne _ (List.mem_singleton.2 rfl)) (by omega)
theorem Mem.xS{h0:Hp}{n0:Nat}{X:List Nat}{st:St}{M:QJ}{c m:Nat}{l:List AV}(h:Mem h0 n0 X st ((c,m,l)::M)): ∀x∈M,x.1≠c:=fun x hx e=>by
 have:=h.nodup;rw[List.map_cons,List.nodup_cons]at this;exact this.1 (List.mem_map.2 ⟨x,hx,e⟩)
theorem qW{l:List Dc}: ∀cs∈l.map Dc.cells,cs.length=3:=by
 intro cs hc;obtain⟨x,_,rfl⟩:=List.mem_map.1 hc;rfl

theorem Cd{st:St}(hf:Q6 st)(l:List Nat)(hB:Bytes l)(hl:l.length≤140737488351232): ∃v st',Ev Tryz.prog Ja 9 [.str l] st v st'∧ ∃cs,v=.tup [.agg cs,.int .i64 (Yf l).2.1,.int .i64 (Yf l).2.2]∧(∃A,Dt st.n st' A∧yS (Jo R0 A) (Yf l).1 cs)∧Qt st st':=by
 refine QC rfl Tryz.func9 rfl Tryz.ntmps9 rfl fun T hT=>?_;have K:Jm [(0,_)] T:=(.cons (hT 0) .nil);have M:=Mem.start hf;refine au 4 K M ?_;intro c2 _ _ K _ M;obtain⟨v12,st12,ev12,ks12,rfl,nr12,q12⟩:=DG M.fresh l hB;refine o1 K (Qc rfl ev12) rfl fun _ K=>?_;obtain⟨A12,hA12,M⟩:=M.FZ q12 nr12;refine Qg 9 K M ?_;intro _ K;refine G5 K rfl (fun h17=>?_) fun h17=>?_
 ·refine Qq<|Qh<|o1 K (Qz ZU rfl rfl) rfl fun _ K=>?_;refine au 5 K M ?_;intro _ _ K _ M;refine Qe ⟨.inr rfl,_,(Uo (Uk K rfl (M.load (k:=0) rfl (QG Y4 rfl))) (QY K rfl) (QY K rfl)),?_⟩;exact⟨_,by rw[Yf,if_pos (by simp_all)],⟨[],M.Iv (List.nil_sublist _),by rw[Yf,if_pos (by simp_all)];exact yS.none⟩,M.qt⟩
 refine Qg 1 K M ?_;intro _ K;refine o1 K (Qz He rfl ((FV rfl hA12.cell rfl).trans rfl)) rfl fun _ K=>?_;refine J2 K M rfl (Qa hA12.cell (Qa rfl (Qa rfl (Qa rfl Qv)))) (by decide) fun c23 _ _ K M=>?_;refine Qg 1 K M ?_;intro _ K;refine o1 K (Qz ZU rfl rfl) rfl fun _ K=>?_;refine au 2 K M ?_;intro c9 _ _ K _ M
 have hE:(tokens (bytesOf l)).2.2=0:=by simp_all
 obtain⟨hO,h0⟩:=PY l hE;rw[TS]at hA12;obtain⟨L,hLe⟩: ∃L,L=VZ l:=⟨_,rfl⟩;rw[←hLe]at hO h0 hA12;have hne: ∀x∈A12,x.1≠c23:=fun x hx=>(M.perm (List.Perm.swap _ _ _)).xS x (by simp[hx]);refine U8 (fun mm1 T st9=> ∃(S1:PS) (kd:AV) (kp:AV) (A1:QJ) (A2:QJ) (ds:List Dc) (ps:List Pd) (lsp:List (List AV)) (B:QJ) (k:Nat),mm1=k+1∧Jm [(0,.str l),(2,.ptr c2 0 0),(3,.int .i64 0),(4,.int .i64 0),(8,.ptr c23 0 0),(9,.ptr c9 0 0)] T∧Mem st.h.get st.n [] st9 ((c9,0,[kd,kp,.str [],.str [],.int .i64 0,.int .i64 0,.nils])::(c23,0,[ks12,.int .i64 (((S1.i:Nat):Int)),.int .i64 (S1.e),.int .i64 (S1.a)])::(c2,0,[.nils,.nils,.str [],.str [],.int .i64 0,.int .i64 0,.nils])::(A12++(A1++(A2++(B++[])))))∧S1.i<L.length∧Acc st.n 3 A1 kd (ds.map Dc.cells)∧Acc st.n 8 A2 kp lsp∧lsp.length=ps.length∧OB (Jo R0 B) ps lsp∧ds.length≤S1.i∧ps.length≤S1.i∧L.length+1≤k+S1.i∧Z9 L (L.length+1) ⟨0,0,0⟩ [] []=Z9 L k S1 ds ps) (fun mm1 T st9 hI=>?_) _ _ _ ⟨⟨0,0,0⟩,.nils,.nils,[],[],[],[],[],[],L.length+1,rfl,(.cons (K _ _ rfl) (.cons (K _ _ rfl) (.cons (K _ _ rfl) (.cons (K _ _ rfl) (.cons (K _ _ rfl) (.cons (K _ _ rfl) .nil)))))),M.less (.refl _),h0,.none,.none,rfl,.nil,(Nat.le_refl _),(Nat.le_refl _),(Nat.le_refl _),rfl⟩;obtain⟨S1,kd,kp,A1,A2,ds,ps,lsp,B,k,rfl,K,M,hi1,hA1,hA2,hlp,hPA,hds,hps,hk1,hgo⟩:=hI;have hLn:=hO.n;obtain⟨k,rfl⟩: ∃j,k=j+1:=⟨k-1,by omega⟩;refine Qg 5 K M ?_;intro _ K;refine oB K (Qb rfl) rfl fun b30 _ e30 K=>?_;cases b30
 ·replace e30:=of_decide_eq_false e30;refine Qg 8 K M ?_;intro _ K;refine Qn (t:=false) (K.QR rfl) (fun h=>by cases h) (fun _=>?_);refine Uc ?_;show W _ _ _ _ _ _ _;refine Qg 1 K M ?_;intro _ K;obtain⟨v55,st55,ev55,⟨on55,sn55,zn55,an55,ln55,kkn55,A55,en55,rfl,hS55,hN55⟩,q55,r55⟩:=(Ib hO (by omega) (d:=0)) _ _ M.fresh (M.Hh hA12 hne (fun x hx=>by simp[hx])) hO (M.Qp (k:=1) rfl) hi1 (Nat.le_add_right _ _);refine o1 K (Qc rfl ev55) rfl fun _ K=>?_;replace M:=M.J7 (k:=1) rfl q55 r55 hS55;replace M:=Mem.cast (M':=((c9,0,[kd,kp,.str [],.str [],.int .i64 0,.int .i64 0,.nils])::(c23,0,[ks12,.int .i64 ((((Q3 L L.length S1 0).1.i:Nat):Int)),.int .i64 ((Q3 L L.length S1 0).1.e),.int .i64 ((Q3 L L.length S1 0).1.a)])::(c2,0,[.nils,.nils,.str [],.str [],.int .i64 0,.int .i64 0,.nils])::(A12++(A1++(A2++((B++A55)++[])))))) M (by simp);refine o1 K (Qf E4 rfl) rfl fun _ K=>?_;refine QB (k:=0) K M rfl rfl rfl QH rfl (Qa rfl (Qa rfl (Qa rfl (Qa rfl (Qa hN55.JV Qv))))) rfl fun _ M=>?_;refine Qg 1 K M ?_;intro _ K;obtain⟨v58,st58,ev58,rfl,q58,r58⟩:=YR M.fresh (M.Hh hA12 hne (fun x hx=>by simp[hx])) hO (M.Qp (k:=1) rfl) ((YW hO.t _ _ 0).2 hi1) [59];refine o1 K (Qc rfl ev58) rfl fun _ K=>?_;replace M:=M.JP (k:=1) rfl q58 r58;refine Qg 1 K M ?_;intro _ K;obtain⟨v60,st60,ev60,rfl,q60⟩:=YM M.fresh (M.Hh hA12 hne (fun x hx=>by simp[hx])) hO (M.Qp (k:=1) rfl) ((Ue hO.t _ _).2 ((YW hO.t _ _ 0).2 hi1));refine o1 K (Qc rfl ev60) rfl fun _ K=>?_;replace M:=M.quiet q60;refine o1 K (YA rfl ((WX _).trans (Qk QI rfl))) rfl fun _ K=>?_;refine Qg 1 K M ?_;intro _ K;refine Qn (K.QR rfl) (fun h62=>?_) (fun h62=>?_)
  ·have hb62:=h62
   replace h62: ¬((Qi L (QS L (Q3 L L.length S1 0).1 [59])).k=4):=by simpa using h62
   refine Qg 2 K M ?_;intro _ K;obtain⟨v65,st65,ev65,rfl,q65⟩:=YM M.fresh (M.Hh hA12 hne (fun x hx=>by simp[hx])) hO (M.Qp (k:=1) rfl) ((Ue hO.t _ _).2 ((YW hO.t _ _ 0).2 hi1));refine o1 K (Qc rfl ev65) rfl fun _ K=>?_;replace M:=M.quiet q65;refine o1 K (YA rfl ((UD _).trans (Qk QI rfl))) rfl fun _ K=>?_;obtain⟨v67,st67,ev67,rfl,q67,r67⟩:=UT M.fresh (M.Qp (k:=1) rfl) ((Qi L (QS L (Q3 L L.length S1 0).1 [59])).a) 2;refine o1 K (Qc rfl ev67) rfl fun _ K=>?_;replace M:=M.JP (k:=1) rfl q67 r67;refine Qg 5 K M ?_;intro _ K;refine Qn (K.QR rfl) (fun h72=>?_) (fun h72=>?_)
   ·have hb72:=h72
    replace h72: ¬((Q4 (QS L (Q3 L L.length S1 0).1 [59]) ((Qi L (QS L (Q3 L L.length S1 0).1 [59])).a) 2).e=0):=by simpa using h72
    refine Qq ?_;refine Jk (l:=[(0,0),(9,0),(1,0),(2,0),(3,0),(4,1),(5,0),(6,0),(7,0),(8,1),(10,0),(11,0)]) (by kernel_rfl) ?_;have Mq:=M;refine d1 rfl K (Qz ZU rfl rfl) rfl rfl fun _ K=>?_;refine JX (k:=2) rfl K M rfl rfl rfl Yn rfl rfl rfl fun _ M=>?_;have Mp:=Mq;have Mq:=M;refine d1 rfl K (Qb rfl) rfl rfl fun _ K=>d1 rfl K (JN rfl rfl) rfl rfl fun _ K=>d1 rfl K (Qf Yc rfl) rfl rfl fun _ K=>?_;refine QZ rfl K rfl (M.load (k:=1) rfl (Qk QI rfl)) (Mp.load (k:=1) rfl (Qk QI rfl)) (Ub rfl) rfl (by decide) fun _ K=>?_;refine d1 rfl K (Qb rfl) rfl rfl fun _ K=>d1 rfl K (JN rfl rfl) rfl rfl fun _ K=>d1 rfl K (Qf Yd rfl) rfl rfl fun _ K=>?_;refine QZ rfl K rfl (M.load (k:=1) rfl (Qk QI rfl)) (Mp.load (k:=1) rfl (Qk QI rfl)) (Ub rfl) rfl (by decide) fun _ K=>?_;refine d1 rfl K (QM rfl) rfl rfl fun _ K=>d1 rfl K (QM rfl) rfl rfl fun _ K=>J0 ?_;show W _ _ _ _ _ _ _;refine Qe ⟨.inr rfl,_,(Uo (Uk K rfl (M.load (k:=2) rfl (QG Y4 rfl))) (QY K rfl) (QY K rfl)),?_⟩;have hP:X8 L=((Q4 (QS L (Q3 L L.length S1 0).1 [59]) ((Qi L (QS L (Q3 L L.length S1 0).1 [59])).a) 2),⟨ds,ps,(Q3 L L.length S1 0).2⟩):=VM (hgo.trans (ZW (by first|omega|(simp_all;done)|(simp_all;omega)))) (if_pos (by first|omega|(simp_all;done)|(simp_all;omega)))
    have hPN:Yf l=(Cl,((Q4 (QS L (Q3 L L.length S1 0).1 [59]) ((Qi L (QS L (Q3 L L.length S1 0).1 [59])).a) 2)).a,((Q4 (QS L (Q3 L L.length S1 0).1 [59]) ((Qi L (QS L (Q3 L L.length S1 0).1 [59])).a) 2)).e):=by rw[Yf,if_neg (by simp[hE]),←hLe,hP,if_pos (by first|omega|(simp_all;done)|(simp_all;omega))]
    rw[hPN];exact⟨_,rfl,⟨[],M.Iv (List.nil_sublist _),yS.none⟩,M.qt⟩
   have hb72:=h72
   replace h72:((Q4 (QS L (Q3 L L.length S1 0).1 [59]) ((Qi L (QS L (Q3 L L.length S1 0).1 [59])).a) 2).e=0):=by simpa using h72
   refine Qg 2 K M ?_;intro _ K;refine o1 K (X3 UI rfl rfl) rfl fun _ K=>?_;refine QB (k:=2) K M rfl rfl rfl Yn rfl (Qa hA1.cell (Qa hA2.cell (Qa rfl (Qa rfl (Qa rfl (Qa rfl (Qa hN55.JV Qv))))))) rfl fun _ M=>?_;refine Qg 2 K M ?_;intro _ K;refine Qe ⟨.inr rfl,_,(Uo (Uk K rfl (M.load (k:=2) rfl (QG Y4 rfl))) (QY K rfl) (QY K rfl)),?_⟩;have hP:X8 L=((Q4 (QS L (Q3 L L.length S1 0).1 [59]) ((Qi L (QS L (Q3 L L.length S1 0).1 [59])).a) 2),⟨ds,ps,(Q3 L L.length S1 0).2⟩):=VM (hgo.trans (ZW (by first|omega|(simp_all;done)|(simp_all;omega)))) (if_pos (by first|omega|(simp_all;done)|(simp_all;omega)))
   have hPN:Yf l=(⟨ds,ps,(Q3 L L.length S1 0).2⟩,((l.length:Nat):Int),0):=by rw[Yf,if_neg (by simp[hE]),←hLe,hP,if_neg (by first|omega|(simp_all;done)|(simp_all;omega))]
   rw[hPN];exact⟨_,rfl,⟨((c9,0,[kd,kp,.str on55,.str sn55,.int .i64 zn55,.int .i64 an55,kkn55])::(c23,0,[ks12,.int .i64 ((((Q4 (QS L (Q3 L L.length S1 0).1 [59]) ((Qi L (QS L (Q3 L L.length S1 0).1 [59])).a) 2).i:Nat):Int)),.int .i64 ((Q4 (QS L (Q3 L L.length S1 0).1 [59]) ((Qi L (QS L (Q3 L L.length S1 0).1 [59])).a) 2).e),.int .i64 ((Q4 (QS L (Q3 L L.length S1 0).1 [59]) ((Qi L (QS L (Q3 L L.length S1 0).1 [59])).a) 2).a)])::(c2,0,[kd,kp,.str on55,.str sn55,.int .i64 zn55,.int .i64 an55,kkn55])::(A12++(A1++(A2++((B++A55)++[]))))),M.Iv (.refl _),kd,kp,_,_,_,_,_,lsp,rfl,⟨A1,fun x hx=>.inr (by simp[hx]),_,hA1⟩,⟨A2,fun x hx=>.inr (by simp[hx]),_,hA2⟩,hlp,hPA.mono (Qm (fun _ _ _ h=>h) (fun x hx=>by simp[hx])),hN55.mono (Qm (fun _ _ _ h=>h) (fun x hx=>by simp[hx]))⟩,M.qt⟩
  have hb62:=h62
  replace h62:((Qi L (QS L (Q3 L L.length S1 0).1 [59])).k=4):=by simpa using h62
  refine Qg 5 K M ?_;intro _ K;refine Qn (K.QR rfl) (fun h72=>?_) (fun h72=>?_)
  ·have hb72:=h72
   replace h72: ¬((QS L (Q3 L L.length S1 0).1 [59]).e=0):=by simpa using h72
   refine Qq ?_;refine Jk (l:=[(0,0),(9,0),(1,0),(2,0),(3,0),(4,1),(5,0),(6,0),(7,0),(8,1),(10,0),(11,0)]) (by kernel_rfl) ?_;have Mq:=M;refine d1 rfl K (Qz ZU rfl rfl) rfl rfl fun _ K=>?_;refine JX (k:=2) rfl K M rfl rfl rfl Yn rfl rfl rfl fun _ M=>?_;have Mp:=Mq;have Mq:=M;refine d1 rfl K (Qb rfl) rfl rfl fun _ K=>d1 rfl K (JN rfl rfl) rfl rfl fun _ K=>d1 rfl K (Qf Yc rfl) rfl rfl fun _ K=>?_;refine QZ rfl K rfl (M.load (k:=1) rfl (Qk QI rfl)) (Mp.load (k:=1) rfl (Qk QI rfl)) (Ub rfl) rfl (by decide) fun _ K=>?_;refine d1 rfl K (Qb rfl) rfl rfl fun _ K=>d1 rfl K (JN rfl rfl) rfl rfl fun _ K=>d1 rfl K (Qf Yd rfl) rfl rfl fun _ K=>?_;refine QZ rfl K rfl (M.load (k:=1) rfl (Qk QI rfl)) (Mp.load (k:=1) rfl (Qk QI rfl)) (Ub rfl) rfl (by decide) fun _ K=>?_;refine d1 rfl K (QM rfl) rfl rfl fun _ K=>d1 rfl K (QM rfl) rfl rfl fun _ K=>J0 ?_;show W _ _ _ _ _ _ _;refine Qe ⟨.inr rfl,_,(Uo (Uk K rfl (M.load (k:=2) rfl (QG Y4 rfl))) (QY K rfl) (QY K rfl)),?_⟩;have hP:X8 L=((QS L (Q3 L L.length S1 0).1 [59]),⟨ds,ps,(Q3 L L.length S1 0).2⟩):=VM (hgo.trans (ZW (by first|omega|(simp_all;done)|(simp_all;omega)))) (if_neg (by first|omega|(simp_all;done)|(simp_all;omega)))
   have hPN:Yf l=(Cl,((QS L (Q3 L L.length S1 0).1 [59])).a,((QS L (Q3 L L.length S1 0).1 [59])).e):=by rw[Yf,if_neg (by simp[hE]),←hLe,hP,if_pos (by first|omega|(simp_all;done)|(simp_all;omega))]
   rw[hPN];exact⟨_,rfl,⟨[],M.Iv (List.nil_sublist _),yS.none⟩,M.qt⟩
  have hb72:=h72
  replace h72:((QS L (Q3 L L.length S1 0).1 [59]).e=0):=by simpa using h72
  refine Qg 2 K M ?_;intro _ K;refine o1 K (X3 UI rfl rfl) rfl fun _ K=>?_;refine QB (k:=2) K M rfl rfl rfl Yn rfl (Qa hA1.cell (Qa hA2.cell (Qa rfl (Qa rfl (Qa rfl (Qa rfl (Qa hN55.JV Qv))))))) rfl fun _ M=>?_;refine Qg 2 K M ?_;intro _ K;refine Qe ⟨.inr rfl,_,(Uo (Uk K rfl (M.load (k:=2) rfl (QG Y4 rfl))) (QY K rfl) (QY K rfl)),?_⟩;have hP:X8 L=((QS L (Q3 L L.length S1 0).1 [59]),⟨ds,ps,(Q3 L L.length S1 0).2⟩):=VM (hgo.trans (ZW (by first|omega|(simp_all;done)|(simp_all;omega)))) (if_neg (by first|omega|(simp_all;done)|(simp_all;omega)))
  have hPN:Yf l=(⟨ds,ps,(Q3 L L.length S1 0).2⟩,((l.length:Nat):Int),0):=by rw[Yf,if_neg (by simp[hE]),←hLe,hP,if_neg (by first|omega|(simp_all;done)|(simp_all;omega))]
  rw[hPN];exact⟨_,rfl,⟨((c9,0,[kd,kp,.str on55,.str sn55,.int .i64 zn55,.int .i64 an55,kkn55])::(c23,0,[ks12,.int .i64 ((((QS L (Q3 L L.length S1 0).1 [59]).i:Nat):Int)),.int .i64 ((QS L (Q3 L L.length S1 0).1 [59]).e),.int .i64 ((QS L (Q3 L L.length S1 0).1 [59]).a)])::(c2,0,[kd,kp,.str on55,.str sn55,.int .i64 zn55,.int .i64 an55,kkn55])::(A12++(A1++(A2++((B++A55)++[]))))),M.Iv (.refl _),kd,kp,_,_,_,_,_,lsp,rfl,⟨A1,fun x hx=>.inr (by simp[hx]),_,hA1⟩,⟨A2,fun x hx=>.inr (by simp[hx]),_,hA2⟩,hlp,hPA.mono (Qm (fun _ _ _ h=>h) (fun x hx=>by simp[hx])),hN55.mono (Qm (fun _ _ _ h=>h) (fun x hx=>by simp[hx]))⟩,M.qt⟩
 replace e30:=of_decide_eq_true e30;refine og K rfl rfl (Qb rfl) rfl fun _ K=>?_;obtain⟨v32,st32,ev32,rfl,q32⟩:=Z1 M.fresh (M.Hh hA12 hne (fun x hx=>by simp[hx])) hO (M.Qp (k:=1) rfl) hi1 [112,114,101,100];refine og K rfl rfl (Qc rfl ev32) rfl fun _ K=>?_;replace M:=M.quiet q32;refine xz K rfl rfl (Qb rfl) rfl fun b33 _ e33 K=>?_;cases b33
 ·refine og K rfl rfl (Qb rfl) rfl fun _ K=>?_;obtain⟨v35,st35,ev35,rfl,q35⟩:=IB M.fresh (M.Hh hA12 hne (fun x hx=>by simp[hx])) hO (M.Qp (k:=1) rfl) hi1 [118,97,114] (by decide);refine og K rfl rfl (Qc rfl ev35) rfl fun _ K=>?_;replace M:=M.quiet q35;refine Qg 3 K M ?_;intro _ K;refine Z0 K rfl (fun h38=>?_) fun h38=>?_
  ·refine Qg 1 K M ?_;intro _ K;obtain⟨v40,st40,ev40,rfl,q40⟩:=Z1 M.fresh (M.Hh hA12 hne (fun x hx=>by simp[hx])) hO (M.Qp (k:=1) rfl) hi1 [112,114,101,100];refine o1 K (Qc rfl ev40) rfl fun _ K=>?_;replace M:=M.quiet q40;refine Q5 ?_;show W _ _ _ _ _ _ _;refine Qn (K.QR rfl) (fun h40=>?_) (fun h40=>?_)
   ·have hb40:=h40;refine Jk (l:=[(2,0),(3,0),(0,0),(1,1),(4,0),(5,0),(6,0),(7,0)]) (by kernel_rfl) ?_;have Mq:=M;refine d1 rfl K (Qb rfl) rfl rfl fun _ K=>?_;obtain⟨v44,st44,ev44,⟨A44,hS44,_,rfl,kp44,on44,sn44,zn44,an44,kkn44,rfl,⟨Ap44,hxp44,np44,hap44⟩,hN44⟩,q44,r44⟩:=Rq M.fresh (M.Hh hA12 hne (fun x hx=>by simp[hx])) hO (M.Qp (k:=1) rfl) hi1;refine dA rfl K (Qc rfl ev44) rfl rfl fun _ K=>?_;replace M:=M.J7 (k:=1) rfl q44 r44 hS44;replace M:=Mem.cast (M':=((c9,0,[kd,kp,.str [],.str [],.int .i64 0,.int .i64 0,.nils])::(c23,0,[ks12,.int .i64 ((((Jv L S1).1.i:Nat):Int)),.int .i64 ((Jv L S1).1.e),.int .i64 ((Jv L S1).1.a)])::(c2,0,[.nils,.nils,.str [],.str [],.int .i64 0,.int .i64 0,.nils])::(A12++(A1++(A2++((B++A44)++[])))))) M (by simp);have Mp:=Mq;have Mq:=M;refine d1 rfl K (Qf Xz rfl) rfl rfl fun _ K=>?_;refine QZ rfl K rfl (M.load (k:=0) rfl (Qk Yi rfl)) (Mp.load (k:=0) rfl (Qk Yi rfl)) (Ub (Ye hA2.len)) rfl (by decide) fun _ K=>?_;refine Vr rfl K M Z4 ZQ rfl rfl (Qa rfl (Qa hap44.cell (Qa rfl (Qa rfl (Qa rfl (Qa rfl (Qa hN44.JV (Qa rfl Qv)))))))) rfl rfl fun c45 _ _ K M=>?_;refine Iz (k2:=0) (L:=((c45,0,[.str ((Jv L S1).2.name),kp44,.str on44,.str sn44,.int .i64 zn44,.int .i64 an44,kkn44,.int .i64 ((Jv L S1).2.at_)])::(c9,0,[kd,kp,.str [],.str [],.int .i64 0,.int .i64 0,.nils])::(c23,0,[ks12,.int .i64 ((((Jv L S1).1.i:Nat):Int)),.int .i64 ((Jv L S1).1.e),.int .i64 ((Jv L S1).1.a)])::(c2,0,[.nils,.nils,.str [],.str [],.int .i64 0,.int .i64 0,.nils])::(A12++(A1++[])))) (A:=A2) (B:=((B++A44)++[])) rfl K (Mem.cast (M:=((c45,0,[.str ((Jv L S1).2.name),kp44,.str on44,.str sn44,.int .i64 zn44,.int .i64 an44,kkn44,.int .i64 ((Jv L S1).2.at_)])::(c9,0,[kd,kp,.str [],.str [],.int .i64 0,.int .i64 0,.nils])::(c23,0,[ks12,.int .i64 ((((Jv L S1).1.i:Nat):Int)),.int .i64 ((Jv L S1).1.e),.int .i64 ((Jv L S1).1.a)])::(c2,0,[.nils,.nils,.str [],.str [],.int .i64 0,.int .i64 0,.nils])::(A12++(A1++(A2++((B++A44)++[])))))) (M':=((c45,0,[.str ((Jv L S1).2.name),kp44,.str on44,.str sn44,.int .i64 zn44,.int .i64 an44,kkn44,.int .i64 ((Jv L S1).2.at_)])::(c9,0,[kd,kp,.str [],.str [],.int .i64 0,.int .i64 0,.nils])::(c23,0,[ks12,.int .i64 ((((Jv L S1).1.i:Nat):Int)),.int .i64 ((Jv L S1).1.e),.int .i64 ((Jv L S1).1.a)])::(c2,0,[.nils,.nils,.str [],.str [],.int .i64 0,.int .i64 0,.nils])::(A12++(A1++[])))++(A2++((B++A44)++[]))) M (by first|(simp only[List.append_assoc,List.cons_append,List.nil_append,List.append_nil,List.set_cons_zero,List.set_cons_succ];done)|(simp only[List.append_assoc,List.cons_append,List.nil_append,List.append_nil,List.set_cons_zero,List.set_cons_succ];rfl))) hA2 Z4 rfl rfl rfl rfl (by omega) rfl fun ks46 A46 _ _ K hA46 M=>?_;replace M:=Mem.cast (M:=((c45,0,[.str ((Jv L S1).2.name),kp44,.str on44,.str sn44,.int .i64 zn44,.int .i64 an44,kkn44,.int .i64 ((Jv L S1).2.at_)])::(c9,0,[kd,kp,.str [],.str [],.int .i64 0,.int .i64 0,.nils])::(c23,0,[ks12,.int .i64 ((((Jv L S1).1.i:Nat):Int)),.int .i64 ((Jv L S1).1.e),.int .i64 ((Jv L S1).1.a)])::(c2,0,[.nils,.nils,.str [],.str [],.int .i64 0,.int .i64 0,.nils])::(A12++(A1++[])))++(A46++((B++A44)++[]))) (M':=((c45,0,[.str ((Jv L S1).2.name),kp44,.str on44,.str sn44,.int .i64 zn44,.int .i64 an44,kkn44,.int .i64 ((Jv L S1).2.at_)])::(c9,0,[kd,kp,.str [],.str [],.int .i64 0,.int .i64 0,.nils])::(c23,0,[ks12,.int .i64 ((((Jv L S1).1.i:Nat):Int)),.int .i64 ((Jv L S1).1.e),.int .i64 ((Jv L S1).1.a)])::(c2,0,[.nils,.nils,.str [],.str [],.int .i64 0,.int .i64 0,.nils])::(A12++(A1++(A46++((B++A44)++[])))))) M (by simp);have Mp:=Mq;have Mq:=M;refine d1 rfl K (Qf Xz rfl) rfl rfl fun _ K=>?_;refine Vy (k:=1) rfl K M rfl rfl rfl V8 (hA46.cell) rfl fun _ M=>?_;have Mp:=Mq;have Mq:=M;refine J0 ?_
    have hip:UN L S1 [112,114,101,100]=true:=by simp_all
    have hlt:=pred_lt hO hip
    have hlsn:(lsp++[[.str ((Jv L S1).2.name),kp44,.str on44,.str sn44,.int .i64 zn44,.int .i64 an44,kkn44,.int .i64 ((Jv L S1).2.at_)]]).length=(ps++[(Jv L S1).2]).length:=by simp[hlp]
    exact⟨_,(by omega),(Jv L S1).1,kd,ks46,A1,A46,ds,ps++[(Jv L S1).2],(lsp++[[.str ((Jv L S1).2.name),kp44,.str on44,.str sn44,.int .i64 zn44,.int .i64 an44,kkn44,.int .i64 ((Jv L S1).2.at_)]]),(B++A44),k,rfl,(.cons (K _ _ rfl) (.cons (K _ _ rfl) (.cons (K _ _ rfl) (.cons (K _ _ rfl) (.cons (K _ _ rfl) (.cons (K _ _ rfl) .nil)))))),M.less (.cons _ (.refl _)),((Dp hO.t _).2 hi1),hA1,hA46,hlsn,(hPA.snoc hlp ⟨_,_,_,_,_,_,rfl,⟨Ap44,hxp44,np44,hap44⟩,hN44⟩),(by omega),(by rw[List.length_append,List.length_singleton];omega),(by omega),(hgo.trans (KT hip))⟩
   have hb40:=h40;refine Jk (l:=[(2,0),(3,0),(0,0),(1,1),(4,0),(5,0),(6,0)]) (by kernel_rfl) ?_;have Mq:=M;refine d1 rfl K (Qb rfl) rfl rfl fun _ K=>?_;obtain⟨v51,st51,ev51,⟨A51,hA51,hS51⟩,q51,r51⟩:=RA M.fresh (M.Hh hA12 hne (fun x hx=>by simp[hx])) hO (M.Qp (k:=1) rfl) hi1;refine dA rfl K (Qc rfl ev51) rfl rfl fun _ K=>?_;replace M:=M.J7 (k:=1) rfl q51 r51 hS51;have hdl:=CN hO (show 0≤QQ L S1 [118,97,114]from by first|omega|(simp_all;done)|(simp_all;omega));have hi2:=(Kb hO.t S1).2 hi1;replace M:=Mem.cast (M':=((c9,0,[kd,kp,.str [],.str [],.int .i64 0,.int .i64 0,.nils])::(c23,0,[ks12,.int .i64 ((((Ug L S1).1.i:Nat):Int)),.int .i64 ((Ug L S1).1.e),.int .i64 ((Ug L S1).1.a)])::(c2,0,[.nils,.nils,.str [],.str [],.int .i64 0,.int .i64 0,.nils])::(A12++(A1++(A2++((B++A51)++[])))))) M (by simp);have Mp:=Mq;have Mq:=M;refine d1 rfl K (Qf X0 rfl) rfl rfl fun _ K=>?_;refine QZ rfl K rfl (M.load (k:=0) rfl (Qk Y5 rfl)) (Mp.load (k:=0) rfl (Qk Y5 rfl)) (Ub (Ye hA1.len)) rfl (by decide) fun _ K=>?_;refine PT (L:=((c9,0,[kd,kp,.str [],.str [],.int .i64 0,.int .i64 0,.nils])::(c23,0,[ks12,.int .i64 ((((Ug L S1).1.i:Nat):Int)),.int .i64 ((Ug L S1).1.e),.int .i64 ((Ug L S1).1.a)])::(c2,0,[.nils,.nils,.str [],.str [],.int .i64 0,.int .i64 0,.nils])::(A12++[]))) (A:=A1) (B:=(A2++((B++A51)++[]))) rfl K (Mem.cast (M:=((c9,0,[kd,kp,.str [],.str [],.int .i64 0,.int .i64 0,.nils])::(c23,0,[ks12,.int .i64 ((((Ug L S1).1.i:Nat):Int)),.int .i64 ((Ug L S1).1.e),.int .i64 ((Ug L S1).1.a)])::(c2,0,[.nils,.nils,.str [],.str [],.int .i64 0,.int .i64 0,.nils])::(A12++(A1++(A2++((B++A51)++[])))))) (M':=((c9,0,[kd,kp,.str [],.str [],.int .i64 0,.int .i64 0,.nils])::(c23,0,[ks12,.int .i64 ((((Ug L S1).1.i:Nat):Int)),.int .i64 ((Ug L S1).1.e),.int .i64 ((Ug L S1).1.a)])::(c2,0,[.nils,.nils,.str [],.str [],.int .i64 0,.int .i64 0,.nils])::(A12++[]))++(A1++(A2++((B++A51)++[])))) M (by first|(simp only[List.append_assoc,List.cons_append,List.nil_append,List.append_nil,List.set_cons_zero,List.set_cons_succ];done)|(simp only[List.append_assoc,List.cons_append,List.nil_append,List.append_nil,List.set_cons_zero,List.set_cons_succ];rfl))) hA1 JG rfl rfl (M.xu hA51 (fun x hx=>by simp[hx])) qW (by rw[List.length_map,List.length_map];omega) rfl fun ks52 A52 _ _ K hA52 M=>?_;replace M:=Mem.cast (M:=((c9,0,[kd,kp,.str [],.str [],.int .i64 0,.int .i64 0,.nils])::(c23,0,[ks12,.int .i64 ((((Ug L S1).1.i:Nat):Int)),.int .i64 ((Ug L S1).1.e),.int .i64 ((Ug L S1).1.a)])::(c2,0,[.nils,.nils,.str [],.str [],.int .i64 0,.int .i64 0,.nils])::(A12++[]))++(A52++(A2++((B++A51)++[])))) (M':=((c9,0,[kd,kp,.str [],.str [],.int .i64 0,.int .i64 0,.nils])::(c23,0,[ks12,.int .i64 ((((Ug L S1).1.i:Nat):Int)),.int .i64 ((Ug L S1).1.e),.int .i64 ((Ug L S1).1.a)])::(c2,0,[.nils,.nils,.str [],.str [],.int .i64 0,.int .i64 0,.nils])::(A12++(A52++(A2++((B++A51)++[])))))) M (by simp);have Mp:=Mq;have Mq:=M;refine d1 rfl K (Qf X0 rfl) rfl rfl fun _ K=>?_;refine Vy (k:=0) rfl K M rfl rfl rfl V9 (hA52.cell) rfl fun _ M=>?_;have Mp:=Mq;have Mq:=M;refine J0 ?_
   have hip:UN L S1 [112,114,101,100]=false:=by simp_all
   have ho:0≤QQ L S1 [118,97,114]:=by first|omega|(simp_all;done)|(simp_all;omega)
   have hE1:S1.e=0:=by simp_all
   have hlt:=R9 hO ho;exact⟨_,(by omega),(Ug L S1).1,ks52,kp,A52,A2,ds++(Ug L S1).2,ps,lsp,(B++A51),k,rfl,(.cons (K _ _ rfl) (.cons (K _ _ rfl) (.cons (K _ _ rfl) (.cons (K _ _ rfl) (.cons (K _ _ rfl) (.cons (K _ _ rfl) .nil)))))),M.less (.refl _),((Kb hO.t _).2 hi1),(by rw[List.map_append];exact hA52),hA2,hlp,(hPA.mono (Qm (fun _ _ _ h=>h) (fun x hx=>List.mem_append_left _ hx))),(by rw[List.length_append];omega),(by omega),(by omega),(hgo.trans (KU hE1 hip ho))⟩
  refine Uc ?_;show W _ _ _ _ _ _ _;refine Qg 1 K M ?_;intro _ K;obtain⟨v55,st55,ev55,⟨on55,sn55,zn55,an55,ln55,kkn55,A55,en55,rfl,hS55,hN55⟩,q55,r55⟩:=(Ib hO (by omega) (d:=0)) _ _ M.fresh (M.Hh hA12 hne (fun x hx=>by simp[hx])) hO (M.Qp (k:=1) rfl) hi1 (Nat.le_add_right _ _);refine o1 K (Qc rfl ev55) rfl fun _ K=>?_;replace M:=M.J7 (k:=1) rfl q55 r55 hS55;replace M:=Mem.cast (M':=((c9,0,[kd,kp,.str [],.str [],.int .i64 0,.int .i64 0,.nils])::(c23,0,[ks12,.int .i64 ((((Q3 L L.length S1 0).1.i:Nat):Int)),.int .i64 ((Q3 L L.length S1 0).1.e),.int .i64 ((Q3 L L.length S1 0).1.a)])::(c2,0,[.nils,.nils,.str [],.str [],.int .i64 0,.int .i64 0,.nils])::(A12++(A1++(A2++((B++A55)++[])))))) M (by simp);refine o1 K (Qf E4 rfl) rfl fun _ K=>?_;refine QB (k:=0) K M rfl rfl rfl QH rfl (Qa rfl (Qa rfl (Qa rfl (Qa rfl (Qa hN55.JV Qv))))) rfl fun _ M=>?_;refine Qg 1 K M ?_;intro _ K;obtain⟨v58,st58,ev58,rfl,q58,r58⟩:=YR M.fresh (M.Hh hA12 hne (fun x hx=>by simp[hx])) hO (M.Qp (k:=1) rfl) ((YW hO.t _ _ 0).2 hi1) [59];refine o1 K (Qc rfl ev58) rfl fun _ K=>?_;replace M:=M.JP (k:=1) rfl q58 r58;refine Qg 1 K M ?_;intro _ K;obtain⟨v60,st60,ev60,rfl,q60⟩:=YM M.fresh (M.Hh hA12 hne (fun x hx=>by simp[hx])) hO (M.Qp (k:=1) rfl) ((Ue hO.t _ _).2 ((YW hO.t _ _ 0).2 hi1));refine o1 K (Qc rfl ev60) rfl fun _ K=>?_;replace M:=M.quiet q60;refine o1 K (YA rfl ((WX _).trans (Qk QI rfl))) rfl fun _ K=>?_;refine Qg 1 K M ?_;intro _ K;refine Qn (K.QR rfl) (fun h62=>?_) (fun h62=>?_)
  ·have hb62:=h62
   replace h62: ¬((Qi L (QS L (Q3 L L.length S1 0).1 [59])).k=4):=by simpa using h62
   refine Qg 2 K M ?_;intro _ K;obtain⟨v65,st65,ev65,rfl,q65⟩:=YM M.fresh (M.Hh hA12 hne (fun x hx=>by simp[hx])) hO (M.Qp (k:=1) rfl) ((Ue hO.t _ _).2 ((YW hO.t _ _ 0).2 hi1));refine o1 K (Qc rfl ev65) rfl fun _ K=>?_;replace M:=M.quiet q65;refine o1 K (YA rfl ((UD _).trans (Qk QI rfl))) rfl fun _ K=>?_;obtain⟨v67,st67,ev67,rfl,q67,r67⟩:=UT M.fresh (M.Qp (k:=1) rfl) ((Qi L (QS L (Q3 L L.length S1 0).1 [59])).a) 2;refine o1 K (Qc rfl ev67) rfl fun _ K=>?_;replace M:=M.JP (k:=1) rfl q67 r67;refine Qg 5 K M ?_;intro _ K;refine Qn (K.QR rfl) (fun h72=>?_) (fun h72=>?_)
   ·have hb72:=h72
    replace h72: ¬((Q4 (QS L (Q3 L L.length S1 0).1 [59]) ((Qi L (QS L (Q3 L L.length S1 0).1 [59])).a) 2).e=0):=by simpa using h72
    refine Qq ?_;refine Jk (l:=[(0,0),(9,0),(1,0),(2,0),(3,0),(4,1),(5,0),(6,0),(7,0),(8,1),(10,0),(11,0)]) (by kernel_rfl) ?_;have Mq:=M;refine d1 rfl K (Qz ZU rfl rfl) rfl rfl fun _ K=>?_;refine JX (k:=2) rfl K M rfl rfl rfl Yn rfl rfl rfl fun _ M=>?_;have Mp:=Mq;have Mq:=M;refine d1 rfl K (Qb rfl) rfl rfl fun _ K=>d1 rfl K (JN rfl rfl) rfl rfl fun _ K=>d1 rfl K (Qf Yc rfl) rfl rfl fun _ K=>?_;refine QZ rfl K rfl (M.load (k:=1) rfl (Qk QI rfl)) (Mp.load (k:=1) rfl (Qk QI rfl)) (Ub rfl) rfl (by decide) fun _ K=>?_;refine d1 rfl K (Qb rfl) rfl rfl fun _ K=>d1 rfl K (JN rfl rfl) rfl rfl fun _ K=>d1 rfl K (Qf Yd rfl) rfl rfl fun _ K=>?_;refine QZ rfl K rfl (M.load (k:=1) rfl (Qk QI rfl)) (Mp.load (k:=1) rfl (Qk QI rfl)) (Ub rfl) rfl (by decide) fun _ K=>?_;refine d1 rfl K (QM rfl) rfl rfl fun _ K=>d1 rfl K (QM rfl) rfl rfl fun _ K=>J0 ?_;show W _ _ _ _ _ _ _;refine Qe ⟨.inr rfl,_,(Uo (Uk K rfl (M.load (k:=2) rfl (QG Y4 rfl))) (QY K rfl) (QY K rfl)),?_⟩;have hP:X8 L=((Q4 (QS L (Q3 L L.length S1 0).1 [59]) ((Qi L (QS L (Q3 L L.length S1 0).1 [59])).a) 2),⟨ds,ps,(Q3 L L.length S1 0).2⟩):=VM (hgo.trans (ZW (by first|omega|(simp_all;done)|(simp_all;omega)))) (if_pos (by first|omega|(simp_all;done)|(simp_all;omega)))
    have hPN:Yf l=(Cl,((Q4 (QS L (Q3 L L.length S1 0).1 [59]) ((Qi L (QS L (Q3 L L.length S1 0).1 [59])).a) 2)).a,((Q4 (QS L (Q3 L L.length S1 0).1 [59]) ((Qi L (QS L (Q3 L L.length S1 0).1 [59])).a) 2)).e):=by rw[Yf,if_neg (by simp[hE]),←hLe,hP,if_pos (by first|omega|(simp_all;done)|(simp_all;omega))]
    rw[hPN];exact⟨_,rfl,⟨[],M.Iv (List.nil_sublist _),yS.none⟩,M.qt⟩
   have hb72:=h72
   replace h72:((Q4 (QS L (Q3 L L.length S1 0).1 [59]) ((Qi L (QS L (Q3 L L.length S1 0).1 [59])).a) 2).e=0):=by simpa using h72
   refine Qg 2 K M ?_;intro _ K;refine o1 K (X3 UI rfl rfl) rfl fun _ K=>?_;refine QB (k:=2) K M rfl rfl rfl Yn rfl (Qa hA1.cell (Qa hA2.cell (Qa rfl (Qa rfl (Qa rfl (Qa rfl (Qa hN55.JV Qv))))))) rfl fun _ M=>?_;refine Qg 2 K M ?_;intro _ K;refine Qe ⟨.inr rfl,_,(Uo (Uk K rfl (M.load (k:=2) rfl (QG Y4 rfl))) (QY K rfl) (QY K rfl)),?_⟩;have hP:X8 L=((Q4 (QS L (Q3 L L.length S1 0).1 [59]) ((Qi L (QS L (Q3 L L.length S1 0).1 [59])).a) 2),⟨ds,ps,(Q3 L L.length S1 0).2⟩):=VM (hgo.trans (ZW (by first|omega|(simp_all;done)|(simp_all;omega)))) (if_pos (by first|omega|(simp_all;done)|(simp_all;omega)))
   have hPN:Yf l=(⟨ds,ps,(Q3 L L.length S1 0).2⟩,((l.length:Nat):Int),0):=by rw[Yf,if_neg (by simp[hE]),←hLe,hP,if_neg (by first|omega|(simp_all;done)|(simp_all;omega))]
   rw[hPN];exact⟨_,rfl,⟨((c9,0,[kd,kp,.str on55,.str sn55,.int .i64 zn55,.int .i64 an55,kkn55])::(c23,0,[ks12,.int .i64 ((((Q4 (QS L (Q3 L L.length S1 0).1 [59]) ((Qi L (QS L (Q3 L L.length S1 0).1 [59])).a) 2).i:Nat):Int)),.int .i64 ((Q4 (QS L (Q3 L L.length S1 0).1 [59]) ((Qi L (QS L (Q3 L L.length S1 0).1 [59])).a) 2).e),.int .i64 ((Q4 (QS L (Q3 L L.length S1 0).1 [59]) ((Qi L (QS L (Q3 L L.length S1 0).1 [59])).a) 2).a)])::(c2,0,[kd,kp,.str on55,.str sn55,.int .i64 zn55,.int .i64 an55,kkn55])::(A12++(A1++(A2++((B++A55)++[]))))),M.Iv (.refl _),kd,kp,_,_,_,_,_,lsp,rfl,⟨A1,fun x hx=>.inr (by simp[hx]),_,hA1⟩,⟨A2,fun x hx=>.inr (by simp[hx]),_,hA2⟩,hlp,hPA.mono (Qm (fun _ _ _ h=>h) (fun x hx=>by simp[hx])),hN55.mono (Qm (fun _ _ _ h=>h) (fun x hx=>by simp[hx]))⟩,M.qt⟩
  have hb62:=h62
  replace h62:((Qi L (QS L (Q3 L L.length S1 0).1 [59])).k=4):=by simpa using h62
  refine Qg 5 K M ?_;intro _ K;refine Qn (K.QR rfl) (fun h72=>?_) (fun h72=>?_)
  ·have hb72:=h72
   replace h72: ¬((QS L (Q3 L L.length S1 0).1 [59]).e=0):=by simpa using h72
   refine Qq ?_;refine Jk (l:=[(0,0),(9,0),(1,0),(2,0),(3,0),(4,1),(5,0),(6,0),(7,0),(8,1),(10,0),(11,0)]) (by kernel_rfl) ?_;have Mq:=M;refine d1 rfl K (Qz ZU rfl rfl) rfl rfl fun _ K=>?_;refine JX (k:=2) rfl K M rfl rfl rfl Yn rfl rfl rfl fun _ M=>?_;have Mp:=Mq;have Mq:=M;refine d1 rfl K (Qb rfl) rfl rfl fun _ K=>d1 rfl K (JN rfl rfl) rfl rfl fun _ K=>d1 rfl K (Qf Yc rfl) rfl rfl fun _ K=>?_;refine QZ rfl K rfl (M.load (k:=1) rfl (Qk QI rfl)) (Mp.load (k:=1) rfl (Qk QI rfl)) (Ub rfl) rfl (by decide) fun _ K=>?_;refine d1 rfl K (Qb rfl) rfl rfl fun _ K=>d1 rfl K (JN rfl rfl) rfl rfl fun _ K=>d1 rfl K (Qf Yd rfl) rfl rfl fun _ K=>?_;refine QZ rfl K rfl (M.load (k:=1) rfl (Qk QI rfl)) (Mp.load (k:=1) rfl (Qk QI rfl)) (Ub rfl) rfl (by decide) fun _ K=>?_;refine d1 rfl K (QM rfl) rfl rfl fun _ K=>d1 rfl K (QM rfl) rfl rfl fun _ K=>J0 ?_;show W _ _ _ _ _ _ _;refine Qe ⟨.inr rfl,_,(Uo (Uk K rfl (M.load (k:=2) rfl (QG Y4 rfl))) (QY K rfl) (QY K rfl)),?_⟩;have hP:X8 L=((QS L (Q3 L L.length S1 0).1 [59]),⟨ds,ps,(Q3 L L.length S1 0).2⟩):=VM (hgo.trans (ZW (by first|omega|(simp_all;done)|(simp_all;omega)))) (if_neg (by first|omega|(simp_all;done)|(simp_all;omega)))
   have hPN:Yf l=(Cl,((QS L (Q3 L L.length S1 0).1 [59])).a,((QS L (Q3 L L.length S1 0).1 [59])).e):=by rw[Yf,if_neg (by simp[hE]),←hLe,hP,if_pos (by first|omega|(simp_all;done)|(simp_all;omega))]
   rw[hPN];exact⟨_,rfl,⟨[],M.Iv (List.nil_sublist _),yS.none⟩,M.qt⟩
  have hb72:=h72
  replace h72:((QS L (Q3 L L.length S1 0).1 [59]).e=0):=by simpa using h72
  refine Qg 2 K M ?_;intro _ K;refine o1 K (X3 UI rfl rfl) rfl fun _ K=>?_;refine QB (k:=2) K M rfl rfl rfl Yn rfl (Qa hA1.cell (Qa hA2.cell (Qa rfl (Qa rfl (Qa rfl (Qa rfl (Qa hN55.JV Qv))))))) rfl fun _ M=>?_;refine Qg 2 K M ?_;intro _ K;refine Qe ⟨.inr rfl,_,(Uo (Uk K rfl (M.load (k:=2) rfl (QG Y4 rfl))) (QY K rfl) (QY K rfl)),?_⟩;have hP:X8 L=((QS L (Q3 L L.length S1 0).1 [59]),⟨ds,ps,(Q3 L L.length S1 0).2⟩):=VM (hgo.trans (ZW (by first|omega|(simp_all;done)|(simp_all;omega)))) (if_neg (by first|omega|(simp_all;done)|(simp_all;omega)))
  have hPN:Yf l=(⟨ds,ps,(Q3 L L.length S1 0).2⟩,((l.length:Nat):Int),0):=by rw[Yf,if_neg (by simp[hE]),←hLe,hP,if_neg (by first|omega|(simp_all;done)|(simp_all;omega))]
  rw[hPN];exact⟨_,rfl,⟨((c9,0,[kd,kp,.str on55,.str sn55,.int .i64 zn55,.int .i64 an55,kkn55])::(c23,0,[ks12,.int .i64 ((((QS L (Q3 L L.length S1 0).1 [59]).i:Nat):Int)),.int .i64 ((QS L (Q3 L L.length S1 0).1 [59]).e),.int .i64 ((QS L (Q3 L L.length S1 0).1 [59]).a)])::(c2,0,[kd,kp,.str on55,.str sn55,.int .i64 zn55,.int .i64 an55,kkn55])::(A12++(A1++(A2++((B++A55)++[]))))),M.Iv (.refl _),kd,kp,_,_,_,_,_,lsp,rfl,⟨A1,fun x hx=>.inr (by simp[hx]),_,hA1⟩,⟨A2,fun x hx=>.inr (by simp[hx]),_,hA2⟩,hlp,hPA.mono (Qm (fun _ _ _ h=>h) (fun x hx=>by simp[hx])),hN55.mono (Qm (fun _ _ _ h=>h) (fun x hx=>by simp[hx]))⟩,M.qt⟩
 refine Qg 5 K M ?_;intro _ K;refine Qn (t:=true) (K.QR rfl) (fun _=>?_) (fun h=>by cases h);refine Qg 1 K M ?_;intro _ K;obtain⟨v40,st40,ev40,rfl,q40⟩:=Z1 M.fresh (M.Hh hA12 hne (fun x hx=>by simp[hx])) hO (M.Qp (k:=1) rfl) hi1 [112,114,101,100];refine o1 K (Qc rfl ev40) rfl fun _ K=>?_;replace M:=M.quiet q40;refine Q5 ?_;show W _ _ _ _ _ _ _;refine Qn (K.QR rfl) (fun h40=>?_) (fun h40=>?_)
 ·have hb40:=h40;refine Jk (l:=[(2,0),(3,0),(0,0),(1,1),(4,0),(5,0),(6,0),(7,0)]) (by kernel_rfl) ?_;have Mq:=M;refine d1 rfl K (Qb rfl) rfl rfl fun _ K=>?_;obtain⟨v44,st44,ev44,⟨A44,hS44,_,rfl,kp44,on44,sn44,zn44,an44,kkn44,rfl,⟨Ap44,hxp44,np44,hap44⟩,hN44⟩,q44,r44⟩:=Rq M.fresh (M.Hh hA12 hne (fun x hx=>by simp[hx])) hO (M.Qp (k:=1) rfl) hi1;refine dA rfl K (Qc rfl ev44) rfl rfl fun _ K=>?_;replace M:=M.J7 (k:=1) rfl q44 r44 hS44;replace M:=Mem.cast (M':=((c9,0,[kd,kp,.str [],.str [],.int .i64 0,.int .i64 0,.nils])::(c23,0,[ks12,.int .i64 ((((Jv L S1).1.i:Nat):Int)),.int .i64 ((Jv L S1).1.e),.int .i64 ((Jv L S1).1.a)])::(c2,0,[.nils,.nils,.str [],.str [],.int .i64 0,.int .i64 0,.nils])::(A12++(A1++(A2++((B++A44)++[])))))) M (by simp);have Mp:=Mq;have Mq:=M;refine d1 rfl K (Qf Xz rfl) rfl rfl fun _ K=>?_;refine QZ rfl K rfl (M.load (k:=0) rfl (Qk Yi rfl)) (Mp.load (k:=0) rfl (Qk Yi rfl)) (Ub (Ye hA2.len)) rfl (by decide) fun _ K=>?_;refine Vr rfl K M Z4 ZQ rfl rfl (Qa rfl (Qa hap44.cell (Qa rfl (Qa rfl (Qa rfl (Qa rfl (Qa hN44.JV (Qa rfl Qv)))))))) rfl rfl fun c45 _ _ K M=>?_;refine Iz (k2:=0) (L:=((c45,0,[.str ((Jv L S1).2.name),kp44,.str on44,.str sn44,.int .i64 zn44,.int .i64 an44,kkn44,.int .i64 ((Jv L S1).2.at_)])::(c9,0,[kd,kp,.str [],.str [],.int .i64 0,.int .i64 0,.nils])::(c23,0,[ks12,.int .i64 ((((Jv L S1).1.i:Nat):Int)),.int .i64 ((Jv L S1).1.e),.int .i64 ((Jv L S1).1.a)])::(c2,0,[.nils,.nils,.str [],.str [],.int .i64 0,.int .i64 0,.nils])::(A12++(A1++[])))) (A:=A2) (B:=((B++A44)++[])) rfl K (Mem.cast (M:=((c45,0,[.str ((Jv L S1).2.name),kp44,.str on44,.str sn44,.int .i64 zn44,.int .i64 an44,kkn44,.int .i64 ((Jv L S1).2.at_)])::(c9,0,[kd,kp,.str [],.str [],.int .i64 0,.int .i64 0,.nils])::(c23,0,[ks12,.int .i64 ((((Jv L S1).1.i:Nat):Int)),.int .i64 ((Jv L S1).1.e),.int .i64 ((Jv L S1).1.a)])::(c2,0,[.nils,.nils,.str [],.str [],.int .i64 0,.int .i64 0,.nils])::(A12++(A1++(A2++((B++A44)++[])))))) (M':=((c45,0,[.str ((Jv L S1).2.name),kp44,.str on44,.str sn44,.int .i64 zn44,.int .i64 an44,kkn44,.int .i64 ((Jv L S1).2.at_)])::(c9,0,[kd,kp,.str [],.str [],.int .i64 0,.int .i64 0,.nils])::(c23,0,[ks12,.int .i64 ((((Jv L S1).1.i:Nat):Int)),.int .i64 ((Jv L S1).1.e),.int .i64 ((Jv L S1).1.a)])::(c2,0,[.nils,.nils,.str [],.str [],.int .i64 0,.int .i64 0,.nils])::(A12++(A1++[])))++(A2++((B++A44)++[]))) M (by first|(simp only[List.append_assoc,List.cons_append,List.nil_append,List.append_nil,List.set_cons_zero,List.set_cons_succ];done)|(simp only[List.append_assoc,List.cons_append,List.nil_append,List.append_nil,List.set_cons_zero,List.set_cons_succ];rfl))) hA2 Z4 rfl rfl rfl rfl (by omega) rfl fun ks46 A46 _ _ K hA46 M=>?_;replace M:=Mem.cast (M:=((c45,0,[.str ((Jv L S1).2.name),kp44,.str on44,.str sn44,.int .i64 zn44,.int .i64 an44,kkn44,.int .i64 ((Jv L S1).2.at_)])::(c9,0,[kd,kp,.str [],.str [],.int .i64 0,.int .i64 0,.nils])::(c23,0,[ks12,.int .i64 ((((Jv L S1).1.i:Nat):Int)),.int .i64 ((Jv L S1).1.e),.int .i64 ((Jv L S1).1.a)])::(c2,0,[.nils,.nils,.str [],.str [],.int .i64 0,.int .i64 0,.nils])::(A12++(A1++[])))++(A46++((B++A44)++[]))) (M':=((c45,0,[.str ((Jv L S1).2.name),kp44,.str on44,.str sn44,.int .i64 zn44,.int .i64 an44,kkn44,.int .i64 ((Jv L S1).2.at_)])::(c9,0,[kd,kp,.str [],.str [],.int .i64 0,.int .i64 0,.nils])::(c23,0,[ks12,.int .i64 ((((Jv L S1).1.i:Nat):Int)),.int .i64 ((Jv L S1).1.e),.int .i64 ((Jv L S1).1.a)])::(c2,0,[.nils,.nils,.str [],.str [],.int .i64 0,.int .i64 0,.nils])::(A12++(A1++(A46++((B++A44)++[])))))) M (by simp);have Mp:=Mq;have Mq:=M;refine d1 rfl K (Qf Xz rfl) rfl rfl fun _ K=>?_;refine Vy (k:=1) rfl K M rfl rfl rfl V8 (hA46.cell) rfl fun _ M=>?_;have Mp:=Mq;have Mq:=M;refine J0 ?_
  have hip:UN L S1 [112,114,101,100]=true:=by simp_all
  have hlt:=pred_lt hO hip
  have hlsn:(lsp++[[.str ((Jv L S1).2.name),kp44,.str on44,.str sn44,.int .i64 zn44,.int .i64 an44,kkn44,.int .i64 ((Jv L S1).2.at_)]]).length=(ps++[(Jv L S1).2]).length:=by simp[hlp]
  exact⟨_,(by omega),(Jv L S1).1,kd,ks46,A1,A46,ds,ps++[(Jv L S1).2],(lsp++[[.str ((Jv L S1).2.name),kp44,.str on44,.str sn44,.int .i64 zn44,.int .i64 an44,kkn44,.int .i64 ((Jv L S1).2.at_)]]),(B++A44),k,rfl,(.cons (K _ _ rfl) (.cons (K _ _ rfl) (.cons (K _ _ rfl) (.cons (K _ _ rfl) (.cons (K _ _ rfl) (.cons (K _ _ rfl) .nil)))))),M.less (.cons _ (.refl _)),((Dp hO.t _).2 hi1),hA1,hA46,hlsn,(hPA.snoc hlp ⟨_,_,_,_,_,_,rfl,⟨Ap44,hxp44,np44,hap44⟩,hN44⟩),(by omega),(by rw[List.length_append,List.length_singleton];omega),(by omega),(hgo.trans (KT hip))⟩
 have hb40:=h40;refine Jk (l:=[(2,0),(3,0),(0,0),(1,1),(4,0),(5,0),(6,0)]) (by kernel_rfl) ?_;have Mq:=M;refine d1 rfl K (Qb rfl) rfl rfl fun _ K=>?_;obtain⟨v51,st51,ev51,⟨A51,hA51,hS51⟩,q51,r51⟩:=RA M.fresh (M.Hh hA12 hne (fun x hx=>by simp[hx])) hO (M.Qp (k:=1) rfl) hi1;refine dA rfl K (Qc rfl ev51) rfl rfl fun _ K=>?_;replace M:=M.J7 (k:=1) rfl q51 r51 hS51;have hdl:=CN hO (show 0≤QQ L S1 [118,97,114]from by first|omega|(simp_all;done)|(simp_all;omega));have hi2:=(Kb hO.t S1).2 hi1;replace M:=Mem.cast (M':=((c9,0,[kd,kp,.str [],.str [],.int .i64 0,.int .i64 0,.nils])::(c23,0,[ks12,.int .i64 ((((Ug L S1).1.i:Nat):Int)),.int .i64 ((Ug L S1).1.e),.int .i64 ((Ug L S1).1.a)])::(c2,0,[.nils,.nils,.str [],.str [],.int .i64 0,.int .i64 0,.nils])::(A12++(A1++(A2++((B++A51)++[])))))) M (by simp);have Mp:=Mq;have Mq:=M;refine d1 rfl K (Qf X0 rfl) rfl rfl fun _ K=>?_;refine QZ rfl K rfl (M.load (k:=0) rfl (Qk Y5 rfl)) (Mp.load (k:=0) rfl (Qk Y5 rfl)) (Ub (Ye hA1.len)) rfl (by decide) fun _ K=>?_;refine PT (L:=((c9,0,[kd,kp,.str [],.str [],.int .i64 0,.int .i64 0,.nils])::(c23,0,[ks12,.int .i64 ((((Ug L S1).1.i:Nat):Int)),.int .i64 ((Ug L S1).1.e),.int .i64 ((Ug L S1).1.a)])::(c2,0,[.nils,.nils,.str [],.str [],.int .i64 0,.int .i64 0,.nils])::(A12++[]))) (A:=A1) (B:=(A2++((B++A51)++[]))) rfl K (Mem.cast (M:=((c9,0,[kd,kp,.str [],.str [],.int .i64 0,.int .i64 0,.nils])::(c23,0,[ks12,.int .i64 ((((Ug L S1).1.i:Nat):Int)),.int .i64 ((Ug L S1).1.e),.int .i64 ((Ug L S1).1.a)])::(c2,0,[.nils,.nils,.str [],.str [],.int .i64 0,.int .i64 0,.nils])::(A12++(A1++(A2++((B++A51)++[])))))) (M':=((c9,0,[kd,kp,.str [],.str [],.int .i64 0,.int .i64 0,.nils])::(c23,0,[ks12,.int .i64 ((((Ug L S1).1.i:Nat):Int)),.int .i64 ((Ug L S1).1.e),.int .i64 ((Ug L S1).1.a)])::(c2,0,[.nils,.nils,.str [],.str [],.int .i64 0,.int .i64 0,.nils])::(A12++[]))++(A1++(A2++((B++A51)++[])))) M (by first|(simp only[List.append_assoc,List.cons_append,List.nil_append,List.append_nil,List.set_cons_zero,List.set_cons_succ];done)|(simp only[List.append_assoc,List.cons_append,List.nil_append,List.append_nil,List.set_cons_zero,List.set_cons_succ];rfl))) hA1 JG rfl rfl (M.xu hA51 (fun x hx=>by simp[hx])) qW (by rw[List.length_map,List.length_map];omega) rfl fun ks52 A52 _ _ K hA52 M=>?_;replace M:=Mem.cast (M:=((c9,0,[kd,kp,.str [],.str [],.int .i64 0,.int .i64 0,.nils])::(c23,0,[ks12,.int .i64 ((((Ug L S1).1.i:Nat):Int)),.int .i64 ((Ug L S1).1.e),.int .i64 ((Ug L S1).1.a)])::(c2,0,[.nils,.nils,.str [],.str [],.int .i64 0,.int .i64 0,.nils])::(A12++[]))++(A52++(A2++((B++A51)++[])))) (M':=((c9,0,[kd,kp,.str [],.str [],.int .i64 0,.int .i64 0,.nils])::(c23,0,[ks12,.int .i64 ((((Ug L S1).1.i:Nat):Int)),.int .i64 ((Ug L S1).1.e),.int .i64 ((Ug L S1).1.a)])::(c2,0,[.nils,.nils,.str [],.str [],.int .i64 0,.int .i64 0,.nils])::(A12++(A52++(A2++((B++A51)++[])))))) M (by simp);have Mp:=Mq;have Mq:=M;refine d1 rfl K (Qf X0 rfl) rfl rfl fun _ K=>?_;refine Vy (k:=0) rfl K M rfl rfl rfl V9 (hA52.cell) rfl fun _ M=>?_;have Mp:=Mq;have Mq:=M;refine J0 ?_
 have hip:UN L S1 [112,114,101,100]=false:=by simp_all
 have ho:0≤QQ L S1 [118,97,114]:=by first|omega|(simp_all;done)|(simp_all;omega)
 have hE1:S1.e=0:=by simp_all
 have hlt:=R9 hO ho;exact⟨_,(by omega),(Ug L S1).1,ks52,kp,A52,A2,ds++(Ug L S1).2,ps,lsp,(B++A51),k,rfl,(.cons (K _ _ rfl) (.cons (K _ _ rfl) (.cons (K _ _ rfl) (.cons (K _ _ rfl) (.cons (K _ _ rfl) (.cons (K _ _ rfl) .nil)))))),M.less (.refl _),((Kb hO.t _).2 hi1),(by rw[List.map_append];exact hA52),hA2,hlp,(hPA.mono (Qm (fun _ _ _ h=>h) (fun x hx=>List.mem_append_left _ hx))),(by rw[List.length_append];omega),(by omega),(by omega),(hgo.trans (KU hE1 hip ho))⟩
end Go.Proofs.YtadjjadimlkkgaaGreatDoor
end
section
namespace Go.Proofs.YtadjjadimlkkgaaGreatDoor
open Go Go.RowKit

def D0(l:List Dc):Prop:= ∀d∈l,Bytes d.name
def xC(p:Pd):Prop:=Bytes p.name∧D0 p.params
def xY(g:Pg):Prop:=D0 g.decls∧ ∀p∈g.preds,xC p
theorem D0.snoc{l:List Dc}{d:Dc}(h:D0 l)(hd:Bytes d.name):D0 (l++[d]):=fun x hx=>by
 rcases List.mem_append.1 hx with hx|hx
 ·exact h x hx
 ·rw[List.mem_singleton.1 hx];exact hd
section
variable {L:List Tk} (hO:YJ L)
include hO
theorem CQ(o:Int): ∀f S l,D0 l→D0 (Zc L o f S l).2
 |0,S,l,h=>by rw[Zc];exact h
 |f+1,S,l,h=>by
  have h2:D0 (l++[⟨(Je L S).s,o,(Je L S).a⟩]):=h.snoc (Qj hO S);rw[Zc]
  split
  ·exact h
  split
  ·exact CQ o f _ _ h2
  ·exact h2
theorem OU: ∀f S l,D0 l→D0 (Zd L f S l).2
 |0,S,l,h=>by rw[Zd];exact h
 |f+1,S,l,h=>by
  have h2:D0 (l++[⟨(Je L (Eg L S l.length)).s,QQ L S [118,97,114],(Je L (Eg L S l.length)).a⟩]):=h.snoc (Qj hO _);rw[Zd]
  split
  ·exact h
  split
  ·exact OU f _ _ h2
  ·exact h2
theorem MC(S:PS):D0 (Yk L S).2:=by
 unfold Yk
 split
 ·intro d hd;cases hd
 ·exact OU hO _ _ _ (fun d hd=>by cases hd)
theorem zg(S:PS):xC (Jv L S).2:=⟨Qj hO _,MC hO _⟩
theorem zA(S:PS):D0 (Ug L S).2:=CQ hO _ _ _ _ (fun d hd=>by cases hd)
theorem Nh: ∀f S ds ps,D0 ds→(∀p∈ps,xC p)→D0 (Z9 L f S ds ps).2.1∧ ∀p∈(Z9 L f S ds ps).2.2,xC p
 |0,S,ds,ps,h1,h2=>by rw[Z9];exact⟨h1,h2⟩
 |f+1,S,ds,ps,h1,h2=>by
  rw[Z9]
  split
  ·exact⟨h1,h2⟩
  split
  ·refine Nh f _ _ _ h1 fun p hp=>?_;rcases List.mem_append.1 hp with hp|hp
   ·exact h2 p hp
   ·rw[List.mem_singleton.1 hp];exact zg hO S
  split
  ·refine Nh f _ _ _ (fun d hd=>?_) h2;rcases List.mem_append.1 hd with hd|hd
   ·exact h1 d hd
   ·exact zA hO S d hd
  ·exact⟨h1,h2⟩
theorem MB:xY (X8 L).2:=Nh hO _ _ _ _ (fun d hd=>by cases hd) (fun p hp=>by cases hp)
end
theorem MM:xY Cl:=⟨(fun d hd=>by cases hd),(fun p hp=>by cases hp)⟩
theorem Rr(l:List Nat):xY (Yf l).1:=by
 unfold Yf
 split
 ·exact MM
 ·rename_i h
  split
  ·exact MM
  ·exact MB (PY l (by omega)).1
theorem J1.xP{h:Hp}{X:List Nat}{c m z:Nat}{ls:List (List AV)}(r:Xf h c m ls.flatten)(hz: ∀cs∈ls,cs.length=z)(hX:c∉X)(hb:(ls.length:Int)≤9223372036854775807):J1 h X z ls (.sl c m 0 ls.length z):=
 ⟨rfl,hb,rfl,fun i cs hi=>⟨c,m,0,_,rfl,hX,r,hz cs (List.mem_of_getElem? hi),by rw[Nat.zero_add];exact FT i cs hz hi⟩,fun c' m' off n z' e=>by
  injection e with e1 e2 e3 e4 e5
  subst e1 e2 e3 e4 e5
  exact⟨hX,_,r,by rw[Xb hz];omega⟩⟩
theorem Acc.vd{n0 z:Nat}{A:QJ}{ks:AV}{ls:List (List AV)}{R:YX}{h:Hp}(hA:Acc n0 z A ks ls)(hx: ∀x∈A,R x.1 x.2.1 x.2.2)(hR:EU R h):J1 h [] z ls ks:=by
 cases hA with
 |none=>exact .nil _ _ _
 |own hc hz hb=>exact J1.xP (hR _ _ _ (hx _ (List.mem_singleton.2 rfl))) hz (by simp) (by omega)
theorem qP{n0:Nat}{A:QJ}{ks:AV}{l:List Dc}{R:YX}{h:Hp}(hA:Acc n0 3 A ks (l.map Dc.cells))(hx: ∀x∈A,R x.1 x.2.1 x.2.2)(hR:EU R h)(hb:D0 l):Xs h l ks (l.map Dc.cells):=
 ⟨hA.vd hx hR,List.length_map _,fun i k hk=>⟨k.cells,by rw[List.getElem?_map,hk];rfl,rfl,hb k (List.mem_of_getElem? hk)⟩⟩
theorem Lk(h:Hp):EU R0 h:=fun _ _ _ h=>h.elim
end Go.Proofs.YtadjjadimlkkgaaGreatDoor
end
section
namespace Go.Proofs.YtadjjadimlkkgaaGreatDoor
open Go Go.RowKit

theorem LA{ds:List Dc}{x y:Nd}{ra rb rx:Cr×Int}(h1:Us ds x=ra)(h2:Us ds y=rb)(h3:Us ds (RC x y)=rx):rx.2=0→ra.2≠8∧(ra.2=0→rb.2=0→rx.1=AL ra.1 rb.1):=by
 subst h1 h2 h3;exact ya
theorem Kw{st:St}(hf:Q6 st){ds:List Dc}{kd:AV}{ld:List (List AV)}(hD:Xs st.h.get ds kd ld){o s:List Nat}{z a:Int}{l:List Nd}{cs:List AV}(hr:Vn st.h.get (.mk o s z a l) cs): ∃v st',Ev Tryz.prog Ja 23 [kd,.agg cs] st v st'∧(∃r v1,Us ds (.mk o s z a l)=r∧v=.tup [v1,.int .i64 r.2]∧Xo R0 st st' r.1 v1)∧Qt st st':=by
 obtain⟨v,st',h1,⟨v1,h2,h3⟩,h4⟩:=MY hf hD hr;exact⟨v,st',h1,⟨_,v1,rfl,h2,h3⟩,h4⟩

theorem Sl(x:Cr): ∀(R Q:YX) (st:St) (cs ct:List AV),Q6 st→EU R st.h.get→EU Q st.h.get→Vo R x cs→Vo Q x ct→ ∃v st',Ev Tryz.prog Ja 26 [.agg cs,.agg ct] st v st'∧v=.bool true∧Qt st st':=by
 refine qY (M:=fun x=> ∀(R Q:YX) (st:St) (cs ct:List AV),Q6 st→EU R st.h.get→EU Q st.h.get→Vo R x cs→Vo Q x ct→ ∃v st',Ev Tryz.prog Ja 26 [.agg cs,.agg ct] st v st'∧v=.bool true∧Qt st st') (fun o a b g n l ih=>?_) x;intro R Q st cs ct hf hR hQ hr hs;have hr0:=hr;obtain⟨kc,ls,rfl,hK⟩:=hr.KX;have hln:=hK.ln;have hbn:=hK.ZJ;obtain⟨kt,lt,rfl,hU⟩:=hs.KX;have hlt:=hU.ln;refine QC rfl Tryz.func26 rfl Tryz.ntmps26 rfl fun T hT=>?_;have K:Jm [(0,_),(1,_)] T:=(.cons (hT 0) (.cons (hT 1) .nil));have M:=Mem.start hf;refine Qq<|Qh ?_;refine J2 K M rfl (Qa rfl (Qa rfl (Qa rfl (Qa rfl (Qa rfl (Qa hK.cell Qv)))))) (by decide) fun c2 _ _ K M=>?_;refine J2 K M rfl (Qa rfl (Qa rfl (Qa rfl (Qa rfl (Qa rfl (Qa hU.cell Qv)))))) (by decide) fun c3 _ _ K M=>?_;refine Qg 6 K M ?_;intro _ K;refine oB K (Qb rfl) rfl fun b11 _ e11 K=>?_;cases b11
 ·replace e11:(o=o):=by simpa using e11
  refine Qg 6 K M ?_;intro _ K;refine oB K (Qb rfl) rfl fun b18 _ e18 K=>?_;cases b18
  ·replace e18:(a=a):=by simpa using e18
   refine Qg 6 K M ?_;intro _ K;refine oB K (Qb rfl) rfl fun b25 _ e25 K=>?_;cases b25
   ·replace e25:(b=b):=by simpa using e25
    refine Qg 6 K M ?_;intro _ K;refine oB K (Qb rfl) rfl fun b32 _ e32 K=>?_;cases b32
    ·replace e32:(g=g):=by simpa using e32
     refine Qg 6 K M ?_;intro _ K;refine oB K (Qb rfl) rfl fun b39 _ e39 K=>?_;cases b39
     ·replace e39:(n=n):=by simpa using e39
      refine Qg 2 K M ?_;intro _ K;refine og K rfl rfl (Jd Xu rfl rfl hK.len) rfl fun _ K=>?_;refine Qg 2 K M ?_;intro _ K;refine og K rfl rfl (Jd Xu rfl rfl hU.len) rfl fun _ K=>?_;refine Qg 2 K M ?_;intro _ K;refine G5 K rfl (fun h47=>?_) fun h47=>?_
      ·refine Qg 1 K M ?_;intro _ K;refine Qe ⟨.inr rfl,_,JU K rfl,?_⟩
       exfalso
       first|(simp_all;done)|(simp_all;omega)
      refine Qg 1 K M ?_;intro _ K;refine U8 (fun mm1 T st9=> ∃(i:Nat),mm1=l.length-i∧Jm [(2,.ptr c2 0 0),(3,.ptr c3 0 0),(5,.int .i64 (((i:Nat):Int)))] T∧Mem st.h.get st.n [] st9 [(c3,0,[.str o,.int .i64 a,.int .i64 b,.int .i64 g,.int .i64 n,kt]),(c2,0,[.str o,.int .i64 a,.int .i64 b,.int .i64 g,.int .i64 n,kc])]∧i≤l.length) (fun mm1 T st9 hI=>?_) _ _ _ ⟨0,rfl,(.cons (K _ _ rfl) (.cons (K _ _ rfl) (.cons (K _ _ rfl) .nil))),M.less (.refl _),(Nat.zero_le _)⟩;obtain⟨i,rfl,K,M,hi⟩:=hI;refine Qg 3 K M ?_;intro _ K;refine o1 K (Jd Xu rfl rfl hK.len) rfl fun _ K=>?_;refine Qg 1 K M ?_;intro _ K;refine Z0 K rfl (fun h52=>?_) fun h52=>?_
      ·refine QT ?_;show W _ _ _ _ _ _ _;refine Qq<|Uw<|Qq ?_;refine Jk (l:=[(0,0),(1,0),(2,0),(3,0),(4,0),(5,0),(6,0),(7,0),(8,0),(9,0),(10,0),(11,0)]) (by kernel_rfl) ?_;refine d1 rfl K (Qf EA rfl) rfl rfl fun _ K=>d1 rfl K (Qx rfl (M.load (k:=1) rfl (Qk Ew rfl))) rfl rfl fun _ K=>d1 rfl K (Qb rfl) rfl rfl fun _ K=>?_;obtain⟨⟨o58,a58,b58,g58,n58,l58⟩,hi58⟩: ∃k,l[i]? =some k:=⟨_,List.getElem?_eq_getElem (by omega)⟩;have hm58:=P5 hi58;obtain⟨_,hc58,hn58⟩:=hK.get hi58;have hp58:=hn58;obtain⟨kc58,ls58,rfl,hK58⟩:=hp58.KX;obtain⟨x58,m58,f58,q58,_,la58,lo58,lp58⟩:=(hK.r (M.EU hR)).load (i:=i) (cs:=_) hc58;refine d1 rfl K (Qr (j:=i) EC (congrArg some q58) rfl (by rw[hK.ln];omega)) rfl rfl fun _ K=>d1 rfl K (Qx rfl (la58 _ J3)) rfl rfl fun _ K=>d1 rfl K (Qf EA rfl) rfl rfl fun _ K=>d1 rfl K (Qx rfl (M.load (k:=0) rfl (Qk Ew rfl))) rfl rfl fun _ K=>d1 rfl K (Qb rfl) rfl rfl fun _ K=>?_;obtain⟨⟨o63,a63,b63,g63,n63,l63⟩,hi63⟩: ∃k,l[i]? =some k:=⟨_,List.getElem?_eq_getElem (by omega)⟩;have hm63:=P5 hi63;obtain⟨_,hc63,hn63⟩:=hU.get hi63;have hp63:=hn63;obtain⟨kc63,ls63,rfl,hK63⟩:=hp63.KX;obtain⟨x63,m63,f63,q63,_,la63,lo63,lp63⟩:=(hU.r (M.EU hQ)).load (i:=i) (cs:=_) hc63;refine d1 rfl K (Qr (j:=i) EC (congrArg some q63) rfl (by rw[hU.ln];omega)) rfl rfl fun _ K=>d1 rfl K (Qx rfl (la63 _ J3)) rfl rfl fun _ K=>?_;have hee:=hi58.symm.trans hi63
       injection hee with hee;injection hee with z1 z2 z3 z4 z5 z6
       subst z1 z2 z3 z4 z5 z6;obtain⟨v65,st65,ev65,rfl,q65⟩:=ih _ hm58 R Q _ _ _ M.fresh (M.EU hR) (M.EU hQ) hn58 hn63;refine dA rfl K (Qc rfl ev65) rfl rfl fun _ K=>?_;replace M:=M.quiet q65;refine d1 rfl K (Nq rfl) rfl rfl fun _ K=>J0 ?_;show W _ _ _ _ _ _ _;refine Qn (t:=false) (K.QR rfl) (fun h=>by cases h) (fun _=>?_);refine Qg 1 K M ?_;intro _ K;refine o1 K (Jn rfl rfl (by omega) (by omega)) rfl fun _ K=>o1 K (QM rfl) rfl fun _ K=>Q5 ?_;exact⟨_,(by omega),i+1,rfl,(.cons (K _ _ rfl) (.cons (K _ _ rfl) (.cons (K _ _ rfl) .nil))),M.less (.refl _),(by omega)⟩
      refine Uc ?_;show W _ _ _ _ _ _ _;refine Qg 1 K M ?_;intro _ K;refine Qe ⟨.inr rfl,_,JU K rfl,?_⟩;exact⟨rfl,M.qt⟩
     replace e39: ¬(n=n):=by simpa using e39
     refine Qg 8 K M ?_;intro _ K;refine Qn (t:=true) (K.QR rfl) (fun _=>?_) (fun h=>by cases h);refine Qg 1 K M ?_;intro _ K;refine Qe ⟨.inr rfl,_,JU K rfl,?_⟩
     exfalso
     first|(simp_all;done)|(simp_all;omega)
    replace e32: ¬(g=g):=by simpa using e32
    refine Qg 15 K M ?_;intro _ K;refine Qn (t:=true) (K.QR rfl) (fun _=>?_) (fun h=>by cases h);refine Qg 1 K M ?_;intro _ K;refine Qe ⟨.inr rfl,_,JU K rfl,?_⟩
    exfalso
    first|(simp_all;done)|(simp_all;omega)
   replace e25: ¬(b=b):=by simpa using e25
   refine Qg 22 K M ?_;intro _ K;refine Qn (t:=true) (K.QR rfl) (fun _=>?_) (fun h=>by cases h);refine Qg 1 K M ?_;intro _ K;refine Qe ⟨.inr rfl,_,JU K rfl,?_⟩
   exfalso
   first|(simp_all;done)|(simp_all;omega)
  replace e18: ¬(a=a):=by simpa using e18
  refine Qg 29 K M ?_;intro _ K;refine Qn (t:=true) (K.QR rfl) (fun _=>?_) (fun h=>by cases h);refine Qg 1 K M ?_;intro _ K;refine Qe ⟨.inr rfl,_,JU K rfl,?_⟩
  exfalso
  first|(simp_all;done)|(simp_all;omega)
 replace e11: ¬(o=o):=by simpa using e11
 refine Qg 36 K M ?_;intro _ K;refine Qn (t:=true) (K.QR rfl) (fun _=>?_) (fun h=>by cases h);refine Qg 1 K M ?_;intro _ K;refine Qe ⟨.inr rfl,_,JU K rfl,?_⟩
 exfalso
 first|(simp_all;done)|(simp_all;omega)

theorem ua{st:St}(hf:Q6 st){R:YX}{xo1:List Nat}{xa1 xb1 xc1 xn1:Int}{xk1:AV}{x1:Cr}(h1:Vo R x1 [.str xo1,.int .i64 xa1,.int .i64 xb1,.int .i64 xc1,.int .i64 xn1,xk1]){xo2:List Nat}{xa2 xb2 xc2 xn2:Int}{xk2:AV}{x2:Cr}(h2:Vo R x2 [.str xo2,.int .i64 xa2,.int .i64 xb2,.int .i64 xc2,.int .i64 xn2,xk2]): ∃v st',Ev Tryz.prog Ja 27 [.agg [.str xo1,.int .i64 xa1,.int .i64 xb1,.int .i64 xc1,.int .i64 xn1,xk1],.agg [.str xo2,.int .i64 xa2,.int .i64 xb2,.int .i64 xc2,.int .i64 xn2,xk2]] st v st'∧Xo R st st' (AL x1 x2) v∧Qt st st':=by
 refine QC rfl Tryz.func27 rfl Tryz.ntmps27 rfl fun T hT=>?_;have K:Jm [(0,_),(1,_)] T:=(.cons (hT 0) (.cons (hT 1) .nil));have M:=Mem.start hf;refine Qq<|Qh ?_;refine J2 K M rfl (Qa rfl (Qa rfl (Qa rfl (Qa rfl (Qa rfl (Qa h1.Un Qv)))))) (by decide) fun c2 _ _ K M=>?_;refine J2 K M rfl (Qa rfl (Qa rfl (Qa rfl (Qa rfl (Qa rfl (Qa h2.Un Qv)))))) (by decide) fun c3 _ _ K M=>?_;refine au 3 K M ?_;intro c4 _ _ K _ M;refine YK K M VA UW rfl rfl (Qa rfl (Qa rfl (Qa rfl (Qa rfl (Qa rfl (Qa h1.Un (Qa rfl (Qa rfl (Qa rfl (Qa rfl (Qa rfl (Qa h2.Un Qv)))))))))))) rfl rfl fun c7 _ _ K M=>?_;refine o1 K (Qz JC rfl rfl) rfl fun _ K=>?_;refine au 1 K M ?_;intro _ _ K _ M;refine Qe ⟨.inr rfl,_,YI 1 K M rfl rfl rfl,?_⟩;exact⟨Xo.of (A:=((c7,0,[.str xo1,.int .i64 xa1,.int .i64 xb1,.int .i64 xc1,.int .i64 xn1,xk1,.str xo2,.int .i64 xa2,.int .i64 xb2,.int .i64 xc2,.int .i64 xn2,xk2])::(c4,0,[.str [97,110,100],.int .i64 0,.int .i64 0,.int .i64 0,.int .i64 0,(.sl c7 0 0 2 6)])::(c3,0,[.str xo2,.int .i64 xa2,.int .i64 xb2,.int .i64 xc2,.int .i64 xn2,xk2])::(c2,0,[.str xo1,.int .i64 xa1,.int .i64 xb1,.int .i64 xc1,.int .i64 xn1,xk1])::[])) (MJ (by simp) (Vo.mono (fun _ _ _ h=>.inl h) h1) (Vo.mono (fun _ _ _ h=>.inl h) h2)) (M.Iv (.refl _)),M.qt⟩

theorem Ct{st:St}(hf:Q6 st)(s:List Nat)(hBs:Bytes s)(hls:s.length≤140737488351232)(t:List Nat)(hBt:Bytes t)(hlt:t.length≤140737488351232): ∃v st',Ev Tryz.prog Ja 7 [.str s,.str t] st v st'∧v=.bool true:=by
 refine QC rfl Tryz.func7 rfl Tryz.ntmps7 rfl fun T hT=>?_;have K:Jm [(0,_),(1,_)] T:=(.cons (hT 0) (.cons (hT 1) .nil));have M:=Mem.start hf;refine Qg 2 K M ?_;intro _ K;obtain⟨v19,st19,ev19,cs19,rfl,⟨A19,hS19,hW19⟩,q19⟩:=Cd M.fresh s hBs hls;refine o1 K (Qc rfl ev19) rfl fun _ K=>?_;replace M:=M.UK q19 hS19;have hgB19:=Rr s;generalize hg19:(Yf s).1=g19 at hW19 hgB19;obtain⟨ds19,ps19,⟨om19,sm19,zm19,am19,lm19⟩⟩:=g19;have hw19:=hW19;obtain⟨kd19,kp19,oP19,sP19,zP19,aP19,kk19,lsp19,rfl,⟨Ad19,hxd19,nd19,hAd19⟩,⟨Ap19,hxp19,np19,hAp19⟩,hlp19,hPA19,hN19⟩:=hw19;simp only[List.append_assoc,List.cons_append,List.nil_append,List.set_cons_zero,List.set_cons_succ]at M;refine au 5 K M ?_;intro c5 _ _ K _ M;refine QB (k:=0) K M rfl rfl rfl Yn rfl (Qa hAd19.cell (Qa hAp19.cell (Qa rfl (Qa rfl (Qa rfl (Qa rfl (Qa hN19.JV Qv))))))) rfl fun _ M=>?_;refine Qg 3 K M ?_;intro _ K;obtain⟨v25,st25,ev25,cs25,rfl,⟨A25,hS25,hW25⟩,q25⟩:=Cd M.fresh t hBt hlt;refine o1 K (Qc rfl ev25) rfl fun _ K=>?_;replace M:=M.UK q25 hS25;have hgB25:=Rr t;generalize hg25:(Yf t).1=g25 at hW25 hgB25;obtain⟨ds25,ps25,⟨om25,sm25,zm25,am25,lm25⟩⟩:=g25;have hw25:=hW25;obtain⟨kd25,kp25,oP25,sP25,zP25,aP25,kk25,lsp25,rfl,⟨Ad25,hxd25,nd25,hAd25⟩,⟨Ap25,hxp25,np25,hAp25⟩,hlp25,hPA25,hN25⟩:=hw25;simp only[List.append_assoc,List.cons_append,List.nil_append,List.set_cons_zero,List.set_cons_succ]at M;refine au 5 K M ?_;intro c8 _ _ K _ M;refine QB (k:=0) K M rfl rfl rfl Yn rfl (Qa hAd25.cell (Qa hAp25.cell (Qa rfl (Qa rfl (Qa rfl (Qa rfl (Qa hN25.JV Qv))))))) rfl fun _ M=>?_;refine Qg 3 K M ?_;intro _ K;refine o1 K (X3 UI rfl rfl) rfl fun _ K=>o1 K (Qb rfl) rfl fun _ K=>o1 K (X3 UI rfl rfl) rfl fun _ K=>o1 K (Jn rfl rfl (by omega) (by omega)) rfl fun _ K=>o1 K (DV rfl rfl) rfl fun _ K=>?_;refine oB K (Qb rfl) rfl fun b35 _ e35 K=>?_;cases b35
 ·replace e35:=of_decide_eq_false e35;refine Qg 3 K M ?_;intro _ K;refine oB K (Qb rfl) rfl fun b39 _ e39 K=>?_;cases b39
  ·replace e39:((Yf s).2.2=0):=by simpa using e39
   refine Qg 3 K M ?_;intro _ K;refine G5 K rfl (fun h42=>?_) fun h42=>?_
   ·refine Qg 1 K M ?_;intro _ K;refine Qe ⟨.inr rfl,_,JU K rfl,?_⟩;rfl
   refine Qg 4 K M ?_;intro _ K;obtain⟨v48,st48,ev48,⟨r48,_,hg48x,rfl,on48,an48,bn48,cn48,nn48,kkn48,A48,rfl,hS48,hN48⟩,q48⟩:=Kw M.fresh (qP hAd19 (fun x hx=>hxd19 x hx) (M.Bg (Lk _) (B:=A19) (fun x hx=>by simp[hx])) hgB19.1) (hN19.Ly (M.Bg (Lk _) (B:=A19) (fun x hx=>by simp[hx])));refine o1 K (Qc rfl ev48) rfl fun _ K=>?_;replace M:=M.UK q48 hS48;simp only[List.append_assoc,List.cons_append,List.nil_append,List.set_cons_zero,List.set_cons_succ]at M;refine au 4 K M ?_;intro c11 _ _ K _ M;refine QB (k:=0) K M rfl rfl rfl QP rfl (Qa rfl (Qa rfl (Qa rfl (Qa rfl (Qa rfl (Qa hN48.Un Qv)))))) rfl fun _ M=>?_;refine Qg 5 K M ?_;intro _ K;obtain⟨v56,st56,ev56,⟨r56,_,hg56x,rfl,on56,an56,bn56,cn56,nn56,kkn56,A56,rfl,hS56,hN56⟩,q56⟩:=Kw M.fresh (qP hAd19 (fun x hx=>hxd19 x hx) (M.Bg (Lk _) (B:=A19) (fun x hx=>by simp[hx])) hgB19.1) (hN25.Ly (M.Bg (Lk _) (B:=A25) (fun x hx=>by simp[hx])));refine o1 K (Qc rfl ev56) rfl fun _ K=>?_;replace M:=M.UK q56 hS56;simp only[List.append_assoc,List.cons_append,List.nil_append,List.set_cons_zero,List.set_cons_succ]at M;refine au 4 K M ?_;intro c13 _ _ K _ M;refine QB (k:=0) K M rfl rfl rfl QP rfl (Qa rfl (Qa rfl (Qa rfl (Qa rfl (Qa rfl (Qa hN56.Un Qv)))))) rfl fun _ M=>?_;refine Qg 7 K M ?_;intro _ K;refine YK K M Ju QN rfl rfl (Qa rfl (Qa rfl (Qa rfl (Qa rfl (Qa hN19.JV (Qa rfl (Qa rfl (Qa rfl (Qa rfl (Qa hN25.JV Qv)))))))))) rfl rfl fun c66 _ _ K M=>?_;refine o1 K (Qz QL rfl rfl) rfl fun _ K=>?_;obtain⟨v68,st68,ev68,⟨r68,_,hg68x,rfl,on68,an68,bn68,cn68,nn68,kkn68,A68,rfl,hS68,hN68⟩,q68⟩:=Kw M.fresh (qP hAd19 (fun x hx=>hxd19 x hx) (M.Bg (Lk _) (B:=A19) (fun x hx=>by simp[hx])) hgB19.1) ((node2 (A:=((c66,0,[.str oP19,.str sP19,.int .i64 zP19,.int .i64 aP19,kk19,.str oP25,.str sP25,.int .i64 zP25,.int .i64 aP25,kk25])::(c13,0,[.str on56,.int .i64 an56,.int .i64 bn56,.int .i64 cn56,.int .i64 nn56,kkn56])::(c11,0,[.str on48,.int .i64 an48,.int .i64 bn48,.int .i64 cn48,.int .i64 nn48,kkn48])::(c8,0,[kd25,kp25,.str oP25,.str sP25,.int .i64 zP25,.int .i64 aP25,kk25])::(c5,0,[kd19,kp19,.str oP19,.str sP19,.int .i64 zP19,.int .i64 aP19,kk19])::(A19++(A25++(A48++(A56++[])))))) (c:=c66) (o:=[97,110,100]) (s:=[]) (z:=0) (a:=0) (by simp) (hN19.mono (Qm (fun _ _ _ h=>h) (fun x hx=>by simp[hx]))) (hN25.mono (Qm (fun _ _ _ h=>h) (fun x hx=>by simp[hx]))) ⟨by unfold Bytes;decide,Qs⟩).Ly (M.Bg (Lk _) (fun x hx=>hx)));refine o1 K (Qc rfl ev68) rfl fun _ K=>?_;replace M:=M.UK q68 hS68;simp only[List.append_assoc,List.cons_append,List.nil_append,List.set_cons_zero,List.set_cons_succ]at M;refine au 4 K M ?_;intro c15 _ _ K _ M;refine QB (k:=0) K M rfl rfl rfl QP rfl (Qa rfl (Qa rfl (Qa rfl (Qa rfl (Qa rfl (Qa hN68.Un Qv)))))) rfl fun _ M=>?_;refine Qg 3 K M ?_;intro _ K;refine oB K (Qb rfl) rfl fun b73 _ e73 K=>?_;cases b73
   ·replace e73:(r48.2=0):=by simpa using e73
    refine Qg 3 K M ?_;intro _ K;refine oB K (Qb rfl) rfl fun b77 _ e77 K=>?_;cases b77
    ·replace e77:(r56.2=0):=by simpa using e77
     refine Qg 3 K M ?_;intro _ K;refine G5 K rfl (fun h80=>?_) fun h80=>?_
     ·refine Qg 2 K M ?_;intro _ K;refine oB K (Qb rfl) rfl fun b83 _ e83 K=>?_;cases b83
      ·replace e83:(r48.2=8):=by simpa using e83
       refine Qg 3 K M ?_;intro _ K;refine oB K (Qb rfl) rfl fun b87 _ e87 K=>?_;cases b87
       ·replace e87:(r68.2=0):=by simpa using e87
        refine Qg 3 K M ?_;intro _ K;refine Qe ⟨.inr rfl,_,JU K rfl,?_⟩
        exfalso
        exact(LA hg48x hg56x hg68x (by assumption)).1 (by assumption)
       replace e87: ¬(r68.2=0):=by simpa using e87
       have ev88:=XC;refine og K rfl rfl (Qc rfl (ev88 _)) rfl fun _ K=>?_;refine Qg 2 K M ?_;intro _ K;refine Qe ⟨.inr rfl,_,JU K rfl,?_⟩;rfl
      replace e83: ¬(r48.2=8):=by simpa using e83
      refine Qg 4 K M ?_;intro _ K;have ev88:=XC;refine og K rfl rfl (Qc rfl (ev88 _)) rfl fun _ K=>?_;refine Qg 2 K M ?_;intro _ K;refine Qe ⟨.inr rfl,_,JU K rfl,?_⟩;rfl
     refine QT ?_;show W _ _ _ _ _ _ _;refine Qq ?_;refine Jk (l:=[(1,0),(2,0),(3,0),(0,1),(4,0),(5,0),(6,0),(7,0),(8,0)]) (by kernel_rfl) ?_;have Mq:=M;refine d1 rfl K (Qx rfl (M.load (k:=3) rfl (QG J3 rfl))) rfl rfl fun _ K=>d1 rfl K (Qx rfl (M.load (k:=2) rfl (QG J3 rfl))) rfl rfl fun _ K=>?_;obtain⟨v93,st93,ev93,⟨on93,an93,bn93,cn93,nn93,kkn93,A93,rfl,hS93,hN93⟩,q93⟩:=ua (R:=(Jo R0 (A48++A56))) M.fresh (hN48.mono (Qm (fun _ _ _ h=>h) (fun x h=>by simp[h]))) (hN56.mono (Qm (fun _ _ _ h=>h) (fun x h=>by simp[h])));refine dA rfl K (Qc rfl ev93) rfl rfl fun _ K=>?_;replace M:=M.UK q93 hS93;replace hN93:=hN93.flat;simp only[List.append_assoc,List.cons_append,List.nil_append,List.set_cons_zero,List.set_cons_succ]at M;have Mp:=Mq;have Mq:=M;refine QZ rfl K rfl (M.load (k:=0) rfl (QG J3 rfl)) (Mp.load (k:=0) rfl (QG J3 rfl)) (Zx (by simp[YS,YT,Ys,Ye hN68.qb])) rfl (by decide) fun _ K=>?_;have hbo:=(LA hg48x hg56x hg68x (by assumption)).2 (by assumption) (by assumption);rw[hbo]at hN68
     obtain⟨v94,st94,ev94,rfl,q94⟩:=Sl _ (Jo R0 A68) (Jo R0 (A93++(A48++A56))) _ _ _ M.fresh (M.Bg (Lk _) (fun x hx=>by simp[hx])) (M.Bg (Lk _) (fun x hx=>by simp only[List.mem_append]at hx;rcases hx with h|h|h<;>simp[h])) hN68 hN93
     refine dA rfl K (Qc rfl ev94) rfl rfl fun _ K=>?_;replace M:=M.quiet q94;have Mp:=Mq;have Mq:=M;refine d1 rfl K (Qb rfl) rfl rfl fun _ K=>?_;have ev96:=XC;refine va rfl K rfl rfl (Qc rfl (ev96 _)) rfl rfl fun _ K=>?_;have Mp:=Mq;have Mq:=M;refine d1 rfl K (UY rfl rfl rfl) rfl rfl fun _ K=>d1 rfl K (QM rfl) rfl rfl fun _ K=>J0 ?_;show W _ _ _ _ _ _ _;refine Qe ⟨.inr rfl,_,JU K rfl,?_⟩;rfl
    replace e77: ¬(r56.2=0):=by simpa using e77
    refine Qg 3 K M ?_;intro _ K;refine Qn (t:=true) (K.QR rfl) (fun _=>?_) (fun h=>by cases h);refine Qg 2 K M ?_;intro _ K;refine oB K (Qb rfl) rfl fun b83 _ e83 K=>?_;cases b83
    ·replace e83:(r48.2=8):=by simpa using e83
     refine Qg 3 K M ?_;intro _ K;refine oB K (Qb rfl) rfl fun b87 _ e87 K=>?_;cases b87
     ·replace e87:(r68.2=0):=by simpa using e87
      refine Qg 3 K M ?_;intro _ K;refine Qe ⟨.inr rfl,_,JU K rfl,?_⟩
      exfalso
      exact(LA hg48x hg56x hg68x (by assumption)).1 (by assumption)
     replace e87: ¬(r68.2=0):=by simpa using e87
     have ev88:=XC;refine og K rfl rfl (Qc rfl (ev88 _)) rfl fun _ K=>?_;refine Qg 2 K M ?_;intro _ K;refine Qe ⟨.inr rfl,_,JU K rfl,?_⟩;rfl
    replace e83: ¬(r48.2=8):=by simpa using e83
    refine Qg 4 K M ?_;intro _ K;have ev88:=XC;refine og K rfl rfl (Qc rfl (ev88 _)) rfl fun _ K=>?_;refine Qg 2 K M ?_;intro _ K;refine Qe ⟨.inr rfl,_,JU K rfl,?_⟩;rfl
   replace e73: ¬(r48.2=0):=by simpa using e73
   refine Qg 7 K M ?_;intro _ K;refine Qn (t:=true) (K.QR rfl) (fun _=>?_) (fun h=>by cases h);refine Qg 2 K M ?_;intro _ K;refine oB K (Qb rfl) rfl fun b83 _ e83 K=>?_;cases b83
   ·replace e83:(r48.2=8):=by simpa using e83
    refine Qg 3 K M ?_;intro _ K;refine oB K (Qb rfl) rfl fun b87 _ e87 K=>?_;cases b87
    ·replace e87:(r68.2=0):=by simpa using e87
     refine Qg 3 K M ?_;intro _ K;refine Qe ⟨.inr rfl,_,JU K rfl,?_⟩
     exfalso
     exact(LA hg48x hg56x hg68x (by assumption)).1 (by assumption)
    replace e87: ¬(r68.2=0):=by simpa using e87
    have ev88:=XC;refine og K rfl rfl (Qc rfl (ev88 _)) rfl fun _ K=>?_;refine Qg 2 K M ?_;intro _ K;refine Qe ⟨.inr rfl,_,JU K rfl,?_⟩;rfl
   replace e83: ¬(r48.2=8):=by simpa using e83
   refine Qg 4 K M ?_;intro _ K;have ev88:=XC;refine og K rfl rfl (Qc rfl (ev88 _)) rfl fun _ K=>?_;refine Qg 2 K M ?_;intro _ K;refine Qe ⟨.inr rfl,_,JU K rfl,?_⟩;rfl
  replace e39: ¬((Yf s).2.2=0):=by simpa using e39
  refine Qg 3 K M ?_;intro _ K;refine Qn (t:=true) (K.QR rfl) (fun _=>?_) (fun h=>by cases h);refine Qg 1 K M ?_;intro _ K;refine Qe ⟨.inr rfl,_,JU K rfl,?_⟩;rfl
 replace e35:=of_decide_eq_true e35;refine Qg 7 K M ?_;intro _ K;refine Qn (t:=true) (K.QR rfl) (fun _=>?_) (fun h=>by cases h);refine Qg 1 K M ?_;intro _ K;refine Qe ⟨.inr rfl,_,JU K rfl,?_⟩;rfl
end Go.Proofs.YtadjjadimlkkgaaGreatDoor
end
section
namespace Go.Proofs.YtadjjadimlkkgaaGreatDoor
open Go Go.RowKit

theorem KO(s:ByteArray):(UO s).length=s.size:=by rw[←J9,YB]
theorem On(s t:ByteArray)(W:World)(hz:s.size≤140737488351232)(hy:t.size≤140737488351232)(hT:Lw W):
  Calls Tryz.prog 7 #[.string s,.string t] W fun e w'=>e=.returned (.bool true)∧Below W.heap.size W w':=by
 have:=S0 (G:=Ja) (fun _=>rfl) uQ mixed (f:=7) (args:=[.str (UO s),.str (UO t)]) (ml:=[]) G1.nil ⟨Zy s,Zy t,trivial⟩
  (Ct (OL []) (UO s) (Zy s) (by rw[KO];exact hz) (UO t) (Zy t) (by rw[KO];exact hy)) hT
 rw[show Q7 (y8 []) [.str (UO s),.str (UO t)]=[.string s,.string t] by show [Value.string (bytesOf (UO s)),Value.string (bytesOf (UO t))]=_;rw[YB,YB]]at this;exact this
end Go.Proofs.YtadjjadimlkkgaaGreatDoor
end
