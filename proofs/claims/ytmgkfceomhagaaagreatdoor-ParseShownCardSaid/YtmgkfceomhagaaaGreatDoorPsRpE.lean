/-
  The reference's parser: programs. What is read: 'parseN'.
-/
import Derived.Test.YtmgkfceomhagaaaGreatDoorPsRpD
namespace Go.Proofs.YtmgkfceomhagaaaGreatDoor
open Go Go.RowKit
set_option maxHeartbeats 8000000
set_option linter.unusedVariables false
set_option linter.unusedSimpArgs false
set_option linter.unnecessarySimpa false
set_option linter.unusedSectionVars false
set_option maxRecDepth 100000
variable {X:List Nat} {h0:Hp} {n0:Nat} {st:St}

def US.tk(t:US):Tk:=⟨t.kind,Y4 t.text,t.num,t.at'⟩
def UG(l:List Nat):List Tk:=(tokens (bytesOf l)).1.map US.tk
def BQ:Pg:=⟨[],[],XO⟩
def JZ(l:List Nat):Pg×Int×Int:=
 if(tokens (bytesOf l)).2.2≠0 then(BQ,(tokens (bytesOf l)).2.1,(tokens (bytesOf l)).2.2)
 else if(Ze (UG l)).1.e≠0 then(BQ,(Ze (UG l)).1.a,(Ze (UG l)).1.e)else((Ze (UG l)).2,((l.length:Nat):Int),0)
theorem CL(l:List Nat):(tokens (bytesOf l)).1.map US.cells=(UG l).map Tk.cells:=by rw[UG,List.map_map];rfl
theorem qN(s:ByteArray)(h:(tokens s).2.2=0): ∃a,(tokens s).1=a++[WM s]:=by
 by_cases hl:2000<s.size
 ·rw[Ij hl]at h;exact absurd h (show¬(3:Int)=0 by decide)
 ·rcases hx:Vs s (Jq s (each s).2) ((each s).1.length+1) ((each s).1.drop (QW false (each s).1))with⟨a,p⟩
  cases a with
  |none=>rw[Bu hl hx]at h;exact absurd h (show¬(2:Int)=0 by decide)
  |some a=>
   cases hq:(each s).2 with
   |some q=>rw[Bs hl hx hq]at h;exact absurd h (show¬(2:Int)=0 by decide)
   |none=>rw[LG hl hx hq];exact⟨a,rfl⟩
theorem Br(l:List Nat)(h:(tokens (bytesOf l)).2.2=0):Us (UG l)∧0<(UG l).length:=by
 obtain⟨a,ha⟩:=qN _ h;have hlen:=Hk (bytesOf l)
 have hl:UG l=a.map US.tk++[(WM (bytesOf l)).tk]:=by rw[UG,ha,List.map_append];rfl
 refine⟨⟨fun j t hj hk=>?_,fun t ht=>?_,by rw[UG,List.length_map];omega⟩,by rw[hl];simp⟩
 ·have h1:=(List.getElem?_eq_some_iff.1 hj).1;rw[hl]at hj h1 ⊢;rw[List.length_append,List.length_singleton]at h1 ⊢
  by_cases he:j=(a.map US.tk).length
  ·subst he;rw[List.getElem?_append_right (Nat.le_refl _),Nat.sub_self]at hj
   injection hj with hj
   subst hj;exact absurd rfl hk
  ·omega
 ·obtain⟨x,_,rfl⟩:=List.mem_map.1 ht;exact Xq _
section
variable {L:List Tk} {S:PS} {k:Nat} {o:Int}
theorem xj(hO:Us L)(h:(Jk L S).e=0):S.i<(Jk L S).i:=by
 unfold Jk at h ⊢
 split at h
 ·rename_i hk;unfold Qw at h
  split at h
  ·exact absurd h (show¬(2:Int)=0 by decide)
  ·contradiction
 ·rename_i hk
  have hk1:(Qc L S).k=1:=by omega
  rw[if_neg Qq];refine Td Qq ?_
  by_cases he:S.e=0
  ·exact he
  ·rw[Ag he]at hk1;exact absurd hk1 Qz
theorem O0(hO:Us L): ∀f S l,(Zi L o f S l).2.length+S.i≤l.length+(Zi L o f S l).1.i+1
 |0,S,l=>by rw[Zi];simp only;omega
 |f+1,S,l=>by
  rw[Zi]
  split
  ·simp only;omega
  split
  ·rename_i hw;have h1:=O0 hO f (Qb L (Jk L S)) (l++[⟨(Jc L S).s,o,(Jc L S).a⟩]);have h2:=ZP hO hw;have h3:=xj hO (Zs hw);rw[List.length_append,List.length_singleton]at h1;omega
  ·have h1:=(Jx hO.t S).1;have h2:=(JP hO.t (Jk L S) [59]).1;rw[List.length_append,List.length_singleton];simp only;omega
theorem Pj(hO:Us L)(h:0≤QI L S [118,97,114]):(Yl L S).2.length+S.i≤(Yl L S).1.i:=by
 have h1:=O0 (o:=QI L S [118,97,114]) hO (L.length+1) (Qb L S) [];have h2:=NL hO h;show(Zi L _ (L.length+1) (Qb L S) []).2.length+S.i≤(Zi L _ (L.length+1) (Qb L S) []).1.i;simp only[List.length_nil]at h1;omega
theorem T0(hO:Us L)(h:0≤QI L S [118,97,114]):S.i<(Yl L S).1.i:=Nat.lt_of_lt_of_le (NL hO h) (HW hO.t _ _ _ _).1
theorem pred_lt(hO:Us L){w:List Nat}(h:JD L S w=true):S.i<(Uq L S).1.i:=by
 refine Nat.lt_of_lt_of_le (ZP hO h) ?_;unfold Uq;exact((((((Jx hO.t _).trans (JP hO.t _ _)).trans (WU hO.t _)).trans (JP hO.t _ _)).trans (Yu hO.t _ _ _)).trans (JP hO.t _ _)).1
theorem Z0{ds:List Dc}{ps:List Pd}(h: ¬S.e=0∨(JD L S [112,114,101,100]=false∧QI L S [118,97,114]<0)):ZN L (k+1) S ds ps=(S,ds,ps):=by
 rw[ZN]
 by_cases he:S.e=0
 ·obtain⟨h1,h2⟩:=h.resolve_left (fun h=>h he);rw[if_neg (by simp[he]),if_neg (by simp[h1]),if_neg Qq]
 ·rw[if_pos he]
theorem Lh{ds:List Dc}{ps:List Pd}(h:JD L S [112,114,101,100]=true):ZN L (k+1) S ds ps=ZN L k (Uq L S).1 ds (ps++[(Uq L S).2]):=by rw[ZN,if_neg (by simp[Zs h]),if_pos h]
theorem Li{ds:List Dc}{ps:List Pd}(he:S.e=0)(h:JD L S [112,114,101,100]=false)(ho:0≤QI L S [118,97,114]):ZN L (k+1) S ds ps=ZN L k (Yl L S).1 (ds++(Yl L S).2) ps:=by rw[ZN,if_neg (by simp[he]),if_neg (by simp[h]),if_pos ho]
theorem Vb{S4:PS}{ds:List Dc}{ps:List Pd}(h:ZN L (L.length+1) ⟨0,0,0⟩ [] []=(S,ds,ps))(h4:(if(Qc L (Q9 L (Qu L L.length S 0).1 [59])).k≠4 then Qw (Q9 L (Qu L L.length S 0).1 [59]) (Qc L (Q9 L (Qu L L.length S 0).1 [59])).a 2 else Q9 L (Qu L L.length S 0).1 [59])=S4):
  Ze L=(S4,⟨ds,ps,(Qu L L.length S 0).2⟩):=by
 unfold Ze;simp only[h,h4]
end
def Gj(R:Ko)(ps:List Pd)(lsp:List (List AV)):Prop:= ∀(i:Nat) (p:Pd) (cs:List AV),ps[i]? =some p→lsp[i]? =some cs→vG R p cs
theorem Gj.nil{R:Ko}{lsp:List (List AV)}:Gj R [] lsp:=fun i p cs h=>by simp at h
theorem Gj.mono{R R':Ko}(h: ∀c m l,R c m l→R' c m l){ps:List Pd}{lsp:List (List AV)}(r:Gj R ps lsp):Gj R' ps lsp:=fun i p cs h1 h2=>(r i p cs h1 h2).mono h
theorem Gj.snoc{R:Ko}{A B:UT}{ps:List Pd}{lsp:List (List AV)}{p:Pd}{cs:List AV}(h:Gj (UX R B) ps lsp)(hl:lsp.length=ps.length)(hp:vG (UX R A) p cs):Gj (UX R (B++A)) (ps++[p]) (lsp++[cs]):=by
 intro i q cs' h1 h2
 by_cases hi:i<ps.length
 ·rw[List.getElem?_append_left hi]at h1;rw[List.getElem?_append_left Qq]at h2;exact(h i q cs' h1 h2).mono (Qv (fun _ _ _ h=>h) fun x hx=>List.mem_append_left _ hx)
 ·have hi2:=(List.getElem?_eq_some_iff.1 h1).1;rw[List.length_append,List.length_singleton]at hi2
  have hi3:i=ps.length:=by omega
  subst hi3;rw[List.getElem?_append_right (Nat.le_refl _),Nat.sub_self]at h1;rw[List.getElem?_append_right Qq,hl,Nat.sub_self]at h2
  injection h1 with h1
  injection h2 with h2
  subst h1 h2;exact hp.mono (Qv (fun _ _ _ h=>h) fun x hx=>List.mem_append_right _ hx)
def qv(R:Ko)(g:Pg)(cs:List AV):Prop:= ∃kd kp o s z a kk lsp,cs=[kd,kp,.str o,.str s,.int .i64 z,.int .i64 a,kk]∧(∃A,(∀x∈A,R x.1 x.2.1 x.2.2)∧ ∃n0,Acc n0 3 A kd (g.decls.map Dc.cells))∧(∃A,(∀x∈A,R x.1 x.2.1 x.2.2)∧ ∃n0,Acc n0 8 A kp lsp)∧lsp.length=g.preds.length∧Gj R g.preds lsp∧U5 R g.main [.str o,.str s,.int .i64 z,.int .i64 a,kk]
theorem qv.none{R:Ko}:qv R BQ [.nils,.nils,.str [],.str [],.int .i64 0,.int .i64 0,.nils]:=
 ⟨_,_,_,_,_,_,_,[],rfl,⟨[],by simp,0,.none⟩,⟨[],by simp,0,.none⟩,rfl,.nil,UK ⟨Qj,Qj⟩⟩
theorem Mem.fF{n1 z:Nat}{M A:UT}{ks:AV}{ls:List (List AV)}(h:Mem h0 n0 X st M)(hA:Acc n1 z A ks ls)(hs: ∀x∈A,x∈M):QQ st.h.get [] z ls ks:=by
 cases hA with
 |none=>exact .nil _ _ _
 |own hc hz hb=>exact QQ.own (h.row _ _ _ (hs _ (List.mem_singleton.2 rfl))) hz Q3 Qq
theorem Mem.Fz{n1 z cp:Nat}{M A:UT}{ks:AV}{ls:List (List AV)}(h:Mem h0 n0 X st M)(hA:Acc n1 z A ks ls)(hne: ∀x∈A,x.1≠cp)(hs: ∀x∈A,x∈M):QQ st.h.get [cp] z ls ks:=by
 cases hA with
 |none=>exact .nil _ _ _
 |own hc hz hb=>exact QQ.own (h.row _ _ _ (hs _ (List.mem_singleton.2 rfl))) hz (by simpa using hne _ (List.mem_singleton.2 rfl)) Qq
theorem Mem.aV{M:UT}{c m:Nat}{l:List AV}(h:Mem h0 n0 X st ((c,m,l)::M)): ∀x∈M,x.1≠c:=fun x hx e=>by
 have:=h.nodup;rw[List.map_cons,List.nodup_cons]at this;exact this.1 (List.mem_map.2 ⟨x,hx,e⟩)
theorem yC{l:List Dc}: ∀cs∈l.map Dc.cells,cs.length=3:=by
 intro cs hc;obtain⟨x,_,rfl⟩:=List.mem_map.1 hc;rfl

theorem jV(hf:QC st)(l:List Nat)(hB:Bytes l)(hl:l.length≤140737488351232): ∃v st',Ev Tryz.prog Jy 8 [.str l] st v st'∧ ∃cs,v=.tup [.agg cs,iZ (JZ l).2.1,iZ (JZ l).2.2]∧(∃A,PI st.n st' A∧qv (UX R0 A) (JZ l).1 cs)∧Qt st st':=by
 refine Zw Tryz.func8 Tryz.ntmps8 fun T K=>?_;have M:=Mem.start hf;refine au 4 K M ?_;intro c2 _ _ K _ M;obtain⟨v12,st12,ev12,ks12,rfl,nr12,q12⟩:=N2 M.fresh l hB;refine p1 K (Qe rfl ev12) fun _ K=>?_;obtain⟨A12,hA12,M⟩:=M.Ke q12 nr12;refine Qf 9 K M fun _ K=>?_;refine eU K rfl (fun h17=>?_) fun h17=>?_
 ·refine au 6 K M ?_;intro _ _ K _ M;refine JX ⟨.inr rfl,_,(Yc (UU K rfl (M.load (k:=0) rfl (QO UO rfl))) (J6 K rfl) (J6 K rfl)),?_⟩;exact⟨_,by rw[JZ,if_pos (by simp_all)],⟨[],M.qy (List.nil_sublist _),by rw[JZ,if_pos (by simp_all)];exact qv.none⟩,M.qt⟩
 refine Qf 1 K M fun _ K=>?_;refine p1 K (WE Wd rfl ((Ww rfl hA12.cell rfl).trans rfl)) fun _ K=>?_;refine Y2 K M rfl (Qa hA12.cell (Qa rfl (Qa rfl (Qa rfl QF)))) Qz fun c23 _ _ K M=>?_;refine au 4 K M ?_;intro c9 _ _ K _ M
 have hE:(tokens (bytesOf l)).2.2=0:=by simp_all
 obtain⟨hO,h0⟩:=Br l hE;rw[CL]at hA12;obtain⟨L,hLe⟩: ∃L,L=UG l:=⟨_,rfl⟩;rw[←hLe]at hO h0 hA12;have hne: ∀x∈A12,x.1≠c23:=fun x hx=>(M.perm (List.Perm.swap _ _ _)).aV x (by simp[hx]);refine UM (fun mm1 T st9=> ∃(S1:PS) (kd:AV) (kp:AV) (A1:UT) (A2:UT) (ds:List Dc) (ps:List Pd) (lsp:List (List AV)) (B:UT) (k:Nat),mm1=k+1∧JC [(0,.str l),(2,.ptr c2 0 0),(3,iZ 0),(4,iZ 0),(8,.ptr c23 0 0),(9,.ptr c9 0 0)] T∧Mem st.h.get st.n [] st9 ((c9,0,[kd,kp,.str [],.str [],iZ 0,iZ 0,.nils])::(c23,0,[ks12,iZ (S1.i:Nat),iZ (S1.e),iZ (S1.a)])::(c2,0,[.nils,.nils,.str [],.str [],iZ 0,iZ 0,.nils])::(A12++(A1++(A2++(B++[])))))∧S1.i<L.length∧Acc st.n 3 A1 kd (ds.map Dc.cells)∧Acc st.n 8 A2 kp lsp∧lsp.length=ps.length∧Gj (UX R0 B) ps lsp∧ds.length≤S1.i∧ps.length≤S1.i∧L.length+1≤k+S1.i∧ZN L (L.length+1) ⟨0,0,0⟩ [] []=ZN L k S1 ds ps) (fun mm1 T st9 hI=>?_) _ _ _ ⟨⟨0,0,0⟩,.nils,.nils,[],[],[],[],[],[],L.length+1,rfl,(K.sub rfl),M.less (.refl _),h0,.none,.none,rfl,.nil,(Nat.le_refl _),(Nat.le_refl _),(Nat.le_refl _),rfl⟩;obtain⟨S1,kd,kp,A1,A2,ds,ps,lsp,B,k,rfl,K,M,hi1,hA1,hA2,hlp,hPA,hds,hps,hk1,hgo⟩:=hI;have hLn:=hO.n;obtain⟨k,rfl⟩: ∃j,k=j+1:=⟨k-1,by omega⟩;refine Qf 5 K M fun _ K=>?_;refine Kn K rfl (fun _ e30 K=>?_) fun _ e30 K=>?_
 ·refine Qf 9 K M fun _ K=>?_;refine Un ?_;show W _ _ _ _ _ _ _;refine Qf 1 K M fun _ K=>?_;obtain⟨v55,st55,ev55,⟨on55,sn55,zn55,an55,ln55,kkn55,A55,en55,rfl,hS55,hN55⟩,q55,r55⟩:=(H3 hO Qq (d:=0)) _ _ M.fresh (M.Fz hA12 hne (fun x hx=>by simp[hx])) hO (M.Ql (k:=1) rfl) hi1 (Nat.le_add_right _ _);refine p1 K (Qe rfl ev55) fun _ K=>?_;replace M:=M.QG (k:=1) rfl q55 r55 hS55;replace M:=Mem.cast (M':=((c9,0,[kd,kp,.str [],.str [],iZ 0,iZ 0,.nils])::(c23,0,[ks12,iZ ((Qu L L.length S1 0).1.i:Nat),iZ ((Qu L L.length S1 0).1.e),iZ ((Qu L L.length S1 0).1.a)])::(c2,0,[.nils,.nils,.str [],.str [],iZ 0,iZ 0,.nils])::(A12++(A1++(A2++((B++A55)++[])))))) M Q3;refine Qf 1 K M fun _ K=>?_;refine QX (k:=0) K M rfl rfl rfl Qx rfl (Qa rfl (Qa rfl (Qa rfl (Qa rfl (Qa hN55.Jd QF))))) rfl fun _ M=>?_;refine Qf 1 K M fun _ K=>?_;obtain⟨v58,st58,ev58,rfl,q58,r58⟩:=YX M.fresh (M.Fz hA12 hne (fun x hx=>by simp[hx])) hO (M.Ql (k:=1) rfl) ((Yu hO.t _ _ 0).2 hi1) [59];refine p1 K (Qe rfl ev58) fun _ K=>?_;replace M:=M.J8 (k:=1) rfl q58 r58;refine Qf 1 K M fun _ K=>?_;obtain⟨v60,st60,ev60,rfl,q60⟩:=YT M.fresh (M.Fz hA12 hne (fun x hx=>by simp[hx])) hO (M.Ql (k:=1) rfl) ((JP hO.t _ _).2 ((Yu hO.t _ _ 0).2 hi1));refine p1 K (Qe rfl ev60) fun _ K=>?_;replace M:=M.quiet q60;refine p1 K (Ue rfl ((Ve _).trans (Qg QK rfl))) fun _ K=>?_;refine Qf 1 K M fun _ K=>?_;refine Uj K rfl (fun h62=>?_) fun h62=>?_
  ·have hb62:=h62
   replace h62: ¬((Qc L (Q9 L (Qu L L.length S1 0).1 [59])).k=4):=by simpa using h62
   refine Qf 2 K M fun _ K=>?_;obtain⟨v65,st65,ev65,rfl,q65⟩:=YT M.fresh (M.Fz hA12 hne (fun x hx=>by simp[hx])) hO (M.Ql (k:=1) rfl) ((JP hO.t _ _).2 ((Yu hO.t _ _ 0).2 hi1));refine p1 K (Qe rfl ev65) fun _ K=>?_;replace M:=M.quiet q65;refine p1 K (Ue rfl ((J0 _).trans (Qg QK rfl))) fun _ K=>?_;obtain⟨v67,st67,ev67,rfl,q67,r67⟩:=Ya M.fresh (M.Ql (k:=1) rfl) ((Qc L (Q9 L (Qu L L.length S1 0).1 [59])).a) 2;refine p1 K (Qe rfl ev67) fun _ K=>?_;replace M:=M.J8 (k:=1) rfl q67 r67;refine Qf 5 K M fun _ K=>?_;refine Uj K rfl (fun h72=>?_) fun h72=>?_
   ·have hb72:=h72
    replace h72: ¬((Qw (Q9 L (Qu L L.length S1 0).1 [59]) ((Qc L (Q9 L (Qu L L.length S1 0).1 [59])).a) 2).e=0):=by simpa using h72
    refine Ud ?_;refine QR (l:=[(0,0),(9,0),(1,0),(2,0),(3,0),(4,1),(5,0),(6,0),(7,0),(8,1),(10,0),(11,0)]) (by kernel_rfl) ?_;have Mq:=M;refine JL 1 K M fun _ K=>?_;refine Ju (k:=2) rfl K M rfl rfl rfl U1 rfl rfl rfl fun _ M=>?_;have Mp:=Mq;have Mq:=M;refine JL 3 K M fun _ K=>?_;refine Q8 rfl K rfl (M.load (k:=1) rfl (Qg QK rfl)) (Mp.load (k:=1) rfl (Qg QK rfl)) (QV rfl) rfl Qz fun _ K=>?_;refine JL 3 K M fun _ K=>?_;refine Q8 rfl K rfl (M.load (k:=1) rfl (Qg QK rfl)) (Mp.load (k:=1) rfl (Qg QK rfl)) (QV rfl) rfl Qz fun _ K=>?_;refine JL 2 K M fun _ K=>?_;refine QY ?_;show W _ _ _ _ _ _ _;refine JX ⟨.inr rfl,_,(Yc (UU K rfl (M.load (k:=2) rfl (QO UO rfl))) (J6 K rfl) (J6 K rfl)),?_⟩;have hP:Ze L=((Qw (Q9 L (Qu L L.length S1 0).1 [59]) ((Qc L (Q9 L (Qu L L.length S1 0).1 [59])).a) 2),⟨ds,ps,(Qu L L.length S1 0).2⟩):=Vb (hgo.trans (Z0 (by first|omega|(simp_all;done)|(simp_all;omega)))) (if_pos (by first|omega|(simp_all;done)|(simp_all;omega)))
    have hPN:JZ l=(BQ,((Qw (Q9 L (Qu L L.length S1 0).1 [59]) ((Qc L (Q9 L (Qu L L.length S1 0).1 [59])).a) 2)).a,((Qw (Q9 L (Qu L L.length S1 0).1 [59]) ((Qc L (Q9 L (Qu L L.length S1 0).1 [59])).a) 2)).e):=by rw[JZ,if_neg (by simp[hE]),←hLe,hP,if_pos (by first|omega|(simp_all;done)|(simp_all;omega))]
    rw[hPN];exact⟨_,rfl,⟨[],M.qy (List.nil_sublist _),qv.none⟩,M.qt⟩
   have hb72:=h72
   replace h72:((Qw (Q9 L (Qu L L.length S1 0).1 [59]) ((Qc L (Q9 L (Qu L L.length S1 0).1 [59])).a) 2).e=0):=by simpa using h72
   refine Qf 2 K M fun _ K=>?_;refine p1 K (X5 UF rfl rfl) fun _ K=>?_;refine QX (k:=2) K M rfl rfl rfl U1 rfl (Qa hA1.cell (Qa hA2.cell (Qa rfl (Qa rfl (Qa rfl (Qa rfl (Qa hN55.Jd QF))))))) rfl fun _ M=>?_;refine Qf 2 K M fun _ K=>?_;refine JX ⟨.inr rfl,_,(Yc (UU K rfl (M.load (k:=2) rfl (QO UO rfl))) (J6 K rfl) (J6 K rfl)),?_⟩;have hP:Ze L=((Qw (Q9 L (Qu L L.length S1 0).1 [59]) ((Qc L (Q9 L (Qu L L.length S1 0).1 [59])).a) 2),⟨ds,ps,(Qu L L.length S1 0).2⟩):=Vb (hgo.trans (Z0 (by first|omega|(simp_all;done)|(simp_all;omega)))) (if_pos (by first|omega|(simp_all;done)|(simp_all;omega)))
   have hPN:JZ l=(⟨ds,ps,(Qu L L.length S1 0).2⟩,((l.length:Nat):Int),0):=by rw[JZ,if_neg (by simp[hE]),←hLe,hP,if_neg (by first|omega|(simp_all;done)|(simp_all;omega))]
   rw[hPN];exact⟨_,rfl,⟨((c9,0,[kd,kp,.str on55,.str sn55,iZ zn55,iZ an55,kkn55])::(c23,0,[ks12,iZ ((Qw (Q9 L (Qu L L.length S1 0).1 [59]) ((Qc L (Q9 L (Qu L L.length S1 0).1 [59])).a) 2).i:Nat),iZ ((Qw (Q9 L (Qu L L.length S1 0).1 [59]) ((Qc L (Q9 L (Qu L L.length S1 0).1 [59])).a) 2).e),iZ ((Qw (Q9 L (Qu L L.length S1 0).1 [59]) ((Qc L (Q9 L (Qu L L.length S1 0).1 [59])).a) 2).a)])::(c2,0,[kd,kp,.str on55,.str sn55,iZ zn55,iZ an55,kkn55])::(A12++(A1++(A2++((B++A55)++[]))))),M.qy (.refl _),kd,kp,_,_,_,_,_,lsp,rfl,⟨A1,fun x hx=>.inr (by simp[hx]),_,hA1⟩,⟨A2,fun x hx=>.inr (by simp[hx]),_,hA2⟩,hlp,hPA.mono (Qv (fun _ _ _ h=>h) (fun x hx=>by simp[hx])),hN55.mono (Qv (fun _ _ _ h=>h) (fun x hx=>by simp[hx]))⟩,M.qt⟩
  have hb62:=h62
  replace h62:((Qc L (Q9 L (Qu L L.length S1 0).1 [59])).k=4):=by simpa using h62
  refine Qf 5 K M fun _ K=>?_;refine Uj K rfl (fun h72=>?_) fun h72=>?_
  ·have hb72:=h72
   replace h72: ¬((Q9 L (Qu L L.length S1 0).1 [59]).e=0):=by simpa using h72
   refine Ud ?_;refine QR (l:=[(0,0),(9,0),(1,0),(2,0),(3,0),(4,1),(5,0),(6,0),(7,0),(8,1),(10,0),(11,0)]) (by kernel_rfl) ?_;have Mq:=M;refine JL 1 K M fun _ K=>?_;refine Ju (k:=2) rfl K M rfl rfl rfl U1 rfl rfl rfl fun _ M=>?_;have Mp:=Mq;have Mq:=M;refine JL 3 K M fun _ K=>?_;refine Q8 rfl K rfl (M.load (k:=1) rfl (Qg QK rfl)) (Mp.load (k:=1) rfl (Qg QK rfl)) (QV rfl) rfl Qz fun _ K=>?_;refine JL 3 K M fun _ K=>?_;refine Q8 rfl K rfl (M.load (k:=1) rfl (Qg QK rfl)) (Mp.load (k:=1) rfl (Qg QK rfl)) (QV rfl) rfl Qz fun _ K=>?_;refine JL 2 K M fun _ K=>?_;refine QY ?_;show W _ _ _ _ _ _ _;refine JX ⟨.inr rfl,_,(Yc (UU K rfl (M.load (k:=2) rfl (QO UO rfl))) (J6 K rfl) (J6 K rfl)),?_⟩;have hP:Ze L=((Q9 L (Qu L L.length S1 0).1 [59]),⟨ds,ps,(Qu L L.length S1 0).2⟩):=Vb (hgo.trans (Z0 (by first|omega|(simp_all;done)|(simp_all;omega)))) (if_neg (by first|omega|(simp_all;done)|(simp_all;omega)))
   have hPN:JZ l=(BQ,((Q9 L (Qu L L.length S1 0).1 [59])).a,((Q9 L (Qu L L.length S1 0).1 [59])).e):=by rw[JZ,if_neg (by simp[hE]),←hLe,hP,if_pos (by first|omega|(simp_all;done)|(simp_all;omega))]
   rw[hPN];exact⟨_,rfl,⟨[],M.qy (List.nil_sublist _),qv.none⟩,M.qt⟩
  have hb72:=h72
  replace h72:((Q9 L (Qu L L.length S1 0).1 [59]).e=0):=by simpa using h72
  refine Qf 2 K M fun _ K=>?_;refine p1 K (X5 UF rfl rfl) fun _ K=>?_;refine QX (k:=2) K M rfl rfl rfl U1 rfl (Qa hA1.cell (Qa hA2.cell (Qa rfl (Qa rfl (Qa rfl (Qa rfl (Qa hN55.Jd QF))))))) rfl fun _ M=>?_;refine Qf 2 K M fun _ K=>?_;refine JX ⟨.inr rfl,_,(Yc (UU K rfl (M.load (k:=2) rfl (QO UO rfl))) (J6 K rfl) (J6 K rfl)),?_⟩;have hP:Ze L=((Q9 L (Qu L L.length S1 0).1 [59]),⟨ds,ps,(Qu L L.length S1 0).2⟩):=Vb (hgo.trans (Z0 (by first|omega|(simp_all;done)|(simp_all;omega)))) (if_neg (by first|omega|(simp_all;done)|(simp_all;omega)))
  have hPN:JZ l=(⟨ds,ps,(Qu L L.length S1 0).2⟩,((l.length:Nat):Int),0):=by rw[JZ,if_neg (by simp[hE]),←hLe,hP,if_neg (by first|omega|(simp_all;done)|(simp_all;omega))]
  rw[hPN];exact⟨_,rfl,⟨((c9,0,[kd,kp,.str on55,.str sn55,iZ zn55,iZ an55,kkn55])::(c23,0,[ks12,iZ ((Q9 L (Qu L L.length S1 0).1 [59]).i:Nat),iZ ((Q9 L (Qu L L.length S1 0).1 [59]).e),iZ ((Q9 L (Qu L L.length S1 0).1 [59]).a)])::(c2,0,[kd,kp,.str on55,.str sn55,iZ zn55,iZ an55,kkn55])::(A12++(A1++(A2++((B++A55)++[]))))),M.qy (.refl _),kd,kp,_,_,_,_,_,lsp,rfl,⟨A1,fun x hx=>.inr (by simp[hx]),_,hA1⟩,⟨A2,fun x hx=>.inr (by simp[hx]),_,hA2⟩,hlp,hPA.mono (Qv (fun _ _ _ h=>h) (fun x hx=>by simp[hx])),hN55.mono (Qv (fun _ _ _ h=>h) (fun x hx=>by simp[hx]))⟩,M.qt⟩
 refine Qf 1 K M fun _ K=>?_;obtain⟨v32,st32,ev32,rfl,q32⟩:=ZA M.fresh (M.Fz hA12 hne (fun x hx=>by simp[hx])) hO (M.Ql (k:=1) rfl) hi1 [112,114,101,100];refine pg K rfl rfl (Qe rfl ev32) fun _ K=>?_;replace M:=M.quiet q32;refine M7 K rfl rfl (QH rfl) rfl fun b33 _ e33 K=>?_;cases b33
 ·refine Qf 1 K M fun _ K=>?_;obtain⟨v35,st35,ev35,rfl,q35⟩:=I1 M.fresh (M.Fz hA12 hne (fun x hx=>by simp[hx])) hO (M.Ql (k:=1) rfl) hi1 [118,97,114] Qz;refine pg K rfl rfl (Qe rfl ev35) fun _ K=>?_;replace M:=M.quiet q35;refine Qf 3 K M fun _ K=>?_;refine XR K rfl (fun h38=>?_) fun h38=>?_
  ·refine Qf 1 K M fun _ K=>?_;obtain⟨v40,st40,ev40,rfl,q40⟩:=ZA M.fresh (M.Fz hA12 hne (fun x hx=>by simp[hx])) hO (M.Ql (k:=1) rfl) hi1 [112,114,101,100];refine p1 K (Qe rfl ev40) fun _ K=>?_;replace M:=M.quiet q40;refine Qf 0 K M fun _ K=>?_;refine Uj K rfl (fun h40=>?_) fun h40=>?_
   ·have hb40:=h40;refine QR (l:=[(2,0),(3,0),(0,0),(1,1),(4,0),(5,0),(6,0),(7,0)]) (by kernel_rfl) ?_;have Mq:=M;refine q1 rfl K (QH rfl) fun _ K=>?_;obtain⟨v44,st44,ev44,⟨A44,hS44,_,rfl,kp44,on44,sn44,zn44,an44,kkn44,rfl,⟨Ap44,hxp44,np44,hap44⟩,hN44⟩,q44,r44⟩:=SS M.fresh (M.Fz hA12 hne (fun x hx=>by simp[hx])) hO (M.Ql (k:=1) rfl) hi1;refine qA rfl K (Qe rfl ev44) fun _ K=>?_;replace M:=M.QG (k:=1) rfl q44 r44 hS44;replace M:=Mem.cast (M':=((c9,0,[kd,kp,.str [],.str [],iZ 0,iZ 0,.nils])::(c23,0,[ks12,iZ ((Uq L S1).1.i:Nat),iZ ((Uq L S1).1.e),iZ ((Uq L S1).1.a)])::(c2,0,[.nils,.nils,.str [],.str [],iZ 0,iZ 0,.nils])::(A12++(A1++(A2++((B++A44)++[])))))) M Q3;have Mp:=Mq;have Mq:=M;refine JL 1 K M fun _ K=>?_;refine Q8 rfl K rfl (M.load (k:=0) rfl (Qg Xw rfl)) (Mp.load (k:=0) rfl (Qg Xw rfl)) (QV (Jv hA2.len)) rfl Qz fun _ K=>?_;refine W0 rfl K M Xy VE rfl rfl (Qa rfl (Qa hap44.cell (Qa rfl (Qa rfl (Qa rfl (Qa rfl (Qa hN44.Jd (Qa rfl QF)))))))) rfl rfl fun c45 _ _ K M=>?_;refine S5 (k2:=0) (L:=((c45,0,[.str ((Uq L S1).2.name),kp44,.str on44,.str sn44,iZ zn44,iZ an44,kkn44,iZ ((Uq L S1).2.at_)])::(c9,0,[kd,kp,.str [],.str [],iZ 0,iZ 0,.nils])::(c23,0,[ks12,iZ ((Uq L S1).1.i:Nat),iZ ((Uq L S1).1.e),iZ ((Uq L S1).1.a)])::(c2,0,[.nils,.nils,.str [],.str [],iZ 0,iZ 0,.nils])::(A12++(A1++[])))) (B:=((B++A44)++[])) rfl K (Mem.cast M He) hA2 Xy rfl rfl rfl rfl Qq rfl fun ks46 A46 _ _ K hA46 M=>?_;replace M:=Mem.cast (M':=((c45,0,[.str ((Uq L S1).2.name),kp44,.str on44,.str sn44,iZ zn44,iZ an44,kkn44,iZ ((Uq L S1).2.at_)])::(c9,0,[kd,kp,.str [],.str [],iZ 0,iZ 0,.nils])::(c23,0,[ks12,iZ ((Uq L S1).1.i:Nat),iZ ((Uq L S1).1.e),iZ ((Uq L S1).1.a)])::(c2,0,[.nils,.nils,.str [],.str [],iZ 0,iZ 0,.nils])::(A12++(A1++(A46++((B++A44)++[])))))) M Q3;have Mp:=Mq;have Mq:=M;refine JL 1 K M fun _ K=>?_;refine F2 (k:=1) rfl K M rfl rfl rfl En (hA46.cell) rfl fun _ M=>?_;have Mp:=Mq;have Mq:=M;refine QY ?_
    have hip:JD L S1 [112,114,101,100]=true:=by simp_all
    have hlt:=pred_lt hO hip
    have hlsn:(lsp++[[.str ((Uq L S1).2.name),kp44,.str on44,.str sn44,iZ zn44,iZ an44,kkn44,iZ ((Uq L S1).2.at_)]]).length=(ps++[(Uq L S1).2]).length:=by simp[hlp]
    exact⟨_,Qq,(Uq L S1).1,kd,ks46,A1,A46,ds,ps++[(Uq L S1).2],(lsp++[[.str ((Uq L S1).2.name),kp44,.str on44,.str sn44,iZ zn44,iZ an44,kkn44,iZ ((Uq L S1).2.at_)]]),(B++A44),k,rfl,(K.sub rfl),M.less (.cons _ (.refl _)),((PE hO.t _).2 hi1),hA1,hA46,hlsn,(hPA.snoc hlp ⟨_,_,_,_,_,_,rfl,⟨Ap44,hxp44,np44,hap44⟩,hN44⟩),Qq,(by rw[List.length_append,List.length_singleton];omega),Qq,(hgo.trans (Lh hip))⟩
   have hb40:=h40;refine QR (l:=[(2,0),(3,0),(0,0),(1,1),(4,0),(5,0),(6,0)]) (by kernel_rfl) ?_;have Mq:=M;refine q1 rfl K (QH rfl) fun _ K=>?_;obtain⟨v51,st51,ev51,⟨A51,hA51,hS51⟩,q51,r51⟩:=T6 M.fresh (M.Fz hA12 hne (fun x hx=>by simp[hx])) hO (M.Ql (k:=1) rfl) hi1;refine qA rfl K (Qe rfl ev51) fun _ K=>?_;replace M:=M.QG (k:=1) rfl q51 r51 hS51;have hdl:=Pj hO (show 0≤QI L S1 [118,97,114]from by first|omega|(simp_all;done)|(simp_all;omega));have hi2:=(Kk hO.t S1).2 hi1;replace M:=Mem.cast (M':=((c9,0,[kd,kp,.str [],.str [],iZ 0,iZ 0,.nils])::(c23,0,[ks12,iZ ((Yl L S1).1.i:Nat),iZ ((Yl L S1).1.e),iZ ((Yl L S1).1.a)])::(c2,0,[.nils,.nils,.str [],.str [],iZ 0,iZ 0,.nils])::(A12++(A1++(A2++((B++A51)++[])))))) M Q3;have Mp:=Mq;have Mq:=M;refine JL 1 K M fun _ K=>?_;refine Q8 rfl K rfl (M.load (k:=0) rfl (Qg Xx rfl)) (Mp.load (k:=0) rfl (Qg Xx rfl)) (QV (Jv hA1.len)) rfl Qz fun _ K=>?_;refine S0 (L:=((c9,0,[kd,kp,.str [],.str [],iZ 0,iZ 0,.nils])::(c23,0,[ks12,iZ ((Yl L S1).1.i:Nat),iZ ((Yl L S1).1.e),iZ ((Yl L S1).1.a)])::(c2,0,[.nils,.nils,.str [],.str [],iZ 0,iZ 0,.nils])::(A12++[]))) (B:=(A2++((B++A51)++[]))) rfl K (Mem.cast M He) hA1 YA rfl rfl (M.fF hA51 (fun x hx=>by simp[hx])) yC (by rw[List.length_map,List.length_map];omega) rfl fun ks52 A52 _ _ K hA52 M=>?_;replace M:=Mem.cast (M':=((c9,0,[kd,kp,.str [],.str [],iZ 0,iZ 0,.nils])::(c23,0,[ks12,iZ ((Yl L S1).1.i:Nat),iZ ((Yl L S1).1.e),iZ ((Yl L S1).1.a)])::(c2,0,[.nils,.nils,.str [],.str [],iZ 0,iZ 0,.nils])::(A12++(A52++(A2++((B++A51)++[])))))) M Q3;have Mp:=Mq;have Mq:=M;refine JL 1 K M fun _ K=>?_;refine F2 (k:=0) rfl K M rfl rfl rfl V7 (hA52.cell) rfl fun _ M=>?_;have Mp:=Mq;have Mq:=M;refine QY ?_
   have hip:JD L S1 [112,114,101,100]=false:=by simp_all
   have ho:0≤QI L S1 [118,97,114]:=by first|omega|(simp_all;done)|(simp_all;omega)
   have hE1:S1.e=0:=by simp_all
   have hlt:=T0 hO ho;exact⟨_,Qq,(Yl L S1).1,ks52,kp,A52,A2,ds++(Yl L S1).2,ps,lsp,(B++A51),k,rfl,(K.sub rfl),M.less (.refl _),((Kk hO.t _).2 hi1),(by rw[List.map_append];exact hA52),hA2,hlp,(hPA.mono (Qv (fun _ _ _ h=>h) (fun x hx=>List.mem_append_left _ hx))),(by rw[List.length_append];omega),Qq,Qq,(hgo.trans (Li hE1 hip ho))⟩
  refine Un ?_;show W _ _ _ _ _ _ _;refine Qf 1 K M fun _ K=>?_;obtain⟨v55,st55,ev55,⟨on55,sn55,zn55,an55,ln55,kkn55,A55,en55,rfl,hS55,hN55⟩,q55,r55⟩:=(H3 hO Qq (d:=0)) _ _ M.fresh (M.Fz hA12 hne (fun x hx=>by simp[hx])) hO (M.Ql (k:=1) rfl) hi1 (Nat.le_add_right _ _);refine p1 K (Qe rfl ev55) fun _ K=>?_;replace M:=M.QG (k:=1) rfl q55 r55 hS55;replace M:=Mem.cast (M':=((c9,0,[kd,kp,.str [],.str [],iZ 0,iZ 0,.nils])::(c23,0,[ks12,iZ ((Qu L L.length S1 0).1.i:Nat),iZ ((Qu L L.length S1 0).1.e),iZ ((Qu L L.length S1 0).1.a)])::(c2,0,[.nils,.nils,.str [],.str [],iZ 0,iZ 0,.nils])::(A12++(A1++(A2++((B++A55)++[])))))) M Q3;refine Qf 1 K M fun _ K=>?_;refine QX (k:=0) K M rfl rfl rfl Qx rfl (Qa rfl (Qa rfl (Qa rfl (Qa rfl (Qa hN55.Jd QF))))) rfl fun _ M=>?_;refine Qf 1 K M fun _ K=>?_;obtain⟨v58,st58,ev58,rfl,q58,r58⟩:=YX M.fresh (M.Fz hA12 hne (fun x hx=>by simp[hx])) hO (M.Ql (k:=1) rfl) ((Yu hO.t _ _ 0).2 hi1) [59];refine p1 K (Qe rfl ev58) fun _ K=>?_;replace M:=M.J8 (k:=1) rfl q58 r58;refine Qf 1 K M fun _ K=>?_;obtain⟨v60,st60,ev60,rfl,q60⟩:=YT M.fresh (M.Fz hA12 hne (fun x hx=>by simp[hx])) hO (M.Ql (k:=1) rfl) ((JP hO.t _ _).2 ((Yu hO.t _ _ 0).2 hi1));refine p1 K (Qe rfl ev60) fun _ K=>?_;replace M:=M.quiet q60;refine p1 K (Ue rfl ((Ve _).trans (Qg QK rfl))) fun _ K=>?_;refine Qf 1 K M fun _ K=>?_;refine Uj K rfl (fun h62=>?_) fun h62=>?_
  ·have hb62:=h62
   replace h62: ¬((Qc L (Q9 L (Qu L L.length S1 0).1 [59])).k=4):=by simpa using h62
   refine Qf 2 K M fun _ K=>?_;obtain⟨v65,st65,ev65,rfl,q65⟩:=YT M.fresh (M.Fz hA12 hne (fun x hx=>by simp[hx])) hO (M.Ql (k:=1) rfl) ((JP hO.t _ _).2 ((Yu hO.t _ _ 0).2 hi1));refine p1 K (Qe rfl ev65) fun _ K=>?_;replace M:=M.quiet q65;refine p1 K (Ue rfl ((J0 _).trans (Qg QK rfl))) fun _ K=>?_;obtain⟨v67,st67,ev67,rfl,q67,r67⟩:=Ya M.fresh (M.Ql (k:=1) rfl) ((Qc L (Q9 L (Qu L L.length S1 0).1 [59])).a) 2;refine p1 K (Qe rfl ev67) fun _ K=>?_;replace M:=M.J8 (k:=1) rfl q67 r67;refine Qf 5 K M fun _ K=>?_;refine Uj K rfl (fun h72=>?_) fun h72=>?_
   ·have hb72:=h72
    replace h72: ¬((Qw (Q9 L (Qu L L.length S1 0).1 [59]) ((Qc L (Q9 L (Qu L L.length S1 0).1 [59])).a) 2).e=0):=by simpa using h72
    refine Ud ?_;refine QR (l:=[(0,0),(9,0),(1,0),(2,0),(3,0),(4,1),(5,0),(6,0),(7,0),(8,1),(10,0),(11,0)]) (by kernel_rfl) ?_;have Mq:=M;refine JL 1 K M fun _ K=>?_;refine Ju (k:=2) rfl K M rfl rfl rfl U1 rfl rfl rfl fun _ M=>?_;have Mp:=Mq;have Mq:=M;refine JL 3 K M fun _ K=>?_;refine Q8 rfl K rfl (M.load (k:=1) rfl (Qg QK rfl)) (Mp.load (k:=1) rfl (Qg QK rfl)) (QV rfl) rfl Qz fun _ K=>?_;refine JL 3 K M fun _ K=>?_;refine Q8 rfl K rfl (M.load (k:=1) rfl (Qg QK rfl)) (Mp.load (k:=1) rfl (Qg QK rfl)) (QV rfl) rfl Qz fun _ K=>?_;refine JL 2 K M fun _ K=>?_;refine QY ?_;show W _ _ _ _ _ _ _;refine JX ⟨.inr rfl,_,(Yc (UU K rfl (M.load (k:=2) rfl (QO UO rfl))) (J6 K rfl) (J6 K rfl)),?_⟩;have hP:Ze L=((Qw (Q9 L (Qu L L.length S1 0).1 [59]) ((Qc L (Q9 L (Qu L L.length S1 0).1 [59])).a) 2),⟨ds,ps,(Qu L L.length S1 0).2⟩):=Vb (hgo.trans (Z0 (by first|omega|(simp_all;done)|(simp_all;omega)))) (if_pos (by first|omega|(simp_all;done)|(simp_all;omega)))
    have hPN:JZ l=(BQ,((Qw (Q9 L (Qu L L.length S1 0).1 [59]) ((Qc L (Q9 L (Qu L L.length S1 0).1 [59])).a) 2)).a,((Qw (Q9 L (Qu L L.length S1 0).1 [59]) ((Qc L (Q9 L (Qu L L.length S1 0).1 [59])).a) 2)).e):=by rw[JZ,if_neg (by simp[hE]),←hLe,hP,if_pos (by first|omega|(simp_all;done)|(simp_all;omega))]
    rw[hPN];exact⟨_,rfl,⟨[],M.qy (List.nil_sublist _),qv.none⟩,M.qt⟩
   have hb72:=h72
   replace h72:((Qw (Q9 L (Qu L L.length S1 0).1 [59]) ((Qc L (Q9 L (Qu L L.length S1 0).1 [59])).a) 2).e=0):=by simpa using h72
   refine Qf 2 K M fun _ K=>?_;refine p1 K (X5 UF rfl rfl) fun _ K=>?_;refine QX (k:=2) K M rfl rfl rfl U1 rfl (Qa hA1.cell (Qa hA2.cell (Qa rfl (Qa rfl (Qa rfl (Qa rfl (Qa hN55.Jd QF))))))) rfl fun _ M=>?_;refine Qf 2 K M fun _ K=>?_;refine JX ⟨.inr rfl,_,(Yc (UU K rfl (M.load (k:=2) rfl (QO UO rfl))) (J6 K rfl) (J6 K rfl)),?_⟩;have hP:Ze L=((Qw (Q9 L (Qu L L.length S1 0).1 [59]) ((Qc L (Q9 L (Qu L L.length S1 0).1 [59])).a) 2),⟨ds,ps,(Qu L L.length S1 0).2⟩):=Vb (hgo.trans (Z0 (by first|omega|(simp_all;done)|(simp_all;omega)))) (if_pos (by first|omega|(simp_all;done)|(simp_all;omega)))
   have hPN:JZ l=(⟨ds,ps,(Qu L L.length S1 0).2⟩,((l.length:Nat):Int),0):=by rw[JZ,if_neg (by simp[hE]),←hLe,hP,if_neg (by first|omega|(simp_all;done)|(simp_all;omega))]
   rw[hPN];exact⟨_,rfl,⟨((c9,0,[kd,kp,.str on55,.str sn55,iZ zn55,iZ an55,kkn55])::(c23,0,[ks12,iZ ((Qw (Q9 L (Qu L L.length S1 0).1 [59]) ((Qc L (Q9 L (Qu L L.length S1 0).1 [59])).a) 2).i:Nat),iZ ((Qw (Q9 L (Qu L L.length S1 0).1 [59]) ((Qc L (Q9 L (Qu L L.length S1 0).1 [59])).a) 2).e),iZ ((Qw (Q9 L (Qu L L.length S1 0).1 [59]) ((Qc L (Q9 L (Qu L L.length S1 0).1 [59])).a) 2).a)])::(c2,0,[kd,kp,.str on55,.str sn55,iZ zn55,iZ an55,kkn55])::(A12++(A1++(A2++((B++A55)++[]))))),M.qy (.refl _),kd,kp,_,_,_,_,_,lsp,rfl,⟨A1,fun x hx=>.inr (by simp[hx]),_,hA1⟩,⟨A2,fun x hx=>.inr (by simp[hx]),_,hA2⟩,hlp,hPA.mono (Qv (fun _ _ _ h=>h) (fun x hx=>by simp[hx])),hN55.mono (Qv (fun _ _ _ h=>h) (fun x hx=>by simp[hx]))⟩,M.qt⟩
  have hb62:=h62
  replace h62:((Qc L (Q9 L (Qu L L.length S1 0).1 [59])).k=4):=by simpa using h62
  refine Qf 5 K M fun _ K=>?_;refine Uj K rfl (fun h72=>?_) fun h72=>?_
  ·have hb72:=h72
   replace h72: ¬((Q9 L (Qu L L.length S1 0).1 [59]).e=0):=by simpa using h72
   refine Ud ?_;refine QR (l:=[(0,0),(9,0),(1,0),(2,0),(3,0),(4,1),(5,0),(6,0),(7,0),(8,1),(10,0),(11,0)]) (by kernel_rfl) ?_;have Mq:=M;refine JL 1 K M fun _ K=>?_;refine Ju (k:=2) rfl K M rfl rfl rfl U1 rfl rfl rfl fun _ M=>?_;have Mp:=Mq;have Mq:=M;refine JL 3 K M fun _ K=>?_;refine Q8 rfl K rfl (M.load (k:=1) rfl (Qg QK rfl)) (Mp.load (k:=1) rfl (Qg QK rfl)) (QV rfl) rfl Qz fun _ K=>?_;refine JL 3 K M fun _ K=>?_;refine Q8 rfl K rfl (M.load (k:=1) rfl (Qg QK rfl)) (Mp.load (k:=1) rfl (Qg QK rfl)) (QV rfl) rfl Qz fun _ K=>?_;refine JL 2 K M fun _ K=>?_;refine QY ?_;show W _ _ _ _ _ _ _;refine JX ⟨.inr rfl,_,(Yc (UU K rfl (M.load (k:=2) rfl (QO UO rfl))) (J6 K rfl) (J6 K rfl)),?_⟩;have hP:Ze L=((Q9 L (Qu L L.length S1 0).1 [59]),⟨ds,ps,(Qu L L.length S1 0).2⟩):=Vb (hgo.trans (Z0 (by first|omega|(simp_all;done)|(simp_all;omega)))) (if_neg (by first|omega|(simp_all;done)|(simp_all;omega)))
   have hPN:JZ l=(BQ,((Q9 L (Qu L L.length S1 0).1 [59])).a,((Q9 L (Qu L L.length S1 0).1 [59])).e):=by rw[JZ,if_neg (by simp[hE]),←hLe,hP,if_pos (by first|omega|(simp_all;done)|(simp_all;omega))]
   rw[hPN];exact⟨_,rfl,⟨[],M.qy (List.nil_sublist _),qv.none⟩,M.qt⟩
  have hb72:=h72
  replace h72:((Q9 L (Qu L L.length S1 0).1 [59]).e=0):=by simpa using h72
  refine Qf 2 K M fun _ K=>?_;refine p1 K (X5 UF rfl rfl) fun _ K=>?_;refine QX (k:=2) K M rfl rfl rfl U1 rfl (Qa hA1.cell (Qa hA2.cell (Qa rfl (Qa rfl (Qa rfl (Qa rfl (Qa hN55.Jd QF))))))) rfl fun _ M=>?_;refine Qf 2 K M fun _ K=>?_;refine JX ⟨.inr rfl,_,(Yc (UU K rfl (M.load (k:=2) rfl (QO UO rfl))) (J6 K rfl) (J6 K rfl)),?_⟩;have hP:Ze L=((Q9 L (Qu L L.length S1 0).1 [59]),⟨ds,ps,(Qu L L.length S1 0).2⟩):=Vb (hgo.trans (Z0 (by first|omega|(simp_all;done)|(simp_all;omega)))) (if_neg (by first|omega|(simp_all;done)|(simp_all;omega)))
  have hPN:JZ l=(⟨ds,ps,(Qu L L.length S1 0).2⟩,((l.length:Nat):Int),0):=by rw[JZ,if_neg (by simp[hE]),←hLe,hP,if_neg (by first|omega|(simp_all;done)|(simp_all;omega))]
  rw[hPN];exact⟨_,rfl,⟨((c9,0,[kd,kp,.str on55,.str sn55,iZ zn55,iZ an55,kkn55])::(c23,0,[ks12,iZ ((Q9 L (Qu L L.length S1 0).1 [59]).i:Nat),iZ ((Q9 L (Qu L L.length S1 0).1 [59]).e),iZ ((Q9 L (Qu L L.length S1 0).1 [59]).a)])::(c2,0,[kd,kp,.str on55,.str sn55,iZ zn55,iZ an55,kkn55])::(A12++(A1++(A2++((B++A55)++[]))))),M.qy (.refl _),kd,kp,_,_,_,_,_,lsp,rfl,⟨A1,fun x hx=>.inr (by simp[hx]),_,hA1⟩,⟨A2,fun x hx=>.inr (by simp[hx]),_,hA2⟩,hlp,hPA.mono (Qv (fun _ _ _ h=>h) (fun x hx=>by simp[hx])),hN55.mono (Qv (fun _ _ _ h=>h) (fun x hx=>by simp[hx]))⟩,M.qt⟩
 refine Qf 7 K M fun _ K=>?_;obtain⟨v40,st40,ev40,rfl,q40⟩:=ZA M.fresh (M.Fz hA12 hne (fun x hx=>by simp[hx])) hO (M.Ql (k:=1) rfl) hi1 [112,114,101,100];refine p1 K (Qe rfl ev40) fun _ K=>?_;replace M:=M.quiet q40;refine Qf 0 K M fun _ K=>?_;refine Uj K rfl (fun h40=>?_) fun h40=>?_
 ·have hb40:=h40;refine QR (l:=[(2,0),(3,0),(0,0),(1,1),(4,0),(5,0),(6,0),(7,0)]) (by kernel_rfl) ?_;have Mq:=M;refine q1 rfl K (QH rfl) fun _ K=>?_;obtain⟨v44,st44,ev44,⟨A44,hS44,_,rfl,kp44,on44,sn44,zn44,an44,kkn44,rfl,⟨Ap44,hxp44,np44,hap44⟩,hN44⟩,q44,r44⟩:=SS M.fresh (M.Fz hA12 hne (fun x hx=>by simp[hx])) hO (M.Ql (k:=1) rfl) hi1;refine qA rfl K (Qe rfl ev44) fun _ K=>?_;replace M:=M.QG (k:=1) rfl q44 r44 hS44;replace M:=Mem.cast (M':=((c9,0,[kd,kp,.str [],.str [],iZ 0,iZ 0,.nils])::(c23,0,[ks12,iZ ((Uq L S1).1.i:Nat),iZ ((Uq L S1).1.e),iZ ((Uq L S1).1.a)])::(c2,0,[.nils,.nils,.str [],.str [],iZ 0,iZ 0,.nils])::(A12++(A1++(A2++((B++A44)++[])))))) M Q3;have Mp:=Mq;have Mq:=M;refine JL 1 K M fun _ K=>?_;refine Q8 rfl K rfl (M.load (k:=0) rfl (Qg Xw rfl)) (Mp.load (k:=0) rfl (Qg Xw rfl)) (QV (Jv hA2.len)) rfl Qz fun _ K=>?_;refine W0 rfl K M Xy VE rfl rfl (Qa rfl (Qa hap44.cell (Qa rfl (Qa rfl (Qa rfl (Qa rfl (Qa hN44.Jd (Qa rfl QF)))))))) rfl rfl fun c45 _ _ K M=>?_;refine S5 (k2:=0) (L:=((c45,0,[.str ((Uq L S1).2.name),kp44,.str on44,.str sn44,iZ zn44,iZ an44,kkn44,iZ ((Uq L S1).2.at_)])::(c9,0,[kd,kp,.str [],.str [],iZ 0,iZ 0,.nils])::(c23,0,[ks12,iZ ((Uq L S1).1.i:Nat),iZ ((Uq L S1).1.e),iZ ((Uq L S1).1.a)])::(c2,0,[.nils,.nils,.str [],.str [],iZ 0,iZ 0,.nils])::(A12++(A1++[])))) (B:=((B++A44)++[])) rfl K (Mem.cast M He) hA2 Xy rfl rfl rfl rfl Qq rfl fun ks46 A46 _ _ K hA46 M=>?_;replace M:=Mem.cast (M':=((c45,0,[.str ((Uq L S1).2.name),kp44,.str on44,.str sn44,iZ zn44,iZ an44,kkn44,iZ ((Uq L S1).2.at_)])::(c9,0,[kd,kp,.str [],.str [],iZ 0,iZ 0,.nils])::(c23,0,[ks12,iZ ((Uq L S1).1.i:Nat),iZ ((Uq L S1).1.e),iZ ((Uq L S1).1.a)])::(c2,0,[.nils,.nils,.str [],.str [],iZ 0,iZ 0,.nils])::(A12++(A1++(A46++((B++A44)++[])))))) M Q3;have Mp:=Mq;have Mq:=M;refine JL 1 K M fun _ K=>?_;refine F2 (k:=1) rfl K M rfl rfl rfl En (hA46.cell) rfl fun _ M=>?_;have Mp:=Mq;have Mq:=M;refine QY ?_
  have hip:JD L S1 [112,114,101,100]=true:=by simp_all
  have hlt:=pred_lt hO hip
  have hlsn:(lsp++[[.str ((Uq L S1).2.name),kp44,.str on44,.str sn44,iZ zn44,iZ an44,kkn44,iZ ((Uq L S1).2.at_)]]).length=(ps++[(Uq L S1).2]).length:=by simp[hlp]
  exact⟨_,Qq,(Uq L S1).1,kd,ks46,A1,A46,ds,ps++[(Uq L S1).2],(lsp++[[.str ((Uq L S1).2.name),kp44,.str on44,.str sn44,iZ zn44,iZ an44,kkn44,iZ ((Uq L S1).2.at_)]]),(B++A44),k,rfl,(K.sub rfl),M.less (.cons _ (.refl _)),((PE hO.t _).2 hi1),hA1,hA46,hlsn,(hPA.snoc hlp ⟨_,_,_,_,_,_,rfl,⟨Ap44,hxp44,np44,hap44⟩,hN44⟩),Qq,(by rw[List.length_append,List.length_singleton];omega),Qq,(hgo.trans (Lh hip))⟩
 have hb40:=h40;refine QR (l:=[(2,0),(3,0),(0,0),(1,1),(4,0),(5,0),(6,0)]) (by kernel_rfl) ?_;have Mq:=M;refine q1 rfl K (QH rfl) fun _ K=>?_;obtain⟨v51,st51,ev51,⟨A51,hA51,hS51⟩,q51,r51⟩:=T6 M.fresh (M.Fz hA12 hne (fun x hx=>by simp[hx])) hO (M.Ql (k:=1) rfl) hi1;refine qA rfl K (Qe rfl ev51) fun _ K=>?_;replace M:=M.QG (k:=1) rfl q51 r51 hS51;have hdl:=Pj hO (show 0≤QI L S1 [118,97,114]from by first|omega|(simp_all;done)|(simp_all;omega));have hi2:=(Kk hO.t S1).2 hi1;replace M:=Mem.cast (M':=((c9,0,[kd,kp,.str [],.str [],iZ 0,iZ 0,.nils])::(c23,0,[ks12,iZ ((Yl L S1).1.i:Nat),iZ ((Yl L S1).1.e),iZ ((Yl L S1).1.a)])::(c2,0,[.nils,.nils,.str [],.str [],iZ 0,iZ 0,.nils])::(A12++(A1++(A2++((B++A51)++[])))))) M Q3;have Mp:=Mq;have Mq:=M;refine JL 1 K M fun _ K=>?_;refine Q8 rfl K rfl (M.load (k:=0) rfl (Qg Xx rfl)) (Mp.load (k:=0) rfl (Qg Xx rfl)) (QV (Jv hA1.len)) rfl Qz fun _ K=>?_;refine S0 (L:=((c9,0,[kd,kp,.str [],.str [],iZ 0,iZ 0,.nils])::(c23,0,[ks12,iZ ((Yl L S1).1.i:Nat),iZ ((Yl L S1).1.e),iZ ((Yl L S1).1.a)])::(c2,0,[.nils,.nils,.str [],.str [],iZ 0,iZ 0,.nils])::(A12++[]))) (B:=(A2++((B++A51)++[]))) rfl K (Mem.cast M He) hA1 YA rfl rfl (M.fF hA51 (fun x hx=>by simp[hx])) yC (by rw[List.length_map,List.length_map];omega) rfl fun ks52 A52 _ _ K hA52 M=>?_;replace M:=Mem.cast (M':=((c9,0,[kd,kp,.str [],.str [],iZ 0,iZ 0,.nils])::(c23,0,[ks12,iZ ((Yl L S1).1.i:Nat),iZ ((Yl L S1).1.e),iZ ((Yl L S1).1.a)])::(c2,0,[.nils,.nils,.str [],.str [],iZ 0,iZ 0,.nils])::(A12++(A52++(A2++((B++A51)++[])))))) M Q3;have Mp:=Mq;have Mq:=M;refine JL 1 K M fun _ K=>?_;refine F2 (k:=0) rfl K M rfl rfl rfl V7 (hA52.cell) rfl fun _ M=>?_;have Mp:=Mq;have Mq:=M;refine QY ?_
 have hip:JD L S1 [112,114,101,100]=false:=by simp_all
 have ho:0≤QI L S1 [118,97,114]:=by first|omega|(simp_all;done)|(simp_all;omega)
 have hE1:S1.e=0:=by simp_all
 have hlt:=T0 hO ho;exact⟨_,Qq,(Yl L S1).1,ks52,kp,A52,A2,ds++(Yl L S1).2,ps,lsp,(B++A51),k,rfl,(K.sub rfl),M.less (.refl _),((Kk hO.t _).2 hi1),(by rw[List.map_append];exact hA52),hA2,hlp,(hPA.mono (Qv (fun _ _ _ h=>h) (fun x hx=>List.mem_append_left _ hx))),(by rw[List.length_append];omega),Qq,Qq,(hgo.trans (Li hE1 hip ho))⟩
end Go.Proofs.YtmgkfceomhagaaaGreatDoor
