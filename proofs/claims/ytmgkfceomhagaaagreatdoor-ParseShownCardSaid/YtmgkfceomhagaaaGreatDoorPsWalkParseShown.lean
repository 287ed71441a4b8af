/-
  The program's parser: a program without variables and names of formulas; Parse.
-/
import Derived.Test.YtmgkfceomhagaaaGreatDoorPsShV
import Derived.Test.YtmgkfceomhagaaaGreatDoorPsShJ
import Derived.Test.YtmgkfceomhagaaaGreatDoorPsShY
set_option maxHeartbeats 8000000
set_option maxRecDepth 100000
set_option linter.unnecessarySimpa false
set_option linter.unusedSectionVars false
set_option linter.unusedSimpArgs false
set_option linter.unusedVariables false
namespace Go.Proofs.YtmgkfceomhagaaaGreatDoor
open Go Go.RowKit
section
variable {st:St}

def Kr:List (List Nat):=[[118,97,114,48],[118,97,114,49],[118,97,114,50]]
theorem zq{L:List Tk}{S:PS}(hv: ∀w∈Kr,JD L S w=false):QI L S [118,97,114]<0:=by
 rw[BL (by rw[hv _ Qz];decide) (by rw[hv _ Qz];decide) (by rw[hv _ Qz];decide)];decide
theorem KA{L:List Tk}(hv: ∀w∈Kr,JD L ⟨0,0,0⟩ w=false)(hp:JD L ⟨0,0,0⟩ [112,114,101,100]=false){M:PS}(hM:Q9 L (Qu L L.length ⟨0,0,0⟩ 0).1 [59]=M):(Ze L).1.e=(Jz L M 4).e∧(Ze L).1.a=(Jz L M 4).a∧(Ze L).2=⟨[],[],(Qu L L.length ⟨0,0,0⟩ 0).2⟩∧((Jz L M 4).e=0→(Qu L L.length ⟨0,0,0⟩ 0).1.e=0):=by
 rw[Vb (Z0 (.inr ⟨hp,zq hv⟩)) rfl,hM];refine⟨?_,?_,rfl,fun h=>?_⟩
 ·unfold Jz;split<;>rfl
 ·unfold Jz;split<;>rfl
 ·have h2:M.e=0:=by
   unfold Jz at h
   split at h
   ·exact e0 (fun x=>Vg x) h
   ·exact h
  rw[←hM]at h2;exact e0 (fun x=>WL x) h2
theorem qI{L:List Tk}{S:PS}{j:Int}(hv: ∀w∈Kr,JD L S w=false)(h:qx L S Kr j):j= -1:=by
 rcases h with⟨h,_⟩|⟨n,w,_,hw,hi⟩
 ·exact h
 ·rw[hv w (List.mem_of_getElem? hw)]at hi;cases hi

theorem Mw(hf:QC st){cp:Nat}{L:List Tk}{kl:AV}(hL:QQ st.h.get [cp] 4 (L.map Tk.cells) kl)(hO:Us L)(hP:Vt L){S:PS}(hr:Jh st.h.get cp 0 (Z6 kl S))(hi:S.i<L.length)(hv: ∀w∈Kr,JD L S w=false): ∃v st',Ev Tryz.prog Jy 40 [.ptr cp 0 0] st v st'∧v=iZ (-1)∧Vq [cp] st st'∧Jh st'.h.get cp 0 (Z6 kl S):=by
 have hLn:=hO.n;refine Zw Tryz.func40 Tryz.ntmps40 fun T K=>?_;have M:=Mem.JV hf hr;refine au 3 K M ?_;intro c7 _ _ K _ M;replace M:Mem st.h.get st.n [cp] _ [(c7,0,[.str [118,97,114,48],.str [118,97,114,49],.str [118,97,114,50]]),(cp,0,[kl,iZ (S.i:Nat),.bool (decide (S.e≠0)),iZ (S.a),iZ (S.e)])]:=M;obtain⟨v8,st8,ev8,j8,rfl,hj8,hk8,hx8,q8,r8⟩:=V0 M.fresh (QQ.mem M hL Q3) hO (M.Ql (k:=1) rfl) hi (ws:=Kr) (QQ.own (ls:=Kr.map fun w=>[AV.str w]) (M.Ql (k:=0) rfl) Qz (fun h=>M.uk (i:=0) (j:=1) rfl rfl Qz (List.mem_singleton.1 h)) Qz) Qz;refine p1 K (Qe rfl ev8) fun _ K=>?_;replace M:=M.J8 (k:=1) rfl q8 r8;refine Qf 7 K M ?_;have hj:=qI hv hx8;refine⟨by rw[hj],M.Uh,?_⟩;replace M:=Mem.cast (M:=[(c7,0,[.str [118,97,114,48],.str [118,97,114,49],.str [118,97,114,50]]),(cp,0,[kl,iZ ((WV L S j8).i:Nat),.bool (decide ((WV L S j8).e≠0)),iZ ((WV L S j8).a),iZ ((WV L S j8).e)])]) (M':=[(c7,0,[.str [118,97,114,48],.str [118,97,114,49],.str [118,97,114,50]]),(cp,0,[kl,iZ (S.i:Nat),.bool (decide (S.e≠0)),iZ (S.a),iZ (S.e)])]) M (by rw[show [kl,iZ ((WV L S j8).i:Nat),.bool (decide ((WV L S j8).e≠0)),iZ ((WV L S j8).a),iZ ((WV L S j8).e)]=[kl,iZ (S.i:Nat),.bool (decide (S.e≠0)),iZ (S.a),iZ (S.e)]from congrArg (Z6 kl) (if_pos (by rw[hj];decide))]);exact M.Ql (k:=1) rfl

theorem jI(hf:QC st){cp:Nat}{L:List Tk}{kl:AV}(hL:QQ st.h.get [cp] 4 (L.map Tk.cells) kl)(hO:Us L)(hP:Vt L){S:PS}(hr:Jh st.h.get cp 0 (Z6 kl S))(hi:S.i<L.length)(hv: ∀w∈Kr,JD L S w=false)(hp:JD L S [112,114,101,100]=false): ∃v st',Ev Tryz.prog Jy 20 [.ptr cp 0 0] st v st'∧ ∃m o s z a kk A,v=.agg [.nils,.nils,.str o,.str s,iZ z,iZ a,kk]∧PI st.n st' A∧U5 (UX R0 A) m [.str o,.str s,iZ z,iZ a,kk]∧((Qu L L.length S 0).1.e=0→m=(Qu L L.length S 0).2)∧Vq [cp] st st'∧Jh st'.h.get cp 0 (Z6 kl (Jz L (Q9 L (Qu L L.length S 0).1 [59]) 4)):=by
 have hLn:=hO.n;refine Zw Tryz.func20 Tryz.ntmps20 fun T K=>?_;have M:=Mem.JV hf hr;refine au 2 K M ?_;intro c2 c3 _ _ K _ M;refine UM (fun mm1 T st9=>mm1=0∧JC [(0,.ptr cp 0 0),(2,.ptr c2 0 0),(3,.ptr c3 0 0)] T∧Mem st.h.get st.n [cp] st9 [(c3,0,[.nils,.nils,.str [],.str [],iZ 0,iZ 0,.nils]),(c2,0,[.nils,.nils,.str [],.str [],iZ 0,iZ 0,.nils]),(cp,0,[kl,iZ (S.i:Nat),.bool (decide (S.e≠0)),iZ (S.a),iZ (S.e)])]) (fun mm1 T st9 hI=>?_) _ _ _ ⟨rfl,(K.sub rfl),M.less (.refl _)⟩;obtain⟨rfl,K,M⟩:=hI;refine Qf 1 K M fun _ K=>?_;refine oR 2 K M (Mw M.fresh (QQ.mem M hL Q3) hO hP (M.Ql (k:=2) rfl) hi hv) rfl rfl rfl fun _ _ K M=>?_;refine Qf 4 K M fun _ K=>?_;refine XR K rfl (fun h15=>?_) fun h15=>?_
 ·exfalso;omega
 refine Qf 1 K M fun _ K=>?_;refine oR 2 K M (ZD M.fresh (QQ.mem M hL Q3) hO (M.Ql (k:=2) rfl) hi [112,114,101,100]) rfl rfl rfl fun _ _ K M=>?_;refine Qf 1 K M fun _ K=>?_;refine Uj K rfl (fun h25=>?_) fun h25=>?_
 ·have hb25:=h25
  exfalso;simp_all
 have hb25:=h25;refine Ud ?_;replace M:=Mem.cast (M:=[(c3,0,[.nils,.nils,.str [],.str [],iZ 0,iZ 0,.nils]),(c2,0,[.nils,.nils,.str [],.str [],iZ 0,iZ 0,.nils]),(cp,0,[kl,iZ ((Qi L S [112,114,101,100]).i:Nat),.bool (decide ((Qi L S [112,114,101,100]).e≠0)),iZ ((Qi L S [112,114,101,100]).a),iZ ((Qi L S [112,114,101,100]).e)])]) (M':=[(c3,0,[.nils,.nils,.str [],.str [],iZ 0,iZ 0,.nils]),(c2,0,[.nils,.nils,.str [],.str [],iZ 0,iZ 0,.nils]),(cp,0,[kl,iZ (S.i:Nat),.bool (decide (S.e≠0)),iZ (S.a),iZ (S.e)])]) M (by rw[show [kl,iZ ((Qi L S [112,114,101,100]).i:Nat),.bool (decide ((Qi L S [112,114,101,100]).e≠0)),iZ ((Qi L S [112,114,101,100]).a),iZ ((Qi L S [112,114,101,100]).e)]=[kl,iZ (S.i:Nat),.bool (decide (S.e≠0)),iZ (S.a),iZ (S.e)]from congrArg (Z6 kl) (EN hp)]);refine Qf 1 K M fun _ K=>?_;obtain⟨v8,st8,ev8,⟨mn8,⟨on8,sn8,zn8,an8,ln8,kkn8,A8,en8,rfl,hS8,hN8⟩,hm8⟩,q8,r8⟩:=Dw (d:=0) (f:=L.length) hO hP Qz _ _ M.fresh (QQ.mem M hL Q3) (M.Ql (k:=2) rfl) hi (Nat.le_add_right _ _);refine p1 K (Qe rfl ev8) fun _ K=>?_;replace M:=M.QG (k:=2) rfl q8 r8 hS8;replace M:=Mem.cast (M':=((c3,0,[.nils,.nils,.str [],.str [],iZ 0,iZ 0,.nils])::(c2,0,[.nils,.nils,.str [],.str [],iZ 0,iZ 0,.nils])::(cp,0,[kl,iZ ((Qu L L.length S 0).1.i:Nat),.bool (decide ((Qu L L.length S 0).1.e≠0)),iZ ((Qu L L.length S 0).1.a),iZ ((Qu L L.length S 0).1.e)])::(A8++[]))) M He;refine Qf 1 K M fun _ K=>?_;refine QX (k:=0) K M rfl rfl rfl Qx rfl (Qa rfl (Qa rfl (Qa rfl (Qa rfl (Qa hN8.Jd QF))))) rfl fun _ M=>?_;refine Qf 1 K M fun _ K=>?_;refine oR 2 K M (Iz M.fresh (QQ.mem M hL Q3) hO (M.Ql (k:=2) rfl) ((Yu hO.t L.length _ 0).2 hi) [59]) rfl rfl rfl fun _ _ K M=>?_;refine Qf 1 K M fun _ K=>?_;refine oR 2 K M (I0 M.fresh (QQ.mem M hL Q3) hO (M.Ql (k:=2) rfl) ((JP hO.t _ _).2 ((Yu hO.t L.length _ 0).2 hi)) 4) rfl rfl rfl fun _ _ K M=>?_;refine Qf 1 K M fun _ K=>?_;refine QX (k:=1) K M rfl rfl rfl U1 rfl (Qa rfl (Qa rfl (Qa rfl (Qa rfl (Qa rfl (Qa rfl (Qa hN8.Jd QF))))))) rfl fun _ M=>?_;refine Qf 0 K M ?_;exact⟨mn8,_,_,_,_,_,((c3,0,[.nils,.nils,.str on8,.str sn8,iZ zn8,iZ an8,kkn8])::(c2,0,[.nils,.nils,.str on8,.str sn8,iZ zn8,iZ an8,kkn8])::(A8++[])),rfl,M.JE (k:=2) rfl (.refl _),(hN8.mono (Qv (fun _ _ _ h=>h) (fun x hx=>by simp[hx]))),hm8,M.Uh,M.Ql (k:=2) rfl⟩

theorem Mv(hf:QC st)(l:List Nat)(hl:l.length≤140737488351232)(hw:(tokens (bytesOf l)).2.2=0→(∀w∈Kr,JD (UG l) ⟨0,0,0⟩ w=false)∧JD (UG l) ⟨0,0,0⟩ [112,114,101,100]=false∧Vt (UG l)): ∃v st',Ev Tryz.prog Jy 7 [.str l] st v st'∧ ∃cs,v=.tup [.agg cs,iZ (JZ l).2.1,iZ (JZ l).2.2]∧(∃A,PI st.n st' A∧qv (UX R0 A) (JZ l).1 cs)∧Qt st st':=by
 have htl:=Hk (bytesOf l);refine Zw Tryz.func7 Tryz.ntmps7 fun T K=>?_;have M:=Mem.start hf;refine au 4 K M ?_;intro c2 _ _ K _ M;obtain⟨v10,st10,ev10,ks10,rfl,nr10,q10⟩:=TX M.fresh l Qq;refine p1 K (Qe rfl ev10) fun _ K=>?_;obtain⟨A10,hA10,M⟩:=M.Ke q10 nr10;refine Qf 9 K M fun _ K=>?_;refine Uj K rfl (fun h15=>?_) fun h15=>?_
 ·have hb15:=h15
  replace h15: ¬((tokens (bytesOf l)).2.2=0):=by first|exact of_decide_eq_false h15|exact yF h15|simpa using h15
  refine au 6 K M ?_;intro _ _ K _ M;refine JX ⟨.inr rfl,_,(Yc (UU K rfl (M.load (k:=0) rfl (QO UO rfl))) (J6 K rfl) (J6 K rfl)),?_⟩;exact⟨_,by rw[JZ,if_pos (by simp_all)],⟨[],M.qy (List.nil_sublist _),by rw[JZ,if_pos (by simp_all)];exact qv.none⟩,M.qt⟩
 have hb15:=h15
 replace h15:((tokens (bytesOf l)).2.2=0):=by first|exact of_decide_eq_true h15|exact yT h15|simpa using h15
 refine Qf 1 K M fun _ K=>?_;refine p1 K (WE Au rfl ((Ww rfl hA10.cell rfl).trans rfl)) fun _ K=>?_;refine Y2 K M rfl (Qa hA10.cell (Qa rfl (Qa rfl (Qa rfl (Qa rfl QF))))) Qz fun c21 _ _ K M=>?_;refine Qf 1 K M fun _ K=>?_
 have hE:(tokens (bytesOf l)).2.2=0:=by simp_all
 obtain⟨hO,h0⟩:=Br l hE;rw[CL]at hA10;obtain⟨L,hLe⟩: ∃L,L=UG l:=⟨_,rfl⟩;obtain⟨hv,hp,hP⟩:=hw hE;rw[←hLe]at hO h0 hA10 hv hp hP;have hne: ∀x∈A10,x.1≠c21:=fun x hx=>M.aV x (by simp[hx]);replace M:=Mem.cast (M':=((c21,0,[ks10,iZ ((⟨0,0,0⟩:PS).i:Nat),.bool (decide ((⟨0,0,0⟩:PS).e≠0)),iZ ((⟨0,0,0⟩:PS).a),iZ ((⟨0,0,0⟩:PS).e)])::(c2,0,[.nils,.nils,.str [],.str [],iZ 0,iZ 0,.nils])::(A10++[]))) M (by rfl);refine Qf 1 K M fun _ K=>?_;obtain⟨v23,st23,ev23,m9,o9,s9,z9,a9,kk9,A23,rfl,hS9,hN9,hm9,q9,r9⟩:=jI M.fresh (M.Fz hA10 hne (fun x hx=>by simp[hx])) hO hP (M.Ql (k:=0) rfl) h0 hv hp;refine p1 K (Qe rfl ev23) fun _ K=>?_;replace M:=M.QG (k:=0) rfl q9 r9 hS9;simp only[L0]at M;refine QX (k:=1) K M rfl rfl rfl U1 rfl (Qa rfl (Qa rfl (Qa rfl (Qa rfl (Qa rfl (Qa rfl (Qa hN9.Jd QF))))))) rfl fun _ M=>?_;refine Qf 4 K M fun _ K=>?_;refine XR K rfl (fun h27=>?_) fun h27=>?_
 ·refine Ud ?_;refine QR (l:=[(0,0),(9,0),(1,0),(2,0),(3,0),(4,1),(5,0),(6,0),(7,0),(8,1),(10,0),(11,0)]) (by kernel_rfl) ?_;have Mq:=M;refine JL 1 K M fun _ K=>?_;refine Ju (k:=1) rfl K M rfl rfl rfl U1 rfl rfl rfl fun _ M=>?_;have Mp:=Mq;have Mq:=M;refine JL 3 K M fun _ K=>?_;refine Q8 rfl K rfl (M.load (k:=0) rfl (Qg QK rfl)) (Mp.load (k:=0) rfl (Qg QK rfl)) (QV rfl) rfl Qz fun _ K=>?_;refine JL 3 K M fun _ K=>?_;refine Q8 rfl K rfl (M.load (k:=0) rfl (Qg EK rfl)) (Mp.load (k:=0) rfl (Qg EK rfl)) (QV rfl) rfl Qz fun _ K=>?_;refine JL 2 K M fun _ K=>?_;refine QY ?_;show W _ _ _ _ _ _ _;refine JX ⟨.inr rfl,_,(Yc (UU K rfl (M.load (k:=1) rfl (QO UO rfl))) (J6 K rfl) (J6 K rfl)),?_⟩;obtain⟨p1,p2,p3,p4⟩:=KA hv hp rfl
  have hPN:JZ l=(BQ,(Jz L (Q9 L (Qu L L.length (⟨0,0,0⟩:PS) 0).1 [59]) 4).a,(Jz L (Q9 L (Qu L L.length (⟨0,0,0⟩:PS) 0).1 [59]) 4).e):=by rw[JZ,if_neg (by simp[hE]),←hLe,if_pos (by rw[p1];exact h27),p1,p2]
  rw[hPN];exact⟨_,rfl,⟨[],M.qy (List.nil_sublist _),qv.none⟩,M.qt⟩
 refine Qf 2 K M fun _ K=>?_;refine p1 K (X5 UF rfl rfl) fun _ K=>?_;refine QX (k:=1) K M rfl rfl rfl U1 rfl (Qa rfl (Qa rfl (Qa rfl (Qa rfl (Qa rfl (Qa rfl (Qa hN9.Jd QF))))))) rfl fun _ M=>?_;refine Qf 2 K M fun _ K=>?_;refine JX ⟨.inr rfl,_,(Yc (UU K rfl (M.load (k:=1) rfl (QO UO rfl))) (J6 K rfl) (J6 K rfl)),?_⟩;obtain⟨p1,p2,p3,p4⟩:=KA hv hp rfl;have hz:=Decidable.not_not.1 h27
 have hPN:JZ l=(⟨[],[],m9⟩,((l.length:Nat):Int),0):=by rw[JZ,if_neg (by simp[hE]),←hLe,if_neg (by rw[p1];exact h27),p3,hm9 (p4 hz)]
 rw[hPN];exact⟨_,rfl,⟨((c21,0,[ks10,iZ ((Jz L (Q9 L (Qu L L.length (⟨0,0,0⟩:PS) 0).1 [59]) 4).i:Nat),.bool (decide ((Jz L (Q9 L (Qu L L.length (⟨0,0,0⟩:PS) 0).1 [59]) 4).e≠0)),iZ ((Jz L (Q9 L (Qu L L.length (⟨0,0,0⟩:PS) 0).1 [59]) 4).a),iZ ((Jz L (Q9 L (Qu L L.length (⟨0,0,0⟩:PS) 0).1 [59]) 4).e)])::(c2,0,[.nils,.nils,.str o9,.str s9,iZ z9,iZ a9,kk9])::(A10++(A23++[]))),M.qy (.refl _),_,_,_,_,_,_,_,[],rfl,⟨[],by simp,0,.none⟩,⟨[],by simp,0,.none⟩,rfl,.nil,hN9.mono (Qv (fun _ _ _ h=>h) (fun x hx=>by simp[hx]))⟩,M.qt⟩
end
section

section
variable {k:Nd} (h:JS k=true) (hs:(Uc (Ib k)).length≤2000)
include h hs
theorem zC:UG (Uc (Ib k))=Zq 0 (Js k)++[⟨3,[59],0,((0+(Uc (Js k)).length:Nat):Int)⟩,⟨4,[],0,((Uc (Ib k)).length:Int)⟩]:=by
 rw[El (Hn h) hs,Ib,Y3,List.append_assoc];rfl
theorem Iq{w:List Nat}(hw:w∉zo∧w∉Rn):JD (UG (Uc (Ib k))) ⟨0,0,0⟩ w=false:=by
 have e:=El (Hn h) hs
 have hx: ∀t∈UG (Uc (Ib k)),t.k=3→t.s∈zo∨t.s∈Rn:=fun t ht hk=>by
  rw[e]at ht;rcases List.mem_append.1 ht with ht|ht
  ·exact Gs _ _ (Hn h) t ht hk
  ·rw[List.mem_singleton.1 ht]at hk;exact absurd hk (show¬(4:Int)=3 by decide)
 generalize UG (Uc (Ib k))=L at hx e
 have hlen:0<L.length:=by rw[e];simp
 have hg:L[0]? =some L[0]:=List.getElem?_eq_getElem hlen
 cases hq:JD L ⟨0,0,0⟩ w with
 |false=>rfl
 |true=>
  exfalso
  have h3:=DH hq;unfold JD at hq;rw[BP (S:=⟨0,0,0⟩) rfl hg]at h3 hq;simp only[Bool.and_eq_true,decide_eq_true_eq]at hq;have:=hx _ (List.getElem_mem hlen) h3;rw[hq.2]at this;rcases this with h|h
  ·exact hw.1 h
  ·exact hw.2 h
theorem av:Vt (UG (Uc (Ib k))):=by
 rw[El (Hn h) hs];exact G6 _ _ _ (Hn h) (show(4:Int)≠2 by decide)
theorem jl:(Ze (UG (Uc (Ib k)))).1.e≠0∨((Ze (UG (Uc (Ib k)))).1.e=0∧ ∃m,(Ze (UG (Uc (Ib k)))).2=⟨[],[],m⟩∧Yq m k=true):=by
 have hv: ∀w∈Kr,JD (UG (Uc (Ib k))) ⟨0,0,0⟩ w=false:=fun w hw=>Iq h hs (by
  have: ∀w∈Kr,w∉zo∧w∉Rn:=by decide
  exact this w hw)
 have hp:JD (UG (Uc (Ib k))) ⟨0,0,0⟩ [112,114,101,100]=false:=Iq h hs Qz;have e:=zC h hs;obtain⟨h1,h2,h3,h4⟩:=KA hv hp rfl
 generalize UG (Uc (Ib k))=L at *
 have b:ZL L ⟨0,0,0⟩ (Zq 0 (Js k)++[⟨3,[59],0,((0+(Uc (Js k)).length:Nat):Int)⟩,⟨4,[],0,((Uc (Ib k)).length:Int)⟩]):=⟨rfl,e⟩;have hn: ∀W:List (List Nat),[59]∉W→Hg [⟨3,[59],0,((0+(Uc (Js k)).length:Nat):Int)⟩,⟨4,[],0,((Uc (Ib k)).length:Int)⟩] W:=fun W hW=>Hg.sg hW;have hr:Hf L (Qu L L.length ⟨0,0,0⟩ 0) _ k:=Od (Nk _ k (Nat.le_refl _) h L.length 0 0 _ _ b (hn _ Qz) (by rw[e];exact Nat.le_refl _)) (hn _ Qz) rfl;rcases hr with hr|⟨hr,b1⟩
 ·exact .inl fun x=>hr (h4 (by rw[←h1];exact x))
 ·have b2:=b1.uq
  have hk:(Jz L (Q9 L (Qu L L.length ⟨0,0,0⟩ 0).1 [59]) 4).e=0:=by
   unfold Jz;rw[if_neg (by rw[b2.now];exact fun x=>x rfl)];exact b2.e
  exact .inr ⟨by rw[h1];exact hk,_,h3,hr⟩
end
theorem wa{k:Nd}(h:JS k=true):((tokens (bytesOf (Uc (Ib k)))).2.2=0→(∀w∈Kr,JD (UG (Uc (Ib k))) ⟨0,0,0⟩ w=false)∧JD (UG (Uc (Ib k))) ⟨0,0,0⟩ [112,114,101,100]=false∧Vt (UG (Uc (Ib k))))∧
  ((JZ (Uc (Ib k))).2.2≠0∨((JZ (Uc (Ib k))).2=(((Uc (Ib k)).length:Int),0)∧ ∃m,(JZ (Uc (Ib k))).1=⟨[],[],m⟩∧Yq m k=true)):=by
 by_cases hs:(Uc (Ib k)).length≤2000
 ·refine⟨fun _=>⟨fun w hw=>Iq h hs (by
   have: ∀w∈Kr,w∉zo∧w∉Rn:=by decide
   exact this w hw),Iq h hs Qz,av h hs⟩,?_⟩
  have ht:(tokens (bytesOf (Uc (Ib k)))).2.2=0:=by rw[KX (Hn h) hs]
  rw[JZ,if_neg (by rw[ht];decide)];rcases jl h hs with he|⟨he,m,hm,hk⟩
  ·rw[if_pos he];exact .inl he
  ·rw[if_neg (by rw[he];decide)];exact .inr ⟨rfl,m,hm,hk⟩
 ·have ht:(tokens (bytesOf (Uc (Ib k)))).2.2=3:=by rw[Ij (by rw[Zj];omega)]
  refine⟨fun h0=>(absurd (ht.symm.trans h0) Qz),.inl ?_⟩;rw[JZ,if_pos (by rw[ht];decide),ht];decide
theorem aq(k:Nd):Uc (Ib k)=Uc (Js k)++[59]:=by rw[Ib,YV];rfl
end
section

theorem GJ(st:St):Ev Tryz.prog Jy 9 [] st (.bool true) st:=⟨0,1,rfl⟩
theorem jU(l:List Nat): ∃ds ps o s z a k,(JZ l).1=⟨ds,ps,.mk o s z a k⟩:=by
 obtain⟨ds,ps,⟨o,s,z,a,k⟩⟩:=(JZ l).1;exact⟨ds,ps,o,s,z,a,k,rfl⟩

theorem OO{o s:List Nat}{z a:Int}{l:List Nd}{st:St}{cs:List AV}(hf:QC st)(hr:VD st.h.get (.mk o s z a l) cs): ∃v st',Ev Tryz.prog Jy 3 [.agg cs] st v st'∧v=.bool true:=by
 have hr0:=hr;obtain⟨kk,ls,rfl,hK,hb⟩:=hr.JT;have hln:=hK.ln;have hbn:=hK.Na;refine Zw Tryz.func3 Tryz.ntmps3 fun T K=>?_;have M:=Mem.start hf;refine Qf 0 K M fun _ K=>?_;refine Y2 K M rfl (Qa rfl (Qa rfl (Qa rfl (Qa rfl (Qa hK.cell QF))))) Qz fun c1 _ _ K M=>?_;refine Qf 2 K M fun _ K=>?_;refine oQ K M (Ds M.fresh (hr0.mono M.rows)) rfl rfl fun _ _ K M=>?_;refine Qf 1 K M fun _ K=>?_;refine Kn K rfl (fun _ e13 K=>?_) fun _ e13 K=>?_
 · refine Qf 1 K M fun _ K=>?_;obtain⟨v15,st15,ev15,rfl,q15⟩:=ON M.fresh (hr0.mono M.rows);refine pg K rfl rfl (Qe rfl ev15) fun _ K=>?_;replace M:=M.quiet q15;refine Qf 2 K M fun _ K=>?_;refine Uj K rfl (fun h17=>?_) fun h17=>?_
   · have hb17:=h17
     replace h17:(Kv (.mk o s z a l) 2000&&JS (.mk o s z a l))=false:=by first|(revert h17;cases (Kv (.mk o s z a l) 2000&&JS (.mk o s z a l))<;>simp;done)|simpa using h17
     refine Qf 1 K M ?_
     first
      |rfl
      |(simp_all;done)
      |(exfalso;simp_all;done)
   have hb17:=h17
   replace h17:(Kv (.mk o s z a l) 2000&&JS (.mk o s z a l))=true:=by first|(revert h17;cases (Kv (.mk o s z a l) 2000&&JS (.mk o s z a l))<;>simp;done)|simpa using h17
   refine Qf 0 K M fun _ K=>?_;obtain⟨hF,hz⟩:JS (.mk o s z a l)=true∧Xl (.mk o s z a l)≤1000:=⟨by simp_all,by omega⟩;have hfl:=YU hF hz;obtain⟨hw0,hrs⟩:=wa hF;have hB0:=qh (Hn hF);rw[aq]at hw0 hrs hB0;refine Qf 1 K M fun _ K=>?_;refine oQ K M (jm _ _ _ M.fresh (hr0.mono M.rows) hF hz) rfl rfl fun _ _ K M=>?_;refine p1 K (QS (b:=[59]) rfl rfl (by first|omega|(simp only[List.length_append,List.length_cons,List.length_nil];omega))) fun _ K=>?_;refine Qf 1 K M fun _ K=>?_
   have htl:(Uc (Js (.mk o s z a l))++[59]).length≤140737488351232:=by rw[List.length_append];simp only[List.length_cons,List.length_nil];omega
   generalize Uc (Js (.mk o s z a l))++[59]=tx at *
   obtain⟨ds0,ps0,o0,s0,z0,a0,l0,hg⟩:=jU tx;have hgB:=zV tx;rw[hg]at hgB;refine Qf 1 K M fun _ K=>?_;obtain⟨v23,st23,ev23,cs23,rfl,⟨A23,hS23,hW23⟩,q23⟩:=Mv M.fresh tx htl hw0;refine p1 K (Qe rfl ev23) fun _ K=>?_;replace M:=M.T8 q23 hS23;rw[hg]at hW23;have hw23:=hW23;obtain⟨kd23,kp23,oP23,sP23,zP23,aP23,kk23,lsp23,rfl,⟨Ad23,hxd23,nd23,hAd23⟩,⟨Ap23,hxp23,np23,hAp23⟩,hlp23,hPA23,hN23⟩:=hw23;simp only[L0]at M;refine au 5 K M ?_;intro c4 _ _ K _ M;refine QX (k:=0) K M rfl rfl rfl U1 rfl (Qa hAd23.cell (Qa hAp23.cell (Qa rfl (Qa rfl (Qa rfl (Qa rfl (Qa hN23.Jd QF))))))) rfl fun _ M=>?_;refine Qf 3 K M fun _ K=>?_;obtain⟨v29,st29,ev29,cs29,rfl,⟨A29,hS29,hW29⟩,q29⟩:=jV M.fresh tx hB0 htl;refine p1 K (Qe rfl ev29) fun _ K=>?_;replace M:=M.T8 q29 hS29;rw[hg]at hW29;have hw29:=hW29;obtain⟨kd29,kp29,oP29,sP29,zP29,aP29,kk29,lsp29,rfl,⟨Ad29,hxd29,nd29,hAd29⟩,⟨Ap29,hxp29,np29,hAp29⟩,hlp29,hPA29,hN29⟩:=hw29;simp only[L0]at M;refine au 5 K M ?_;intro c7 _ _ K _ M;refine QX (k:=0) K M rfl rfl rfl U1 rfl (Qa hAd29.cell (Qa hAp29.cell (Qa rfl (Qa rfl (Qa rfl (Qa rfl (Qa hN29.Jd QF))))))) rfl fun _ M=>?_;refine Qf 4 K M fun _ K=>?_;refine Uj K rfl (fun h34=>?_) fun h34=>?_
   · have hb34:=h34
     replace h34: ¬((JZ tx).2.2=0):=by first|exact of_decide_eq_false h34|exact yF h34|simpa using h34
     refine Qf 3 K M fun _ K=>?_;refine Kn K rfl (fun _ e38 K=>?_) fun _ e38 K=>?_
     · exact absurd rfl e38
     refine Qf 4 K M fun _ K=>?_;refine Kn K rfl (fun _ e43 K=>?_) fun _ e43 K=>?_
     · exact absurd rfl e43
     have ev44:=GJ;refine pg K rfl rfl (Qe rfl (ev44 _)) fun _ K=>?_;refine Qf 2 K M ?_
     first
      |rfl
      |(simp_all;done)
      |(exfalso;simp_all;done)
   have hb34:=h34
   replace h34:((JZ tx).2.2=0):=by first|exact of_decide_eq_true h34|exact yT h34|simpa using h34
   refine Qf 0 K M fun _ K=>?_;rcases hrs with hrs|⟨hat,m,hm,hsm⟩
   · exact absurd h34 hrs
   rw[hg]at hm
   injection hm with hm1 hm2 hm3
   subst hm1 hm2 hm3
   have hat:(JZ tx).2.1=((tx.length:Nat):Int):=by rw[hat]
   refine Qf 2 K M fun _ K=>?_;refine Kn K rfl (fun _ e48 K=>?_) fun _ e48 K=>?_
   · exact absurd h34 e48
   refine Qf 2 K M fun _ K=>?_;refine pg K rfl rfl (X5 UF rfl rfl) fun _ K=>?_;refine Qf 2 K M fun _ K=>?_;refine Kn K rfl (fun _ e54 K=>?_) fun _ e54 K=>?_
   · exact absurd hat e54
   refine Qf 3 K M fun _ K=>?_;obtain⟨v58,st58,ev58,rj58,q58⟩:=jF _ _ _ _ _ M.fresh (hW23.toR (M.ea (zi _) (fun x hx=>by simp[hx])) hgB).main (hr0.mono M.rows);refine pg K rfl rfl (Qe rfl ev58) fun _ K=>?_;rw[hsm]at rj58;subst rj58;replace M:=M.quiet q58;refine Qf 4 K M fun _ K=>?_;obtain⟨v63,st63,ev63,rfl,q63⟩:=wQ M.fresh (hW23.toR (M.ea (zi _) (fun x hx=>by simp[hx])) hgB) (hW29.toR (M.ea (zi _) (fun x hx=>by simp[hx])) hgB);refine pg K rfl rfl (Qe rfl ev63) fun _ K=>?_;replace M:=M.quiet q63;refine Qf 2 K M fun _ K=>?_;have ev66:=GJ;refine pg K rfl rfl (Qe rfl (ev66 _)) fun _ K=>?_;refine Qf 2 K M ?_
   first
    |rfl
    |(simp_all;done)
    |(exfalso;simp_all;done)
 refine Qf 6 K M ?_
 first
  |rfl
  |(simp_all;done)
  |(exfalso;simp_all;done)
end
section

theorem L9{H:Type}{enc:TypeId×Value→H}{W:World}{v0:Value}{d0:DataW H}{p0:List MemPlace}(h0:DataW.Trod enc Tryz.prog W 0 (fun _=>true) true 24 v0 d0 p0)(hT:LC W):
  Calls Tryz.prog 3 #[v0] W fun e w'=>e=.returned (.bool true)∧Below W.heap.size W w':=by
 obtain⟨ml1,cs,k,_,hM1,hk,hw,hc⟩:=MM VS.nil h0;obtain⟨o,s,z,a,l⟩:=k
 have:=M5 (G:=Jy) (fun _=>rfl) xE mixed (f:=3) (args:=[.agg cs]) hM1 ⟨hw,trivial⟩
  (OO (Gx ml1) (by rw[LJ];exact hk)) hT
 rw[show Q4 (OK ml1) [.agg cs]=[v0] by rw[←hc];rfl]at this;exact this
end
end Go.Proofs.YtmgkfceomhagaaaGreatDoor
