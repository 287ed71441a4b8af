/-
  macro: what a call stands for, nodes that are expanded.
-/
import Derived.Test.YtaomhhkflohhgaaGreatDoorMgKnJ
set_option maxHeartbeats 8000000
set_option maxRecDepth 100000
set_option linter.unnecessarySimpa false
set_option linter.unusedSectionVars false
set_option linter.unusedSimpArgs false
set_option linter.unusedVariables false
namespace Go.Proofs.YtaomhhkflohhgaaGreatDoor
open Go Go.RowKit
section
variable {C a z:Int} {l:List Nd} {o s:List Nat}

theorem qk{l:List Dc}{i:Nat}{d:Dc}(h:l[i]? =some d):Xq ((l.take (i+1)).map Dc.name)=Xq ((l.take i).map Dc.name)++[[.str d.name]]:=by
 have:l.take (i+1)=l.take i++[d]:=by rw[List.take_add_one,h];rfl
 rw[this,List.map_append,Vx];rfl
def Zy(C:Int)(B:Nat)(ps:List Pd)(x:Nd):Prop:= ∀y∈U3 x,KH C B ps y
theorem Zy.self{B:Nat}{ps:List Pd}(h:Zy C B ps (.mk [99,97,108,108] s z a l)):KH C B ps (.mk [99,97,108,108] s z a l):=h _ (by rw[U3,if_pos rfl];exact List.mem_cons_self ..)
theorem Zy.GP{B:Nat}{ps:List Pd}(h:Zy C B ps (.mk o s z a l))(ho: ¬o=[99,97,108,108]){k:Nd}(hk:k∈l):Zy C B ps k:=fun y hy=>h y (Pb ho hk hy)

theorem Te{pn:List Nat}{pp:List Dc}{pa:Int}{st:St}{cs:List AV}(hf:Qw st)(hr:MY st.h.get ⟨pn,pp,.mk o s z a l,pa⟩ cs){c5:Nat}{o5 s5:List Nat}{z5 a5:Int}{kk5:AV}(h5:Z9 st.h.get c5 0 [.str o5,.str s5,iZ z5,iZ a5,kk5]): ∃v st',Ev Tryz.prog QR 60 [.agg cs,.ptr c5 0 0] st v st'∧v=.bool (decide (pn=s5))∧Qt st st':=by
 have hr0:=hr;obtain⟨kd,ld,o,s,z,a,kk,rfl,hD,hn,hy⟩:=hr0;obtain⟨kx,ls,ex,hK,hb⟩:=hn.Jn
 injection ex with x1 x;injection x with x2 x;injection x with x3 x;injection x with x4 x;injection x with x5 x
 injection x1 with x1;injection x2 with x2;injection x3 with _ x3;injection x4 with _ x4
 subst x1 x2 x3 x4 x5;replace hD:Xi st.h.get pp kd ld:=hD;replace hn:XE st.h.get (.mk o s z a l) _:=hn;replace hy:Bytes pn:=hy;have hl:=hK.YZ;have hd:=hD.YZ;refine Yu Tryz.func60 Tryz.ntmps60 fun T K=>?_;have M:=Mem.start hf;refine Qc 0 K M fun _ K=>?_;refine J3 K M rfl (Qa rfl (Qa hD.cell (Qa rfl (Qa rfl (Qa rfl (Qa rfl (Qa hK.cell (Qa rfl Qo)))))))) QT fun c2 _ _ K M=>?_;refine Qc 4 K M fun _ K=>?_;refine p1 K (QW rfl (Yh (M.rows _ _ _ h5) (Qj J0 rfl))) fun _ K=>?_;refine Qc 2 K M ?_;exact⟨rfl,M.qt⟩

theorem qd{Q R:Xh}{st:St}(hf:Qw st)(hQ:ZM Q st.h.get)(hR:ZM R st.h.get){cp:Nat}{ps:List Pd}{kp:AV}{lsp:List (List AV)}{n0:Int}(hC:Z9 st.h.get cp 0 [kp,iZ n0])(hP:zY Q R ps kp lsp){B0:Nat}{cs:List AV}(hr:Uo R (.mk o s z a l) cs)(hcall:KH C B0 ps (.mk o s z a l)): ∃v st',Ev Tryz.prog QR 37 [.ptr cp 0 0,.agg cs] st v st'∧JG R st st' (We ps s l) v∧Qt st st':=by
 have hr0:=hr;obtain⟨kk,ls,rfl,hK,hb⟩:=hr.Jn;have hln:=hK.ln;have hbn:=hK.YZ;obtain⟨p0,hp0,hok0,hPS0,hpl0⟩:=hcall;have hPR:=hP.toR hQ hR;have hlp:=hPR.ln;have hbp:=hPR.YZ;refine Yu Tryz.func37 Tryz.ntmps37 fun T K=>?_;have M:=Mem.start hf;refine Qc 0 K M fun _ K=>?_;refine J3 K M rfl (Qa rfl (Qa rfl (Qa rfl (Qa rfl (Qa hK.cell Qo))))) QT fun c3 _ _ K M=>?_;refine au 4 K M ?_;intro c4 _ _ K _ M;refine p1 K (QW rfl (Yh (M.rows _ _ _ hC) (Qj UB rfl))) fun _ K=>p1 K (IT rfl rfl) fun _ K=>?_
 obtain⟨v15,st15,ev15,rfl,q15⟩:=Im (fa:=[]) (fc:=[.ptr c3 0 0]) (p:=fun p:Pd=>decide (p.name=s)) M.fresh (I9.mono M.rows hPR) (fun k hk st1 cs q hr1=>by
  obtain⟨pn9,pp9,⟨o9,s9,z9,a9,l9⟩,pa9⟩:=k
  exact Te q.fresh hr1 ((Jj.YQ (M.Qn (k:=1) rfl)).Us M.fresh (q.Us []) Q3))
 refine p1 K (Qe rfl ev15) fun _ K=>?_;replace M:=M.quiet q15;obtain⟨fi,hfi⟩: ∃fi,fi=Xa (fun p:Pd=>decide (p.name=s)) ps 0:=⟨_,rfl⟩;rw[←hfi]at K
 have hfb:(fi= -1∧ps.find? (fun p=>decide (p.name=s))=none)∨(0≤fi∧fi<((ps.length:Nat):Int)∧ps.find? (fun p=>decide (p.name=s))=ps[fi.toNat]?):=by
  rcases GV (fun p:Pd=>decide (p.name=s)) ps 0 with⟨h1,h2⟩|⟨j,k,h1,h2,h3⟩
  ·exact .inl ⟨by rw[hfi,h1],h2⟩
  ·have h4:=(List.getElem?_eq_some_iff.1 h2).1
   have h5:fi.toNat=j:=by rw[hfi,h1];omega
   exact .inr ⟨by rw[hfi,h1];omega,by rw[hfi,h1];omega,by rw[h3,h5,h2]⟩
 have hfi0:ps[fi.toNat]? =some p0:=by
  rcases hfb with⟨_,h⟩|⟨_,_,h⟩
  ·rw[hp0]at h;cases h
  ·rw[←h,hp0]
 have hfi1:0≤fi:=by
  rcases hfb with⟨_,h⟩|⟨h,_,_⟩
  ·rw[hp0]at h;cases h
  ·exact h
 have hfi2:=(List.getElem?_eq_some_iff.1 hfi0).1;refine Qc 4 K M fun _ K=>?_;refine p1 K (QW rfl (Yh (M.rows _ _ _ hC) (Qj UB rfl))) fun _ K=>?_;refine Qc 1 K M fun _ K=>?_;obtain⟨⟨pn21,pp21,⟨o21,s21,z21,a21,l21⟩,pa21⟩,hi21⟩: ∃k,ps[fi.toNat]? =some k:=⟨_,List.getElem?_eq_getElem Qh⟩;obtain⟨_,hc21,hG21⟩:=hP.p _ _ hi21;obtain⟨kd21,ld21,kk21,ls21,rfl,hD21,hn21,hK21,hb21,hy21⟩:=hG21.open;have hE21:=hD21 _ hR;have hln21:=hE21.ln;have hbn21:=hE21.YZ
 have hpe:p0=⟨pn21,pp21,.mk o21 s21 z21 a21 l21,pa21⟩:=by have e:=hfi0.symm.trans hi21;injection e
 subst hpe;replace hok0:okB C (.mk o21 s21 z21 a21 l21)=true:=hok0;replace hPS0:Gk C B0 (Uj (.mk o21 s21 z21 a21 l21)) l:=hPS0;replace hpl0:pp21.length≤1000:=hpl0;obtain⟨x21,m21,f21,q21,_,la21,lo21,lp21⟩:=(QS.mem M (hP.toR hQ hR).r Q3).load (i:=fi.toNat) (cs:=_) hc21;refine p1 K (Q5 (j:=fi.toNat) Xy (congrArg some q21) (congrArg (fun z=>some (iZ z)) (by omega:_=((fi.toNat:Nat):Int))) (by rw[hP.ln];omega)) fun _ K=>p1 K (QW rfl (la21 _ V9)) fun _ K=>?_;refine au 1 K M ?_;intro c6 _ _ K _ M;refine Qz (k:=0) K M rfl rfl rfl VB rfl (Qa rfl (Qa hE21.cell (Qa rfl (Qa rfl (Qa rfl (Qa rfl (Qa hK21.cell (Qa rfl Qo)))))))) rfl fun _ M=>?_;refine Qc 3 K M fun _ K=>?_;refine p1 K (Jg Ux rfl rfl hE21.len) fun _ K=>?_;refine Qc 1 K M fun _ K=>?_;refine JQ (fun mm1 T st9=> ∃(i:Nat) (ks:AV) (A:JJ),mm1=pp21.length-i∧Jr [(3,.ptr c3 0 0),(4,.ptr c4 0 0),(6,.ptr c6 0 0),(7,ks),(24,kd21),(25,iZ (pp21.length:Nat)),(26,iN i)] T∧Mem st.h.get st.n [] st9 ((c6,0,[.str pn21,kd21,.str o21,.str s21,iZ z21,iZ a21,kk21,iZ pa21])::(c4,0,[.str [],.str [],iZ 0,iZ 0,.nils])::(c3,0,[.str o,.str s,iZ z,iZ a,kk])::(A++[]))∧Acc st.n 1 A ks (Xq ((pp21.take i).map Dc.name))∧i≤pp21.length) (fun mm1 T st9 hI=>?_) _ _ _ ⟨0,.nils,[],rfl,(K.sub rfl),M.less (.refl _),(by rw[List.take_zero];exact .none),(Nat.zero_le _)⟩;obtain⟨i,ks,A,rfl,K,M,hA,hi⟩:=hI;refine Qc 1 K M fun _ K=>?_;refine Xj K rfl (fun h27=>?_) fun h27=>?_
 ·refine Qc 0 K M fun _ K=>?_;obtain⟨⟨dn28,do28,da28⟩,hi28⟩: ∃k,pp21[i]? =some k:=⟨_,List.getElem?_eq_getElem Qh⟩;have hm28:=Er hi28;obtain⟨_,hc28,rfl,hy28⟩:=hE21.at_ _ _ hi28;refine OJ (hE21.r.mem M Q3) hc28 K Zw VA rfl rfl fun _ _ _ _ K=>?_;refine au 6 K M ?_;intro c9 c33 _ _ K _ M;refine ZW (k2:=0) (L:=[(c33,0,[.str dn28]),(c9,0,[.str dn28,iZ do28,iZ da28]),(c6,0,[.str pn21,kd21,.str o21,.str s21,iZ z21,iZ a21,kk21,iZ pa21]),(c4,0,[.str [],.str [],iZ 0,iZ 0,.nils]),(c3,0,[.str o,.str s,iZ z,iZ a,kk])]) (B:=[]) K M hA UI rfl rfl rfl rfl (by rw[J5,List.length_map,List.length_take];omega) rfl fun ks34 A34 _ _ K hA34 M=>?_;refine Qc 3 K M fun _ K=>?_;exact⟨_,Qh,i+1,ks34,A34,rfl,(K.sub rfl),M.less (.cons _ (.cons _ (.refl _))),(by rw[qk hi28];exact hA34),Qh⟩
 refine Jx ?_;show W _ _ _ _ _ _ _;refine Qc 5 K M fun _ K=>?_;have htk:pp21.take i=pp21:=List.take_of_length_le Qh;rw[htk]at hA;obtain⟨v41,st41,ev41,⟨on41,sn41,zn41,an41,ln41,kkn41,A41,en41,rfl,hS41,hN41⟩,q41⟩:=z6 M.fresh (M.ZM hR) (Mem.LJ (L:=[(c6,0,[.str pn21,kd21,.str o21,.str s21,iZ z21,iZ a21,kk21,iZ pa21]),(c4,0,[.str [],.str [],iZ 0,iZ 0,.nils]),(c3,0,[.str o,.str s,iZ z,iZ a,kk])]) (B:=[]) M hA) hK hn21 hPS0 hok0;refine p1 K (Qe rfl ev41) fun _ K=>?_;replace M:=M.YN q41 hS41;replace M:=Mem.cast (M':=((c6,0,[.str pn21,kd21,.str o21,.str s21,iZ z21,iZ a21,kk21,iZ pa21])::(c4,0,[.str [],.str [],iZ 0,iZ 0,.nils])::(c3,0,[.str o,.str s,iZ z,iZ a,kk])::(A++(A41++[])))) M Za;refine Qz (k:=1) K M rfl rfl rfl Qi rfl (Qa rfl (Qa rfl (Qa rfl (Qa rfl (Qa hN41.ZU Qo))))) rfl fun _ M=>?_;refine Qc 0 K M ?_;refine⟨?_,M.qt⟩;rw[O0 hp0];exact⟨_,_,_,_,_,_,A41,en41,rfl,M.KI (.cons _ (.cons _ (.cons _ (List.Sublist.trans (List.sublist_append_left A41 []) (List.sublist_append_right _ _))))),hN41⟩

theorem qc{cp:Nat}{ps:List Pd}{B0:Nat}(x:Nd): ∀(Q R:Xh) (st:St) (cs:List AV) (kp:AV) (lsp:List (List AV)) (n:Int),Qw st→ZM Q st.h.get→(∀c m l,Q c m l→c∉[cp])→ZM R st.h.get→(∀c m l,R c m l→c∉[cp])→Jj st.h.get cp 0 [kp,iZ n]→zY Q R ps kp lsp→Uo R x cs→Zy C B0 ps x→0≤n→n≤2000→Uj x≤1000000→ ∃v st',Ev Tryz.prog QR 17 [.ptr cp 0 0,.agg cs] st v st'∧(∃v1,v=.tup [v1,.bool (Jq ps x n).1.2]∧JG R st st' (Jq ps x n).1.1 v1)∧Ad [cp] st st'∧Jj st'.h.get cp 0 [kp,iZ (Jq ps x n).2]:=by
 refine Uz (M:=fun x=> ∀(Q R:Xh) (st:St) (cs:List AV) (kp:AV) (lsp:List (List AV)) (n:Int),Qw st→ZM Q st.h.get→(∀c m l,Q c m l→c∉[cp])→ZM R st.h.get→(∀c m l,R c m l→c∉[cp])→Jj st.h.get cp 0 [kp,iZ n]→zY Q R ps kp lsp→Uo R x cs→Zy C B0 ps x→0≤n→n≤2000→Uj x≤1000000→ ∃v st',Ev Tryz.prog QR 17 [.ptr cp 0 0,.agg cs] st v st'∧(∃v1,v=.tup [v1,.bool (Jq ps x n).1.2]∧JG R st st' (Jq ps x n).1.1 v1)∧Ad [cp] st st'∧Jj st'.h.get cp 0 [kp,iZ (Jq ps x n).2]) (fun o s z a l ih=>?_) x;intro Q R st cs kp lsp n hf hQ hXQ hR hX hC hP hr hcs hn0 hn1 hszx;have hr0:=hr;obtain⟨kk,ls,rfl,hK,hb⟩:=hr.Jn;have hln:=hK.ln;have hbn:=hK.YZ
 have hll:l.length+1≤Uj (.mk o s z a l):=by rw[Uj];have:=BB l;omega
 refine Yu Tryz.func17 Tryz.ntmps17 fun T K=>?_;have M:=Mem.UP hf hC;refine Qc 0 K M fun _ K=>?_;refine J3 K M rfl (Qa rfl (Qa rfl (Qa rfl (Qa rfl (Qa hK.cell Qo))))) QT fun c3 _ _ K M=>?_;refine au 4 K M ?_;intro c4 _ _ K _ M;refine p1 K (QU (b:=[99,97,108,108]) rfl rfl) fun _ K=>?_;refine Qc 0 K M fun _ K=>?_;refine Xj K rfl (fun h13=>?_) fun h13=>?_
 ·refine Qc 2 K M fun _ K=>?_
  have ho:o=[99,97,108,108]:=by assumption
  subst ho;obtain⟨v16,st16,ev16,⟨on16,sn16,zn16,an16,ln16,kkn16,A16,en16,rfl,hS16,hN16⟩,q16⟩:=qd M.fresh (M.D5 hQ hXQ) (M.D5 hR hX) (M.Qn (k:=2) rfl).YQ hP hr0 hcs.self;refine p1 K (Qe rfl ev16) fun _ K=>?_;have rw16:=Jj.Us M.fresh (q16.Us []) (M.Qn (k:=2) rfl) Q3;replace M:=M.Jd (k:=2) rfl (q16.Us _) rw16 hS16;rw[en16]at hN16;refine Qz (k:=1) K M rfl rfl rfl Qi rfl (Qa rfl (Qa rfl (Qa rfl (Qa rfl (Qa hN16.ZU Qo))))) rfl fun _ M=>?_;refine Qc 0 K M fun _ K=>?_;refine Ja (l:=[(4,0),(5,0),(0,0),(1,0),(2,0),(3,1),(6,0),(7,0),(8,0),(9,0)]) (by kernel_rfl) ?_;have Mq:=M;refine Ui 1 K M fun _ K=>?_;obtain⟨v22,st22,ev22,rfl,q22⟩:=CG M.fresh (hN16.AP (M.wF hR hX (B:=A16) (by intro x hx;simp[hx])));refine qA rfl K (Qe rfl ev22) fun _ K=>?_;replace M:=M.quiet q22;have Mp:=Mq;have Mq:=M;refine Ui 3 K M fun _ K=>?_;refine QL rfl K rfl (M.load (k:=2) rfl (Qj QH rfl)) (Mp.load (k:=2) rfl (Qj QH rfl)) (J2 rfl) rfl QT fun _ K=>?_;refine Ui 3 K M fun _ K=>?_;refine JL (k:=2) rfl K M rfl rfl rfl BA rfl rfl rfl fun _ M=>?_;have Mp:=Mq;have Mq:=M;refine Ji ?_;show W _ _ _ _ _ _ _;refine UR ?_;refine Ja (l:=[(0,0),(6,0),(1,0),(2,0),(3,0),(4,1),(5,0),(7,0)]) (by kernel_rfl) ?_;have Mq:=M;refine Ui 1 K M fun _ K=>?_;refine JL (k:=0) rfl K M rfl rfl rfl Qi rfl (Qa rfl (Qa rfl (Qa rfl (Qa rfl (Qa hN16.ZU Qo))))) rfl fun _ M=>?_;have Mp:=Mq;have Mq:=M;refine Ui 3 K M fun _ K=>?_;refine QL rfl K rfl (M.load (k:=2) rfl (Qj QH rfl)) (Mp.load (k:=2) rfl (Qj QH rfl)) (J2 rfl) rfl QT fun _ K=>?_;refine Ui 2 K M fun _ K=>?_;refine Ji ?_;show W _ _ _ _ _ _ _;refine Jv ⟨.inr rfl,_,(U8 (JC K rfl (M.load (k:=0) rfl (QA Qv rfl))) (QF K rfl)),?_⟩;rw[Bb,en16];refine⟨⟨_,rfl,?_⟩,M.Us,M.Qn (k:=2) rfl⟩;exact JG.of hN16 (M.Un (k:=2) rfl (.cons _ (.cons _ (List.sublist_append_left _ _))))
 refine au 13 K M ?_;intro _ _ K _ M;refine Xj K rfl (fun h43=>?_) fun h43=>?_
 ·refine au 3 K M ?_;intro _ _ K _ M;refine Jv ⟨.inr rfl,_,(U8 (JC K rfl (M.load (k:=0) rfl (QA Qv rfl))) (QF K rfl)),?_⟩;rw[M6 (by assumption) Qh];refine⟨⟨_,rfl,?_⟩,M.Us,M.Qn (k:=2) rfl⟩;exact JG.of (A:=[]) (Ya ⟨Ql,Ql⟩) (M.Un (k:=2) rfl (List.nil_sublist _))
 refine Qc 3 K M fun _ K=>?_;refine p1 K (Jg QI rfl rfl hK.len) fun _ K=>?_;refine Qc 1 K M fun _ K=>?_;refine JQ (fun mm1 T st9=> ∃(i:Nat) (ks:AV) (A:JJ) (B:JJ) (lsn:List (List AV)) (dn:List Nd) (m:Int),mm1=l.length-i∧Jr [(0,.ptr cp 0 0),(3,.ptr c3 0 0),(4,.ptr c4 0 0),(6,ks),(46,kk),(47,iZ (l.length:Nat)),(48,iN i)] T∧Mem st.h.get st.n [cp] st9 ((c4,0,[.str [],.str [],iZ 0,iZ 0,.nils])::(c3,0,[.str o,.str s,iZ z,iZ a,kk])::(cp,0,[kp,iZ m])::(A++(B++[])))∧Acc st.n 5 A ks lsn∧i≤l.length∧lsn.length=i∧Xp (JX R B) (fun k=>k) dn lsn∧Yb ps l (n-1)=BN dn (Yb ps (l.drop i) m)∧0≤m∧m≤2000∧dn.length=i∧(¬o=[99,97,108,108])) (fun mm1 T st9 hI=>?_) _ _ _ ⟨0,.nils,[],[],[],[],n-1,rfl,(K.sub rfl),M.less (.refl _),.none,(Nat.zero_le _),rfl,.nil,(by rw[List.drop_zero];simp[BN]),Qh,Qh,rfl,(by assumption)⟩;obtain⟨i,ks,A,B,lsn,dn,m,rfl,K,M,hA,hi,hlen,hmap,hx,hm0,hm1,hdl,hoc⟩:=hI;refine Qc 1 K M fun _ K=>?_;refine Xj K rfl (fun h49=>?_) fun h49=>?_
 ·refine Qc 0 K M fun _ K=>?_;obtain⟨⟨o50,s50,z50,a50,l50⟩,hi50⟩: ∃k,l[i]? =some k:=⟨_,List.getElem?_eq_getElem Qh⟩;have hm50:=U7 hi50;obtain⟨_,hc50,hn50⟩:=hK.get hi50;have hp50:=hn50;obtain⟨kk50,ls50,rfl,hK50,hb50⟩:=hp50.Jn;refine OJ (hK.r (M.D5 hR hX)) hc50 K Jf Qv rfl rfl fun _ _ _ _ K=>?_;refine au 1 K M ?_;intro c8 _ _ K _ M;refine Qz (k:=0) K M rfl rfl rfl Qi rfl (Qa rfl (Qa rfl (Qa rfl (Qa rfl (Qa hK50.cell Qo))))) rfl fun _ M=>?_;refine Qc 2 K M fun _ K=>?_;obtain⟨v55,st55,ev55,⟨_,rfl,on55,sn55,zn55,an55,ln55,kkn55,A55,en55,rfl,hS55,hN55⟩,q55,r55⟩:=ih _ hm50 Q R _ _ kp lsp m M.fresh (M.D5 hQ hXQ) hXQ (M.D5 hR hX) hX (M.Qn (k:=3) rfl) hP hn50 (hcs.GP hoc hm50) hm0 hm1 (by have:=Z4 hm50;rw[Uj]at hszx;omega);refine p1 K (Qe rfl ev55) fun _ K=>?_;have hrm55:=FZ ps (.mk o50 s50 z50 a50 l50) m hm0;replace M:=M.Jd (k:=3) rfl q55 r55 hS55;replace M:=Mem.cast (M':=((c8,0,[.str o50,.str s50,iZ z50,iZ a50,kk50])::(c4,0,[.str [],.str [],iZ 0,iZ 0,.nils])::(c3,0,[.str o,.str s,iZ z,iZ a,kk])::(cp,0,[kp,iZ ((Jq ps (.mk o50 s50 z50 a50 l50) m).2)])::(A++((B++A55)++[])))) M Za;refine au 4 K M ?_;intro c9 _ _ K _ M;refine Qz (k:=0) K M rfl rfl rfl Qi rfl (Qa rfl (Qa rfl (Qa rfl (Qa rfl (Qa hN55.ZU Qo))))) rfl fun _ M=>?_;refine Qc 3 K M fun _ K=>?_;refine JU K rfl (fun h59=>?_) fun h59=>?_
  ·have hb59:=h59
   replace h59:((Jq ps (.mk o50 s50 z50 a50 l50) m).1.2)=false:=by simpa using h59
   refine au 3 K M ?_;intro _ _ K _ M;refine Jv ⟨.inr rfl,_,(U8 (JC K rfl (M.load (k:=2) rfl (QA Qv rfl))) (QF K rfl)),?_⟩;have hfl:=zA dn hi50 h59;rw[z8 (m:=(Jq ps (.mk o50 s50 z50 a50 l50) m).2) hoc Qh (by rw[hx];exact hfl.1) (by rw[hx];exact hfl.2)];refine⟨⟨_,rfl,?_⟩,M.Us,M.Qn (k:=4) rfl⟩;exact JG.of (A:=[]) (Ya ⟨Ql,Ql⟩) (M.Un (k:=4) rfl (List.nil_sublist _))
  have hb59:=h59
  replace h59:((Jq ps (.mk o50 s50 z50 a50 l50) m).1.2)=true:=by simpa using h59
  refine Qc 2 K M fun _ K=>?_;refine Fb K M QC Jc rfl rfl (Qa rfl (Qa rfl (Qa rfl (Qa rfl (Qa hN55.ZU Qo))))) rfl rfl fun c63 _ _ K M=>?_;refine ZW (k2:=0) (L:=[(c63,0,[.str on55,.str sn55,iZ zn55,iZ an55,kkn55]),(c9,0,[.str on55,.str sn55,iZ zn55,iZ an55,kkn55]),(c8,0,[.str o50,.str s50,iZ z50,iZ a50,kk50]),(c4,0,[.str [],.str [],iZ 0,iZ 0,.nils]),(c3,0,[.str o,.str s,iZ z,iZ a,kk]),(cp,0,[kp,iZ ((Jq ps (.mk o50 s50 z50 a50 l50) m).2)])]) (B:=((B++A55)++[])) K M hA QC rfl rfl rfl rfl Qh rfl fun ks64 A64 _ _ K hA64 M=>?_;refine Qc 3 K M fun _ K=>?_;exact⟨_,Qh,i+1,ks64,A64,B++A55,(lsn++[[.str on55,.str sn55,iZ zn55,iZ an55,kkn55]]),dn++[(Jq ps (.mk o50 s50 z50 a50 l50) m).1.1],(Jq ps (.mk o50 s50 z50 a50 l50) m).2,rfl,(K.sub rfl),M.less (.cons _ (.cons _ (.cons _ (.refl _)))),hA64,Qh,(by rw[List.length_append];simp;omega),(Xp.Np (hmap.mono (Q2 (fun _ _ _ h=>h) fun x hx=>List.mem_append_left _ hx)) Qh (hN55.mono (Q2 (fun _ _ _ h=>h) fun x hx=>List.mem_append_right _ hx))),(hx.trans (uA dn hi50 h59)),(hrm55.2.2 h59),(by have:=hrm55.1;omega),(by rw[List.length_append];simp;omega),hoc⟩
 refine Jx ?_;show W _ _ _ _ _ _ _;refine Qc 2 K M fun _ K=>?_;refine Ws (k:=1) K M rfl rfl rfl YF (hA.cell) rfl fun _ M=>?_;refine Qc 1 K M fun _ K=>?_;refine Qz (k:=0) K M rfl rfl rfl Qi rfl (Qa rfl (Qa rfl (Qa rfl (Qa rfl (Qa hA.cell Qo))))) rfl fun _ M=>?_;refine Qc 1 K M fun _ K=>?_;refine Jv ⟨.inr rfl,_,(U8 (JC K rfl (M.load (k:=0) rfl (QA Qv rfl))) (QF K rfl)),?_⟩;have hxe:=hx.trans (uB dn Qh);rw[u9 hoc Qh hxe];have hKm:UO (JX R (A++B)) (dn.map fun k=>k) ks lsn:=(hmap.kids Qh hA).mono (fun c m x h=>by rcases h with(h|h)|h;exact .inl h;exact .inr (List.mem_append_right _ h);exact .inr (List.mem_append_left _ h));rw[List.map_id']at hKm;refine⟨⟨_,rfl,?_⟩,M.Us,M.Qn (k:=2) rfl⟩;exact JG.of (hKm.node hb) (M.Un (k:=2) rfl (.cons _ (.cons _ Q3)))
end
section
variable {R:Xh} {cs:List AV} {st:St}

theorem Mem.yr{h0:Hp}{n0:Nat}{X:List Nat}{M A:JJ}{k c m:Nat}{l:List AV}(h:Mem h0 n0 X st M)(hk:M[k]? =some (c,m,l))(hs:A.Sublist (M.eraseIdx k)): ∀x∈A,x.1≠c:=by
 rintro⟨c',m',l'⟩ hm hc
 have hc:c'=c:=hc;subst hc;obtain⟨i,hi⟩:=List.getElem?_of_mem (hs.subset hm);rw[List.getElem?_eraseIdx]at hi
 have key: ∀j,M[j]? =some (c',m',l')→j=k:=fun j hj=>by
  have h1:(M.map Prod.fst)[j]? =some c':=by rw[List.getElem?_map,hj];rfl
  have h2:(M.map Prod.fst)[k]? =some c':=by rw[List.getElem?_map,hk];rfl
  exact(List.getElem?_inj (List.getElem?_eq_some_iff.1 h1).1 h.nodup).1 (h1.trans h2.symm)
 split at hi
 ·have:=key _ hi;omega
 ·have:=key _ hi;omega
theorem QS.eG{h:Hp}{c m z:Nat}{ls:List (List AV)}(r:Z9 h c m ls.flatten)(hz: ∀cs∈ls,cs.length=z)(hb:(ls.length:Int)≤9223372036854775807):QS h [] z ls (.sl c m 0 ls.length z):=
 ⟨rfl,hb,rfl,fun i cs hi=>⟨c,m,0,_,rfl,by simp,r,hz cs (List.mem_of_getElem? hi),by rw[Nat.zero_add];exact ER i cs hz hi⟩,fun c' m' off n z' e=>by
  injection e with e1 e2 e3 e4 e5
  subst e1 e2 e3 e4 e5
  exact⟨by simp,_,r,by rw[Zs hz];omega⟩⟩
def LM(R:Xh)(qs:List Pd)(lsq:List (List AV)):Prop:= ∀(j:Nat) (q:Pd) (cs:List AV),qs[j]? =some q→lsq[j]? =some cs→yx R q cs
theorem LM.nil:LM R [] []:=fun j q cs h=>by simp at h
theorem LM.mono{R R':Xh}(hl: ∀c m l,R c m l→R' c m l){qs:List Pd}{lsq:List (List AV)}(h:LM R qs lsq):LM R' qs lsq:=fun j q cs h1 h2=>(h j q cs h1 h2).mono hl
theorem LM.snoc{qs:List Pd}{lsq:List (List AV)}{q:Pd}(h:LM R qs lsq)(hn:lsq.length=qs.length)(hk:yx R q cs):LM R (qs++[q]) (lsq++[cs]):=by
 intro j q' cs' h1 h2
 by_cases hj:j<qs.length
 ·rw[List.getElem?_append_left hj]at h1;rw[List.getElem?_append_left Qh]at h2;exact h j q' cs' h1 h2
 ·rw[List.getElem?_append_right Qh]at h1;rw[List.getElem?_append_right Qh,hn]at h2
  have h0:j-qs.length=0:=by
   by_cases h:j-qs.length=0
   ·exact h
   ·rw[List.getElem?_eq_none (by simp;omega)]at h1;cases h1
  rw[h0]at h1 h2
  injection h1 with h1
  injection h2 with h2
  subst h1 h2;exact hk
theorem LM.ps{qs:List Pd}{lsq:List (List AV)}{A:JJ}{n0:Nat}{kq:AV}(h:LM R qs lsq)(hn:lsq.length=qs.length)(hA:Acc n0 8 A kq lsq):zY (fun c m l=>(c,m,l)∈A) R qs kq lsq:=by
 refine⟨fun hp hi=>?_,hn,fun i p hi=>?_⟩
 ·cases hA with
  |none=>exact .nil _ _ _
  |own hc hz hb=>exact QS.eG (hi _ _ _ (List.mem_singleton_self _)) hz Qh
 ·have hlt:i<lsq.length:=by rw[hn];exact(List.getElem?_eq_some_iff.1 hi).1
  exact⟨_,List.getElem?_eq_getElem hlt,h i p _ hi (List.getElem?_eq_getElem hlt)⟩
theorem Oh(l r:List Pd): ∀qs,VI qs (l++r)=(VI qs l).bind fun x=>VI x r:=by
 induction l with
 |nil=>intro qs;rfl
 |cons p l ih=>
  intro qs;rw[List.cons_append,VI,VI]
  split
  ·exact ih _
  ·rfl
noncomputable def vr(qs:List Pd)(p:Pd):Pd:=⟨p.name,p.params,(Jq qs p.body 2000).1.1,p.at_⟩
theorem u6{ps qs:List Pd}{i:Nat}{p:Pd}(h:VI [] (ps.take i)=some qs)(hi:ps[i]? =some p)(hb:(Jq qs p.body 2000).1.2=true):VI [] (ps.take (i+1))=some (qs++[vr qs p]):=by
 have:ps.take (i+1)=ps.take i++[p]:=by rw[List.take_add_one,hi];rfl
 rw[this,Oh,h];show VI qs [p]=_;rw[VI,if_pos hb];rfl
theorem z7{ps qs:List Pd}{i:Nat}{p:Pd}(h:VI [] (ps.take i)=some qs)(hi:ps[i]? =some p)(hb:(Jq qs p.body 2000).1.2=false):VI [] ps=none:=by
 have e:ps=ps.take i++p::ps.drop (i+1):=by
  obtain⟨h1,h2⟩:=List.getElem?_eq_some_iff.1 hi;rw[←h2,←List.drop_eq_getElem_cons h1,List.take_append_drop]
 rw[e,Oh,h];show VI qs (p::_)=_;rw[VI,if_neg (by rw[hb];decide)]
def ek(R:Xh)(p:Pg)(cs:List AV):Prop:= ∃kd ld kp lp kk,cs=[kd,kp,.str p.main.op,.str p.main.name,.int .i64 p.main.Wn,.int .i64 p.main.place,kk]∧(∀h,ZM R h→Xi h p.decls kd ld)∧zY R R p.preds kp lp∧Uo R p.main [.str p.main.op,.str p.main.name,.int .i64 p.main.Wn,.int .i64 p.main.place,kk]
theorem ek.toR{R:Xh}{h:Hp}{p:Pg}{cs:List AV}(H:ek R p cs)(hR:ZM R h):vH h p cs:=by
 obtain⟨kd,ld,kp,lp,kk,rfl,hD,hP,hW⟩:=H;exact⟨kd,ld,kp,lp,_,_,_,_,kk,rfl,hD h hR,hP.toR hR hR,hW.AP hR⟩
noncomputable def Uw(p:Pg):Nd×Int:=if(UH p).2≠0 then(YT,(UH p).2)else match VI [] p.preds with
 |none=>(YT,8)
 |some qs=>if(Jq qs p.main 2000).1.2=true then((Jq qs p.main 2000).1.1,0)else(YT,8)
def y5(C:Int)(B:Nat)(p:Pg):Prop:=(UH p).2=0→(∀i q qs,p.preds[i]? =some q→VI [] (p.preds.take i)=some qs→Zy C B qs q.body)∧ ∀qs,VI [] p.preds=some qs→Zy C B qs p.main
theorem Rx{p:Pg}(h:(UH p).2≠0):Uw p=(YT,(UH p).2):=by rw[Uw,if_pos h]
theorem Cd{p:Pg}(h:(UH p).2=0)(hp:VI [] p.preds=none):Uw p=(YT,8):=by rw[Uw,if_neg (by simp[h]),hp]
theorem L5{p:Pg}{qs:List Pd}(h:(UH p).2=0)(hp:VI [] p.preds=some qs):Uw p=if(Jq qs p.main 2000).1.2=true then((Jq qs p.main 2000).1.1,0)else(YT,8):=by rw[Uw,if_neg (by simp[h]),hp]

theorem Gp{Q:Xh}(hf:Qw st){cp:Nat}(hQ:ZM Q st.h.get)(hXQ: ∀c m l,Q c m l→c∉[cp])(hR:ZM R st.h.get)(hX: ∀c m l,R c m l→c∉[cp]){ps:List Pd}{kp:AV}{lsp:List (List AV)}{n:Int}(hC:Jj st.h.get cp 0 [kp,iZ n])(hP:zY Q R ps kp lsp){C:Int}{B0:Nat}{o s:List Nat}{z a:Int}{l:List Nd}(hr:Uo R (.mk o s z a l) cs)(hcs:Zy C B0 ps (.mk o s z a l))(hszx:Uj (.mk o s z a l)≤1000000): ∃v st',Ev Tryz.prog QR 9 [.ptr cp 0 0,.agg cs] st v st'∧(∃v1,v=.tup [v1,.bool (Jq ps (.mk o s z a l) 2000).1.2]∧JG R st st' (Jq ps (.mk o s z a l) 2000).1.1 v1)∧Ad [cp] st st'∧Jj st'.h.get cp 0 [kp,iZ (Jq ps (.mk o s z a l) 2000).2]:=by
 have hr0:=hr;obtain⟨kk,ls,rfl,hK,hb⟩:=hr.Jn;have hln:=hK.ln;have hbn:=hK.YZ;refine Yu Tryz.func9 Tryz.ntmps9 fun T K=>?_;have M:=Mem.UP hf hC;refine Qc 0 K M fun _ K=>?_;refine J3 K M rfl (Qa rfl (Qa rfl (Qa rfl (Qa rfl (Qa hK.cell Qo))))) QT fun c3 _ _ K M=>?_;refine au 8 K M ?_;intro c4 _ _ K _ M;obtain⟨v11,st11,ev11,⟨_,rfl,on11,sn11,zn11,an11,ln11,kkn11,A11,en11,rfl,hS11,hN11⟩,q11,r11⟩:=qc _ Q R _ _ kp lsp 2000 M.fresh (M.D5 hQ hXQ) hXQ (M.D5 hR hX) hX (M.Qn (k:=2) rfl) hP hr0 hcs Qh Qh hszx;refine p1 K (Qe rfl ev11) fun _ K=>?_;replace M:=M.Jd (k:=2) rfl q11 r11 hS11;refine Qc 2 K M fun _ K=>?_;refine Qz (k:=0) K M rfl rfl rfl Qi rfl (Qa rfl (Qa rfl (Qa rfl (Qa rfl (Qa hN11.ZU Qo))))) rfl fun _ M=>?_;refine Qc 1 K M fun _ K=>?_;refine Jv ⟨.inr rfl,_,(U8 (JC K rfl (M.load (k:=0) rfl (QA Qv rfl))) (QF K rfl)),?_⟩;rw[en11]at hN11;refine⟨⟨_,rfl,?_⟩,M.Us,M.Qn (k:=2) rfl⟩;rw[en11];exact JG.of hN11 (M.Un (k:=2) rfl (.cons _ (.cons _ (List.sublist_append_left _ _))))

theorem M5(hf:Qw st)(hR:ZM R st.h.get)(hRn: ∀c m x,R c m x→c<st.n){ds:List Dc}{ps:List Pd}{o s:List Nat}{z a:Int}{l:List Nd}(hG:ek R ⟨ds,ps,.mk o s z a l⟩ cs)(hds:ds.length≤100000)(hps:ps.length≤1000){C:Int}{B0:Nat}(hE:y5 C B0 ⟨ds,ps,.mk o s z a l⟩)(hszp: ∀p∈ps,Uj p.body≤1000000)(hszm:Uj (.mk o s z a l)≤1000000): ∃v st',Ev Tryz.prog QR 4 [.agg cs] st v st'∧(∃v1,v=.tup [v1,iZ (Uw ⟨ds,ps,.mk o s z a l⟩).2]∧JG R st st' (Uw ⟨ds,ps,.mk o s z a l⟩).1 v1)∧Qt st st':=by
 have hpg:=hG.toR hR;obtain⟨kd,ld,kp,lp,kk,rfl,hDg,hPG,hr0⟩:=hG;replace hDg: ∀h,ZM R h→Xi h ds kd ld:=hDg;replace hPG:zY R R ps kp lp:=hPG;replace hr0:Uo R (.mk o s z a l) _:=hr0;have hDs:=hDg _ hR;have hPs:=hPG.toR hR hR;have hr1:=hr0;obtain⟨_,ls,ex,hK,hb⟩:=hr1.Jn
 injection ex with x1 x;injection x with x2 x;injection x with x3 x;injection x with x4 x;injection x with x5 x
 subst x5;have hlp:=hPs.ln;have hbp:=hPs.YZ
 have hps':ps.length≤100000:=by omega
 refine Yu Tryz.func4 Tryz.ntmps4 fun T K=>?_;have M:=Mem.start hf;refine Qc 0 K M fun _ K=>?_;refine J3 K M rfl (Qa hDs.cell (Qa hPs.cell (Qa rfl (Qa rfl (Qa rfl (Qa rfl (Qa hK.cell Qo))))))) QT fun c1 _ _ K M=>?_;refine au 3 K M ?_;intro c2 _ _ K _ M;refine oQ K M (Mj M.fresh (vH.mono M.rows hpg) hds hps') rfl rfl fun _ _ K M=>?_;refine Qc 7 K M fun _ K=>?_;refine JU K rfl (fun h18=>?_) fun h18=>?_
 ·have hb18:=h18
  replace h18: ¬((UH ⟨ds,ps,.mk o s z a l⟩).2=0):=by intro hq;rw[decide_eq_true hq]at h18;cases h18
  refine au 4 K M ?_;intro _ _ K _ M;refine Jv ⟨.inr rfl,_,(U8 (JC K rfl (M.load (k:=0) rfl (QA Qv rfl))) (QF K rfl)),?_⟩;rw[Rx (by first|exact h18|simpa using h18)];exact⟨⟨_,rfl,JG.of (A:=[]) (Ya ⟨Ql,Ql⟩) (M.KI (List.nil_sublist _))⟩,M.qt⟩
 have hb18:=h18
 replace h18:((UH ⟨ds,ps,.mk o s z a l⟩).2=0):=by by_cases hq:(UH ⟨ds,ps,.mk o s z a l⟩).2=0;exact hq;rw[decide_eq_false hq]at h18;cases h18
 refine Qc 0 K M fun _ K=>?_
 have hchk:(UH ⟨ds,ps,.mk o s z a l⟩).2=0:=by first|exact h18|simpa using h18
 have hEx:=hE hchk;refine au 5 K M ?_;intro c22 _ _ K _ M;refine p1 K (Jg Xs rfl rfl hPs.len) fun _ K=>?_;refine Qc 1 K M fun _ K=>?_;refine JQ (fun mm1 T st9=> ∃(i:Nat) (kq:AV) (A:JJ) (B:JJ) (lsq:List (List AV)) (qs:List Pd) (m:Int),mm1=ps.length-i∧Jr [(1,.ptr c1 0 0),(2,.ptr c2 0 0),(6,.ptr c22 0 0),(24,kp),(25,iZ (ps.length:Nat)),(26,iN i)] T∧Mem st.h.get st.n [] st9 ((c22,0,[kq,iZ m])::(c2,0,[.str [],.str [],iZ 0,iZ 0,.nils])::(c1,0,[kd,kp,.str o,.str s,iZ z,iZ a,kk])::(A++(B++[])))∧Acc st.n 8 A kq lsq∧i≤ps.length∧lsq.length=i∧qs.length=i∧LM (JX R B) qs lsq∧VI [] (ps.take i)=some qs∧st.n≤c22) (fun mm1 T st9 hI=>?_) _ _ _ ⟨0,.nils,[],[],[],[],0,rfl,(K.sub rfl),M.less (.refl _),.none,(Nat.zero_le _),rfl,rfl,.nil,(by rw[List.take_zero];rfl),((M.own c22 0 _ (List.mem_cons_self ..)).resolve_right Q3)⟩;obtain⟨i,kq,A,B,lsq,qs,m,rfl,K,M,hA,hi,hlen,hql,hmap,hq,hc22⟩:=hI
 have hlq:lsq.length=qs.length:=by omega
 refine Qc 1 K M fun _ K=>?_;refine Xj K rfl (fun h27=>?_) fun h27=>?_
 ·refine Qc 0 K M fun _ K=>?_;obtain⟨⟨pn28,pp28,⟨o28,s28,z28,a28,l28⟩,pa28⟩,hi28⟩: ∃k,ps[i]? =some k:=⟨_,List.getElem?_eq_getElem Qh⟩;obtain⟨_,hc28,hG28⟩:=hPG.p _ _ hi28;obtain⟨kd28,ld28,kk28,ls28,rfl,hD28,hn28,hK28,hb28,hy28⟩:=hG28.open;refine OJ (hPs.r.mem M Q3) hc28 K Xy V9 rfl rfl fun _ _ _ _ K=>?_;refine au 1 K M ?_;intro c8 _ _ K _ M;refine Qz (k:=0) K M rfl rfl rfl VB rfl (Qa rfl (Qa (hD28 _ hR).cell (Qa rfl (Qa rfl (Qa rfl (Qa rfl (Qa hK28.cell (Qa rfl Qo)))))))) rfl fun _ M=>?_;refine Qc 3 K M fun _ K=>?_;have hAB: ∀x∈A++B,x.1≠c22:=M.yr (k:=1) rfl (A:=A++B) (.cons _ (.cons _ (.cons _ Q3)));have hinA:ZM (fun c m x=>(c,m,x)∈A) _:=fun c m x hx=>Jj.YQ (M.row c m x (by simp[hx]));have hin:=M.Mv hR (B:=B) (by intro x hx;simp[hx]);have hXA: ∀c m x,(c,m,x)∈A→c∉[c22]:=fun c m x h hc=>hAB _ (List.mem_append_left _ h) (List.mem_singleton.1 hc)
  have hXB: ∀c m x,JX R B c m x→c∉[c22]:=fun c m x h hc=>by
   rw[List.mem_singleton]at hc;subst hc;rcases h with h|h
   ·have:=hRn _ _ _ h;omega
   ·exact hAB _ (List.mem_append_right _ h) rfl
  obtain⟨v34,st34,ev34,⟨_,rfl,on34,sn34,zn34,an34,ln34,kkn34,A34,en34,rfl,hS34,hN34⟩,q34,r34⟩:=Gp (Q:=fun c m x=>(c,m,x)∈A) M.fresh hinA hXA hin hXB (M.Qn (k:=1) rfl) (hmap.ps hlq hA) (hn28.mono fun _ _ _=>.inl) (hEx.1 i _ qs hi28 hq) (hszp _ (List.mem_of_getElem? hi28));refine p1 K (Qe rfl ev34) fun _ K=>?_;replace M:=M.Jd (k:=1) rfl q34 r34 hS34;replace M:=Mem.cast (M':=((c8,0,[.str pn28,kd28,.str o28,.str s28,iZ z28,iZ a28,kk28,iZ pa28])::(c22,0,[kq,iZ ((Jq qs (.mk o28 s28 z28 a28 l28) 2000).2)])::(c2,0,[.str [],.str [],iZ 0,iZ 0,.nils])::(c1,0,[kd,kp,.str o,.str s,iZ z,iZ a,kk])::(A++((B++A34)++[])))) M Za;refine au 4 K M ?_;intro c9 _ _ K _ M;refine Qz (k:=0) K M rfl rfl rfl Qi rfl (Qa rfl (Qa rfl (Qa rfl (Qa rfl (Qa hN34.ZU Qo))))) rfl fun _ M=>?_;refine Qc 3 K M fun _ K=>?_;refine JU K rfl (fun h38=>?_) fun h38=>?_
  ·have hb38:=h38
   replace h38:((Jq qs (.mk o28 s28 z28 a28 l28) 2000).1.2)=false:=by simpa using h38
   refine au 3 K M ?_;intro _ _ K _ M;refine Jv ⟨.inr rfl,_,(U8 (JC K rfl (M.load (k:=3) rfl (QA Qv rfl))) (QF K rfl)),?_⟩;rw[Cd hchk (z7 hq hi28 h38)];exact⟨⟨_,rfl,JG.of (A:=[]) (Ya ⟨Ql,Ql⟩) (M.KI (List.nil_sublist _))⟩,M.qt⟩
  have hb38:=h38
  replace h38:((Jq qs (.mk o28 s28 z28 a28 l28) 2000).1.2)=true:=by simpa using h38
  refine Qc 2 K M fun _ K=>?_;refine Qz (k:=1) K M rfl rfl rfl Qi rfl (Qa rfl (Qa rfl (Qa rfl (Qa rfl (Qa hN34.ZU Qo))))) rfl fun _ M=>?_;refine Qc 0 K M fun _ K=>?_;refine Ja (l:=[(1,0),(2,0),(3,0),(4,0),(5,0),(6,0),(7,0),(0,0),(8,0),(9,0),(10,0)]) (by kernel_rfl) ?_;refine Ui 5 K M fun _ K=>?_;refine Z3 rfl K M UU ZA rfl rfl (Qa rfl (Qa (hD28 _ hR).cell (Qa rfl (Qa rfl (Qa rfl (Qa rfl (Qa hN34.ZU (Qa rfl Qo)))))))) rfl rfl fun c48 _ _ K M=>?_;refine XT (k2:=0) (L:=[(c48,0,[.str pn28,kd28,.str on34,.str sn34,iZ zn34,iZ an34,kkn34,iZ pa28]),(c9,0,[.str on34,.str sn34,iZ zn34,iZ an34,kkn34]),(c8,0,[.str pn28,kd28,.str on34,.str sn34,iZ zn34,iZ an34,kkn34,iZ pa28]),(c22,0,[kq,iZ ((Jq qs (.mk o28 s28 z28 a28 l28) 2000).2)]),(c2,0,[.str [],.str [],iZ 0,iZ 0,.nils]),(c1,0,[kd,kp,.str o,.str s,iZ z,iZ a,kk])]) (B:=((B++A34)++[])) rfl K M hA UU rfl rfl rfl rfl Qh rfl fun ks49 A49 _ _ K hA49 M=>?_;refine Ui 3 K M fun _ K=>?_;refine Zt (k:=3) rfl K M rfl rfl rfl Xu (hA49.cell) rfl fun _ M=>?_;refine Ji ?_;show W _ _ _ _ _ _ _;refine Qc 2 K M fun _ K=>?_;exact⟨_,Qh,i+1,ks49,A49,B++A34,(lsq++[[.str pn28,kd28,.str on34,.str sn34,iZ zn34,iZ an34,kkn34,iZ pa28]]),qs++[vr qs ⟨pn28,pp28,(.mk o28 s28 z28 a28 l28),pa28⟩],(Jq qs (.mk o28 s28 z28 a28 l28) 2000).2,rfl,(K.sub rfl),M.less (.cons _ (.cons _ (.cons _ (.refl _)))),hA49,Qh,(by rw[List.length_append];simp;omega),(by rw[List.length_append];simp;omega),(LM.snoc (hmap.mono (Q2 (fun _ _ _ h=>h) fun x hx=>List.mem_append_left _ hx)) hlq ⟨kd28,ld28,[.str on34,.str sn34,iZ zn34,iZ an34,kkn34],rfl,fun h hi=>hD28 h fun c m x hr=>hi c m x (.inl hr),hN34.mono (fun c m x h=>by rcases h with(h|h)|h;exact .inl h;exact .inr (List.mem_append_left _ h);exact .inr (List.mem_append_right _ h)),hy28⟩),(u6 hq hi28 h38),hc22⟩
 refine Jx ?_;show W _ _ _ _ _ _ _;refine Qc 3 K M fun _ K=>?_
 have hqe:VI [] ps=some qs:=by rw[List.take_of_length_le Qh]at hq;exact hq
 have hAB: ∀x∈A++B,x.1≠c22:=M.yr (k:=0) rfl (A:=A++B) (.cons _ (.cons _ Q3));have hinA:ZM (fun c m x=>(c,m,x)∈A) _:=fun c m x hx=>Jj.YQ (M.row c m x (by simp[hx]));have hin:=M.Mv hR (B:=B) (by intro x hx;simp[hx]);have hXA: ∀c m x,(c,m,x)∈A→c∉[c22]:=fun c m x h hc=>hAB _ (List.mem_append_left _ h) (List.mem_singleton.1 hc)
 have hXB: ∀c m x,JX R B c m x→c∉[c22]:=fun c m x h hc=>by
  rw[List.mem_singleton]at hc;subst hc;rcases h with h|h
  ·have:=hRn _ _ _ h;omega
  ·exact hAB _ (List.mem_append_right _ h) rfl
 obtain⟨v57,st57,ev57,⟨_,rfl,on57,sn57,zn57,an57,ln57,kkn57,A57,en57,rfl,hS57,hN57⟩,q57,r57⟩:=Gp (Q:=fun c m x=>(c,m,x)∈A) M.fresh hinA hXA hin hXB (M.Qn (k:=0) rfl) (hmap.ps hlq hA) (hr0.mono fun _ _ _=>.inl) (hEx.2 qs hqe) hszm;refine p1 K (Qe rfl ev57) fun _ K=>?_;replace M:=M.Jd (k:=0) rfl q57 r57 hS57;replace M:=Mem.cast (M':=((c22,0,[kq,iZ ((Jq qs (.mk o s z a l) 2000).2)])::(c2,0,[.str [],.str [],iZ 0,iZ 0,.nils])::(c1,0,[kd,kp,.str o,.str s,iZ z,iZ a,kk])::(A++((B++A57)++[])))) M Za;refine Qc 3 K M fun _ K=>?_;refine Qz (k:=1) K M rfl rfl rfl Qi rfl (Qa rfl (Qa rfl (Qa rfl (Qa rfl (Qa hN57.ZU Qo))))) rfl fun _ M=>?_;refine Qc 3 K M fun _ K=>?_;refine JU K rfl (fun h61=>?_) fun h61=>?_
 ·have hb61:=h61
  replace h61:((Jq qs (.mk o s z a l) 2000).1.2)=false:=by simpa using h61
  refine au 3 K M ?_;intro _ _ K _ M;refine Jv ⟨.inr rfl,_,(U8 (JC K rfl (M.load (k:=1) rfl (QA Qv rfl))) (QF K rfl)),?_⟩;rw[L5 hchk hqe,if_neg (by rw[h61];decide)];exact⟨⟨_,rfl,JG.of (A:=[]) (Ya ⟨Ql,Ql⟩) (M.KI (List.nil_sublist _))⟩,M.qt⟩
 have hb61:=h61
 replace h61:((Jq qs (.mk o s z a l) 2000).1.2)=true:=by simpa using h61
 refine Qc 1 K M fun _ K=>?_;refine Qz (k:=1) K M rfl rfl rfl Qi rfl (Qa rfl (Qa rfl (Qa rfl (Qa rfl (Qa hN57.ZU Qo))))) rfl fun _ M=>?_;refine Qc 1 K M fun _ K=>?_;refine Jv ⟨.inr rfl,_,(U8 (JC K rfl (M.load (k:=1) rfl (QA Qv rfl))) (QF K rfl)),?_⟩;rw[L5 hchk hqe,if_pos h61];exact⟨⟨_,rfl,JG.of (hN57.mono (fun c m x h=>by rcases h with(h|h)|h;exact .inl h;exact .inr (List.mem_append_left _ h);exact .inr (List.mem_append_right _ h))) (M.KI (A:=B++A57) (.cons _ (.cons _ (.cons _ Q3))))⟩,M.qt⟩
end
end Go.Proofs.YtaomhhkflohhgaaGreatDoor
