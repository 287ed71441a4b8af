/-
  Automata: may one be, one from rows, rows from one.
-/
import Derived.Test.YtiknomepbklibaaGreatDoorCePoP
set_option maxHeartbeats 8000000
set_option maxRecDepth 100000
set_option linter.unnecessarySimpa false
set_option linter.unusedSimpArgs false
set_option linter.unusedVariables false
section
namespace Go.Proofs.YtiknomepbklibaaGreatDoor
open Go Go.RowKit
variable {LL:List (List Int)} {fa fc:List AV} {fo:FuncId} {kL:AV} {lL:List (List AV)} {st:St}

theorem Ym.qt{st':St}(hf:Qj st)(q:Qt st st'){c m:Nat}{l:List AV}(r:Ym st.h.get c m l):Ym st'.h.get c m l:=r.Oh hf (q.Oh []) Q7
theorem GL(hf:Qj st){l:List Bool}{kl:AV}(hl:Jj st.h.get [] 1 (bC l) kl)(hn:l.length≤1000000): ∃v st',Ev Tryz.prog Q0 48 [kl] st v st'∧ ∃ks,v=ks∧En st st' 1 ks (bC l)∧Qt st st':=by
 have hcl:=JH l;refine JB Tryz.func48 Tryz.ntmps48 fun T K=>?_;have M:=Mem.start hf;refine Qc 2 K M ?_;intro _ K;refine p1 K (Gl (hl.len.trans (congrArg some (JH _))) UX rfl rfl) fun _ K=>Up ?_;show W _ _ _ _ _ _ _;refine Qq (K.QH rfl) (fun h4=>?_) (fun h4=>?_)
 ·have hb4:=h4;refine Qc 1 K M ?_
  have hbl:l=[]:=by
   have h:=hl.len;rw[SM h4]at h
   injection h with h
   rw[JH]at h;exact YY h.symm
  exact⟨.nils,rfl,⟨[],by rw[hbl];exact .none,fun _ _ _ h=>by cases h⟩,M.qt⟩
 have hb4:=h4;refine au 2 K M ?_;intro c5 _ _ K _ M;replace M:=Mem.cast (M':=([(c5,0,[])]++[])) (Mem.perm M (List.perm_append_comm (α:=Nat×Nat×List AV) (l₁:=[(c5,0,[])]) (l₂:=[]))) Ux;have hA0c5:Acc st.n 1 [(c5,0,[])] (.sl c5 0 0 0 1) []:=Acc.own (n0:=st.n) (z:=1) (c:=c5) (m:=0) (ls:=[]) ((M.own c5 0 [] Q7).resolve_right Q7) Q7 Q7;refine GX (L:=[]) (A:=[(c5,0,[])]) (B:=[]) K M hA0c5 Jz rfl rfl (Jj.mem M hl Q7) (y5 _) (by simp only[List.length_nil];omega) rfl fun ks7 A7 _ _ K hA7 M=>?_;refine Qc 1 K M ?_;refine⟨_,rfl,?_,M.qt⟩;have h:=Mem.BC (L:=[]) (A:=A7) (B:=[]) M hA7
 simpa using h

theorem MA(hf:Qj st)(hLL:Oi st.h.get LL kL lL){p:List Int→Bool}(hC: ∀(s:List Int) (w:AV) (st1:St),s∈LL→Qt st st1→Jj st1.h.get [] 1 (zC s) w→ ∃v st',Ev Tryz.prog Q0 fo (fa++([w]++fc)) st1 v st'∧v=.bool (p s)∧Qt st1 st'): ∃v st',Ev Tryz.prog Q0 124 [kL,(AV.fn fo fa fc)] st v st'∧v=iZ (I8 p LL 0)∧Qt st st':=by
 have hLb:=hLL.r.Ey;rw[hLL.ln]at hLb;refine JB Tryz.func124 Tryz.ntmps124 fun T K=>?_;have M:=Mem.start hf;refine Qc 2 K M ?_;intro _ K;refine p1 K (QA JU rfl rfl hLL.len) fun _ K=>?_;refine Qc 1 K M ?_;intro _ K;refine Jd (fun mm1 T st9=> ∃(i:Nat),mm1=LL.length-i∧QX [(0,kL),(1,(AV.fn fo fa fc)),(7,iZ (LL.length:Nat)),(8,iN i)] T∧Mem st.h.get st.n [] st9 []∧i≤LL.length∧I8 p LL 0=I8 p (LL.drop i) i) (fun mm1 T st9 hI=>?_) _ _ _ ⟨0,rfl,(K.sub rfl),M.less (.refl _),(Nat.zero_le _),rfl⟩;obtain⟨i,rfl,K,M,hi,hx⟩:=hI;refine Qc 1 K M ?_;intro _ K;refine JN K rfl (fun h9=>?_) fun h9=>?_
 ·refine Qc 5 K M ?_;intro _ K;obtain⟨s14,hi14⟩:=U1 LL i Qe;obtain⟨_,hc14,w14,rfl,hr14,hz14⟩:=hLL.at_ _ _ hi14;obtain⟨x14,m14,f14,q14,_,la14,lo14,lp14⟩:=(Jj.mem M hLL.r Q7).load (i:=i) (cs:=_) hc14;refine p1 K (Qa (j:=i) QY (congrArg some q14) rfl (by rw[hLL.ln];omega)) fun _ K=>p1 K (Qd rfl (lo14 _ 0 _ Ja rfl)) fun _ K=>?_;obtain⟨v16,st16,ev16,rfl,q16⟩:=hC s14 _ _ (List.mem_of_getElem? hi14) M.qt (Jj.mem M hr14 Q7);refine p1 K (ZP rfl rfl ev16) fun _ K=>?_;replace M:=M.quiet q16;refine Up ?_;show W _ _ _ _ _ _ _;refine Qq (K.QH rfl) (fun h16=>?_) (fun h16=>?_)
  ·have hb16:=h16;refine Qc 2 K M ?_;exact⟨by rw[hx,AM hi14,if_pos h16],M.qt⟩
  have hb16:=h16;refine Qc 2 K M ?_;intro _ K;exact⟨_,Qe,i+1,rfl,(K.sub rfl),M.less (.refl _),Qe,(by rw[hx,AM hi14,if_neg (by rw[h16];decide)])⟩
 refine QU ?_;show W _ _ _ _ _ _ _;refine Qc 1 K M ?_;exact⟨by rw[hx,DA Qe],M.qt⟩

theorem Cd(hf:Qj st)(hLL:Oi st.h.get LL kL lL){p:List Int→Bool}(hC: ∀(s:List Int) (w:AV) (st1:St),s∈LL→Qt st st1→Jj st1.h.get [] 1 (zC s) w→ ∃v st',Ev Tryz.prog Q0 fo (fa++([w]++fc)) st1 v st'∧v=.bool (p s)∧Qt st1 st'): ∃v st',Ev Tryz.prog Q0 92 [kL,(AV.fn fo fa fc)] st v st'∧v=.bool (LL.any p)∧Qt st st':=by
 have hLb:=hLL.r.Ey;rw[hLL.ln]at hLb;refine JB Tryz.func92 Tryz.ntmps92 fun T K=>?_;have M:=Mem.start hf;refine Qc 3 K M ?_;intro _ K;refine oQ K M (MA M.fresh (hLL.J5 hf fun c hc=>M.J5 c hc Q7) (fun s w st1 hs q hr=>hC s w st1 hs (M.qt.trans q) hr)) rfl rfl fun _ _ K M=>?_;refine Qc 2 K M ?_;exact⟨by rw[←DB p LL 0],M.qt⟩

theorem Cc(hf:Qj st)(hLL:Oi st.h.get LL kL lL)(hC: ∀(s:List Int) (w:AV) (st1:St),s∈LL→Qt st st1→Jj st1.h.get [] 1 (zC s) w→ ∃v st',Ev Tryz.prog Q0 fo (fa++([w]++fc)) st1 v st'∧v=.bool false∧Qt st1 st'): ∃v st',Ev Tryz.prog Q0 92 [kL,.fn fo fa fc] st v st'∧v=.bool false∧Qt st st':=by
 obtain⟨v,st',h1,h2,h3⟩:=Cd (p:=fun _=>false) hf hLL hC;exact⟨v,st',h1,by rw[h2];simp,h3⟩

theorem wJ(hf:Qj st){cn:Nat}{n x:Int}(hc:Ym st.h.get cn 0 [iZ n])(h1:0≤x)(h2:x<n): ∃v st',Ev Tryz.prog Q0 91 [iZ x,.ptr cn 0 0] st v st'∧v=.bool false∧Qt st st':=by
 refine JB Tryz.func91 Tryz.ntmps91 fun T K=>?_;have M:=Mem.start hf;refine Qc 3 K M ?_;intro _ K;refine Un K (Qg rfl) rfl (fun _ e6 K=>?_) fun _ e6 K=>?_
 ·refine Qc 1 K M ?_;intro _ K;refine pg K rfl rfl (Qd rfl (Qz (M.JE Q7 hc) (Qf Qr rfl))) fun _ K=>?_;refine Qc 3 K M ?_;exact⟨congrArg AV.bool (decide_eq_false Qe),M.qt⟩
 exfalso;omega

theorem wI(hf:Qj st){a:Au}(wf:Zl a){ka kn:AV}{ca cf cn:Nat}(hca:Ym st.h.get ca 0 [iZ (a.tr:Nat),ka,kn])(hcf:Ym st.h.get cf 0 [.fn 91 [] [.ptr cn 0 0]])(hcn:Ym st.h.get cn 0 [iZ (a.n:Nat)]){r:List Int}{kl:AV}(hm:r∈a.nx)(hl:Jj st.h.get [] 1 (zC r) kl): ∃v st',Ev Tryz.prog Q0 93 [kl,.ptr ca 0 0,.ptr cf 0 0] st v st'∧v=.bool false∧Qt st st':=by
 obtain⟨hr1,hr2⟩:=wf.row r hm;have hp:=JF wf.tr;have hr1':r.length=2^a.tr:=hr1;have htr:=wf.tr;refine JB Tryz.func93 Tryz.ntmps93 fun T K=>?_;have M:=Mem.start hf;refine Qc 2 K M ?_;intro _ K;refine p1 K (QA Jh rfl rfl (hl.len.trans (congrArg some (Ql _)))) fun _ K=>?_;refine Qc 1 K M ?_;intro _ K;refine p1 K (Qd rfl (Qz (M.JE Q7 hca) (Qf Qr rfl))) fun _ K=>p1 K (Yq (n:=a.tr) rfl rfl Qe) fun _ K=>?_;refine Qc 1 K M ?_;intro _ K;refine oB K (Qg rfl) rfl fun b11 _ e11 K=>?_;cases b11
 ·replace e11:(((r.length:Nat):Int)=((2^a.tr:Nat):Int)):=by simpa using e11
  refine Qc 1 K M ?_;intro _ K;refine pg K rfl rfl (Qd rfl (Qz (M.JE Q7 hcf) (Qf Hi rfl))) fun _ K=>?_;obtain⟨v14,st14,ev14,rfl,q14⟩:=HW (fo:=91) (fa:=[]) (fc:=[.ptr cn 0 0]) M.fresh (Jj.mem M hl Q7) Qe (fun x hx st1 q=>wJ q.fresh ((hcn.qt hf M.qt).qt M.fresh q) (hr2 x hx).1 (hr2 x hx).2);refine pg K rfl rfl (Qh rfl ev14) fun _ K=>?_;replace M:=M.quiet q14;refine Qc 2 K M ?_;exact⟨rfl,M.qt⟩
 replace e11: ¬(((r.length:Nat):Int)=((2^a.tr:Nat):Int)):=by simpa using e11
 exfalso;omega

theorem ep(hf:Qj st){a:Au}(wf:Zl a){ka kn:AV}{ls:List (List AV)}(hA:Jj st.h.get [] 1 (bC a.acc) ka)(hN:Oi st.h.get a.nx kn ls): ∃v st',Ev Tryz.prog Q0 69 [.agg [iZ (a.tr:Nat),ka,kn]] st v st'∧v=.bool true∧Qt st st':=by
 have htr:=wf.tr;have hps:=wf.pos;have hmo:=wf.most;have hln:=wf.len;have hen:a.n=a.acc.length:=rfl;have hac:=hA.cell;have hnc:=hN.r.cell;refine JB Tryz.func69 Tryz.ntmps69 fun T K=>?_;have M:=Mem.start hf;refine QC<|Qw ?_;refine J1 K M rfl (Qb rfl (Qb hA.cell (Qb hN.r.cell Q6))) QD fun c1 _ _ K M=>?_;refine Qc 3 K M ?_;intro _ K;refine p1 K (QA UX rfl rfl (hA.len.trans (congrArg some (JH _)))) fun _ K=>?_;refine au 5 K M ?_;intro c3 _ _ K _ M;refine Un K (Qg rfl) rfl (fun _ e11 K=>?_) fun _ e11 K=>?_
 ·refine Qc 4 K M ?_;intro _ K;refine Un K (Qg rfl) rfl (fun _ e16 K=>?_) fun _ e16 K=>?_
  ·refine Qc 3 K M ?_;intro _ K;refine Un K (Qg rfl) rfl (fun _ e20 K=>?_) fun _ e20 K=>?_
   ·refine Qc 3 K M ?_;intro _ K;refine Un K (Qg rfl) rfl (fun _ e24 K=>?_) fun _ e24 K=>?_
    ·refine Qc 1 K M ?_;intro _ K;refine pg K rfl rfl (Qd rfl (M.load (k:=1) rfl (Qf Q9 rfl))) fun _ K=>pg K rfl rfl (QA JU rfl rfl hN.len) fun _ K=>?_;refine Qc 3 K M ?_;intro _ K;refine eI K rfl (fun h30=>?_) fun h30=>?_
     ·exfalso;omega
     refine Qc 0 K M ?_;intro _ K;refine p1 K (Xt rfl rfl) fun _ K=>?_;refine Ls K M He QD fun c4 _ _ K M=>?_;refine QV (k:=0) K M rfl rfl rfl Hm rfl rfl rfl fun _ M=>?_;refine Qc 1 K M ?_;intro _ K;refine p1 K (Qd rfl (M.load (k:=2) rfl (Qf Q9 rfl))) fun _ K=>p1 K (Xt rfl rfl) fun _ K=>?_;have hrw1:=(M.UW (k:=2) rfl).Jb;have hrw3:=(M.UW (k:=1) rfl).Jb;have hrw4:=(M.UW (k:=0) rfl).Jb;have hfr:=M.fresh;refine oQ K M (Cc (fo:=93) (fa:=[]) (fc:=[.ptr c1 0 0,.ptr c4 0 0]) M.fresh (hN.J5 hf fun c hc=>M.J5 c hc Q7) (fun s w st1 hs q hr=>wI q.fresh wf (hrw1.qt hfr q) (hrw4.qt hfr q) (hrw3.qt hfr q) hs hr)) rfl rfl fun _ _ K M=>?_;refine Qc 2 K M ?_;exact⟨rfl,M.qt⟩
    exfalso;omega
   exfalso;omega
  exfalso;omega
 exfalso;omega
end Go.Proofs.YtiknomepbklibaaGreatDoor
end
section
namespace Go.Proofs.YtiknomepbklibaaGreatDoor
open Go Go.RowKit

abbrev zN(l:List Nat):List Int:=l.map fun r=>((r:Nat):Int)
theorem Hg(l:List Nat)(r:Nat):zN (l++[r])=zN l++[((r:Nat):Int)]:=by simp
section
variable {st0 st:St} {X0:Fp} {M A1 A2:QT} {Os:List Ob} {F1:Fp} {dp sp n0 n1:Nat} {ka kr:AV} {a:Au} {S:U6} {roots:List Nat}
theorem Qk.wW(B:Qk st0 X0 st ((dp,0,[ka,kr,.ptr sp 0 0])::(A1++(A2++M))) (X3 F1 sp a.tr S::Os))(hA1:Acc n0 1 A1 ka (bC a.acc))(hA2:Acc n1 1 A2 kr (zC (zN roots)))(wfS:Xb a.tr S)(wf:Zl a)(hl:roots.length=a.n)
  (hr: ∀(s r:Nat),roots[s]? =some r→r<S.length∧a.nx[s]? =some (Wx a.tr S r)): ∃F,Qk st0 X0 st M (HU F dp a::Os):=by
 have h1:Jj st.h.get [] 1 (bC a.acc) ka:=Mem.Yx (L:=[(dp,0,[ka,kr,.ptr sp 0 0])]) (A:=A1) (B:=A2++M) B.mem hA1;have h2:Jj st.h.get [] 1 (zC (zN roots)) kr:=Mem.Yx (L:=(dp,0,[ka,kr,.ptr sp 0 0])::A1) (A:=A2) (B:=M) (B.mem.cast Q7) hA2;have h0:=B.row dp 0 _ (List.mem_cons_self ..);have B0:Qk st0 X0 st (((dp,0,[ka,kr,.ptr sp 0 0])::(A1++A2))++M) (X3 F1 sp a.tr S::Os):=B.cast Q7;have B1:=B0.freeze (o:=Xf ((dp,0,[ka,kr,.ptr sp 0 0])::(A1++A2))) (fun c m l hm=>B0.row c m l (List.mem_append_left _ hm)) (fun c hc=>hc)
 have f1:yQ (Xf ((dp,0,[ka,kr,.ptr sp 0 0])::(A1++A2))).F ka:=fun c m o n y e=>by
  obtain⟨m,l,h⟩:=hA1.xw c m o n y e;exact⟨m,l,by simp[h]⟩
 have f2:yQ (Xf ((dp,0,[ka,kr,.ptr sp 0 0])::(A1++A2))).F kr:=fun c m o n y e=>by
  obtain⟨m,l,h⟩:=hA2.xw c m o n y e;exact⟨m,l,by simp[h]⟩
 refine⟨fun c=>(Xf ((dp,0,[ka,kr,.ptr sp 0 0])::(A1++A2))).F c∨F1 c,B1.join (fun g1 g2=>?_) fun c hc=>hc⟩;exact⟨ka,kr,sp,F1,S,roots,h0,.inl ⟨_,_,List.mem_cons_self ..⟩,h1,fun c m o n y e=>.inl (f1 c m o n y e),h2,fun c m o n y e=>.inl (f2 c m o n y e),g2,fun c hc=>.inr hc,wfS,wf,hl,hr⟩
end
theorem qN{T:Nat}{S S':U6}(W:Xb T S)(h:S<+:S'){r:Nat}(hr:r<S.length):Wx T S' r=Wx T S r:=by
 unfold Wx;exact List.map_congr_left fun c _=>Zp W h hr c
theorem PQ{a:Au}{S S':U6}{rs:List Nat}{r i:Nat}{row:List Int}(wfS:Xb a.tr S)(wf':Xb a.tr S')(hp:S<+:S')(hr:r<S'.length)(hl:rs.length=i)(hi:a.nx[i]? =some row)(hrow:row.length=2^a.tr)(he: ∀c,c<2^a.tr→row[c]? =some (Y2 S' r c))
  (h: ∀(s r:Nat),rs[s]? =some r→r<S.length∧a.nx[s]? =some (Wx a.tr S r)): ∀(s q:Nat),(rs++[r])[s]? =some q→q<S'.length∧a.nx[s]? =some (Wx a.tr S' q):=by
 intro s q hs
 by_cases hlt:s<rs.length
 ·rw[List.getElem?_append_left hlt]at hs;obtain⟨h1,h2⟩:=h s q hs;exact⟨Nat.lt_of_lt_of_le h1 hp.length_le,by rw[h2,qN wfS hp h1]⟩
 ·have h3:=(List.getElem?_eq_some_iff.1 hs).1;rw[List.length_append,List.length_singleton]at h3
  have h4:s=rs.length:=by omega
  subst h4;rw[List.getElem?_append_right (Nat.le_refl _),Nat.sub_self]at hs
  injection hs with hs
  subst hs;exact⟨hr,by rw[hl,hi,zA hrow he]⟩

theorem WM{st:St}(hf:Qj st){a:Au}(wf:Zl a){ka kn:AV}{ls:List (List AV)}(hA:Jj st.h.get [] 1 (bC a.acc) ka)(hN:Oi st.h.get a.nx kn ls): ∃v st',Ev Tryz.prog Q0 43 [.agg [iZ (a.tr:Nat),ka,kn]] st v st'∧ ∃dp F,v=.tup [.ptr dp 0 0,iZ 0]∧UT st' F dp a∧ZK st st' F∧Qt st st':=by
 have htr:=wf.tr;have hps:=wf.pos;have hmo:=wf.most;have hln:=wf.len;have hen:a.n=a.acc.length:=rfl;have hac:=hA.cell;have hnc:=hN.r.cell;have hp64:=JF wf.tr;have B:=Qk.start hf;refine JB Tryz.func43 Tryz.ntmps43 fun T K=>?_;have M:=B.mem;refine QC<|Qw ?_;refine J1 K M rfl (Qb rfl (Qb hA.cell (Qb hN.r.cell Q6))) QD fun c1 _ _ K M=>?_;refine Qc 3 K M ?_;intro _ K;replace B:=B.step M;obtain⟨v8,st8,ev8,rfl,q8⟩:=ep B.fresh wf (B.Ov hf hA) (hN.J5 hf fun c hc=>B.J5 c hc id);refine p1 K (Qh rfl ev8) fun _ K=>?_;replace B:=B.quiet q8;have M:=B.mem;refine Qc 2 K M ?_;intro _ K;refine QF (l:=[(0,0),(1,0),(2,0),(3,0),(4,1),(5,0),(6,0),(7,0),(8,0)]) (by kernel_rfl) ?_;have Mq:=M;refine Jn 2 K M ?_;intro _ K;obtain⟨v12,st12,ev12,ks12,rfl,nr12,q12⟩:=GL M.fresh ((B.step M).Ov hf hA) Qe;refine qA rfl K (Qh rfl ev12) fun _ K=>?_;obtain⟨A12,hA12,M⟩:=M.Yt q12 nr12;simp only[List.append_assoc,List.cons_append,List.nil_append,List.set_cons_zero,List.set_cons_succ]at M;have Mp:=Mq;have Mq:=M;refine Jn 1 K M ?_;intro _ K;refine Js rfl K rfl (M.load (k:=0) rfl (Qf Qr rfl)) (Mp.load (k:=0) rfl (Qf Qr rfl)) (JQ rfl) rfl QD fun _ K=>?_;replace B:=B.step M;obtain⟨v15,st15,ev15,sp,F15,rfl,hS15,nf15,q15⟩:=Ty B.fresh wf.tr;refine qA rfl K (Qh rfl ev15) fun _ K=>?_;replace B:=B.new (o:=X3 F15 sp a.tr []) q15 hS15.at_ nf15;have M:=B.mem;have Mp:=Mq;have Mq:=M;refine q1 rfl K (W2 Kd rfl ((J8 rfl hA12.cell rfl).trans ((AO rfl rfl rfl).trans rfl))) fun _ K=>?_;refine vz rfl K M rfl (Qb hA12.cell (Qb rfl (Qb rfl Q6))) rfl fun c17 _ _ K M=>?_;refine q1 rfl K (U3 rfl) fun _ K=>QI ?_;show W _ _ _ _ _ _ _;refine Qc 1 K M ?_;intro _ K;refine p1 K (Qd rfl (M.load (k:=1) rfl (Qf Q9 rfl))) fun _ K=>p1 K (QA JU rfl rfl hN.len) fun _ K=>?_;refine Qc 1 K M ?_;intro _ K;refine Jd (fun mm1 T st9=> ∃(i:Nat) (rs:List Nat) (kr:AV) (A:QT) (F:Fp) (S:U6),mm1=a.nx.length-i∧QX [(2,.nilp),(3,iZ 0),(4,.ptr c17 0 0),(19,kn),(20,iZ (a.nx.length:Nat)),(21,iN i)] T∧Qk st Xv st9 ((c17,0,[v12,kr,.ptr sp 0 0])::(c1,0,[iZ (a.tr:Nat),ka,kn])::(A12++(A++[]))) [X3 F sp a.tr S]∧Acc 0 1 A kr (zC (zN rs))∧i≤a.nx.length∧rs.length=i∧Xb a.tr S∧S.length≤i *127∧(∀(s r:Nat),rs[s]? =some r→r<S.length∧a.nx[s]? =some (Wx a.tr S r))) (fun mm1 T st9 hI=>?_) _ _ _ ⟨0,[],.nils,[],_,[],rfl,(K.sub rfl),(B.step M).less (.refl _),.none,(Nat.zero_le _),rfl,(Xb.nil _),(Nat.zero_le _),(fun s r h=>by simp at h)⟩;obtain⟨i,rs,kr,A,F,S,rfl,K,B,hA4,hi,hrl,wfS,hSl,hrs⟩:=hI;have M:=B.mem;refine Qc 1 K M ?_;intro _ K;refine JN K rfl (fun h22=>?_) fun h22=>?_
 ·refine Qc 0 K M ?_;intro _ K;obtain⟨s23,hi23⟩:=U1 a.nx i Qe;obtain⟨_,hc23,w23,rfl,hr23,hz23⟩:=hN.at_ _ _ hi23;obtain⟨x23,m23,f23,q23,_,la23,lo23,lp23⟩:=((B.step M).Ov hf hN.r).load (i:=i) (cs:=_) hc23;refine p1 K (Qa (j:=i) QY (congrArg some q23) rfl (by rw[hN.ln];omega)) fun _ K=>p1 K (Qd rfl (lo23 _ 0 _ Ja rfl)) fun _ K=>?_;refine Qc 1 K M ?_;intro _ K;refine QF (l:=[(5,0),(6,0),(7,0),(8,0),(9,0),(10,0),(1,0),(2,0),(3,0),(4,1),(11,0),(12,0),(0,0),(13,0),(14,0),(15,0)]) (by kernel_rfl) ?_;have Mq:=M;refine Jn 5 K M ?_;intro _ K;replace B:=B.step M;have hs24:=wf.row s23 (List.mem_of_getElem? hi23)
  have hlB:(S.length:Nat)+(2^(a.tr-0+1)-1)≤1000000000:=by rw[Nat.sub_zero,Nat.pow_succ];omega
  obtain⟨v35,st35,ev35,r35,S35,rfl,ho35,mb35,hev35⟩:=yw B.fresh (B.Kc (k:=0) rfl) wf.tr wfS hlB (B.Ov hf hr23) (B.off (k:=0) rfl hf hr23 fun _ _ _ _ _ _=>id) hs24.1 (fun x hx=>by have:=hs24.2 x hx;omega);refine qA rfl K (Qh rfl ev35) fun _ K=>?_;obtain⟨F35,B⟩:=B.VO ho35;have M:=B.mem;have Mp:=Mq;have Mq:=M;refine Jn 3 K M ?_;intro _ K;refine Js rfl K rfl (M.load (k:=0) rfl (Qf Ja rfl)) (Mp.load (k:=0) rfl (Qf Ja rfl)) (JQ (Ul hA4.len)) rfl QD fun _ K=>?_;refine XR rfl K M QL Vp rfl rfl rfl rfl rfl fun c36 _ _ K M=>?_;refine Xz (k2:=0) (L:=((c36,0,[iN r35])::(c17,0,[v12,kr,.ptr sp 0 0])::(c1,0,[iZ (a.tr:Nat),ka,kn])::(A12++[]))) (A:=A) (B:=[]) rfl K (Mem.cast (M:=((c36,0,[iN r35])::(c17,0,[v12,kr,.ptr sp 0 0])::(c1,0,[iZ (a.tr:Nat),ka,kn])::(A12++(A++[])))) (M':=((c36,0,[iN r35])::(c17,0,[v12,kr,.ptr sp 0 0])::(c1,0,[iZ (a.tr:Nat),ka,kn])::(A12++[]))++(A++[])) M Ux) hA4 QL rfl rfl rfl rfl (by simp only[Ql,List.length_map];omega) rfl fun ks37 A37 _ _ K hA37 M=>?_;simp only[List.append_assoc,List.cons_append,List.nil_append,List.set_cons_zero,List.set_cons_succ]at M;have Mp:=Mq;have Mq:=M;refine Jn 3 K M ?_;intro _ K;refine Zd (k:=1) rfl K M rfl rfl rfl CB (hA37.cell) rfl fun _ M=>?_;have Mp:=Mq;have Mq:=M;refine QI ?_;show W _ _ _ _ _ _ _;refine Qc 2 K M ?_;intro _ K;exact⟨_,Qe,i+1,rs++[r35],ks37,A37,_,S35,rfl,(K.sub rfl),(B.step M).less (.cons _ (.refl _)),(by rw[Hg,JT];exact hA37),Qe,(by rw[List.length_append,hrl];rfl),mb35.wf,(by have:=mb35.len;rw[Nat.pow_succ]at this;omega),(PQ wfS mb35.wf mb35.pre mb35.lt hrl hi23 hs24.1 hev35 hrs)⟩
 refine QU ?_;show W _ _ _ _ _ _ _;refine Qc 3 K M ?_;obtain⟨F',B'⟩:=Qk.wW (M:=[]) (((B.step M).less ((.cons_cons _ (.cons _ (.refl _)))))) hA12 hA4 wfS wf Qe hrs;exact⟨_,F',rfl,B'.MO (k:=0) rfl,B'.jS (k:=0) rfl,B'.qt⟩
end Go.Proofs.YtiknomepbklibaaGreatDoor
end
