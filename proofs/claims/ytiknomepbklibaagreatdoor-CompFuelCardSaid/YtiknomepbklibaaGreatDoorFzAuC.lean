/-
  Automata: may one be, one from rows, rows from one.
-/
import Derived.Test.YtiknomepbklibaaGreatDoorFzPoP
set_option maxHeartbeats 8000000
set_option maxRecDepth 100000
set_option linter.unnecessarySimpa false
set_option linter.unusedSimpArgs false
set_option linter.unusedVariables false
section
namespace Go.Proofs.YtiknomepbklibaaGreatDoor
open Go Go.RowKit
variable {LL:List (List Int)} {fa fc:List AV} {fo:FuncId} {kL:AV} {lL:List (List AV)} {st:St}

theorem Y0.qt{st':St}(hf:Qj st)(q:Qt st st'){c m:Nat}{l:List AV}(r:Y0 st.h.get c m l):Y0 st'.h.get c m l:=r.NP hf (q.NP []) QA
theorem Gw(hf:Qj st){l:List Bool}{kl:AV}(hl:Ji st.h.get [] 1 (bC l) kl)(hn:l.length≤1000000): ∃v st',Ev Tryz.prog Q4 48 [kl] st v st'∧ ∃ks,v=ks∧Em st st' 1 ks (bC l)∧Qt st st':=by
 have hcl:=Jw l;refine JF Tryz.func48 Tryz.ntmps48 fun T K=>?_;have M:=Mem.start hf;refine Qc 2 K M ?_;intro _ K;refine p1 K (OP (hl.len.trans (congrArg some (Jw _))) Ur rfl rfl) fun _ K=>Un ?_;show W _ _ _ _ _ _ _;refine Qq (K.QI rfl) (fun h4=>?_) (fun h4=>?_)
 ·have hb4:=h4;refine Qc 1 K M ?_
  have hbl:l=[]:=by
   have h:=hl.len;rw[Sw h4]at h
   injection h with h
   rw[Jw]at h;exact YW h.symm
  exact⟨.nils,rfl,⟨[],by rw[hbl];exact .none,fun _ _ _ h=>by cases h⟩,M.qt⟩
 have hb4:=h4;refine au 2 K M ?_;intro c5 _ _ K _ M;replace M:=Mem.cast (M':=([(c5,0,[])]++[])) (Mem.perm M (List.perm_append_comm (α:=Nat×Nat×List AV) (l₁:=[(c5,0,[])]) (l₂:=[]))) Uz;have hA0c5:Acc st.n 1 [(c5,0,[])] (.sl c5 0 0 0 1) []:=Acc.own (n0:=st.n) (z:=1) (c:=c5) (m:=0) (ls:=[]) ((M.own c5 0 [] QA).resolve_right QA) QA QA;refine RI (L:=[]) (A:=[(c5,0,[])]) (B:=[]) K M hA0c5 J3 rfl rfl (Ji.mem M hl QA) (uW _) (by simp only[List.length_nil];omega) rfl fun ks7 A7 _ _ K hA7 M=>?_;refine Qc 1 K M ?_;refine⟨_,rfl,?_,M.qt⟩;have h:=Mem.Bh (L:=[]) (A:=A7) (B:=[]) M hA7
 simpa using h

theorem Mm(hf:Qj st)(hLL:Lb st.h.get LL kL lL){p:List Int→Bool}(hC: ∀(s:List Int) (w:AV) (st1:St),s∈LL→Qt st st1→Ji st1.h.get [] 1 (zC s) w→ ∃v st',Ev Tryz.prog Q4 fo (fa++([w]++fc)) st1 v st'∧v=.bool (p s)∧Qt st1 st'): ∃v st',Ev Tryz.prog Q4 124 [kL,(AV.fn fo fa fc)] st v st'∧v=iZ (Is p LL 0)∧Qt st st':=by
 have hLb:=hLL.r.Ew;rw[hLL.ln]at hLb;refine JF Tryz.func124 Tryz.ntmps124 fun T K=>?_;have M:=Mem.start hf;refine Qc 2 K M ?_;intro _ K;refine p1 K (Q8 J4 rfl rfl hLL.len) fun _ K=>?_;refine Qc 1 K M ?_;intro _ K;refine Jc (fun mm1 T st9=> ∃(i:Nat),mm1=LL.length-i∧QY [(0,kL),(1,(AV.fn fo fa fc)),(7,iZ (LL.length:Nat)),(8,iN i)] T∧Mem st.h.get st.n [] st9 []∧i≤LL.length∧Is p LL 0=Is p (LL.drop i) i) (fun mm1 T st9 hI=>?_) _ _ _ ⟨0,rfl,(K.sub rfl),M.less (.refl _),(Nat.zero_le _),rfl⟩;obtain⟨i,rfl,K,M,hi,hx⟩:=hI;refine Qc 1 K M ?_;intro _ K;refine JP K rfl (fun h9=>?_) fun h9=>?_
 ·refine Qc 5 K M ?_;intro _ K;obtain⟨s14,hi14⟩:=U8 LL i Qe;obtain⟨_,hc14,w14,rfl,hr14,hz14⟩:=hLL.at_ _ _ hi14;obtain⟨x14,m14,f14,q14,_,la14,lo14,lp14⟩:=(Ji.mem M hLL.r QA).load (i:=i) (cs:=_) hc14;refine p1 K (Qa (j:=i) QV (congrArg some q14) rfl (by rw[hLL.ln];omega)) fun _ K=>p1 K (Qd rfl (lo14 _ 0 _ QZ rfl)) fun _ K=>?_;obtain⟨v16,st16,ev16,rfl,q16⟩:=hC s14 _ _ (List.mem_of_getElem? hi14) M.qt (Ji.mem M hr14 QA);refine p1 K (ZP rfl rfl ev16) fun _ K=>?_;replace M:=M.quiet q16;refine Un ?_;show W _ _ _ _ _ _ _;refine Qq (K.QI rfl) (fun h16=>?_) (fun h16=>?_)
  ·have hb16:=h16;refine Qc 2 K M ?_;exact⟨by rw[hx,AE hi14,if_pos h16],M.qt⟩
  have hb16:=h16;refine Qc 2 K M ?_;intro _ K;exact⟨_,Qe,i+1,rfl,(K.sub rfl),M.less (.refl _),Qe,(by rw[hx,AE hi14,if_neg (by rw[h16];decide)])⟩
 refine QT ?_;show W _ _ _ _ _ _ _;refine Qc 1 K M ?_;exact⟨by rw[hx,Dr Qe],M.qt⟩

theorem BF(hf:Qj st)(hLL:Lb st.h.get LL kL lL){p:List Int→Bool}(hC: ∀(s:List Int) (w:AV) (st1:St),s∈LL→Qt st st1→Ji st1.h.get [] 1 (zC s) w→ ∃v st',Ev Tryz.prog Q4 fo (fa++([w]++fc)) st1 v st'∧v=.bool (p s)∧Qt st1 st'): ∃v st',Ev Tryz.prog Q4 92 [kL,(AV.fn fo fa fc)] st v st'∧v=.bool (LL.any p)∧Qt st st':=by
 have hLb:=hLL.r.Ew;rw[hLL.ln]at hLb;refine JF Tryz.func92 Tryz.ntmps92 fun T K=>?_;have M:=Mem.start hf;refine Qc 3 K M ?_;intro _ K;refine oQ K M (Mm M.fresh (hLL.J6 hf fun c hc=>M.J6 c hc QA) (fun s w st1 hs q hr=>hC s w st1 hs (M.qt.trans q) hr)) rfl rfl fun _ _ K M=>?_;refine Qc 2 K M ?_;exact⟨by rw[←Ds p LL 0],M.qt⟩

theorem BE(hf:Qj st)(hLL:Lb st.h.get LL kL lL)(hC: ∀(s:List Int) (w:AV) (st1:St),s∈LL→Qt st st1→Ji st1.h.get [] 1 (zC s) w→ ∃v st',Ev Tryz.prog Q4 fo (fa++([w]++fc)) st1 v st'∧v=.bool false∧Qt st1 st'): ∃v st',Ev Tryz.prog Q4 92 [kL,.fn fo fa fc] st v st'∧v=.bool false∧Qt st st':=by
 obtain⟨v,st',h1,h2,h3⟩:=BF (p:=fun _=>false) hf hLL hC;exact⟨v,st',h1,by rw[h2];simp,h3⟩

theorem vP(hf:Qj st){cn:Nat}{n x:Int}(hc:Y0 st.h.get cn 0 [iZ n])(h1:0≤x)(h2:x<n): ∃v st',Ev Tryz.prog Q4 91 [iZ x,.ptr cn 0 0] st v st'∧v=.bool false∧Qt st st':=by
 refine JF Tryz.func91 Tryz.ntmps91 fun T K=>?_;have M:=Mem.start hf;refine Qc 3 K M ?_;intro _ K;refine Um K (Qg rfl) rfl (fun _ e6 K=>?_) fun _ e6 K=>?_
 ·refine Qc 1 K M ?_;intro _ K;refine pg K rfl rfl (Qd rfl (Qz (M.JG QA hc) (Qf Qr rfl))) fun _ K=>?_;refine Qc 3 K M ?_;exact⟨congrArg AV.bool (decide_eq_false Qe),M.qt⟩
 exfalso;omega

theorem vO(hf:Qj st){a:Au}(wf:Zr a){ka kn:AV}{ca cf cn:Nat}(hca:Y0 st.h.get ca 0 [iZ (a.tr:Nat),ka,kn])(hcf:Y0 st.h.get cf 0 [.fn 91 [] [.ptr cn 0 0]])(hcn:Y0 st.h.get cn 0 [iZ (a.n:Nat)]){r:List Int}{kl:AV}(hm:r∈a.nx)(hl:Ji st.h.get [] 1 (zC r) kl): ∃v st',Ev Tryz.prog Q4 93 [kl,.ptr ca 0 0,.ptr cf 0 0] st v st'∧v=.bool false∧Qt st st':=by
 obtain⟨hr1,hr2⟩:=wf.row r hm;have hp:=JE wf.tr;have hr1':r.length=2^a.tr:=hr1;have htr:=wf.tr;refine JF Tryz.func93 Tryz.ntmps93 fun T K=>?_;have M:=Mem.start hf;refine Qc 2 K M ?_;intro _ K;refine p1 K (Q8 Jp rfl rfl (hl.len.trans (congrArg some (Qn _)))) fun _ K=>?_;refine Qc 1 K M ?_;intro _ K;refine p1 K (Qd rfl (Qz (M.JG QA hca) (Qf Qr rfl))) fun _ K=>p1 K (Y4 (n:=a.tr) rfl rfl Qe) fun _ K=>?_;refine Qc 1 K M ?_;intro _ K;refine oB K (Qg rfl) rfl fun b11 _ e11 K=>?_;cases b11
 ·replace e11:(((r.length:Nat):Int)=((2^a.tr:Nat):Int)):=by simpa using e11
  refine Qc 1 K M ?_;intro _ K;refine pg K rfl rfl (Qd rfl (Qz (M.JG QA hcf) (Qf Hc rfl))) fun _ K=>?_;obtain⟨v14,st14,ev14,rfl,q14⟩:=HI (fo:=91) (fa:=[]) (fc:=[.ptr cn 0 0]) M.fresh (Ji.mem M hl QA) Qe (fun x hx st1 q=>vP q.fresh ((hcn.qt hf M.qt).qt M.fresh q) (hr2 x hx).1 (hr2 x hx).2);refine pg K rfl rfl (Qh rfl ev14) fun _ K=>?_;replace M:=M.quiet q14;refine Qc 2 K M ?_;exact⟨rfl,M.qt⟩
 replace e11: ¬(((r.length:Nat):Int)=((2^a.tr:Nat):Int)):=by simpa using e11
 exfalso;omega

theorem wu(hf:Qj st){a:Au}(wf:Zr a){ka kn:AV}{ls:List (List AV)}(hA:Ji st.h.get [] 1 (bC a.acc) ka)(hN:Lb st.h.get a.nx kn ls): ∃v st',Ev Tryz.prog Q4 69 [.agg [iZ (a.tr:Nat),ka,kn]] st v st'∧v=.bool true∧Qt st st':=by
 have htr:=wf.tr;have hps:=wf.pos;have hmo:=wf.most;have hln:=wf.len;have hen:a.n=a.acc.length:=rfl;have hac:=hA.cell;have hnc:=hN.r.cell;refine JF Tryz.func69 Tryz.ntmps69 fun T K=>?_;have M:=Mem.start hf;refine QC<|Qv ?_;refine Jt K M rfl (Qb rfl (Qb hA.cell (Qb hN.r.cell Q7))) QE fun c1 _ _ K M=>?_;refine Qc 3 K M ?_;intro _ K;refine p1 K (Q8 Ur rfl rfl (hA.len.trans (congrArg some (Jw _)))) fun _ K=>?_;refine au 5 K M ?_;intro c3 _ _ K _ M;refine Um K (Qg rfl) rfl (fun _ e11 K=>?_) fun _ e11 K=>?_
 ·refine Qc 4 K M ?_;intro _ K;refine Um K (Qg rfl) rfl (fun _ e16 K=>?_) fun _ e16 K=>?_
  ·refine Qc 3 K M ?_;intro _ K;refine Um K (Qg rfl) rfl (fun _ e20 K=>?_) fun _ e20 K=>?_
   ·refine Qc 3 K M ?_;intro _ K;refine Um K (Qg rfl) rfl (fun _ e24 K=>?_) fun _ e24 K=>?_
    ·refine Qc 1 K M ?_;intro _ K;refine pg K rfl rfl (Qd rfl (M.load (k:=1) rfl (Qf Q5 rfl))) fun _ K=>pg K rfl rfl (Q8 J4 rfl rfl hN.len) fun _ K=>?_;refine Qc 3 K M ?_;intro _ K;refine xP K rfl (fun h30=>?_) fun h30=>?_
     ·exfalso;omega
     refine Qc 0 K M ?_;intro _ K;refine p1 K (Xt rfl rfl) fun _ K=>?_;refine Ld K M FY QE fun c4 _ _ K M=>?_;refine QW (k:=0) K M rfl rfl rfl Hg rfl rfl rfl fun _ M=>?_;refine Qc 1 K M ?_;intro _ K;refine p1 K (Qd rfl (M.load (k:=2) rfl (Qf Q5 rfl))) fun _ K=>p1 K (Xt rfl rfl) fun _ K=>?_;have hrw1:=(M.UX (k:=2) rfl).Jd;have hrw3:=(M.UX (k:=1) rfl).Jd;have hrw4:=(M.UX (k:=0) rfl).Jd;have hfr:=M.fresh;refine oQ K M (BE (fo:=93) (fa:=[]) (fc:=[.ptr c1 0 0,.ptr c4 0 0]) M.fresh (hN.J6 hf fun c hc=>M.J6 c hc QA) (fun s w st1 hs q hr=>vO q.fresh wf (hrw1.qt hfr q) (hrw4.qt hfr q) (hrw3.qt hfr q) hs hr)) rfl rfl fun _ _ K M=>?_;refine Qc 2 K M ?_;exact⟨rfl,M.qt⟩
    exfalso;omega
   exfalso;omega
  exfalso;omega
 exfalso;omega
end Go.Proofs.YtiknomepbklibaaGreatDoor
end
section
namespace Go.Proofs.YtiknomepbklibaaGreatDoor
open Go Go.RowKit

abbrev zN(l:List Nat):List Int:=l.map fun r=>((r:Nat):Int)
theorem Ha(l:List Nat)(r:Nat):zN (l++[r])=zN l++[((r:Nat):Int)]:=by simp
section
variable {st0 st:St} {X0:Fp} {M A1 A2:QU} {Os:List Ob} {F1:Fp} {dp sp n0 n1:Nat} {ka kr:AV} {a:Au} {S:UG} {roots:List Nat}
theorem Qk.wb(B:Qk st0 X0 st ((dp,0,[ka,kr,.ptr sp 0 0])::(A1++(A2++M))) (X2 F1 sp a.tr S::Os))(hA1:Acc n0 1 A1 ka (bC a.acc))(hA2:Acc n1 1 A2 kr (zC (zN roots)))(wfS:Xg a.tr S)(wf:Zr a)(hl:roots.length=a.n)
  (hr: ∀(s r:Nat),roots[s]? =some r→r<S.length∧a.nx[s]? =some (WQ a.tr S r)): ∃F,Qk st0 X0 st M (FG F dp a::Os):=by
 have h1:Ji st.h.get [] 1 (bC a.acc) ka:=Mem.Yx (L:=[(dp,0,[ka,kr,.ptr sp 0 0])]) (A:=A1) (B:=A2++M) B.mem hA1;have h2:Ji st.h.get [] 1 (zC (zN roots)) kr:=Mem.Yx (L:=(dp,0,[ka,kr,.ptr sp 0 0])::A1) (A:=A2) (B:=M) (B.mem.cast QA) hA2;have h0:=B.row dp 0 _ (List.mem_cons_self ..);have B0:Qk st0 X0 st (((dp,0,[ka,kr,.ptr sp 0 0])::(A1++A2))++M) (X2 F1 sp a.tr S::Os):=B.cast QA;have B1:=B0.freeze (o:=Xc ((dp,0,[ka,kr,.ptr sp 0 0])::(A1++A2))) (fun c m l hm=>B0.row c m l (List.mem_append_left _ hm)) (fun c hc=>hc)
 have f1:yp (Xc ((dp,0,[ka,kr,.ptr sp 0 0])::(A1++A2))).F ka:=fun c m o n y e=>by
  obtain⟨m,l,h⟩:=hA1.zL c m o n y e;exact⟨m,l,by simp[h]⟩
 have f2:yp (Xc ((dp,0,[ka,kr,.ptr sp 0 0])::(A1++A2))).F kr:=fun c m o n y e=>by
  obtain⟨m,l,h⟩:=hA2.zL c m o n y e;exact⟨m,l,by simp[h]⟩
 refine⟨fun c=>(Xc ((dp,0,[ka,kr,.ptr sp 0 0])::(A1++A2))).F c∨F1 c,B1.join (fun g1 g2=>?_) fun c hc=>hc⟩;exact⟨ka,kr,sp,F1,S,roots,h0,.inl ⟨_,_,List.mem_cons_self ..⟩,h1,fun c m o n y e=>.inl (f1 c m o n y e),h2,fun c m o n y e=>.inl (f2 c m o n y e),g2,fun c hc=>.inr hc,wfS,wf,hl,hr⟩
end
theorem qx{T:Nat}{S S':UG}(W:Xg T S)(h:S<+:S'){r:Nat}(hr:r<S.length):WQ T S' r=WQ T S r:=by
 unfold WQ;exact List.map_congr_left fun c _=>Zm W h hr c
theorem P3{a:Au}{S S':UG}{rs:List Nat}{r i:Nat}{row:List Int}(wfS:Xg a.tr S)(wf':Xg a.tr S')(hp:S<+:S')(hr:r<S'.length)(hl:rs.length=i)(hi:a.nx[i]? =some row)(hrow:row.length=2^a.tr)(he: ∀c,c<2^a.tr→row[c]? =some (Y6 S' r c))
  (h: ∀(s r:Nat),rs[s]? =some r→r<S.length∧a.nx[s]? =some (WQ a.tr S r)): ∀(s q:Nat),(rs++[r])[s]? =some q→q<S'.length∧a.nx[s]? =some (WQ a.tr S' q):=by
 intro s q hs
 by_cases hlt:s<rs.length
 ·rw[List.getElem?_append_left hlt]at hs;obtain⟨h1,h2⟩:=h s q hs;exact⟨Nat.lt_of_lt_of_le h1 hp.length_le,by rw[h2,qx wfS hp h1]⟩
 ·have h3:=(List.getElem?_eq_some_iff.1 hs).1;rw[List.length_append,List.length_singleton]at h3
  have h4:s=rs.length:=by omega
  subst h4;rw[List.getElem?_append_right (Nat.le_refl _),Nat.sub_self]at hs
  injection hs with hs
  subst hs;exact⟨hr,by rw[hl,hi,yU hrow he]⟩

theorem WJ{st:St}(hf:Qj st){a:Au}(wf:Zr a){ka kn:AV}{ls:List (List AV)}(hA:Ji st.h.get [] 1 (bC a.acc) ka)(hN:Lb st.h.get a.nx kn ls): ∃v st',Ev Tryz.prog Q4 43 [.agg [iZ (a.tr:Nat),ka,kn]] st v st'∧ ∃dp F,v=.tup [.ptr dp 0 0,iZ 0]∧UY st' F dp a∧ZJ st st' F∧Qt st st':=by
 have htr:=wf.tr;have hps:=wf.pos;have hmo:=wf.most;have hln:=wf.len;have hen:a.n=a.acc.length:=rfl;have hac:=hA.cell;have hnc:=hN.r.cell;have hp64:=JE wf.tr;have B:=Qk.start hf;refine JF Tryz.func43 Tryz.ntmps43 fun T K=>?_;have M:=B.mem;refine QC<|Qv ?_;refine Jt K M rfl (Qb rfl (Qb hA.cell (Qb hN.r.cell Q7))) QE fun c1 _ _ K M=>?_;refine Qc 3 K M ?_;intro _ K;replace B:=B.step M;obtain⟨v8,st8,ev8,rfl,q8⟩:=wu B.fresh wf (B.GO hf hA) (hN.J6 hf fun c hc=>B.J6 c hc id);refine p1 K (Qh rfl ev8) fun _ K=>?_;replace B:=B.quiet q8;have M:=B.mem;refine Qc 2 K M ?_;intro _ K;refine QD (l:=[(0,0),(1,0),(2,0),(3,0),(4,1),(5,0),(6,0),(7,0),(8,0)]) (by kernel_rfl) ?_;have Mq:=M;refine Jf 2 K M ?_;intro _ K;obtain⟨v12,st12,ev12,ks12,rfl,nr12,q12⟩:=Gw M.fresh ((B.step M).GO hf hA) Qe;refine qA rfl K (Qh rfl ev12) fun _ K=>?_;obtain⟨A12,hA12,M⟩:=M.Ys q12 nr12;simp only[List.append_assoc,List.cons_append,List.nil_append,List.set_cons_zero,List.set_cons_succ]at M;have Mp:=Mq;have Mq:=M;refine Jf 1 K M ?_;intro _ K;refine Js rfl K rfl (M.load (k:=0) rfl (Qf Qr rfl)) (Mp.load (k:=0) rfl (Qf Qr rfl)) (JR rfl) rfl QE fun _ K=>?_;replace B:=B.step M;obtain⟨v15,st15,ev15,sp,F15,rfl,hS15,nf15,q15⟩:=SX B.fresh wf.tr;refine qA rfl K (Qh rfl ev15) fun _ K=>?_;replace B:=B.new (o:=X2 F15 sp a.tr []) q15 hS15.at_ nf15;have M:=B.mem;have Mp:=Mq;have Mq:=M;refine q1 rfl K (W0 IL rfl ((J9 rfl hA12.cell rfl).trans ((AG rfl rfl rfl).trans rfl))) fun _ K=>?_;refine xO rfl K M rfl (Qb hA12.cell (Qb rfl (Qb rfl Q7))) rfl fun c17 _ _ K M=>?_;refine q1 rfl K (U5 rfl) fun _ K=>QG ?_;show W _ _ _ _ _ _ _;refine Qc 1 K M ?_;intro _ K;refine p1 K (Qd rfl (M.load (k:=1) rfl (Qf Q5 rfl))) fun _ K=>p1 K (Q8 J4 rfl rfl hN.len) fun _ K=>?_;refine Qc 1 K M ?_;intro _ K;refine Jc (fun mm1 T st9=> ∃(i:Nat) (rs:List Nat) (kr:AV) (A:QU) (F:Fp) (S:UG),mm1=a.nx.length-i∧QY [(2,.nilp),(3,iZ 0),(4,.ptr c17 0 0),(19,kn),(20,iZ (a.nx.length:Nat)),(21,iN i)] T∧Qk st Xv st9 ((c17,0,[v12,kr,.ptr sp 0 0])::(c1,0,[iZ (a.tr:Nat),ka,kn])::(A12++(A++[]))) [X2 F sp a.tr S]∧Acc 0 1 A kr (zC (zN rs))∧i≤a.nx.length∧rs.length=i∧Xg a.tr S∧S.length≤i *127∧(∀(s r:Nat),rs[s]? =some r→r<S.length∧a.nx[s]? =some (WQ a.tr S r))) (fun mm1 T st9 hI=>?_) _ _ _ ⟨0,[],.nils,[],_,[],rfl,(K.sub rfl),(B.step M).less (.refl _),.none,(Nat.zero_le _),rfl,(Xg.nil _),(Nat.zero_le _),(fun s r h=>by simp at h)⟩;obtain⟨i,rs,kr,A,F,S,rfl,K,B,hA4,hi,hrl,wfS,hSl,hrs⟩:=hI;have M:=B.mem;refine Qc 1 K M ?_;intro _ K;refine JP K rfl (fun h22=>?_) fun h22=>?_
 ·refine Qc 0 K M ?_;intro _ K;obtain⟨s23,hi23⟩:=U8 a.nx i Qe;obtain⟨_,hc23,w23,rfl,hr23,hz23⟩:=hN.at_ _ _ hi23;obtain⟨x23,m23,f23,q23,_,la23,lo23,lp23⟩:=((B.step M).GO hf hN.r).load (i:=i) (cs:=_) hc23;refine p1 K (Qa (j:=i) QV (congrArg some q23) rfl (by rw[hN.ln];omega)) fun _ K=>p1 K (Qd rfl (lo23 _ 0 _ QZ rfl)) fun _ K=>?_;refine Qc 1 K M ?_;intro _ K;refine QD (l:=[(5,0),(6,0),(7,0),(8,0),(9,0),(10,0),(1,0),(2,0),(3,0),(4,1),(11,0),(12,0),(0,0),(13,0),(14,0),(15,0)]) (by kernel_rfl) ?_;have Mq:=M;refine Jf 5 K M ?_;intro _ K;replace B:=B.step M;have hs24:=wf.row s23 (List.mem_of_getElem? hi23)
  have hlB:(S.length:Nat)+(2^(a.tr-0+1)-1)≤1000000000:=by rw[Nat.sub_zero,Nat.pow_succ];omega
  obtain⟨v35,st35,ev35,r35,S35,rfl,ho35,mb35,hev35⟩:=uS B.fresh (B.IK (k:=0) rfl) wf.tr wfS hlB (B.GO hf hr23) (B.off (k:=0) rfl hf hr23 fun _ _ _ _ _ _=>id) hs24.1 (fun x hx=>by have:=hs24.2 x hx;omega);refine qA rfl K (Qh rfl ev35) fun _ K=>?_;obtain⟨F35,B⟩:=B.VO ho35;have M:=B.mem;have Mp:=Mq;have Mq:=M;refine Jf 3 K M ?_;intro _ K;refine Js rfl K rfl (M.load (k:=0) rfl (Qf QZ rfl)) (Mp.load (k:=0) rfl (Qf QZ rfl)) (JR (JL hA4.len)) rfl QE fun _ K=>?_;refine XR rfl K M QM Vn rfl rfl rfl rfl rfl fun c36 _ _ K M=>?_;refine Xz (k2:=0) (L:=((c36,0,[iN r35])::(c17,0,[v12,kr,.ptr sp 0 0])::(c1,0,[iZ (a.tr:Nat),ka,kn])::(A12++[]))) (A:=A) (B:=[]) rfl K (Mem.cast (M:=((c36,0,[iN r35])::(c17,0,[v12,kr,.ptr sp 0 0])::(c1,0,[iZ (a.tr:Nat),ka,kn])::(A12++(A++[])))) (M':=((c36,0,[iN r35])::(c17,0,[v12,kr,.ptr sp 0 0])::(c1,0,[iZ (a.tr:Nat),ka,kn])::(A12++[]))++(A++[])) M Uz) hA4 QM rfl rfl rfl rfl (by simp only[Qn,List.length_map];omega) rfl fun ks37 A37 _ _ K hA37 M=>?_;simp only[List.append_assoc,List.cons_append,List.nil_append,List.set_cons_zero,List.set_cons_succ]at M;have Mp:=Mq;have Mq:=M;refine Jf 3 K M ?_;intro _ K;refine Zc (k:=1) rfl K M rfl rfl rfl Cn (hA37.cell) rfl fun _ M=>?_;have Mp:=Mq;have Mq:=M;refine QG ?_;show W _ _ _ _ _ _ _;refine Qc 2 K M ?_;intro _ K;exact⟨_,Qe,i+1,rs++[r35],ks37,A37,_,S35,rfl,(K.sub rfl),(B.step M).less (.cons _ (.refl _)),(by rw[Ha,JV];exact hA37),Qe,(by rw[List.length_append,hrl];rfl),mb35.wf,(by have:=mb35.len;rw[Nat.pow_succ]at this;omega),(P3 wfS mb35.wf mb35.pre mb35.lt hrl hi23 hs24.1 hev35 hrs)⟩
 refine QT ?_;show W _ _ _ _ _ _ _;refine Qc 3 K M ?_;obtain⟨F',B'⟩:=Qk.wb (M:=[]) (((B.step M).less ((.cons_cons _ (.cons _ (.refl _)))))) hA12 hA4 wfS wf Qe hrs;exact⟨_,F',rfl,B'.MV (k:=0) rfl,B'.jz (k:=0) rfl,B'.qt⟩
end Go.Proofs.YtiknomepbklibaaGreatDoor
end
section
namespace Go.Proofs.YtiknomepbklibaaGreatDoor
open Go Go.RowKit
variable {s:Nat}

theorem Fj{l:List Nat}{i r:Nat}(h:l[i]? =some r):(zC (zN l))[i]? =some [.int .i64 (r:Nat)]:=Jr (by rw[List.getElem?_map,h];rfl)
theorem Au.LH{a:Au}{b:Bool}(h:a.acc[s]? =some b):a.ok s=b:=by unfold Au.ok;rw[h];rfl
structure KG(st:St)(F:Fp)(dp:Nat)(a:Au)(ka kr:AV)(sp:Nat)(F1:Fp)(S:UG)(roots:List Nat):Prop where
 row:Q0 st.h.get dp 0 [ka,kr,.ptr sp 0 0]
 dpF:F dp
 acc:Ji st.h.get [] 1 (bC a.acc) ka
 accF:yp F ka
 rt:Ji st.h.get [] 1 (zC (zN roots)) kr
 rtF:yp F kr
 IK:Ap st.h.get F1 sp a.tr S
 sub: ∀c,F1 c→F c
 wfS:Xg a.tr S
 wf:Zr a
 len:roots.length=a.n
 rts: ∀(s r:Nat),roots[s]? =some r→r<S.length∧a.nx[s]? =some (WQ a.tr S r)
 hi: ∀c,F c→c<st.n
theorem UY.x{st:St}{F:Fp}{dp:Nat}{a:Au}(hD:UY st F dp a): ∃ka kr sp F1 S roots,KG st F dp a ka kr sp F1 S roots:=by
 obtain⟨ka,kr,sp,F1,S,roots,h1,h2,h3,h4,h5,h6,h7,h8,h9,h10,h11,h12⟩:=hD.at_;exact⟨ka,kr,sp,F1,S,roots,h1,h2,h3,h4,h5,h6,h7,h8,h9,h10,h11,h12,hD.hi⟩
section
variable {st st':St} {F:Fp} {dp:Nat} {a:Au} {ka kr:AV} {sp:Nat} {F1:Fp} {S:UG} {roots:List Nat}
theorem KG.q(hX:KG st F dp a ka kr sp F1 S roots)(q:Qt st st'):KG st' F dp a ka kr sp F1 S roots:=by
 have e: ∀c,F c→st'.h.get c=st.h.get c:=fun c hc=>q.J6 c (hX.hi c hc);exact⟨hX.row.frame (e dp hX.dpF),hX.dpF,hX.acc.frame fun c m o n y e'=>e c (hX.accF c m o n y e'),hX.accF,hX.rt.frame fun c m o n y e'=>e c (hX.rtF c m o n y e'),hX.rtF,hX.IK.frame fun c hc=>e c (hX.sub c hc),hX.sub,hX.wfS,hX.wf,hX.len,hX.rts,fun c hc=>Nat.lt_of_lt_of_le (hX.hi c hc) q.le⟩
theorem KG.i(hX:KG st F dp a ka kr sp F1 S roots):Zs st F1 sp a.tr S:=⟨hX.IK,fun c hc=>hX.hi c (hX.sub c hc)⟩
end
theorem M4{st:St}(hf:Qj st){F:Fp}{dp:Nat}{a:Au}{ka kr:AV}{sp:Nat}{F1:Fp}{S:UG}{roots:List Nat}(hX:KG st F dp a ka kr sp F1 S roots): ∃v st',Ev Tryz.prog Q4 63 [.ptr dp 0 0] st v st'∧v=.ptr sp 0 0∧Qt st st':=by
 have wf:=hX.wf;have hen:a.n=a.acc.length:=rfl;have hrl:=hX.len;refine JF Tryz.func63 Tryz.ntmps63 fun T K=>?_;have M:=Mem.start hf;refine Qc 2 K M ?_;intro _ K;refine p1 K (Yp Ul rfl rfl) fun _ K=>?_;refine Qc 4 K M ?_;intro _ K;refine p1 K (Qd rfl (Qz (M.JG QA hX.row.Jd) (Qf JJ rfl))) fun _ K=>?_;refine Qc 1 K M ?_;exact⟨rfl,M.qt⟩

theorem N1{st:St}(hf:Qj st){F:Fp}{dp:Nat}{a:Au}{ka kr:AV}{sp:Nat}{F1:Fp}{S:UG}{roots:List Nat}(hX:KG st F dp a ka kr sp F1 S roots): ∃v st',Ev Tryz.prog Q4 38 [.ptr dp 0 0] st v st'∧v=iZ (a.tr:Nat)∧Qt st st':=by
 have wf:=hX.wf;have hen:a.n=a.acc.length:=rfl;have hrl:=hX.len;refine JF Tryz.func38 Tryz.ntmps38 fun T K=>?_;have M:=Mem.start hf;refine Qc 2 K M ?_;intro _ K;refine oQ K M (M4 M.fresh (hX.q M.qt)) rfl rfl fun _ _ K M=>?_;refine oQ K M (El M.fresh (hX.q M.qt).i) rfl rfl fun _ _ K M=>?_;refine Qc 1 K M ?_;exact⟨rfl,M.qt⟩

theorem Xm{st:St}(hf:Qj st){F:Fp}{dp:Nat}{a:Au}(hD:UY st F dp a): ∃v st',Ev Tryz.prog Q4 38 [.ptr dp 0 0] st v st'∧v=.int .i64 (a.tr:Nat)∧Qt st st':=by
 obtain⟨_,_,_,_,_,_,hX⟩:=hD.x;exact N1 hf hX

theorem N2{st:St}(hf:Qj st){F:Fp}{dp:Nat}{a:Au}{ka kr:AV}{sp:Nat}{F1:Fp}{S:UG}{roots:List Nat}(hX:KG st F dp a ka kr sp F1 S roots): ∃v st',Ev Tryz.prog Q4 25 [.ptr dp 0 0] st v st'∧v=iZ (a.n:Nat)∧Qt st st':=by
 have wf:=hX.wf;have hen:a.n=a.acc.length:=rfl;have hrl:=hX.len;refine JF Tryz.func25 Tryz.ntmps25 fun T K=>?_;have M:=Mem.start hf;refine Qc 2 K M ?_;intro _ K;refine p1 K (Yp Ul rfl rfl) fun _ K=>?_;refine Qc 4 K M ?_;intro _ K;refine p1 K (Qd rfl (Qz (M.JG QA hX.row.Jd) (Qf Us rfl))) fun _ K=>p1 K (Q8 Ur rfl rfl (hX.acc.len.trans (congrArg some (Jw _)))) fun _ K=>?_;refine Qc 1 K M ?_;exact⟨rfl,M.qt⟩

theorem Gp{st:St}(hf:Qj st){F:Fp}{dp:Nat}{a:Au}(hD:UY st F dp a): ∃v st',Ev Tryz.prog Q4 25 [.ptr dp 0 0] st v st'∧v=.int .i64 (a.n:Nat)∧Qt st st':=by
 obtain⟨_,_,_,_,_,_,hX⟩:=hD.x;exact N2 hf hX

theorem vV{st:St}(hf:Qj st){F:Fp}{dp:Nat}{a:Au}{ka kr:AV}{sp:Nat}{F1:Fp}{S:UG}{roots:List Nat}(hX:KG st F dp a ka kr sp F1 S roots)(hs:s<a.n): ∃v st',Ev Tryz.prog Q4 55 [.ptr dp 0 0,iN s] st v st'∧v=.bool true∧Qt st st':=by
 have wf:=hX.wf;have hen:a.n=a.acc.length:=rfl;have hrl:=hX.len;refine JF Tryz.func55 Tryz.ntmps55 fun T K=>?_;have M:=Mem.start hf;refine Qc 3 K M ?_;intro _ K;refine Um K (Qg rfl) rfl (fun _ e7 K=>?_) fun _ e7 K=>?_
 ·exfalso;omega
 refine Qc 2 K M ?_;intro _ K;obtain⟨v10,st10,ev10,rfl,q10⟩:=N2 M.fresh (hX.q M.qt);refine pg K rfl rfl (Qh rfl ev10) fun _ K=>?_;replace M:=M.quiet q10;refine Qc 3 K M ?_;exact⟨congrArg AV.bool (decide_eq_true Qe),M.qt⟩

theorem D8{st:St}(hf:Qj st){F:Fp}{dp:Nat}{a:Au}{ka kr:AV}{sp:Nat}{F1:Fp}{S:UG}{roots:List Nat}(hX:KG st F dp a ka kr sp F1 S roots)(hs:s<a.n): ∃v st',Ev Tryz.prog Q4 26 [.ptr dp 0 0,iN s] st v st'∧v=.bool (a.ok s)∧Qt st st':=by
 have wf:=hX.wf;have hen:a.n=a.acc.length:=rfl;have hrl:=hX.len;have hsa:s<a.acc.length:=hs;refine JF Tryz.func26 Tryz.ntmps26 fun T K=>?_;have M:=Mem.start hf;refine Qc 3 K M ?_;intro _ K;refine oQ K M (vV M.fresh (hX.q M.qt) hs) rfl rfl fun _ _ K M=>?_;refine Qc 4 K M ?_;intro _ K;refine pg K rfl rfl (Qd rfl (Qz (M.JG QA hX.row.Jd) (Qf Us rfl))) fun _ K=>?_;refine Qc 1 K M ?_;intro _ K;obtain⟨y14,hi14⟩:=U8 a.acc s Qe;obtain⟨x14,m14,f14,q14,_,la14,lo14,lp14⟩:=(Ji.mem M hX.acc QA).load (i:=s) (cs:=_) (VA hi14);refine pg K rfl rfl (Qa (j:=s) Jv (congrArg some q14) rfl (by rw[Jw];omega)) fun _ K=>pg K rfl rfl (Qd rfl (lo14 _ 0 _ Jy rfl)) fun _ K=>?_;refine Qc 2 K M ?_;exact⟨congrArg AV.bool (Au.LH hi14).symm,M.qt⟩

theorem V5{st:St}(hf:Qj st){F:Fp}{dp:Nat}{a:Au}(hD:UY st F dp a)(hs:s<a.n): ∃v st',Ev Tryz.prog Q4 26 [.ptr dp 0 0,.int .i64 (s:Nat)] st v st'∧v=.bool (a.ok s)∧Qt st st':=by
 obtain⟨_,_,_,_,_,_,hX⟩:=hD.x;exact D8 hf hX hs

end Go.Proofs.YtiknomepbklibaaGreatDoor
end
