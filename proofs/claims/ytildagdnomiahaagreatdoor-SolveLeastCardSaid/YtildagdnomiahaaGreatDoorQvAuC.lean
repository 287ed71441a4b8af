/-
  A row that grows, as a thing.
-/
import Derived.Test.YtildagdnomiahaaGreatDoorQvPjP
set_option maxHeartbeats 8000000
set_option maxRecDepth 100000
set_option linter.unnecessarySimpa false
set_option linter.unusedSimpArgs false
set_option linter.unusedVariables false
namespace Go.Proofs.YtildagdnomiahaaGreatDoor
open Go Go.RowKit
section

def Ec(h:Hp)(F:Fp)(z:Nat)(ks:AV)(ls:List (List AV)):Prop:= ∃A,Acc 0 z A ks ls∧(∀c m l,(c,m,l)∈A→Qu h c m l∧F c)
def RY(F:Fp)(z:Nat)(ks:AV)(ls:List (List AV)):Ob:=⟨F,fun h=>Ec h F z ks ls,fun h h' e H=>by
 obtain⟨A,h1,h2⟩:=H
 exact⟨A,h1,fun c m l hm=>⟨(h2 c m l hm).1.frame (e c (h2 c m l hm).2),(h2 c m l hm).2⟩⟩⟩
theorem qi{n0 z:Nat}{A:QP}{ks:AV}{ls:List (List AV)}(hA:Acc n0 z A ks ls):(A.map Prod.fst).Nodup:=by cases hA<;>simp
section
variable {st0 st:St} {X0 F:Fp} {M A:QP} {Os:List Ob} {z:Nat} {ks:AV} {ls:List (List AV)}
theorem Ec.rd{h:Hp}(H:Ec h F z ks ls):Jg h [] z ls ks:=by
 obtain⟨A,h1,h2⟩:=H
 cases h1 with
 |none=>exact .nil _ _ _
 |own k1 k2 k3=>exact Jg.own (h2 _ _ _ (List.mem_cons_self ..)).1 k2 Qx Qd
theorem Ec.len{h:Hp}(H:Ec h F z ks ls):J8 ks=some ls.length:=by obtain⟨A,h1,_⟩:=H;exact h1.len
theorem Ec.cell{h:Hp}(H:Ec h F z ks ls):Qw ks=true:=by obtain⟨A,h1,_⟩:=H;exact h1.cell
theorem Ql.xM(B:Ql st0 X0 st M (RY F z ks ls::Os)): ∃A,Acc 0 z A ks ls∧Ql st0 X0 st (A++M) Os:=by
 obtain⟨A,h1,h2⟩:=B.obj _ (List.mem_cons_self ..);have B1:=B.ib (R:=A) (o':=⟨Ei,fun _=>True,fun _ _ _ h=>h⟩) h2 (qi h1) trivial (fun c hc=>hc.elim) (fun c m l _ hc=>hc);exact⟨A,h1,B1.iV (.cons _ (.refl _))⟩
theorem Ql.yL(B:Ql st0 X0 st (A++M) Os)(hA:Acc 0 z A ks ls): ∃F',Ql st0 X0 st M (RY F' z ks ls::Os):=
 ⟨(Xl A).F,B.freeze (o:=RY (Xl A).F z ks ls) ⟨A,hA,fun c m l hm=>⟨B.row c m l (by simp[hm]),m,l,hm⟩⟩ fun c hc=>hc⟩
end
end
section
variable {LL:List (List Int)} {fa fc:List AV} {fo:FuncId} {kL:AV} {lL:List (List AV)} {st:St}

theorem Y9.qt{st':St}(hf:Qh st)(q:Qt st st'){c m:Nat}{l:List AV}(r:Y9 st.h.get c m l):Y9 st'.h.get c m l:=r.KR hf (q.KR []) Qx
theorem Jg.qt{st':St}(hf:Qh st)(q:Qt st st'){z:Nat}{ls:List (List AV)}{v:AV}(r:Jg st.h.get [] z ls v):Jg st'.h.get [] z ls v:=r.J5 hf fun c hc=>q.J5 c hc

theorem Gv(hf:Qh st){l:List Bool}{kl:AV}(hl:Jg st.h.get [] 1 (bC l) kl)(hn:l.length≤1000000): ∃v st',QV 212 [kl] st v st'∧ ∃ks,v=ks∧HB st st' 1 ks (bC l)∧Qt st st':=by
 have hcl:=Vi l;refine Jv Tryz.func212 Tryz.ntmps212 fun T K=>?_;have M:=Mem.start hf;refine Qb 2 K M fun _ K=>?_;refine p1 K (ON (hl.len.trans (congrArg some (Vi _))) VS rfl rfl) fun _ K=>?_;refine Qb 0 K M fun _ K=>?_;refine UJ K rfl (fun h4=>?_) fun h4=>?_
 ·have hb4:=h4;refine Qb 1 K M ?_
  have hbl:l=[]:=by
   have h:=hl.len;rw[SB h4]at h
   injection h with h
   rw[Vi]at h;exact Y1 h.symm
  exact⟨.nils,rfl,⟨[],by rw[hbl];exact .none,fun _ _ _ h=>by cases h⟩,M.qt⟩
 have hb4:=h4;refine au 2 K M ?_;intro c5 _ _ K _ M;replace M:=Mem.cast (M':=([(c5,0,[])]++[])) (Mem.perm M (List.perm_append_comm (α:=Nat×Nat×List AV) (l₁:=[(c5,0,[])]) (l₂:=[]))) Za;have hA0c5:Acc st.n 1 [(c5,0,[])] (.sl c5 0 0 0 1) []:=Acc.own (n0:=st.n) (z:=1) (c:=c5) (m:=0) (ls:=[]) ((M.own c5 0 [] Qx).resolve_right Qx) Qx Qx;refine Sh (L:=[]) (A:=[(c5,0,[])]) (B:=[]) K M hA0c5 Yc rfl rfl (Jg.mem M hl Qx) (fl _) (by simp only[List.length_nil];omega) rfl fun ks7 A7 _ _ K hA7 M=>?_;refine Qb 1 K M ?_;refine⟨_,rfl,?_,M.qt⟩;have h:=Mem.xW (L:=[]) (B:=[]) M hA7
 simpa using h

theorem M6(hf:Qh st)(hLL:qp st.h.get LL kL lL){p:List Int→Bool}(hC: ∀(s:List Int) (w:AV) (st1:St),s∈LL→Qt st st1→Jg st1.h.get [] 1 (zC s) w→ ∃v st',QV fo (fa++([w]++fc)) st1 v st'∧v=.bool (p s)∧Qt st1 st'): ∃v st',QV 309 [kL,(AV.fn fo fa fc)] st v st'∧v=iZ (AF p LL 0)∧Qt st st':=by
 have hLb:=hLL.r.AW;rw[hLL.ln]at hLb;refine Jv Tryz.func309 Tryz.ntmps309 fun T K=>?_;have M:=Mem.start hf;refine Qb 2 K M fun _ K=>?_;refine p1 K (Q0 UO rfl rfl hLL.len) fun _ K=>?_;refine Qb 1 K M fun _ K=>?_;refine Je (fun mm1 T st9=> ∃(i:Nat),mm1=LL.length-i∧QH [(0,kL),(1,(AV.fn fo fa fc)),(7,iZ (LL.length:Nat)),(8,iN i)] T∧Mem st.h.get st.n [] st9 []∧i≤LL.length∧AF p LL 0=AF p (LL.drop i) i) (fun mm1 T st9 hI=>?_) _ _ _ ⟨0,rfl,(K.sub rfl),M.less (.refl _),(Nat.zero_le _),rfl⟩;obtain⟨i,rfl,K,M,hi,hx⟩:=hI;refine Qb 1 K M fun _ K=>?_;refine U8 K rfl (fun h9=>?_) fun h9=>?_
 ·refine Qb 5 K M fun _ K=>?_;obtain⟨s14,hi14⟩:=YL LL i Qd;obtain⟨_,hc14,w14,rfl,hr14,hz14⟩:=hLL.at_ _ _ hi14;refine oI (Jg.mem M hLL.r Qx) hc14 K QK Jn rfl rfl rfl fun _ _ _ _ K=>?_;obtain⟨v16,st16,ev16,rfl,q16⟩:=hC s14 _ _ (List.mem_of_getElem? hi14) M.qt (Jg.mem M hr14 Qx);refine p1 K (Z2 rfl rfl ev16) fun _ K=>?_;replace M:=M.quiet q16;refine Qb 0 K M fun _ K=>?_;refine UJ K rfl (fun h16=>?_) fun h16=>?_
  ·have hb16:=h16;refine Qb 2 K M ?_;exact⟨by rw[hx,Aq hi14,if_pos h16],M.qt⟩
  have hb16:=h16;refine Qb 2 K M fun _ K=>?_;exact⟨_,Qd,i+1,rfl,(K.sub rfl),M.less (.refl _),Qd,(by rw[hx,Aq hi14,if_neg (by rw[h16];decide)])⟩
 refine QM ?_;show W _ _ _ _ _ _ _;refine Qb 1 K M ?_;exact⟨by rw[hx,D3 Qd],M.qt⟩

theorem BG(hf:Qh st)(hLL:qp st.h.get LL kL lL){p:List Int→Bool}(hC: ∀(s:List Int) (w:AV) (st1:St),s∈LL→Qt st st1→Jg st1.h.get [] 1 (zC s) w→ ∃v st',QV fo (fa++([w]++fc)) st1 v st'∧v=.bool (p s)∧Qt st1 st'): ∃v st',QV 289 [kL,(AV.fn fo fa fc)] st v st'∧v=.bool (LL.any p)∧Qt st st':=by
 have hLb:=hLL.r.AW;rw[hLL.ln]at hLb;refine Jv Tryz.func289 Tryz.ntmps289 fun T K=>?_;have M:=Mem.start hf;refine Qb 3 K M fun _ K=>?_;refine oQ K M (M6 M.fresh (hLL.J5 hf fun c hc=>M.J5 c hc Qx) (fun s w st1 hs q hr=>hC s w st1 hs (M.qt.trans q) hr)) rfl rfl fun _ _ K M=>?_;refine Qb 2 K M ?_;exact⟨by rw[←D4 p LL 0],M.qt⟩

theorem BF(hf:Qh st)(hLL:qp st.h.get LL kL lL)(hC: ∀(s:List Int) (w:AV) (st1:St),s∈LL→Qt st st1→Jg st1.h.get [] 1 (zC s) w→ ∃v st',QV fo (fa++([w]++fc)) st1 v st'∧v=.bool false∧Qt st1 st'): ∃v st',QV 289 [kL,.fn fo fa fc] st v st'∧v=.bool false∧Qt st st':=by
 obtain⟨v,st',h1,h2,h3⟩:=BG (p:=fun _=>false) hf hLL hC;exact⟨v,st',h1,by rw[h2];simp,h3⟩

theorem aK(hf:Qh st){cn:Nat}{n x:Int}(hc:Y9 st.h.get cn 0 [iZ n])(h1:0≤x)(h2:x<n): ∃v st',QV 288 [iZ x,.ptr cn 0 0] st v st'∧v=.bool false∧Qt st st':=by
 refine Jv Tryz.func288 Tryz.ntmps288 fun T K=>?_;have M:=Mem.start hf;refine Qb 3 K M fun _ K=>?_;refine U5 K rfl (fun _ e6 K=>?_) fun _ e6 K=>?_
 ·refine Qb 1 K M fun _ K=>?_;refine pg K rfl rfl (Qi rfl (Qr (M.Jf Qx hc) (Qc Qs rfl))) fun _ K=>?_;refine Qb 3 K M ?_;exact⟨congrArg AV.bool (decide_eq_false Qd),M.qt⟩
 exfalso;omega

theorem aJ(hf:Qh st){a:Au}(wf:Xu a){ka kn:AV}{ca cf cn:Nat}(hca:Y9 st.h.get ca 0 [iZ (a.tr:Nat),ka,kn])(hcf:Y9 st.h.get cf 0 [.fn 288 [] [.ptr cn 0 0]])(hcn:Y9 st.h.get cn 0 [iZ (a.n:Nat)]){r:List Int}{kl:AV}(hm:r∈a.nx)(hl:Jg st.h.get [] 1 (zC r) kl): ∃v st',QV 290 [kl,.ptr ca 0 0,.ptr cf 0 0] st v st'∧v=.bool false∧Qt st st':=by
 obtain⟨hr1,hr2⟩:=wf.row r hm;have hp:=JL wf.tr;have hr1':r.length=2^a.tr:=hr1;have htr:=wf.tr;refine Jv Tryz.func290 Tryz.ntmps290 fun T K=>?_;have M:=Mem.start hf;refine Qb 2 K M fun _ K=>?_;refine p1 K (Q0 Jm rfl rfl (hl.len.trans (congrArg some (Qy _)))) fun _ K=>?_;refine Qb 1 K M fun _ K=>?_;refine p1 K (Qi rfl (Qr (M.Jf Qx hca) (Qc Qs rfl))) fun _ K=>p1 K (ZX (n:=a.tr) rfl rfl Qd) fun _ K=>?_;refine Qb 1 K M fun _ K=>?_;refine oB K (Q8 rfl) rfl fun b11 _ e11 K=>?_;cases b11
 ·replace e11:(((r.length:Nat):Int)=((2^a.tr:Nat):Int)):=by simpa using e11
  refine Qb 1 K M fun _ K=>?_;refine pg K rfl rfl (Qi rfl (Qr (M.Jf Qx hcf) (Qc FM rfl))) fun _ K=>?_;obtain⟨v14,st14,ev14,rfl,q14⟩:=H5 (fo:=288) (fa:=[]) (fc:=[.ptr cn 0 0]) M.fresh (Jg.mem M hl Qx) Qd (fun x hx st1 q=>aK q.fresh ((hcn.qt hf M.qt).qt M.fresh q) (hr2 x hx).1 (hr2 x hx).2);refine pg K rfl rfl (Qf rfl ev14) fun _ K=>?_;replace M:=M.quiet q14;refine Qb 2 K M ?_;exact⟨rfl,M.qt⟩
 replace e11: ¬(((r.length:Nat):Int)=((2^a.tr:Nat):Int)):=by simpa using e11
 exfalso;omega

theorem fD(hf:Qh st){a:Au}(wf:Xu a){ka kn:AV}{ls:List (List AV)}(hA:Jg st.h.get [] 1 (bC a.acc) ka)(hN:qp st.h.get a.nx kn ls): ∃v st',QV 260 [.agg [iZ (a.tr:Nat),ka,kn]] st v st'∧v=.bool true∧Qt st st':=by
 have htr:=wf.tr;have hps:=wf.pos;have hmo:=wf.most;have hln:=wf.len;have hen:a.n=a.acc.length:=rfl;have hac:=hA.cell;have hnc:=hN.r.cell;refine Jv Tryz.func260 Tryz.ntmps260 fun T K=>?_;have M:=Mem.start hf;refine Qb 0 K M fun _ K=>?_;refine JK K M rfl (Qa rfl (Qa hA.cell (Qa hN.r.cell QL))) Q9 fun c1 _ _ K M=>?_;refine Qb 3 K M fun _ K=>?_;refine p1 K (Q0 VS rfl rfl (hA.len.trans (congrArg some (Vi _)))) fun _ K=>?_;refine au 5 K M ?_;intro c3 _ _ K _ M;refine U5 K rfl (fun _ e11 K=>?_) fun _ e11 K=>?_
 ·refine Qb 4 K M fun _ K=>?_;refine U5 K rfl (fun _ e16 K=>?_) fun _ e16 K=>?_
  ·refine Qb 3 K M fun _ K=>?_;refine U5 K rfl (fun _ e20 K=>?_) fun _ e20 K=>?_
   ·refine Qb 3 K M fun _ K=>?_;refine U5 K rfl (fun _ e24 K=>?_) fun _ e24 K=>?_
    ·refine Qb 1 K M fun _ K=>?_;refine pg K rfl rfl (Qi rfl (M.load (k:=1) rfl (Qc QW rfl))) fun _ K=>pg K rfl rfl (Q0 UO rfl rfl hN.len) fun _ K=>?_;refine Qb 3 K M fun _ K=>?_;refine kW K rfl (fun h30=>?_) fun h30=>?_
     ·exfalso;omega
     refine Qb 0 K M fun _ K=>?_;refine p1 K (Y6 rfl rfl) fun _ K=>?_;refine Cl K M FH Q9 fun c4 _ _ K M=>?_;refine Uh (k:=0) K M rfl rfl rfl FT rfl rfl rfl fun _ M=>?_;refine Qb 1 K M fun _ K=>?_;refine p1 K (Qi rfl (M.load (k:=2) rfl (Qc QW rfl))) fun _ K=>p1 K (Y6 rfl rfl) fun _ K=>?_;have hrw1:=(M.Ud (k:=2) rfl).QI;have hrw3:=(M.Ud (k:=1) rfl).QI;have hrw4:=(M.Ud (k:=0) rfl).QI;have hfr:=M.fresh;refine oQ K M (BF (fo:=290) (fa:=[]) (fc:=[.ptr c1 0 0,.ptr c4 0 0]) M.fresh (hN.J5 hf fun c hc=>M.J5 c hc Qx) (fun s w st1 hs q hr=>aJ q.fresh wf (hrw1.qt hfr q) (hrw4.qt hfr q) (hrw3.qt hfr q) hs hr)) rfl rfl fun _ _ K M=>?_;refine Qb 2 K M ?_;exact⟨rfl,M.qt⟩
    exfalso;omega
   exfalso;omega
  exfalso;omega
 exfalso;omega
end
section

abbrev zN(l:List Nat):List Int:=l.map fun r=>((r:Nat):Int)
theorem EX(l:List Nat)(r:Nat):zN (l++[r])=zN l++[((r:Nat):Int)]:=by simp
section
variable {st0 st:St} {X0:Fp} {M A1 A2:QP} {Os:List Ob} {F1:Fp} {dp sp n0 n1:Nat} {ka kr:AV} {a:Au} {S:Uf} {roots:List Nat}
theorem Ql.fh(B:Ql st0 X0 st ((dp,0,[ka,kr,.ptr sp 0 0])::(A1++(A2++M))) (Xi F1 sp a.tr S::Os))(hA1:Acc n0 1 A1 ka (bC a.acc))(hA2:Acc n1 1 A2 kr (zC (zN roots)))(wfS:ZI a.tr S)(wf:Xu a)(hl:roots.length=a.n)
  (hr: ∀(s r:Nat),roots[s]? =some r→r<S.length∧a.nx[s]? =some (WB a.tr S r)): ∃F,Ql st0 X0 st M (EJ F dp a::Os):=by
 have h1:Jg st.h.get [] 1 (bC a.acc) ka:=Mem.Zv (L:=[(dp,0,[ka,kr,.ptr sp 0 0])]) (B:=A2++M) B.mem hA1;have h2:Jg st.h.get [] 1 (zC (zN roots)) kr:=Mem.Zv (L:=(dp,0,[ka,kr,.ptr sp 0 0])::A1) (B:=M) (B.mem.cast Qx) hA2;have h0:=B.row dp 0 _ (List.mem_cons_self ..);have B0:Ql st0 X0 st (((dp,0,[ka,kr,.ptr sp 0 0])::(A1++A2))++M) (Xi F1 sp a.tr S::Os):=B.cast Qx;have B1:=B0.freeze (o:=Xl ((dp,0,[ka,kr,.ptr sp 0 0])::(A1++A2))) (fun c m l hm=>B0.row c m l (List.mem_append_left _ hm)) (fun c hc=>hc)
 have f1:zB (Xl ((dp,0,[ka,kr,.ptr sp 0 0])::(A1++A2))).F ka:=fun c m o n y e=>by
  obtain⟨m,l,h⟩:=hA1.wC c m o n y e;exact⟨m,l,by simp[h]⟩
 have f2:zB (Xl ((dp,0,[ka,kr,.ptr sp 0 0])::(A1++A2))).F kr:=fun c m o n y e=>by
  obtain⟨m,l,h⟩:=hA2.wC c m o n y e;exact⟨m,l,by simp[h]⟩
 refine⟨fun c=>(Xl ((dp,0,[ka,kr,.ptr sp 0 0])::(A1++A2))).F c∨F1 c,B1.join (fun g1 g2=>?_) fun c hc=>hc⟩;exact⟨ka,kr,sp,F1,S,roots,h0,.inl ⟨_,_,List.mem_cons_self ..⟩,h1,fun c m o n y e=>.inl (f1 c m o n y e),h2,fun c m o n y e=>.inl (f2 c m o n y e),g2,fun c hc=>.inr hc,wfS,wf,hl,hr⟩
end
theorem jh{T:Nat}{S S':Uf}(W:ZI T S)(h:S<+:S'){r:Nat}(hr:r<S.length):WB T S' r=WB T S r:=by
 unfold WB;exact List.map_congr_left fun c _=>YF W h hr c
theorem PS{a:Au}{S S':Uf}{rs:List Nat}{r i:Nat}{row:List Int}(wfS:ZI a.tr S)(wf':ZI a.tr S')(hp:S<+:S')(hr:r<S'.length)(hl:rs.length=i)(hi:a.nx[i]? =some row)(hrow:row.length=2^a.tr)(he: ∀c,c<2^a.tr→row[c]? =some (US S' r c))
  (h: ∀(s r:Nat),rs[s]? =some r→r<S.length∧a.nx[s]? =some (WB a.tr S r)): ∀(s q:Nat),(rs++[r])[s]? =some q→q<S'.length∧a.nx[s]? =some (WB a.tr S' q):=by
 intro s q hs
 by_cases hlt:s<rs.length
 ·rw[List.getElem?_append_left hlt]at hs;obtain⟨h1,h2⟩:=h s q hs;exact⟨Nat.lt_of_lt_of_le h1 hp.length_le,by rw[h2,jh wfS hp h1]⟩
 ·have h3:=(List.getElem?_eq_some_iff.1 hs).1;rw[List.length_append,List.length_singleton]at h3
  have h4:s=rs.length:=by omega
  subst h4;rw[List.getElem?_append_right (Nat.le_refl _),Nat.sub_self]at hs
  injection hs with hs
  subst hs;exact⟨hr,by rw[hl,hi,xj hrow he]⟩

theorem Wz{st:St}(hf:Qh st){a:Au}(wf:Xu a){ka kn:AV}{ls:List (List AV)}(hA:Jg st.h.get [] 1 (bC a.acc) ka)(hN:qp st.h.get a.nx kn ls): ∃v st',QV 208 [.agg [iZ (a.tr:Nat),ka,kn]] st v st'∧ ∃dp F,v=.tup [.ptr dp 0 0,iZ 0]∧JH st' F dp a∧Vn st st' F∧Qt st st':=by
 have htr:=wf.tr;have hps:=wf.pos;have hmo:=wf.most;have hln:=wf.len;have hen:a.n=a.acc.length:=rfl;have hac:=hA.cell;have hnc:=hN.r.cell;have hp64:=JL wf.tr;have B:=Ql.start hf;refine Jv Tryz.func208 Tryz.ntmps208 fun T K=>?_;have M:=B.mem;refine Qb 0 K M fun _ K=>?_;refine JK K M rfl (Qa rfl (Qa hA.cell (Qa hN.r.cell QL))) Q9 fun c1 _ _ K M=>?_;refine Qb 3 K M fun _ K=>?_;replace B:=B.step M;obtain⟨v8,st8,ev8,rfl,q8⟩:=fD B.fresh wf (B.Cf hf hA) (hN.J5 hf fun c hc=>B.J5 c hc id);refine p1 K (Qf rfl ev8) fun _ K=>?_;replace B:=B.quiet q8;have M:=B.mem;refine Qb 2 K M fun _ K=>?_;refine QT (l:=[(0,0),(1,0),(2,0),(3,0),(4,1),(5,0),(6,0),(7,0),(8,0)]) (by kernel_rfl) ?_;have Mq:=M;refine UT 2 K M fun _ K=>?_;obtain⟨v12,st12,ev12,ks12,rfl,nr12,q12⟩:=Gv M.fresh ((B.step M).Cf hf hA) Qd;refine qA rfl K (Qf rfl ev12) fun _ K=>?_;obtain⟨A12,hA12,M⟩:=M.Yq q12 nr12;simp only[W4]at M;have Mp:=Mq;have Mq:=M;refine UT 1 K M fun _ K=>?_;refine JE rfl K rfl (M.load (k:=0) rfl (Qc Qs rfl)) (Mp.load (k:=0) rfl (Qc Qs rfl)) (Ul rfl) rfl Q9 fun _ K=>?_;replace B:=B.step M;obtain⟨v15,st15,ev15,sp,F15,rfl,hS15,nf15,q15⟩:=Tu B.fresh wf.tr;refine qA rfl K (Qf rfl ev15) fun _ K=>?_;replace B:=B.new (o:=Xi F15 sp a.tr []) q15 hS15.at_ nf15;have M:=B.mem;have Mp:=Mq;have Mq:=M;refine q1 rfl K (XW IE rfl ((Uw rfl hA12.cell rfl).trans ((Zt rfl rfl rfl).trans rfl))) fun _ K=>?_;refine wY rfl K M rfl (Qa hA12.cell (Qa rfl (Qa rfl QL))) rfl fun c17 _ _ K M=>?_;refine q1 rfl K (Uu rfl) fun _ K=>Jd ?_;show W _ _ _ _ _ _ _;refine Qb 1 K M fun _ K=>?_;refine p1 K (Qi rfl (M.load (k:=1) rfl (Qc QW rfl))) fun _ K=>p1 K (Q0 UO rfl rfl hN.len) fun _ K=>?_;refine Qb 1 K M fun _ K=>?_;refine Je (fun mm1 T st9=> ∃(i:Nat) (rs:List Nat) (kr:AV) (A:QP) (F:Fp) (S:Uf),mm1=a.nx.length-i∧QH [(2,.nilp),(3,iZ 0),(4,.ptr c17 0 0),(19,kn),(20,iZ (a.nx.length:Nat)),(21,iN i)] T∧Ql st Ei st9 ((c17,0,[v12,kr,.ptr sp 0 0])::(c1,0,[iZ (a.tr:Nat),ka,kn])::(A12++(A++[]))) [Xi F sp a.tr S]∧Acc 0 1 A kr (zC (zN rs))∧i≤a.nx.length∧rs.length=i∧ZI a.tr S∧S.length≤i *127∧(∀(s r:Nat),rs[s]? =some r→r<S.length∧a.nx[s]? =some (WB a.tr S r))) (fun mm1 T st9 hI=>?_) _ _ _ ⟨0,[],.nils,[],_,[],rfl,(K.sub rfl),(B.step M).less (.refl _),.none,(Nat.zero_le _),rfl,(ZI.nil _),(Nat.zero_le _),(fun s r h=>by simp at h)⟩;obtain⟨i,rs,kr,A,F,S,rfl,K,B,hA4,hi,hrl,wfS,hSl,hrs⟩:=hI;have M:=B.mem;refine Qb 1 K M fun _ K=>?_;refine U8 K rfl (fun h22=>?_) fun h22=>?_
 ·refine Qb 0 K M fun _ K=>?_;obtain⟨s23,hi23⟩:=YL a.nx i Qd;obtain⟨_,hc23,w23,rfl,hr23,hz23⟩:=hN.at_ _ _ hi23;refine oI ((B.step M).Cf hf hN.r) hc23 K QK Jn rfl rfl rfl fun _ _ _ _ K=>?_;refine Qb 1 K M fun _ K=>?_;refine QT (l:=[(5,0),(6,0),(7,0),(8,0),(9,0),(10,0),(1,0),(2,0),(3,0),(4,1),(11,0),(12,0),(0,0),(13,0),(14,0),(15,0)]) (by kernel_rfl) ?_;have Mq:=M;refine UT 5 K M fun _ K=>?_;replace B:=B.step M;have hs24:=wf.row s23 (List.mem_of_getElem? hi23)
  have hlB:(S.length:Nat)+(2^(a.tr-0+1)-1)≤1000000000:=by rw[Nat.sub_zero,Nat.pow_succ];omega
  obtain⟨v35,st35,ev35,r35,S35,rfl,ho35,mb35,hev35⟩:=zb B.fresh (B.ID (k:=0) rfl) wf.tr wfS hlB (B.Cf hf hr23) (B.off (k:=0) rfl hf hr23 fun _ _ _ _ _ _=>id) hs24.1 (fun x hx=>by have:=hs24.2 x hx;omega);refine qA rfl K (Qf rfl ev35) fun _ K=>?_;obtain⟨F35,B⟩:=B.V2 ho35;have M:=B.mem;have Mp:=Mq;have Mq:=M;refine UT 3 K M fun _ K=>?_;refine JE rfl K rfl (M.load (k:=0) rfl (Qc Jn rfl)) (Mp.load (k:=0) rfl (Qc Jn rfl)) (Ul (YM hA4.len)) rfl Q9 fun _ K=>?_;refine Eo rfl K M QR HJ rfl rfl rfl rfl rfl fun c36 _ _ K M=>?_;refine Zx (k2:=0) (L:=((c36,0,[iN r35])::(c17,0,[v12,kr,.ptr sp 0 0])::(c1,0,[iZ (a.tr:Nat),ka,kn])::(A12++[]))) (B:=[]) rfl K (Mem.cast M Za) hA4 QR rfl rfl rfl rfl (by simp only[Qy,List.length_map];omega) rfl fun ks37 A37 _ _ K hA37 M=>?_;simp only[W4]at M;have Mp:=Mq;have Mq:=M;refine UT 3 K M fun _ K=>?_;refine XJ (k:=1) rfl K M rfl rfl rfl XP (hA37.cell) rfl fun _ M=>?_;have Mp:=Mq;have Mq:=M;refine Jd ?_;show W _ _ _ _ _ _ _;refine Qb 2 K M fun _ K=>?_;exact⟨_,Qd,i+1,rs++[r35],ks37,A37,_,S35,rfl,(K.sub rfl),(B.step M).less (.cons _ (.refl _)),(by rw[EX,JJ];exact hA37),Qd,(by rw[List.length_append,hrl];rfl),mb35.wf,(by have:=mb35.len;rw[Nat.pow_succ]at this;omega),(PS wfS mb35.wf mb35.pre mb35.lt hrl hi23 hs24.1 hev35 hrs)⟩
 refine QM ?_;show W _ _ _ _ _ _ _;refine Qb 3 K M ?_;obtain⟨F',B'⟩:=Ql.fh (M:=[]) (((B.step M).less ((.cons_cons _ (.cons _ (.refl _)))))) hA12 hA4 wfS wf Qd hrs;exact⟨_,F',rfl,B'.RE (k:=0) rfl,B'.ve (k:=0) rfl,B'.qt⟩
end
section
variable {s:Nat}

theorem Fa{l:List Nat}{i r:Nat}(h:l[i]? =some r):(zC (zN l))[i]? =some [.int .i64 (r:Nat)]:=JG (by rw[List.getElem?_map,h];rfl)
theorem Au.iP{a:Au}{b:Bool}(h:a.acc[s]? =some b):a.ok s=b:=by unfold Au.ok;rw[h];rfl
structure Kx(st:St)(F:Fp)(dp:Nat)(a:Au)(ka kr:AV)(sp:Nat)(F1:Fp)(S:Uf)(roots:List Nat):Prop where
 row:Qu st.h.get dp 0 [ka,kr,.ptr sp 0 0]
 dpF:F dp
 acc:Jg st.h.get [] 1 (bC a.acc) ka
 accF:zB F ka
 rt:Jg st.h.get [] 1 (zC (zN roots)) kr
 rtF:zB F kr
 ID:EU st.h.get F1 sp a.tr S
 sub: ∀c,F1 c→F c
 wfS:ZI a.tr S
 wf:Xu a
 len:roots.length=a.n
 rts: ∀(s r:Nat),roots[s]? =some r→r<S.length∧a.nx[s]? =some (WB a.tr S r)
 hi: ∀c,F c→c<st.n
theorem JH.x{st:St}{F:Fp}{dp:Nat}{a:Au}(hD:JH st F dp a): ∃ka kr sp F1 S roots,Kx st F dp a ka kr sp F1 S roots:=by
 obtain⟨ka,kr,sp,F1,S,roots,h1,h2,h3,h4,h5,h6,h7,h8,h9,h10,h11,h12⟩:=hD.at_;exact⟨ka,kr,sp,F1,S,roots,h1,h2,h3,h4,h5,h6,h7,h8,h9,h10,h11,h12,hD.hi⟩
section
variable {st st':St} {F:Fp} {dp:Nat} {a:Au} {ka kr:AV} {sp:Nat} {F1:Fp} {S:Uf} {roots:List Nat}
theorem Kx.q(hX:Kx st F dp a ka kr sp F1 S roots)(q:Qt st st'):Kx st' F dp a ka kr sp F1 S roots:=by
 have e: ∀c,F c→st'.h.get c=st.h.get c:=fun c hc=>q.J5 c (hX.hi c hc);exact⟨hX.row.frame (e dp hX.dpF),hX.dpF,hX.acc.frame fun c m o n y e'=>e c (hX.accF c m o n y e'),hX.accF,hX.rt.frame fun c m o n y e'=>e c (hX.rtF c m o n y e'),hX.rtF,hX.ID.frame fun c hc=>e c (hX.sub c hc),hX.sub,hX.wfS,hX.wf,hX.len,hX.rts,fun c hc=>Nat.lt_of_lt_of_le (hX.hi c hc) q.le⟩
theorem Kx.i(hX:Kx st F dp a ka kr sp F1 S roots):YO st F1 sp a.tr S:=⟨hX.ID,fun c hc=>hX.hi c (hX.sub c hc)⟩
end
theorem MR{st:St}(hf:Qh st){F:Fp}{dp:Nat}{a:Au}{ka kr:AV}{sp:Nat}{F1:Fp}{S:Uf}{roots:List Nat}(hX:Kx st F dp a ka kr sp F1 S roots): ∃v st',QV 164 [.ptr dp 0 0] st v st'∧v=.ptr sp 0 0∧Qt st st':=by
 have wf:=hX.wf;have hen:a.n=a.acc.length:=rfl;have hrl:=hX.len;refine Jv Tryz.func164 Tryz.ntmps164 fun T K=>?_;have M:=Mem.start hf;refine Qb 2 K M fun _ K=>?_;refine p1 K (UA J7 rfl rfl) fun _ K=>?_;refine Qb 4 K M fun _ K=>?_;refine p1 K (Qi rfl (Qr (M.Jf Qx hX.row.QI) (Qc Jo rfl))) fun _ K=>?_;refine Qb 1 K M ?_;exact⟨rfl,M.qt⟩

theorem Nq{st:St}(hf:Qh st){F:Fp}{dp:Nat}{a:Au}{ka kr:AV}{sp:Nat}{F1:Fp}{S:Uf}{roots:List Nat}(hX:Kx st F dp a ka kr sp F1 S roots): ∃v st',QV 107 [.ptr dp 0 0] st v st'∧v=iZ (a.tr:Nat)∧Qt st st':=by
 have wf:=hX.wf;have hen:a.n=a.acc.length:=rfl;have hrl:=hX.len;refine Jv Tryz.func107 Tryz.ntmps107 fun T K=>?_;have M:=Mem.start hf;refine Qb 2 K M fun _ K=>?_;refine oQ K M (MR M.fresh (hX.q M.qt)) rfl rfl fun _ _ K M=>?_;refine oQ K M (WT M.fresh (hX.q M.qt).i) rfl rfl fun _ _ K M=>?_;refine Qb 1 K M ?_;exact⟨rfl,M.qt⟩

theorem Yg{st:St}(hf:Qh st){F:Fp}{dp:Nat}{a:Au}(hD:JH st F dp a): ∃v st',QV 107 [.ptr dp 0 0] st v st'∧v=.int .i64 (a.tr:Nat)∧Qt st st':=by
 obtain⟨_,_,_,_,_,_,hX⟩:=hD.x;exact Nq hf hX

theorem Nr{st:St}(hf:Qh st){F:Fp}{dp:Nat}{a:Au}{ka kr:AV}{sp:Nat}{F1:Fp}{S:Uf}{roots:List Nat}(hX:Kx st F dp a ka kr sp F1 S roots): ∃v st',QV 158 [.ptr dp 0 0] st v st'∧v=iZ (a.n:Nat)∧Qt st st':=by
 have wf:=hX.wf;have hen:a.n=a.acc.length:=rfl;have hrl:=hX.len;refine Jv Tryz.func158 Tryz.ntmps158 fun T K=>?_;have M:=Mem.start hf;refine Qb 2 K M fun _ K=>?_;refine p1 K (UA J7 rfl rfl) fun _ K=>?_;refine Qb 4 K M fun _ K=>?_;refine p1 K (Qi rfl (Qr (M.Jf Qx hX.row.QI) (Qc JP rfl))) fun _ K=>p1 K (Q0 VS rfl rfl (hX.acc.len.trans (congrArg some (Vi _)))) fun _ K=>?_;refine Qb 1 K M ?_;exact⟨rfl,M.qt⟩

theorem AB{st:St}(hf:Qh st){F:Fp}{dp:Nat}{a:Au}(hD:JH st F dp a): ∃v st',QV 158 [.ptr dp 0 0] st v st'∧v=.int .i64 (a.n:Nat)∧Qt st st':=by
 obtain⟨_,_,_,_,_,_,hX⟩:=hD.x;exact Nr hf hX

theorem aY{st:St}(hf:Qh st){F:Fp}{dp:Nat}{a:Au}{ka kr:AV}{sp:Nat}{F1:Fp}{S:Uf}{roots:List Nat}(hX:Kx st F dp a ka kr sp F1 S roots)(hs:s<a.n): ∃v st',QV 259 [.ptr dp 0 0,iN s] st v st'∧v=.bool true∧Qt st st':=by
 have wf:=hX.wf;have hen:a.n=a.acc.length:=rfl;have hrl:=hX.len;refine Jv Tryz.func259 Tryz.ntmps259 fun T K=>?_;have M:=Mem.start hf;refine Qb 3 K M fun _ K=>?_;refine U5 K rfl (fun _ e7 K=>?_) fun _ e7 K=>?_
 ·exfalso;omega
 refine Qb 2 K M fun _ K=>?_;obtain⟨v10,st10,ev10,rfl,q10⟩:=Nr M.fresh (hX.q M.qt);refine pg K rfl rfl (Qf rfl ev10) fun _ K=>?_;replace M:=M.quiet q10;refine Qb 3 K M ?_;exact⟨congrArg AV.bool (decide_eq_true Qd),M.qt⟩

theorem DT{st:St}(hf:Qh st){F:Fp}{dp:Nat}{a:Au}{ka kr:AV}{sp:Nat}{F1:Fp}{S:Uf}{roots:List Nat}(hX:Kx st F dp a ka kr sp F1 S roots)(hs:s<a.n): ∃v st',QV 207 [.ptr dp 0 0,iN s] st v st'∧v=.bool (a.ok s)∧Qt st st':=by
 have wf:=hX.wf;have hen:a.n=a.acc.length:=rfl;have hrl:=hX.len;have hsa:s<a.acc.length:=hs;refine Jv Tryz.func207 Tryz.ntmps207 fun T K=>?_;have M:=Mem.start hf;refine Qb 3 K M fun _ K=>?_;refine oQ K M (aY M.fresh (hX.q M.qt) hs) rfl rfl fun _ _ K M=>?_;refine Qb 4 K M fun _ K=>?_;refine pg K rfl rfl (Qi rfl (Qr (M.Jf Qx hX.row.QI) (Qc JP rfl))) fun _ K=>?_;refine Qb 1 K M fun _ K=>?_;obtain⟨y14,hi14⟩:=YL a.acc s Qd;obtain⟨x14,m14,f14,q14,_,la14,lo14,lp14⟩:=(Jg.mem M hX.acc Qx).load (i:=s) (cs:=_) (fm hi14);refine pg K rfl rfl (Qn (j:=s) UI (congrArg some q14) rfl (by rw[Vi];omega)) fun _ K=>pg K rfl rfl (Qi rfl (lo14 _ 0 _ Vt rfl)) fun _ K=>?_;refine Qb 2 K M ?_;exact⟨congrArg AV.bool (Au.iP hi14).symm,M.qt⟩

theorem Zg{st:St}(hf:Qh st){F:Fp}{dp:Nat}{a:Au}(hD:JH st F dp a)(hs:s<a.n): ∃v st',QV 207 [.ptr dp 0 0,.int .i64 (s:Nat)] st v st'∧v=.bool (a.ok s)∧Qt st st':=by
 obtain⟨_,_,_,_,_,_,hX⟩:=hD.x;exact DT hf hX hs

end
end Go.Proofs.YtildagdnomiahaaGreatDoor
