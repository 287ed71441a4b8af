/-
  A row that grows, as a thing.
-/
import Derived.Test.YtildagdnomiahaaGreatDoorQgPjP
set_option maxHeartbeats 8000000
set_option maxRecDepth 100000
set_option linter.unnecessarySimpa false
set_option linter.unusedSimpArgs false
set_option linter.unusedVariables false
namespace Go.Proofs.YtildagdnomiahaaGreatDoor
open Go Go.RowKit
section

def Wr(h:Hp)(F:Fp)(z:Nat)(ks:AV)(ls:List (List AV)):Prop:= ∃A,Acc 0 z A ks ls∧(∀c m l,(c,m,l)∈A→Qw h c m l∧F c)
def Px(F:Fp)(z:Nat)(ks:AV)(ls:List (List AV)):Ob:=⟨F,fun h=>Wr h F z ks ls,fun h h' e H=>by
 obtain⟨A,h1,h2⟩:=H
 exact⟨A,h1,fun c m l hm=>⟨(h2 c m l hm).1.frame (e c (h2 c m l hm).2),(h2 c m l hm).2⟩⟩⟩
theorem Tu{n0 z:Nat}{A:QK}{ks:AV}{ls:List (List AV)}(hA:Acc n0 z A ks ls):(A.map Prod.fst).Nodup:=by cases hA<;>simp
section
variable {st0 st:St} {X0 F:Fp} {M A:QK} {Os:List Ob} {z:Nat} {ks:AV} {ls:List (List AV)}
theorem Wr.rd{h:Hp}(H:Wr h F z ks ls):Je h [] z ls ks:=by
 obtain⟨A,h1,h2⟩:=H
 cases h1 with
 |none=>exact .nil _ _ _
 |own k1 k2 k3=>exact Je.own (h2 _ _ _ (List.mem_cons_self ..)).1 k2 Qx Qe
theorem Wr.len{h:Hp}(H:Wr h F z ks ls):JU ks=some ls.length:=by obtain⟨A,h1,_⟩:=H;exact h1.len
theorem Wr.cell{h:Hp}(H:Wr h F z ks ls):Qu ks=true:=by obtain⟨A,h1,_⟩:=H;exact h1.cell
theorem Qj.uK(B:Qj st0 X0 st M (Px F z ks ls::Os)): ∃A,Acc 0 z A ks ls∧Qj st0 X0 st (A++M) Os:=by
 obtain⟨A,h1,h2⟩:=B.obj _ (List.mem_cons_self ..);have B1:=B.vD (R:=A) (o':=⟨WA,fun _=>True,fun _ _ _ h=>h⟩) h2 (Tu h1) trivial (fun c hc=>hc.elim) (fun c m l _ hc=>hc);exact⟨A,h1,B1.wv (.cons _ (.refl _))⟩
theorem Qj.qP(B:Qj st0 X0 st (A++M) Os)(hA:Acc 0 z A ks ls): ∃F',Qj st0 X0 st M (Px F' z ks ls::Os):=
 ⟨(ZG A).F,B.freeze (o:=Px (ZG A).F z ks ls) ⟨A,hA,fun c m l hm=>⟨B.row c m l (by simp[hm]),m,l,hm⟩⟩ fun c hc=>hc⟩
end
end
section
variable {l:Nat} {st:St}

def Zn(mp l:Nat)(o:Bool):Ob:=⟨fun c=>c=mp,fun h=>Qw h mp 0 [.int .i64 (l:Nat),.bool o],fun _ _ e H=>H.frame (e mp rfl)⟩
theorem Qj.TH(hf:Qg st){c m:Nat}{l:List AV}(h:Qw st.h.get c m l):Qj st (fun x=>x=c) st [(c,m,l)] []:=
 ⟨hf,Nat.le_refl _,fun c' m' l' h'=>(by injection List.mem_singleton.1 h' with e1 e2;injection e2 with e2 e3;subst e1 e2 e3;exact h),List.nodup_cons.2 ⟨by simp,List.nodup_nil⟩,fun c' m' l' h'=>(by injection List.mem_singleton.1 h' with e1 e2;exact .inr e1),fun o h=>(by cases h),fun o h=>(by cases h),.nil,fun o h=>(by cases h),fun _ _ _=>rfl⟩
def MK(l:Nat)(o:Bool)(n:Nat):Bool:= !o&&decide (n≤l)
def Xa(l:Nat)(o:Bool)(n:Nat):Nat:=if o then l else l-n
def WJ(l:Nat)(o:Bool)(n:Nat):Bool:=o||decide (l<n)
theorem uY{n:Nat}(h:n≤l):MK l false n=true:=by simp[MK,h]
theorem Ss(l n:Nat):Xa l false n=l-n:=rfl
theorem BA{n:Nat}(h:n≤l):WJ l false n=false:=by simp[WJ];omega

theorem uZ(hf:Qg st)(n:Int): ∃v st',QR 37 [iZ n] st v st'∧ ∃mp,v=.ptr mp 0 0∧st.n≤mp∧Qw st'.h.get mp 0 [iZ (n.toNat:Nat),.bool false]∧Qt st st':=by
 refine Jq Tryz.func37 Tryz.ntmps37 fun T K=>?_;have M:=Mem.start hf;refine Qb 2 K M fun _ K=>?_;refine p1 K (zW rfl rfl) fun _ K=>?_;refine au 3 K M ?_;intro c6 _ _ K _ M;refine Qb 0 K M ?_;refine⟨c6,rfl,(M.own c6 0 _ (List.mem_cons_self ..)).resolve_right Qx,?_,M.qt⟩;have hr9:=M.Uc (k:=0) rfl
 rwa [show max n 0=((n.toNat:Nat):Int) by omega]at hr9

theorem uX(hf:Qg st){mp:Nat}{o:Bool}(hr:Qw st.h.get mp 0 [iN l,.bool o]): ∃v st',QR 209 [.ptr mp 0 0] st v st'∧v=.bool o∧Qt st st':=by
 refine Jq Tryz.func209 Tryz.ntmps209 fun T K=>?_;have M:=Mem.start hf;refine Qb 2 K M fun _ K=>?_;refine p1 K (U0 FL rfl rfl) fun _ K=>?_;refine Qb 4 K M fun _ K=>?_;refine pg K rfl rfl (Qh rfl (Qp (M.QY Qx hr.QF) (Qc XJ rfl))) fun _ K=>?_;refine Qb 2 K M ?_;exact⟨rfl,M.qt⟩

theorem NC(hf:Qg st){mp:Nat}{o:Bool}(hr:Qw st.h.get mp 0 [.int .i64 (l:Nat),.bool o])(hl:l≤9223372036854775807)(n:Nat)(hn:n≤9223372036854775807): ∃v st',QR 157 [.ptr mp 0 0,.int .i64 (n:Nat)] st v st'∧v=.bool (MK l o n)∧(Zn mp (Xa l o n) (WJ l o n)).H st'.h.get∧YI (fun c=>c=mp) st st':=by
 have B:=Qj.TH hf hr;refine xI rfl Tryz.func157 rfl Tryz.ntmps157 rfl fun T hT=>?_;have K:QE [(0,_),(1,_)] T:=(.cons (hT 0) (.cons (hT 1) .nil));have M:=B.mem;refine Qb 3 K M fun _ K=>?_;refine Uv K rfl (fun _ e8 K=>?_) fun _ e8 K=>?_
 ·refine Qb 1 K M fun _ K=>?_;obtain⟨v10,st10,ev10,rfl,q10⟩:=uX M.fresh (M.Uc (k:=0) rfl);refine pg K rfl rfl (Qf rfl ev10) fun _ K=>?_;replace M:=M.quiet q10;refine Qb 2 K M fun _ K=>?_;refine YU K rfl (fun h5=>?_) fun h5=>?_
  ·have hb5:=h5;refine Qb 1 K M ?_;refine⟨congrArg AV.bool ?_,?_,(B.step M).U7⟩
   ·clear M B hr K hT
    cases o<;>simp_all [MK]<;>omega
   ·have hr9:=M.Uc (k:=0) rfl
    have e9:([.int .i64 (Xa l o n:Nat),.bool (WJ l o n)]:List AV)=[.int .i64 (l:Nat),.bool o]:=by
     clear M B hr K hT hr9
     cases o<;>simp_all [Xa,WJ]<;>omega
    show Qw _ mp 0 [.int .i64 (Xa l o n:Nat),.bool (WJ l o n)];rw[e9];exact hr9
  have hb5:=h5;refine Qb 7 K M fun _ K=>?_;refine Uk K rfl (fun h12=>?_) fun h12=>?_
  ·refine au 9 K M ?_;intro _ _ K _ M;refine Qb 0 K M ?_;refine⟨congrArg AV.bool ?_,?_,(B.step M).U7⟩
   ·clear M B hr K hT
    cases o<;>simp_all [MK]<;>omega
   ·have hr9:=M.Uc (k:=0) rfl
    have e9:([.int .i64 (Xa l o n:Nat),.bool (WJ l o n)]:List AV)=[.int .i64 0,.bool true]:=by
     clear M B hr K hT hr9
     cases o<;>simp_all [Xa,WJ]<;>omega
    show Qw _ mp 0 [.int .i64 (Xa l o n:Nat),.bool (WJ l o n)];rw[e9];exact hr9
  refine au 10 K M ?_;intro _ _ K _ M;refine Qb 0 K M ?_;refine⟨congrArg AV.bool ?_,?_,(B.step M).U7⟩
  ·clear M B hr K hT
   cases o<;>simp_all [MK]<;>omega
  ·have hr9:=M.Uc (k:=0) rfl
   have e9:([.int .i64 (Xa l o n:Nat),.bool (WJ l o n)]:List AV)=[.int .i64 ((((l:Nat):Int)-((n:Nat):Int))),.bool o]:=by
    clear M B hr K hT hr9
    cases o<;>simp_all [Xa,WJ]<;>omega
   show Qw _ mp 0 [.int .i64 (Xa l o n:Nat),.bool (WJ l o n)];rw[e9];exact hr9
 refine Qb 6 K M ?_;refine⟨congrArg AV.bool ?_,?_,(B.step M).U7⟩
 ·clear M B hr K hT
  cases o<;>simp_all [MK]<;>omega
 ·have hr9:=M.Uc (k:=0) rfl
  have e9:([.int .i64 (Xa l o n:Nat),.bool (WJ l o n)]:List AV)=[.int .i64 (l:Nat),.bool o]:=by
   clear M B hr K hT hr9
   cases o<;>simp_all [Xa,WJ]<;>omega
  show Qw _ mp 0 [.int .i64 (Xa l o n:Nat),.bool (WJ l o n)];rw[e9];exact hr9
end
section
variable {LL:List (List Int)} {fa fc:List AV} {fo:FuncId} {kL:AV} {lL:List (List AV)} {st:St}

theorem UU.qt{st':St}(hf:Qg st)(q:Qt st st'){c m:Nat}{l:List AV}(r:UU st.h.get c m l):UU st'.h.get c m l:=r.Lm hf (q.Lm []) Qx
theorem Je.qt{st':St}(hf:Qg st)(q:Qt st st'){z:Nat}{ls:List (List AV)}{v:AV}(r:Je st.h.get [] z ls v):Je st'.h.get [] z ls v:=r.J0 hf fun c hc=>q.J0 c hc

theorem Oa(hf:Qg st){l:List Bool}{kl:AV}(hl:Je st.h.get [] 1 (bC l) kl)(hn:l.length≤1000000): ∃v st',QR 212 [kl] st v st'∧ ∃ks,v=ks∧F9 st st' 1 ks (bC l)∧Qt st st':=by
 have hcl:=XA l;refine Jq Tryz.func212 Tryz.ntmps212 fun T K=>?_;have M:=Mem.start hf;refine Qb 2 K M fun _ K=>?_;refine p1 K (N4 (hl.len.trans (congrArg some (XA _))) Vr rfl rfl) fun _ K=>?_;refine Qb 0 K M fun _ K=>?_;refine YU K rfl (fun h4=>?_) fun h4=>?_
 ·have hb4:=h4;refine Qb 1 K M ?_
  have hbl:l=[]:=by
   have h:=hl.len;rw[PT h4]at h
   injection h with h
   rw[XA]at h;exact Yj h.symm
  exact⟨.nils,rfl,⟨[],by rw[hbl];exact .none,fun _ _ _ h=>by cases h⟩,M.qt⟩
 have hb4:=h4;refine au 2 K M ?_;intro c5 _ _ K _ M;replace M:=Mem.cast (M':=([(c5,0,[])]++[])) (Mem.perm M (List.perm_append_comm (α:=Nat×Nat×List AV) (l₁:=[(c5,0,[])]) (l₂:=[]))) Zg;have hA0c5:Acc st.n 1 [(c5,0,[])] (.sl c5 0 0 0 1) []:=Acc.own (n0:=st.n) (z:=1) (c:=c5) (m:=0) (ls:=[]) ((M.own c5 0 [] Qx).resolve_right Qx) Qx Qx;refine P5 (L:=[]) (A:=[(c5,0,[])]) (B:=[]) K M hA0c5 UM rfl rfl (Je.mem M hl Qx) (xW _) (by simp only[List.length_nil];omega) rfl fun ks7 A7 _ _ K hA7 M=>?_;refine Qb 1 K M ?_;refine⟨_,rfl,?_,M.qt⟩;have h:=Mem.uS (L:=[]) (B:=[]) M hA7
 simpa using h

theorem SB(hf:Qg st)(hLL:Tz st.h.get LL kL lL){p:List Int→Bool}(hC: ∀(s:List Int) (w:AV) (st1:St),s∈LL→Qt st st1→Je st1.h.get [] 1 (zC s) w→ ∃v st',QR fo (fa++([w]++fc)) st1 v st'∧v=.bool (p s)∧Qt st1 st'): ∃v st',QR 309 [kL,(AV.fn fo fa fc)] st v st'∧v=iZ (E9 p LL 0)∧Qt st st':=by
 have hLb:=hLL.r.EA;rw[hLL.ln]at hLb;refine Jq Tryz.func309 Tryz.ntmps309 fun T K=>?_;have M:=Mem.start hf;refine Qb 2 K M fun _ K=>?_;refine p1 K (Q4 UC rfl rfl hLL.len) fun _ K=>?_;refine Qb 1 K M fun _ K=>?_;refine QV (fun mm1 T st9=> ∃(i:Nat),mm1=LL.length-i∧QE [(0,kL),(1,(AV.fn fo fa fc)),(7,iZ (LL.length:Nat)),(8,iN i)] T∧Mem st.h.get st.n [] st9 []∧i≤LL.length∧E9 p LL 0=E9 p (LL.drop i) i) (fun mm1 T st9 hI=>?_) _ _ _ ⟨0,rfl,(K.sub rfl),M.less (.refl _),(Nat.zero_le _),rfl⟩;obtain⟨i,rfl,K,M,hi,hx⟩:=hI;refine Qb 1 K M fun _ K=>?_;refine Uk K rfl (fun h9=>?_) fun h9=>?_
 ·refine Qb 5 K M fun _ K=>?_;obtain⟨s14,hi14⟩:=YP LL i Qe;obtain⟨_,hc14,w14,rfl,hr14,hz14⟩:=hLL.at_ _ _ hi14;refine oI (Je.mem M hLL.r Qx) hc14 K J5 Jg rfl rfl rfl fun _ _ _ _ K=>?_;obtain⟨v16,st16,ev16,rfl,q16⟩:=hC s14 _ _ (List.mem_of_getElem? hi14) M.qt (Je.mem M hr14 Qx);refine p1 K (YZ rfl rfl ev16) fun _ K=>?_;replace M:=M.quiet q16;refine Qb 0 K M fun _ K=>?_;refine YU K rfl (fun h16=>?_) fun h16=>?_
  ·have hb16:=h16;refine Qb 2 K M ?_;exact⟨by rw[hx,Es hi14,if_pos h16],M.qt⟩
  have hb16:=h16;refine Qb 2 K M fun _ K=>?_;exact⟨_,Qe,i+1,rfl,(K.sub rfl),M.less (.refl _),Qe,(by rw[hx,Es hi14,if_neg (by rw[h16];decide)])⟩
 refine QO ?_;show W _ _ _ _ _ _ _;refine Qb 1 K M ?_;exact⟨by rw[hx,BR Qe],M.qt⟩

theorem Gm(hf:Qg st)(hLL:Tz st.h.get LL kL lL){p:List Int→Bool}(hC: ∀(s:List Int) (w:AV) (st1:St),s∈LL→Qt st st1→Je st1.h.get [] 1 (zC s) w→ ∃v st',QR fo (fa++([w]++fc)) st1 v st'∧v=.bool (p s)∧Qt st1 st'): ∃v st',QR 289 [kL,(AV.fn fo fa fc)] st v st'∧v=.bool (LL.any p)∧Qt st st':=by
 have hLb:=hLL.r.EA;rw[hLL.ln]at hLb;refine Jq Tryz.func289 Tryz.ntmps289 fun T K=>?_;have M:=Mem.start hf;refine Qb 3 K M fun _ K=>?_;refine oQ K M (SB M.fresh (hLL.J0 hf fun c hc=>M.J0 c hc Qx) (fun s w st1 hs q hr=>hC s w st1 hs (M.qt.trans q) hr)) rfl rfl fun _ _ K M=>?_;refine Qb 2 K M ?_;exact⟨by rw[←BS p LL 0],M.qt⟩

theorem Gl(hf:Qg st)(hLL:Tz st.h.get LL kL lL)(hC: ∀(s:List Int) (w:AV) (st1:St),s∈LL→Qt st st1→Je st1.h.get [] 1 (zC s) w→ ∃v st',QR fo (fa++([w]++fc)) st1 v st'∧v=.bool false∧Qt st1 st'): ∃v st',QR 289 [kL,.fn fo fa fc] st v st'∧v=.bool false∧Qt st st':=by
 obtain⟨v,st',h1,h2,h3⟩:=Gm (p:=fun _=>false) hf hLL hC;exact⟨v,st',h1,by rw[h2];simp,h3⟩

theorem xG(hf:Qg st){cn:Nat}{n x:Int}(hc:UU st.h.get cn 0 [iZ n])(h1:0≤x)(h2:x<n): ∃v st',QR 288 [iZ x,.ptr cn 0 0] st v st'∧v=.bool false∧Qt st st':=by
 refine Jq Tryz.func288 Tryz.ntmps288 fun T K=>?_;have M:=Mem.start hf;refine Qb 3 K M fun _ K=>?_;refine Uv K rfl (fun _ e6 K=>?_) fun _ e6 K=>?_
 ·refine Qb 1 K M fun _ K=>?_;refine pg K rfl rfl (Qh rfl (Qp (M.QY Qx hc) (Qc Qq rfl))) fun _ K=>?_;refine Qb 3 K M ?_;exact⟨congrArg AV.bool (decide_eq_false Qe),M.qt⟩
 exfalso;omega

theorem xF(hf:Qg st){a:Au}(wf:ZP a){ka kn:AV}{ca cf cn:Nat}(hca:UU st.h.get ca 0 [iZ (a.tr:Nat),ka,kn])(hcf:UU st.h.get cf 0 [.fn 288 [] [.ptr cn 0 0]])(hcn:UU st.h.get cn 0 [iZ (a.n:Nat)]){r:List Int}{kl:AV}(hm:r∈a.nx)(hl:Je st.h.get [] 1 (zC r) kl): ∃v st',QR 290 [kl,.ptr ca 0 0,.ptr cf 0 0] st v st'∧v=.bool false∧Qt st st':=by
 obtain⟨hr1,hr2⟩:=wf.row r hm;have hp:=JD wf.tr;have hr1':r.length=2^a.tr:=hr1;have htr:=wf.tr;refine Jq Tryz.func290 Tryz.ntmps290 fun T K=>?_;have M:=Mem.start hf;refine Qb 2 K M fun _ K=>?_;refine p1 K (Q4 Js rfl rfl (hl.len.trans (congrArg some (Q0 _)))) fun _ K=>?_;refine Qb 1 K M fun _ K=>?_;refine p1 K (Qh rfl (Qp (M.QY Qx hca) (Qc Qq rfl))) fun _ K=>p1 K (Z1 (n:=a.tr) rfl rfl Qe) fun _ K=>?_;refine Qb 1 K M fun _ K=>?_;refine oB K (QA rfl) rfl fun b11 _ e11 K=>?_;cases b11
 ·replace e11:(((r.length:Nat):Int)=((2^a.tr:Nat):Int)):=by simpa using e11
  refine Qb 1 K M fun _ K=>?_;refine pg K rfl rfl (Qh rfl (Qp (M.QY Qx hcf) (Qc AJ rfl))) fun _ K=>?_;obtain⟨v14,st14,ev14,rfl,q14⟩:=F5 (fo:=288) (fa:=[]) (fc:=[.ptr cn 0 0]) M.fresh (Je.mem M hl Qx) Qe (fun x hx st1 q=>xG q.fresh ((hcn.qt hf M.qt).qt M.fresh q) (hr2 x hx).1 (hr2 x hx).2);refine pg K rfl rfl (Qf rfl ev14) fun _ K=>?_;replace M:=M.quiet q14;refine Qb 2 K M ?_;exact⟨rfl,M.qt⟩
 replace e11: ¬(((r.length:Nat):Int)=((2^a.tr:Nat):Int)):=by simpa using e11
 exfalso;omega

theorem vh(hf:Qg st){a:Au}(wf:ZP a){ka kn:AV}{ls:List (List AV)}(hA:Je st.h.get [] 1 (bC a.acc) ka)(hN:Tz st.h.get a.nx kn ls): ∃v st',QR 260 [.agg [iZ (a.tr:Nat),ka,kn]] st v st'∧v=.bool true∧Qt st st':=by
 have htr:=wf.tr;have hps:=wf.pos;have hmo:=wf.most;have hln:=wf.len;have hen:a.n=a.acc.length:=rfl;have hac:=hA.cell;have hnc:=hN.r.cell;refine Jq Tryz.func260 Tryz.ntmps260 fun T K=>?_;have M:=Mem.start hf;refine Qb 0 K M fun _ K=>?_;refine J3 K M rfl (Qa rfl (Qa hA.cell (Qa hN.r.cell Q9))) Q8 fun c1 _ _ K M=>?_;refine Qb 3 K M fun _ K=>?_;refine p1 K (Q4 Vr rfl rfl (hA.len.trans (congrArg some (XA _)))) fun _ K=>?_;refine au 5 K M ?_;intro c3 _ _ K _ M;refine Uv K rfl (fun _ e11 K=>?_) fun _ e11 K=>?_
 ·refine Qb 4 K M fun _ K=>?_;refine Uv K rfl (fun _ e16 K=>?_) fun _ e16 K=>?_
  ·refine Qb 3 K M fun _ K=>?_;refine Uv K rfl (fun _ e20 K=>?_) fun _ e20 K=>?_
   ·refine Qb 3 K M fun _ K=>?_;refine Uv K rfl (fun _ e24 K=>?_) fun _ e24 K=>?_
    ·refine Qb 1 K M fun _ K=>?_;refine pg K rfl rfl (Qh rfl (M.load (k:=1) rfl (Qc QP rfl))) fun _ K=>pg K rfl rfl (Q4 UC rfl rfl hN.len) fun _ K=>?_;refine Qb 3 K M fun _ K=>?_;refine wO K rfl (fun h30=>?_) fun h30=>?_
     ·exfalso;omega
     refine Qb 0 K M fun _ K=>?_;refine p1 K (Yn rfl rfl) fun _ K=>?_;refine GA K M AD Q8 fun c4 _ _ K M=>?_;refine J9 (k:=0) K M rfl rfl rfl AM rfl rfl rfl fun _ M=>?_;refine Qb 1 K M fun _ K=>?_;refine p1 K (Qh rfl (M.load (k:=2) rfl (Qc QP rfl))) fun _ K=>p1 K (Yn rfl rfl) fun _ K=>?_;have hrw1:=(M.Uc (k:=2) rfl).QF;have hrw3:=(M.Uc (k:=1) rfl).QF;have hrw4:=(M.Uc (k:=0) rfl).QF;have hfr:=M.fresh;refine oQ K M (Gl (fo:=290) (fa:=[]) (fc:=[.ptr c1 0 0,.ptr c4 0 0]) M.fresh (hN.J0 hf fun c hc=>M.J0 c hc Qx) (fun s w st1 hs q hr=>xF q.fresh wf (hrw1.qt hfr q) (hrw4.qt hfr q) (hrw3.qt hfr q) hs hr)) rfl rfl fun _ _ K M=>?_;refine Qb 2 K M ?_;exact⟨rfl,M.qt⟩
    exfalso;omega
   exfalso;omega
  exfalso;omega
 exfalso;omega
end
end Go.Proofs.YtildagdnomiahaaGreatDoor
