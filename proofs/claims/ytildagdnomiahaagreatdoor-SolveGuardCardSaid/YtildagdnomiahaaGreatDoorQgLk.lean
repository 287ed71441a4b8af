/-
  Which words: the program's.
-/
import Derived.Test.YtildagdnomiahaaGreatDoorQgMnd
namespace Go.Proofs.YtildagdnomiahaaGreatDoor
open Go Go.RowKit
set_option maxHeartbeats 8000000
set_option linter.unusedVariables false
set_option linter.unusedSimpArgs false
set_option linter.unnecessarySimpa false
set_option linter.unusedSectionVars false
set_option maxRecDepth 100000
variable {F:Fp} {dp s:Nat} {out r:List Int} {y:Int}

structure P0(a:Au)(se:List Bool)(l:List Nat)(i:Nat):Prop where
 len:se.length=a.n
 lt: ∀s∈l,s<a.n
 nodup:l.Nodup
 iff: ∀s,s<a.n→(Wu se s=true↔s∈l)
 zero:0∈l
 most:i≤l.length
 done: ∀(j s:Nat),j<i→l[j]? =some s→ ∀c,c<a.K→a.go s c∈l
theorem yA(n s:Nat):Wu (List.replicate n false) s=false:=by
 unfold Wu;rw[List.getElem?_replicate]
 split<;>rfl
theorem P0.start{a:Au}(W:ZP a):P0 a ((List.replicate a.n false).set 0 true) [0] 0:=by
 have hp:=W.pos;refine⟨by simp,fun s hs=>by rw[List.mem_singleton.1 hs];omega,by simp,fun s hs=>?_,by simp,Nat.zero_le _,fun j s h=>absurd h (Nat.not_lt_zero j)⟩;rw[IC (by rw[List.length_replicate];omega),List.mem_singleton]
 by_cases h:s=0
 ·rw[if_pos h];exact⟨fun _=>h,fun _=>rfl⟩
 ·rw[if_neg h,yA];exact⟨fun e=>(by cases e),fun e=>absurd e h⟩
section
variable {a:Au} {se:List Bool} {l:List Nat} {i:Nat}
theorem P0.le(H:P0 a se l i):l.length≤a.n:=by
 have:=Xy (b:=List.range a.n) H.nodup fun s hs=>List.mem_range.2 (H.lt s hs)
 simpa using this
theorem P0.add(H:P0 a se l i){y:Nat}(hy:y<a.n)(hn:Wu se y=false):P0 a (se.set y true) (l++[y]) i:=by
 have hny:y∉l:=fun h=>by rw[(H.iff y hy).2 h]at hn;cases hn
 refine⟨by rw[List.length_set];exact H.len,fun s hs=>?_,List.nodup_append.2 ⟨H.nodup,by simp,fun x hx z hz e=>by rw[List.mem_singleton]at hz;subst hz e;exact hny hx⟩,fun s hs=>?_,by simp[H.zero],by have:=H.most;rw[List.length_append];omega,fun j s hj h c hc=>?_⟩
 ·rcases List.mem_append.1 hs with h|h
  ·exact H.lt s h
  ·rw[List.mem_singleton.1 h];exact hy
 ·rw[IC (by rw[H.len];exact hy),List.mem_append,List.mem_singleton]
  by_cases h:s=y
  ·rw[if_pos h];exact⟨fun _=>.inr h,fun _=>rfl⟩
  ·rw[if_neg h,H.iff s hs];exact⟨.inl,fun e=>e.resolve_right h⟩
 ·rw[List.getElem?_append_left (Nat.lt_of_lt_of_le hj H.most)]at h;exact List.mem_append_left _ (H.done j s hj h c hc)
theorem P0.next(H:P0 a se l i)(hs:l[i]? =some s)(h: ∀c,c<a.K→a.go s c∈l):P0 a se l (i+1):=by
 refine⟨H.len,H.lt,H.nodup,H.iff,H.zero,(List.getElem?_eq_some_iff.1 hs).1,fun j t hj ht=>?_⟩
 by_cases e:j=i
 ·subst e;rw[hs]at ht
  injection ht with ht
  subst ht;exact h
 ·exact H.done j t Qe ht
theorem P0.all(H:P0 a se l i)(C:Canon a)(hi:i=l.length): ∀s,s<a.n→s∈l:=C.reach H.zero fun s c hs _ hc=>by
 obtain⟨j,hj⟩:=List.getElem?_of_mem hs;exact H.done j s (by rw[hi];exact(List.getElem?_eq_some_iff.1 hj).1) hj c hc
end
theorem D8(l:List Int)(z:Int):z∈Uu l↔z∈l:=(List.mergeSort_perm _ _).mem_iff
theorem yK{a:Au}(q:List Int)(h: ∀z,z∈q↔0≤z∧z<((a.n:Nat):Int)):(q.any fun z=>a.ok z.toNat)=a.acc.any id:=by
 rw[Bool.eq_iff_iff,List.any_eq_true,List.any_eq_true];constructor
 ·rintro⟨z,hz,e⟩
  have:=(h z).1 hz;unfold Au.ok at e;rw[List.getElem?_eq_getElem (show z.toNat<a.acc.length by have:a.n=a.acc.length:=rfl;omega)]at e;exact⟨_,List.getElem_mem _,e⟩
 ·rintro⟨b,hb,e⟩
  obtain⟨s,hs⟩:=List.getElem?_of_mem hb;have hlt:=(List.getElem?_eq_some_iff.1 hs).1;refine⟨((s:Nat):Int),(h _).2 ⟨by omega,by have:a.n=a.acc.length:=rfl;omega⟩,?_⟩;unfold Au.ok;rw[Int.toNat_natCast,hs];exact e
theorem take_set{α:Type}{l:List α}{i:Nat}(h:i<l.length)(x:α):(l.set i x).take (i+1)=l.take i++[x]:=by
 rw[List.take_add_one,List.take_set_of_le (Nat.le_refl i),List.getElem?_set_self h];rfl
theorem E0{a:Au}{i:Nat}{x:Int}(h:out.take i=(Cd a).take i)(hl:out.length=a.n)(hi:i<a.n)(hx:x=if a.ok i then 0 else-1):(out.set i x).take (i+1)=(Cd a).take (i+1):=by
 rw[take_set Qe,List.take_add_one,h]
 congr 1
 unfold Cd;rw[List.getElem?_map,List.getElem?_eq_getElem hi,hx];unfold Au.ok;rw[List.getElem?_eq_getElem hi];rfl
theorem qy{a:Au}{n:Nat}(h1:out[s]? =some y)(h2:y<0)(h3:a.nx[s]? =some r)(h4:(r.any fun t=>decide (cv out t.toNat=((n:Nat):Int)))=true):No a n out s=out.set s (((n:Nat):Int)+1):=by
 unfold No;rw[h3,Option.getD_some,if_pos ⟨by unfold cv;rw[h1];exact h2,h4⟩];rfl
theorem Rl{a:Au}{n:Nat}(h1:out[s]? =some y)(h3:a.nx[s]? =some r)(h4:y<0→(r.any fun t=>decide (cv out t.toNat=((n:Nat):Int)))=false):No a n out s=out:=by
 unfold No;rw[h3,Option.getD_some,if_neg]
 rintro⟨e1,e2⟩
 unfold cv at e1;rw[h1]at e1;rw[h4 e1]at e2;cases e2
theorem qm{p:Int→Bool}: ∀{l:List Int} {i c:Nat},ym p l i=some c→E9 p l i=((c:Nat):Int)∧i≤c∧c<i+l.length
 |[],i,c,h=>by cases h
 |z::l,i,c,h=>by
  rw[ym]at h;rw[E9]
  split at h
  ·rename_i hz
   injection h with h
   subst h;rw[if_pos hz];exact⟨rfl,Nat.le_refl _,by simp⟩
  ·rename_i hz;rw[if_neg hz];obtain⟨h1,h2,h3⟩:=qm h;exact⟨h1,by omega,by simp only[List.length_cons];omega⟩
theorem CW{a:Au}{far:List Int}{f:Nat}{w:List Nat}(hw:AH a far f s=some w)(h1:far[s]? =some y)(h2:0<y)(h3:a.nx[s]? =some r):
  ∃f' c w',f=f'+1∧w=c::w'∧E9 (fun t=>decide (cv far t.toNat=y-1)) r 0=((c:Nat):Int)∧c<r.length∧AH a far f' (a.go s c)=some w':=by
 have hy:cv far s=y:=by unfold cv;rw[h1];rfl
 cases f with
 |zero=>cases hw
 |succ f=>
  rw[AH,hy,if_neg Qe,h3,Option.getD_some]at hw
  split at hw
  ·cases hw
  ·rename_i c hc
   split at hw
   ·cases hw
   ·rename_i w' hw'
    injection hw with hw
    obtain⟨k1,k2,k3⟩:=qm hc;exact⟨f,c,w',rfl,hw.symm,k1,by omega,hw'⟩
theorem RC{a:Au}{far:List Int}{f:Nat}{w:List Nat}(hw:AH a far f s=some w)(h1:far[s]? =some y)(h2: ¬0<y):w=[]:=by
 have hy:cv far s=y:=by unfold cv;rw[h1];rfl
 cases f with
 |zero=>cases hw
 |succ f=>
  rw[AH,hy,if_pos Qe]at hw
  injection hw with hw
  exact hw.symm
section
variable {h0:Hp} {n0:Nat} {X:List Nat} {st:St} {L A B:Uq} {ks:AV} {l:List Int}
theorem Dc(hM:Mem h0 n0 X st (L++(A++B)))(hA:Acc 0 1 A ks (zC l))(hb1:l.length≤1000000):
  ∃v st' A',QR 261 [ks] st v st'∧v=.tup []∧Mem h0 n0 X st' (L++(A'++B))∧Acc 0 1 A' ks (zC (Uu l)):=by
 have hb:=hA.EA;rw[Q0]at hb;have h00:Uu []=[]:=Yj (JM []);generalize hg:zC l=ls at hA
 cases hA with
 |none=>
  have hl:l=[]:=Yj (by have h:=congrArg List.length hg;rw[Q0]at h;exact h);subst hl;exact⟨_,st,[],WT (V0:=fun _=>.tup []) (F:=Uu) (V:=W4) rfl hM.fresh,rfl,hM,by rw[h00];exact .none⟩
 |own hc hz hb'=>
  rename_i c m;subst hg
  by_cases hl:l=[]
  ·subst hl;exact⟨_,st,_,WS (V0:=fun _=>.tup []) (F:=Uu) (V:=W4) rfl hM.fresh c m,rfl,hM,by rw[h00];exact .own hc hz hb'⟩
  ·have hrow:Qw st.h.get c m (zC l).flatten:=hM.O8 (A:=[(c,m,(zC l).flatten)]) Qx
   have hs:Zv (zC l).flatten=some l:=by rw[AF];exact X6 l
   obtain⟨v,st',h1,h2,h3,h4⟩:=Ae (F:=Uu) (V:=W4) (V0:=fun _=>.tup []) (G:=SS) (P:=Tryz.prog) (f:=261) rfl hM.fresh hrow hs hl hb1 (JM _);rw[←AF]at h3;refine⟨v,st',[(c,m,(zC (Uu l)).flatten)],?_,h2,Mem.Pm (L:=L) (B:=B) hM h4 h3,?_⟩
   ·rw[Q0];exact h1
   ·have:=Acc.own (m:=m) (ls:=zC (Uu l)) hc (Om _) (by rw[Q0,JM];exact hb);rw[Q0,JM]at this;rw[Q0];exact this
end

theorem TV{st:St}(hf:Qg st){a:Au}(hD:JH st F dp a)(C:Canon a): ∃v st',QR 211 [.ptr dp 0 0] st v st'∧ ∃kr q,v=kr∧F9 st st' 1 kr (zC q)∧(∀z,z∈q↔0≤z∧z<((a.n:Nat):Int))∧Qt st st':=by
 have wf:=hD.wf;have htr:=wf.tr;have hmo:=wf.most;have hps:=wf.pos;have hln:=wf.len;have hen:a.n=a.acc.length:=rfl;have hp6:=JD htr;have B:=Qj.start hf;have hrep:(List.replicate a.n false).length=a.n:=List.length_replicate ..;refine Jq Tryz.func211 Tryz.ntmps211 fun T K=>?_;have M:=B.mem;refine Qb 2 K M fun _ K=>?_;refine p1 K (U0 J2 rfl rfl) fun _ K=>?_;refine Qb 2 K M fun _ K=>?_;refine oQ K M (E5 M.fresh (hD.q (B.step M).qt)) rfl rfl fun _ _ K M=>?_;refine II AV.bool false (n:=a.n) K M UM Eh rfl Qe rfl fun c13 _ _ K M=>?_;refine Qb 2 K M fun _ K=>?_;obtain⟨y15,hi15⟩:=YP (List.replicate a.n false) 0 Qe;refine p1 K (Qs (j:=0) U5 rfl rfl Qe) fun _ K=>?_;refine J6 (k:=0) K M rfl rfl rfl El rfl (W9 AV.bool true Qe) fun _ M=>?_;refine au 2 K M ?_;intro c16 _ _ K _ M;replace M:=Mem.cast (M':=((c13,0,(((List.replicate a.n false).set 0 true).map AV.bool))::([(c16,0,[iZ 0])]++[]))) (Mem.perm M (List.perm_append_comm (α:=Nat×Nat×List AV) (l₁:=[(c16,0,[iZ 0])]) (l₂:=[(c13,0,(((List.replicate a.n false).set 0 true).map AV.bool))]))) Zg;have hAL0:Acc 0 1 [(c16,0,[iZ 0])] (.sl c16 0 0 1 1) [[iZ 0]]:=Acc.own (n0:=0) (z:=1) (c:=c16) (m:=0) (ls:=[[iZ 0]]) (Nat.zero_le _) Qx Qx;refine Qb 1 K M fun _ K=>?_;replace B:=B.step M;obtain⟨v18,st18,ev18,nau,q18⟩:=Fz B.fresh (hD.q B.qt);refine p1 K (Qf rfl ev18) fun _ K=>?_;obtain⟨kato,kn,vs,Ato,Fn,rfl,hAto,B⟩:=B.AZ q18 nau;replace B:=B.less (List.sublist_append_left _ _);have hkato:=hAto.cell;have hknc:Qu kn=true:=(YS.rd (B.at_ (k:=0) rfl)).cell;have M:=B.mem;refine p1 K (Xw rfl ((Ux _).trans (Qc QP rfl))) fun _ K=>?_;refine Qb 2 K M fun _ K=>?_;refine QV (fun mm1 T st9=> ∃(i:Nat) (se:List Bool) (ls:List Nat) (kl:AV) (Al:QK),mm1=a.n-i∧QE [(2,.nils),(3,.sl c13 0 0 a.n 1),(4,kl),(5,kn),(6,iN i)] T∧Qj st WA st9 ((c13,0,(se.map AV.bool))::(Al++[])) [LQ Fn kn vs a.nx]∧P0 a se ls i∧Acc 0 1 Al kl (zC (zN ls))) (fun mm1 T st9 hI=>?_) _ _ _ ⟨0,_,[0],(.sl c16 0 0 1 1),[(c16,0,[iZ 0])],rfl,(K.sub rfl),(B.step M).less (.refl _),(P0.start wf),hAL0⟩;obtain⟨i,se,ls,kl,Al,rfl,K,B,hm,hAl⟩:=hI;have M:=B.mem;have hlsn:=hm.le;have hsel:=hm.len;have hmost:=hm.most;refine Qb 2 K M fun _ K=>?_;refine p1 K (Q4 Js rfl rfl (hAl.len.trans (congrArg some (by rw[Q0,List.length_map])))) fun _ K=>?_;refine Qb 1 K M fun _ K=>?_;refine Uk K rfl (fun h23=>?_) fun h23=>?_
 ·refine Qb 3 K M fun _ K=>?_;obtain⟨y29,hi29⟩:=YP ls i Qe;have hls29:=hm.lt y29 (List.mem_of_getElem? hi29);refine oI (Mem.Zj (L:=[(c13,0,(se.map AV.bool))]) (B:=[]) M hAl) (IH hi29) K QG Qq rfl rfl rfl fun _ _ _ _ K=>?_;obtain⟨s31,hi31⟩:=YP a.nx y29 Qe;obtain⟨w31,hv31,hr31,hz31,hf31⟩:=((B.step M).at_ (k:=0) rfl).vs.at_ _ _ hi31;have hw31:=wf.row s31 (List.mem_of_getElem? hi31);have hl31:s31.length=2^a.tr:=hw31.1;refine oI ((B.step M).at_ (k:=0) rfl).rd (by rw[List.getElem?_map,hv31];rfl) K J5 Jg rfl rfl rfl fun _ _ _ _ K=>?_;refine p1 K (Q4 Js rfl rfl (hr31.len.trans (congrArg some (Q0 _)))) fun _ K=>?_;refine Qb 1 K M fun _ K=>?_;refine QV (fun mm2 T st9=> ∃(c:Nat) (se2:List Bool) (ls2:List Nat) (kl2:AV) (Al2:QK),mm2=2^a.tr-c∧QE [(2,.nils),(3,.sl c13 0 0 a.n 1),(4,kl2),(5,kn),(6,iN i),(23,.bool (decide (((i:Nat):Int)<((ls.length:Nat):Int)))),(32,w31),(33,iZ (s31.length:Nat)),(34,iN c)] T∧Qj st WA st9 ((c13,0,(se2.map AV.bool))::(Al2++[])) [LQ Fn kn vs a.nx]∧P0 a se2 ls2 i∧c≤2^a.tr∧ls2.take (i+1)=ls.take (i+1)∧(∀c',c'<c→a.go y29 c'∈ls2)∧Acc 0 1 Al2 kl2 (zC (zN ls2))) (fun mm2 T st9 hI=>?_) _ _ _ ⟨0,se,ls,kl,Al,rfl,(K.sub rfl),(B.step M).less (.refl _),hm,(Nat.zero_le _),rfl,(fun c' h=>absurd h (Nat.not_lt_zero c')),hAl⟩;obtain⟨c,se2,ls2,kl2,Al2,rfl,K,B,hm2,hcK,htk,hmem,hAl2⟩:=hI;have M:=B.mem;have hls2:=hm2.le;have hsel2:=hm2.len;have hi2:=Zq htk Qe;refine Qb 1 K M fun _ K=>?_;refine Uk K rfl (fun h35=>?_) fun h35=>?_
  ·refine Qb 0 K M fun _ K=>?_;obtain⟨y36,hi36⟩:=YP s31 c Qe;have hb36:=hw31.2 y36 (List.mem_of_getElem? hi36);obtain⟨z36,rfl⟩: ∃m:Nat,y36=((m:Nat):Int):=⟨_,(Int.toNat_of_nonneg hb36.1).symm⟩;refine oI (YS.row ((B.step M).at_ (k:=0) rfl) hi31 hv31) (JA hi36) K QG Qq rfl rfl rfl fun _ _ _ _ K=>?_;refine Qb 3 K M fun _ K=>?_;obtain⟨y40,hi40⟩:=YP se2 z36 Qe;refine p1 K (Qs (j:=z36) U5 rfl rfl Qe) fun _ K=>p1 K (Qh rfl (M.load (k:=0) rfl (Qc XJ (FX AV.bool hi40)))) fun _ K=>?_;refine Qb 1 K M fun _ K=>?_;refine YU K rfl (fun h42=>?_) fun h42=>?_
   ·have hb42:=h42
    replace h42:(y40)=false:=by simpa using h42
    refine Qb 2 K M fun _ K=>?_;obtain⟨y45,hi45⟩:=YP se2 z36 Qe;refine p1 K (Qs (j:=z36) U5 rfl rfl Qe) fun _ K=>?_;refine J6 (k:=0) K M rfl rfl rfl El rfl (W9 AV.bool true Qe) fun _ M=>?_;refine au 3 K M ?_;intro c48 _ _ K _ M;refine Jr (k2:=0) (L:=[(c48,0,[iN z36]),(c13,0,((se2.set z36 true).map AV.bool))]) (B:=[]) K M hAl2 QT rfl rfl rfl rfl (by simp only[Q0,zN,List.length_map];omega) rfl fun ks49 A49 _ _ K hA49 M=>?_;refine Qb 3 K M fun _ K=>?_;have hg36:a.go y29 c=z36:=U3 hi31 hi36;have hb40:=Zz hi40;have hm3:=hm2.add (y:=z36) Qe (by rw[hb40];exact h42)
    have hmem3: ∀c',c'<c+1→a.go y29 c'∈ls2++[z36]:=fun c' h=>by
     rcases Nat.lt_succ_iff_lt_or_eq.1 h with h|h
     ·exact List.mem_append_left _ (hmem c' h)
     ·subst h;rw[hg36];simp
    exact⟨_,Qe,c+1,_,(ls2++[z36]),ks49,A49,rfl,(K.sub rfl),(B.step M).less (.cons _ (.refl _)),hm3,Qe,(by rw[List.take_append_of_le_length hi2,htk]),hmem3,(by rw[Ei,Us];exact hA49)⟩
   have hb42:=h42
   replace h42:(y40)=true:=by simpa using h42
   refine Qb 2 K M fun _ K=>?_;have hg36:a.go y29 c=z36:=U3 hi31 hi36;have hb40:=Zz hi40;have hm3:=hm2
   have hmem3: ∀c',c'<c+1→a.go y29 c'∈ls2:=fun c' h=>by
    rcases Nat.lt_succ_iff_lt_or_eq.1 h with h|h
    ·exact hmem c' h
    ·subst h;rw[hg36];exact(hm2.iff z36 Qe).1 (by rw[hb40];first|exact h42|simpa using h42)
   exact⟨_,Qe,c+1,se2,ls2,kl2,Al2,rfl,(K.sub rfl),(B.step M).less (.refl _),hm3,Qe,htk,hmem3,hAl2⟩
  refine QO ?_;show W _ _ _ _ _ _ _;refine Qb 3 K M fun _ K=>?_;have e29:=Da htk;exact⟨_,Qe,i+1,se2,ls2,kl2,Al2,rfl,(K.sub rfl),(B.step M).less (.refl _),(hm2.next (by rw[←e29];exact hi29) (fun c' hc'=>hmem c' (by have:a.K=2^a.tr:=rfl;omega))),hAl2⟩
 refine QO ?_;show W _ _ _ _ _ _ _;refine Qb 1 K M fun _ K=>?_;obtain⟨v52,st52,As,ev52,rfl,M7,hAs⟩:=Dc (L:=[(c13,0,(se.map AV.bool))]) (B:=[]) M hAl (by simp only[zN,List.length_map];omega);refine p1 K (Qf rfl ev52) fun _ K=>?_;replace M:=M7;refine Qb 2 K M ?_;have hall:=hm.all C Qe;refine⟨_,Uu (zN ls),rfl,(B.step M).newRow hAs (fun c m l h=>by simp[h]),fun z=>?_,(B.step M).qt⟩;rw[D8];constructor
 ·intro hz;obtain⟨s,hs,rfl⟩:=List.mem_map.1 hz;have:=hm.lt s hs;omega
 ·intro hz;exact List.mem_map.2 ⟨z.toNat,hall _ Qe,by omega⟩

theorem qH{st:St}(hf:Qg st){a:Au}(hD:JH st F dp a)(C:Canon a): ∃v st',QR 159 [.ptr dp 0 0] st v st'∧v=.bool (!(a.acc.any id))∧Qt st st':=by
 have wf:=hD.wf;have htr:=wf.tr;have hmo:=wf.most;have hps:=wf.pos;have hln:=wf.len;have hen:a.n=a.acc.length:=rfl;have hp6:=JD htr;have B:=Qj.start hf;refine Jq Tryz.func159 Tryz.ntmps159 fun T K=>?_;have M:=B.mem;refine Qb 2 K M fun _ K=>?_;obtain⟨v4,st4,ev4,kr,q,rfl,nr,hq,q4⟩:=TV M.fresh (hD.q (B.step M).qt) C;refine p1 K (Qf rfl ev4) fun _ K=>?_;obtain⟨Ar,hAr,M⟩:=M.Y7 q4 nr;replace hAr:=hAr.z0;simp only[Vk]at M;refine Qb 1 K M fun _ K=>?_;refine p1 K (Yn rfl rfl) fun _ K=>?_;refine oQ K M (Xj (fo:=207) (fa:=[.ptr dp 0 0]) (fc:=[]) (p:=fun z=>a.ok z.toNat) M.fresh (Mem.Zj (L:=[]) (B:=[]) M hAr) (by have:=hAr.EA;rw[Q0]at this;omega) (fun x hx st1 q1=>by have hb:=(hq x).1 hx;have:=YC q1.fresh ((hD.q (B.step M).qt).q q1) (s:=x.toNat) Qe;rw[Int.toNat_of_nonneg hb.1]at this;exact this)) rfl rfl fun _ _ K M=>?_;refine Qb 2 K M ?_;exact⟨by rw[yK q hq],(B.step M).qt⟩

theorem jk{st:St}(hf:Qg st){co cn:Nat}{ko:AV}{nn:Int}(hco:UU st.h.get co 0 [ko])(ho:Je st.h.get [] 1 (zC out) ko)(hcn:UU st.h.get cn 0 [iZ nn]){t:Int}(h0:0≤t)(ht:t<((out.length:Nat):Int)): ∃v st',QR 214 [iZ t,.ptr co 0 0,.ptr cn 0 0] st v st'∧v=.bool (decide (cv out t.toNat=nn))∧Qt st st':=by
 refine Jq Tryz.func214 Tryz.ntmps214 fun T K=>?_;have M:=Mem.start hf;refine Qb 1 K M fun _ K=>?_;refine QQ (l:=[(0,0),(1,0),(2,0),(3,0),(4,0),(5,0),(6,0)]) (by kernel_rfl) ?_;refine q1 rfl K (Qh rfl (Qp (M.QY Qx hco) (Qc Jg rfl))) fun _ K=>q1 rfl K (QA rfl) fun _ K=>?_;obtain⟨y7,hi7⟩:=YP out ((t).toNat) Qe;obtain⟨x7,m7,f7,q7,_,la7,lo7,lp7⟩:=(Je.mem M ho Qx).load (i:=(t).toNat) (cs:=_) (JA hi7);refine q1 rfl K (Qs (j:=(t).toNat) QG (congrArg some q7) (congrArg (fun z=>some (iZ z)) (by omega:_=(((t).toNat:Nat):Int))) (by rw[Q0];omega)) fun _ K=>q1 rfl K (Qh rfl (lo7 _ 0 _ Qq rfl)) fun _ K=>q1 rfl K (Qh rfl (Qp (M.QY Qx hcn) (Qc Qq rfl))) fun _ K=>?_;refine Yd 2 K M fun _ K=>?_;refine Jf ?_;show W _ _ _ _ _ _ _;refine Qb 0 K M ?_;exact⟨by rw[show cv out t.toNat=y7 by unfold cv;rw[hi7];rfl],M.qt⟩

theorem yG{st:St}(hf:Qg st){a:Au}(hD:JH st F dp a){kn:AV}{ls:List (List AV)}(hN:Tz st.h.get a.nx kn ls): ∃v st',QR 161 [.ptr dp 0 0,kn] st v st'∧ ∃kr,v=kr∧F9 st st' 1 kr (zC (Zb a a.n))∧Qt st st':=by
 have wf:=hD.wf;have htr:=wf.tr;have hmo:=wf.most;have hps:=wf.pos;have hln:=wf.len;have hen:a.n=a.acc.length:=rfl;have hp6:=JD htr;have hrep:(List.replicate a.n (0:Int)).length=a.n:=List.length_replicate ..;have hknc:Qu kn=true:=hN.r.cell;have B:=Qj.start hf;refine Jq Tryz.func161 Tryz.ntmps161 fun T K=>?_;have M:=B.mem;refine Qb 2 K M fun _ K=>?_;refine oQ K M (E5 M.fresh (hD.q (B.step M).qt)) rfl rfl fun _ _ K M=>?_;refine II (fun z=>iZ z) 0 (n:=a.n) K M QT FI rfl Qe rfl fun c12 _ _ K M=>?_;refine au 5 K M ?_;intro c5 _ _ K _ M;refine QV (fun mm1 T st9=> ∃(i:Nat) (out:List Int),mm1=a.n-i∧QE [(0,.ptr dp 0 0),(1,kn),(4,.nils),(5,.ptr c5 0 0),(14,iZ (a.n:Nat)),(15,iN i)] T∧Qj st WA st9 [(c5,0,[.sl c12 0 0 a.n 1]),(c12,0,(out.map (fun z=>iZ z)))] []∧i≤a.n∧out.length=a.n∧out.take i=(Cd a).take i) (fun mm1 T st9 hI=>?_) _ _ _ ⟨0,_,rfl,(K.sub rfl),(B.step M).less (.refl _),(Nat.zero_le _),hrep,rfl⟩;obtain⟨i,out,rfl,K,B,hi,hol,htk⟩:=hI;have M:=B.mem;refine Qb 1 K M fun _ K=>?_;refine Uk K rfl (fun h16=>?_) fun h16=>?_
 ·refine Qb 4 K M fun _ K=>?_;obtain⟨y20,hi20⟩:=YP out i Qe;refine p1 K (Qs (j:=i) QG rfl rfl Qe) fun _ K=>?_;refine J6 (k:=1) K M rfl rfl rfl Oz rfl (W9 (fun z=>iZ z) (-1) Qe) fun _ M=>?_;refine Qb 2 K M fun _ K=>?_;refine oQ K M (YC M.fresh (hD.q (B.step M).qt) (s:=i) Qe) rfl rfl fun _ _ K M=>?_;refine Qb 0 K M fun _ K=>?_;refine YU K rfl (fun h23=>?_) fun h23=>?_
  ·have hb23:=h23;refine Qb 2 K M fun _ K=>?_;obtain⟨y26,hi26⟩: ∃x,(out.set i (-1))[i]? =some x:=⟨_,List.getElem?_eq_getElem (by simp only[List.length_set];omega)⟩;refine p1 K (Qs (j:=i) QG rfl rfl Qe) fun _ K=>?_;refine J6 (k:=1) K M rfl rfl rfl Oz rfl (W9 (fun z=>iZ z) 0 (by simp only[List.length_set];omega)) fun _ M=>?_;refine Qb 2 K M fun _ K=>?_;exact⟨_,Qe,i+1,_,rfl,(K.sub rfl),(B.step M).less (.refl _),Qe,(by simp only[List.length_set];exact hol),(by first|exact E0 htk hol Qe (by rw[h23];rfl)|(rw[List.set_set];exact E0 htk hol Qe (by rw[h23];rfl)))⟩
  have hb23:=h23;refine Qb 2 K M fun _ K=>?_;exact⟨_,Qe,i+1,_,rfl,(K.sub rfl),(B.step M).less (.refl _),Qe,(by simp only[List.length_set];exact hol),(by first|exact E0 htk hol Qe (by rw[h23];rfl)|(rw[List.set_set];exact E0 htk hol Qe (by rw[h23];rfl)))⟩
 refine QO ?_;show W _ _ _ _ _ _ _;refine au 2 K M ?_;intro c7 _ _ K _ M
 have hin:i=a.n:=by omega
 have hout:out=Zb a 0:=by rw[hin]at htk;rw[List.take_of_length_le Qe,List.take_of_length_le (by simp[Cd])]at htk;exact htk
 subst hout;refine QV (fun mm2 T st9=> ∃(n:Nat) (cn:Nat),mm2=a.n-n∧QE [(1,kn),(4,.nils),(5,.ptr c5 0 0),(7,.ptr cn 0 0)] T∧Qj st WA st9 [(cn,0,[iN n]),(c5,0,[.sl c12 0 0 a.n 1]),(c12,0,((Zb a n).map (fun z=>iZ z)))] []∧n≤a.n) (fun mm2 T st9 hI=>?_) _ _ _ ⟨0,c7,rfl,(K.sub rfl),(B.step M).less (.refl _),(Nat.zero_le _)⟩;obtain⟨n,cn,rfl,K,B,hn⟩:=hI;have M:=B.mem;have hfl:=VA (a:=a) n;refine Qb 4 K M fun _ K=>?_;refine Uk K rfl (fun h31=>?_) fun h31=>?_
 ·refine Qb 1 K M fun _ K=>?_;refine p1 K (Q4 UC rfl rfl hN.len) fun _ K=>?_;refine Qb 1 K M fun _ K=>?_;refine QV (fun mm3 T st9=> ∃(s:Nat),mm3=a.n-s∧QE [(1,kn),(4,.nils),(5,.ptr c5 0 0),(7,.ptr cn 0 0),(31,.bool (decide (((n:Nat):Int)<((a.n:Nat):Int)))),(34,kn),(35,iZ (a.nx.length:Nat)),(36,iN s)] T∧Qj st WA st9 [(cn,0,[iN n]),(c5,0,[.sl c12 0 0 a.n 1]),(c12,0,((V9 a n (Zb a n) s).map (fun z=>iZ z)))] []∧s≤a.n) (fun mm3 T st9 hI=>?_) _ _ _ ⟨0,rfl,(K.sub rfl),(B.step M).less (.refl _),(Nat.zero_le _)⟩;obtain⟨s,rfl,K,B,hs⟩:=hI;have M:=B.mem;have hfl2:(V9 a n (Zb a n) s).length=a.n:=(KR s).trans (VA n);refine Qb 1 K M fun _ K=>?_;refine Uk K rfl (fun h37=>?_) fun h37=>?_
  ·refine Qb 1 K M fun _ K=>?_;obtain⟨s39,hi39⟩:=YP a.nx s Qe;obtain⟨_,hc39,w39,rfl,hr39,hz39⟩:=hN.at_ _ _ hi39;have hw39:=wf.row s39 (List.mem_of_getElem? hi39);have hl39:s39.length=2^a.tr:=hw39.1;refine oI (ZQ.r (hN.J0 hf fun c hc=>(B.step M).J0 c hc id)) hc39 K J5 Jg rfl rfl rfl fun _ _ _ _ K=>?_;refine Qb 4 K M fun _ K=>?_;obtain⟨y43,hi43⟩: ∃x,(V9 a n (Zb a n) s)[s]? =some x:=⟨_,List.getElem?_eq_getElem Qe⟩;refine p1 K (Qs (j:=s) QG rfl rfl Qe) fun _ K=>p1 K (Qh rfl (M.load (k:=2) rfl (Qc Qq (FX (fun z=>iZ z) hi43)))) fun _ K=>?_;refine Qb 1 K M fun _ K=>?_;refine Uv K rfl (fun _ e46 K=>?_) fun _ e46 K=>?_
   ·refine Qb 7 K M fun _ K=>?_;have e8:V9 a n (Zb a n) (s+1)=(V9 a n (Zb a n) s):=Ez.trans (Rl hi43 hi39 (by first|exact fun h=>absurd h e46|exact fun _=>h50));replace B:=B.step M;rw[←e8]at B;have M:=B.mem;exact⟨_,Qe,s+1,rfl,(K.sub rfl),(B.step M).less (.refl _),Qe⟩
   refine Qb 1 K M fun _ K=>?_;refine pg K rfl rfl (Yn rfl rfl) fun _ K=>?_;have hrwo:=(M.Uc (k:=1) rfl).QF;have hrwn:=(M.Uc (k:=0) rfl).QF;have hrx:Je _ [] 1 (zC (V9 a n (Zb a n) s)) (.sl c12 0 0 a.n 1):=Qw.wZ (f:=fun z=>iZ z) (M.Uc (k:=2) rfl) hfl2 Qe;have hfr:=M.fresh;obtain⟨v49,st49,ev49,rfl,q49⟩:=Xj (fo:=214) (fa:=[]) (fc:=[.ptr c5 0 0,.ptr cn 0 0]) (p:=fun t=>decide (cv (V9 a n (Zb a n) s) t.toNat=((n:Nat):Int))) M.fresh ((B.step M).Dq hf hr39) Qe (fun x hx st1 q1=>jk q1.fresh (hrwo.qt hfr q1) (hrx.qt hfr q1) (hrwn.qt hfr q1) (hw39.2 x hx).1 (by have:=(hw39.2 x hx).2;omega));refine pg K rfl rfl (Qf rfl ev49) fun _ K=>?_;replace M:=M.quiet q49;refine Qb 1 K M fun _ K=>?_;refine YU K rfl (fun h50=>?_) fun h50=>?_
   ·have hb50:=h50;refine Qb 4 K M fun _ K=>?_;obtain⟨y55,hi55⟩: ∃x,(V9 a n (Zb a n) s)[s]? =some x:=⟨_,List.getElem?_eq_getElem Qe⟩;refine p1 K (Qs (j:=s) QG rfl rfl Qe) fun _ K=>?_;refine J6 (k:=2) K M rfl rfl rfl Oz rfl (W9 (fun z=>iZ z) ((((n:Nat):Int)+1)) Qe) fun _ M=>?_;refine Qb 2 K M fun _ K=>?_;have e8:V9 a n (Zb a n) (s+1)=((V9 a n (Zb a n) s).set s ((((n:Nat):Int)+1))):=Ez.trans (qy hi43 Qe hi39 h50);replace B:=B.step M;rw[←e8]at B;have M:=B.mem;exact⟨_,Qe,s+1,rfl,(K.sub rfl),(B.step M).less (.refl _),Qe⟩
   have hb50:=h50;refine Qb 2 K M fun _ K=>?_;have e8:V9 a n (Zb a n) (s+1)=(V9 a n (Zb a n) s):=Ez.trans (Rl hi43 hi39 (by first|exact fun h=>absurd h e46|exact fun _=>h50));replace B:=B.step M;rw[←e8]at B;have M:=B.mem;exact⟨_,Qe,s+1,rfl,(K.sub rfl),(B.step M).less (.refl _),Qe⟩
  refine QO ?_;show W _ _ _ _ _ _ _;refine au 6 K M ?_;intro c7 _ _ K _ M
  have hse:s=a.n:=by omega
  replace B:=B.step M;rw[hse,←Hj]at B;have M:=B.mem;exact⟨_,Qe,n+1,c7,rfl,(K.sub rfl),(B.step M).less (.cons_cons _ (.cons _ (.cons_cons _ (.cons_cons _ (.refl _))))),Qe⟩
 refine QO ?_;show W _ _ _ _ _ _ _;refine Qb 2 K M ?_
 have hne:n=a.n:=by omega
 replace B:=B.step M;rw[hne]at B;have hA9:=Acc.ofM (fun z=>iZ z) (c:=c12) (m:=0) (L:=Zb a a.n) (by rw[VA];omega);rw[VA]at hA9;exact⟨_,rfl,B.newRow hA9 (fun c m l h=>by rw[List.mem_singleton.1 h];simp),B.qt⟩

theorem RP{st:St}(hf:Qg st){co cs:Nat}{ko:AV}(hco:UU st.h.get co 0 [ko])(ho:Je st.h.get [] 1 (zC out) ko)(hcs:UU st.h.get cs 0 [iN s])(hbd: ∀z∈out,-1≤z∧z≤1000)(hs:out[s]? =some y){t:Int}(h0:0≤t)(ht:t<((out.length:Nat):Int)): ∃v st',QR 163 [iZ t,.ptr co 0 0,.ptr cs 0 0] st v st'∧v=.bool (decide (cv out t.toNat=y-1))∧Qt st st':=by
 have hsl:=(List.getElem?_eq_some_iff.1 hs).1;refine Jq Tryz.func163 Tryz.ntmps163 fun T K=>?_;have M:=Mem.start hf;refine Qb 1 K M fun _ K=>?_;refine QQ (l:=[(0,0),(1,0),(2,0),(3,0),(4,0),(5,0),(6,0),(7,0),(8,0),(9,0),(10,0)]) (by kernel_rfl) ?_;refine q1 rfl K (Qh rfl (Qp (M.QY Qx hco) (Qc Jg rfl))) fun _ K=>q1 rfl K (QA rfl) fun _ K=>?_;obtain⟨y7,hi7⟩:=YP out ((t).toNat) Qe;have hbd7:=hbd y7 (List.mem_of_getElem? hi7);obtain⟨x7,m7,f7,q7,_,la7,lo7,lp7⟩:=(Je.mem M ho Qx).load (i:=(t).toNat) (cs:=_) (JA hi7);refine q1 rfl K (Qs (j:=(t).toNat) QG (congrArg some q7) (congrArg (fun z=>some (iZ z)) (by omega:_=(((t).toNat:Nat):Int))) (by rw[Q0];omega)) fun _ K=>q1 rfl K (Qh rfl (lo7 _ 0 _ Qq rfl)) fun _ K=>q1 rfl K (Qh rfl (Qp (M.QY Qx hco) (Qc Jg rfl))) fun _ K=>q1 rfl K (Qh rfl (Qp (M.QY Qx hcs) (Qc Qq rfl))) fun _ K=>?_;obtain⟨y11,hi11⟩:=YP out s Qe;have hbd11:=hbd y11 (List.mem_of_getElem? hi11);refine dI rfl rfl (Je.mem M ho Qx) (JA hi11) K QG Qq rfl rfl rfl fun _ _ _ _ K=>?_;refine Yd 3 K M fun _ K=>?_;refine Jf ?_;show W _ _ _ _ _ _ _;refine Qb 0 K M ?_
 have e11:y11=y:=by rw[hs]at hi11;injection hi11 with h;exact h.symm
 subst e11;exact⟨by rw[show cv out t.toNat=y7 by unfold cv;rw[hi7];rfl],M.qt⟩

theorem H9{st:St}(hf:Qg st){a:Au}(hD:JH st F dp a)(C:Canon a)(hsh:a.acc.any id=true→(Zs a).isSome=true): ∃v st',QR 106 [.ptr dp 0 0] st v st'∧((Zs a=none∧v=.tup [.nils,.bool false])∨ ∃w kw,Zs a=some w∧v=.tup [kw,.bool true]∧F9 st st' 1 kw (zC (zN w)))∧Qt st st':=by
 have wf:=hD.wf;have htr:=wf.tr;have hmo:=wf.most;have hps:=wf.pos;have hln:=wf.len;have hen:a.n=a.acc.length:=rfl;have hp6:=JD htr;have B:=Qj.start hf;have hfl:=VA (a:=a) a.n
 have hbd: ∀z∈Zb a a.n,-1≤z∧z≤1000:=fun z hz=>by have:=Cc (a:=a) (B:=((a.n:Nat):Int)) a.n Qe z hz;omega
 refine Jq Tryz.func106 Tryz.ntmps106 fun T K=>?_;have M:=B.mem;refine Qb 3 K M fun _ K=>?_;refine oQ K M (qH M.fresh (hD.q (B.step M).qt) C) rfl rfl fun _ _ K M=>?_;refine Qb 0 K M fun _ K=>?_;refine YU K rfl (fun h10=>?_) fun h10=>?_
 ·have hb10:=h10
  replace h10:((a.acc.any id))=false:=by simpa using h10
  refine Qb 2 K M ?_;refine⟨.inl ⟨?_,rfl⟩,(B.step M).qt⟩
  have hany:a.acc.any id=false:=by simpa using h10
  unfold Zs;rw[if_neg (by rw[hany];decide)]
 have hb10:=h10
 replace h10:((a.acc.any id))=true:=by simpa using h10
 refine Qb 0 K M fun _ K=>?_
 have hany:a.acc.any id=true:=by simpa using h10
 obtain⟨w,hw0⟩:=Option.isSome_iff_exists.1 (hsh hany)
 have hwf0:AH a (Zb a a.n) 401 0=some w:=by unfold Zs at hw0;rw[if_pos hany]at hw0;exact hw0
 refine Qb 1 K M fun _ K=>?_;replace B:=B.step M;obtain⟨v12,st12,ev12,nau,q12⟩:=Fz B.fresh (hD.q B.qt);refine p1 K (Qf rfl ev12) fun _ K=>?_;obtain⟨kato,kn,vs,Ato,Fn,rfl,hAto,B⟩:=B.AZ q12 nau;replace B:=B.less (List.sublist_append_left _ _);have hkato:=hAto.cell;have hknc:Qu kn=true:=(YS.rd (B.at_ (k:=0) rfl)).cell;have M:=B.mem;refine p1 K (Xw rfl ((Ux _).trans (Qc QP rfl))) fun _ K=>?_;refine Qb 3 K M fun _ K=>?_;replace B:=B.step M;obtain⟨v16,st16,ev16,kf,rfl,nrf,q16⟩:=yG B.fresh (hD.q B.qt) (YS.r (B.at_ (k:=0) rfl));refine p1 K (Qf rfl ev16) fun _ K=>?_;obtain⟨Af,hAf,M⟩:=M.Y7 q16 nrf;replace hAf:=hAf.z0;simp only[Vk]at M;refine au 1 K M ?_;intro c5 _ _ K _ M;refine J6 (k:=0) K M rfl rfl rfl IP (hAf.cell) rfl fun _ M=>?_;refine au 2 K M ?_;intro c17 _ _ K _ M;replace M:=Mem.cast (M':=((c5,0,[v16])::(Af++([(c17,0,[])]++[])))) (Mem.perm M (List.perm_append_comm (α:=Nat×Nat×List AV) (l₁:=[(c17,0,[])]) (l₂:=((c5,0,[v16])::(Af++[]))))) Zg;have hAL1:Acc 0 1 [(c17,0,[])] (.sl c17 0 0 0 1) []:=Acc.own (n0:=0) (z:=1) (c:=c17) (m:=0) (ls:=[]) (Nat.zero_le _) Qx Qx;refine au 2 K M ?_;intro c7 _ _ K _ M;refine QV (fun mm1 T st9=> ∃(f:Nat) (s:Nat) (cs:Nat) (wd:List Nat) (kw:AV) (Aw:QK) (wr:List Nat),mm1=f∧QE [(2,.nils),(3,.bool false),(4,kn),(5,.ptr c5 0 0),(6,kw),(7,.ptr cs 0 0)] T∧Qj st WA st9 ((cs,0,[iN s])::(c5,0,[v16])::(Af++(Aw++[]))) [LQ Fn kn vs a.nx]∧AH a (Zb a a.n) f s=some wr∧wd++wr=w∧s<a.n∧wd.length+f≤401∧Acc 0 1 Aw kw (zC (zN wd))) (fun mm1 T st9 hI=>?_) _ _ _ ⟨401,0,c7,[],(.sl c17 0 0 0 1),[(c17,0,[])],w,rfl,(K.sub rfl),(B.step M).less (.refl _),hwf0,rfl,hps,Q8,hAL1⟩;obtain⟨f,s,cs,wd,kw,Aw,wr,rfl,K,B,hwf,hcat,hsn,hwl,hAw⟩:=hI;have M:=B.mem;refine Qb 2 K M fun _ K=>?_;obtain⟨y20,hi20⟩:=YP (Zb a a.n) s Qe;have hbd20:=hbd y20 (List.mem_of_getElem? hi20);refine oI (Mem.Zj (L:=[(cs,0,[iN s]),(c5,0,[v16])]) (B:=(Aw++[])) M hAf) (JA hi20) K QG Qq rfl rfl rfl fun _ _ _ _ K=>?_;refine Qb 1 K M fun _ K=>?_;refine Uk K rfl (fun h22=>?_) fun h22=>?_
 ·refine Qb 2 K M fun _ K=>?_;obtain⟨s25,hi25⟩:=YP a.nx s Qe;obtain⟨w25,hv25,hr25,hz25,hf25⟩:=((B.step M).at_ (k:=0) rfl).vs.at_ _ _ hi25;have hw25:=wf.row s25 (List.mem_of_getElem? hi25);have hl25:s25.length=2^a.tr:=hw25.1;refine oI ((B.step M).at_ (k:=0) rfl).rd (by rw[List.getElem?_map,hv25];rfl) K J5 Jg rfl rfl rfl fun _ _ _ _ K=>?_;refine p1 K (Yn rfl rfl) fun _ K=>?_;obtain⟨f',c,w',rfl,rfl,hidx,hcl,hw'⟩:=CW hwf hi20 h22 hi25;have hrwo:=(M.Uc (k:=1) rfl).QF;have hrwn:=(M.Uc (k:=0) rfl).QF;have hrx:=(Mem.Zj (L:=[(cs,0,[iN s]),(c5,0,[v16])]) (B:=(Aw++[])) M hAf);have hfr:=M.fresh;obtain⟨v28,st28,ev28,hv28,q28⟩:=NJ (fo:=163) (fa:=[]) (fc:=[.ptr c5 0 0,.ptr cs 0 0]) (p:=fun t=>decide (cv (Zb a a.n) t.toNat=y20-1)) M.fresh (YS.row ((B.step M).at_ (k:=0) rfl) hi25 hv25) Qe (fun x hx st1 q1=>RP q1.fresh (hrwo.qt hfr q1) (hrx.qt hfr q1) (hrwn.qt hfr q1) hbd hi20 (hw25.2 x hx).1 (by have:=(hw25.2 x hx).2;omega));refine p1 K (Qf rfl ev28) fun _ K=>?_;rw[hidx]at hv28;subst hv28;replace M:=M.quiet q28;refine au 4 K M ?_;intro c31 _ _ K _ M;refine Jr (k2:=0) (L:=((c31,0,[iN c])::(cs,0,[iN s])::(c5,0,[v16])::(Af++[]))) (B:=[]) K (Mem.cast M Zg) hAw QT rfl rfl rfl rfl (by simp only[Q0,zN,List.length_map];omega) rfl fun ks32 A32 _ _ K hA32 M=>?_;simp only[Vk]at M;refine Qb 3 K M fun _ K=>?_;obtain⟨s35,hi35⟩:=YP a.nx s Qe;obtain⟨w35,hv35,hr35,hz35,hf35⟩:=((B.step M).at_ (k:=0) rfl).vs.at_ _ _ hi35;have hw35:=wf.row s35 (List.mem_of_getElem? hi35);have hl35:s35.length=2^a.tr:=hw35.1;refine oI ((B.step M).at_ (k:=0) rfl).rd (by rw[List.getElem?_map,hv35];rfl) K J5 Jg rfl rfl rfl fun _ _ _ _ K=>?_;refine Qb 1 K M fun _ K=>?_;obtain⟨y38,hi38⟩:=YP s35 c Qe;have hb38:=hw35.2 y38 (List.mem_of_getElem? hi38);obtain⟨z38,rfl⟩: ∃m:Nat,y38=((m:Nat):Int):=⟨_,(Int.toNat_of_nonneg hb38.1).symm⟩;refine oI (YS.row ((B.step M).at_ (k:=0) rfl) hi35 hv35) (JA hi38) K QG Qq rfl rfl rfl fun _ _ _ _ K=>?_;refine au 4 K M ?_;intro c7 _ _ K _ M;have hg38:a.go s c=z38:=U3 hi35 hi38;exact⟨_,(Nat.lt_succ_self _),f',z38,c7,(wd++[c]),ks32,A32,w',rfl,(K.sub rfl),(B.step M).less (.cons_cons _ (.cons _ (.cons _ (.cons_cons _ (.refl _))))),(by rw[←hg38];exact hw'),(by rw[List.append_assoc];exact hcat),Qe,(by rw[List.length_append,List.length_singleton];omega),(by rw[Ei,Us];exact hA32)⟩
 refine QO ?_;show W _ _ _ _ _ _ _;refine Qb 3 K M ?_;have hwe:=RC hwf hi20 h22;subst hwe;rw[List.append_nil]at hcat;subst hcat;exact⟨.inr ⟨wd,_,hw0,rfl,(B.step M).newRow hAw (fun c m l h=>by simp[h])⟩,(B.step M).qt⟩
end Go.Proofs.YtildagdnomiahaaGreatDoor
