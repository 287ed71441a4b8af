/-
  Which words: the program's.
-/
import Derived.Test.YtildagdnomiahaaGreatDoorQvMnd
namespace Go.Proofs.YtildagdnomiahaaGreatDoor
open Go Go.RowKit
set_option maxHeartbeats 8000000
set_option linter.unusedVariables false
set_option linter.unusedSimpArgs false
set_option linter.unnecessarySimpa false
set_option linter.unusedSectionVars false
set_option maxRecDepth 100000
variable {F:Fp} {dp s:Nat} {out r:List Int} {y:Int}

structure Sa(a:Au)(se:List Bool)(l:List Nat)(i:Nat):Prop where
 len:se.length=a.n
 lt: ∀s∈l,s<a.n
 nodup:l.Nodup
 iff: ∀s,s<a.n→(Eg se s=true↔s∈l)
 zero:0∈l
 most:i≤l.length
 done: ∀(j s:Nat),j<i→l[j]? =some s→ ∀c,c<a.K→a.go s c∈l
theorem vJ(n s:Nat):Eg (List.replicate n false) s=false:=by
 unfold Eg;rw[List.getElem?_replicate]
 split<;>rfl
theorem Sa.start{a:Au}(W:Xu a):Sa a ((List.replicate a.n false).set 0 true) [0] 0:=by
 have hp:=W.pos;refine⟨by simp,fun s hs=>by rw[List.mem_singleton.1 hs];omega,by simp,fun s hs=>?_,by simp,Nat.zero_le _,fun j s h=>absurd h (Nat.not_lt_zero j)⟩;rw[KS (by rw[List.length_replicate];omega),List.mem_singleton]
 by_cases h:s=0
 ·rw[if_pos h];exact⟨fun _=>h,fun _=>rfl⟩
 ·rw[if_neg h,vJ];exact⟨fun e=>(by cases e),fun e=>absurd e h⟩
section
variable {a:Au} {se:List Bool} {l:List Nat} {i:Nat}
theorem Sa.le(H:Sa a se l i):l.length≤a.n:=by
 have:=XY (b:=List.range a.n) H.nodup fun s hs=>List.mem_range.2 (H.lt s hs)
 simpa using this
theorem Sa.add(H:Sa a se l i){y:Nat}(hy:y<a.n)(hn:Eg se y=false):Sa a (se.set y true) (l++[y]) i:=by
 have hny:y∉l:=fun h=>by rw[(H.iff y hy).2 h]at hn;cases hn
 refine⟨by rw[List.length_set];exact H.len,fun s hs=>?_,List.nodup_append.2 ⟨H.nodup,by simp,fun x hx z hz e=>by rw[List.mem_singleton]at hz;subst hz e;exact hny hx⟩,fun s hs=>?_,by simp[H.zero],by have:=H.most;rw[List.length_append];omega,fun j s hj h c hc=>?_⟩
 ·rcases List.mem_append.1 hs with h|h
  ·exact H.lt s h
  ·rw[List.mem_singleton.1 h];exact hy
 ·rw[KS (by rw[H.len];exact hy),List.mem_append,List.mem_singleton]
  by_cases h:s=y
  ·rw[if_pos h];exact⟨fun _=>.inr h,fun _=>rfl⟩
  ·rw[if_neg h,H.iff s hs];exact⟨.inl,fun e=>e.resolve_right h⟩
 ·rw[List.getElem?_append_left (Nat.lt_of_lt_of_le hj H.most)]at h;exact List.mem_append_left _ (H.done j s hj h c hc)
theorem Sa.next(H:Sa a se l i)(hs:l[i]? =some s)(h: ∀c,c<a.K→a.go s c∈l):Sa a se l (i+1):=by
 refine⟨H.len,H.lt,H.nodup,H.iff,H.zero,(List.getElem?_eq_some_iff.1 hs).1,fun j t hj ht=>?_⟩
 by_cases e:j=i
 ·subst e;rw[hs]at ht
  injection ht with ht
  subst ht;exact h
 ·exact H.done j t Qd ht
theorem Sa.all(H:Sa a se l i)(C:Canon a)(hi:i=l.length): ∀s,s<a.n→s∈l:=C.reach H.zero fun s c hs _ hc=>by
 obtain⟨j,hj⟩:=List.getElem?_of_mem hs;exact H.done j s (by rw[hi];exact(List.getElem?_eq_some_iff.1 hj).1) hj c hc
end
theorem Ri(l:List Int)(z:Int):z∈U4 l↔z∈l:=(List.mergeSort_perm _ _).mem_iff
theorem vU{a:Au}(q:List Int)(h: ∀z,z∈q↔0≤z∧z<((a.n:Nat):Int)):(q.any fun z=>a.ok z.toNat)=a.acc.any id:=by
 rw[Bool.eq_iff_iff,List.any_eq_true,List.any_eq_true];constructor
 ·rintro⟨z,hz,e⟩
  have:=(h z).1 hz;unfold Au.ok at e;rw[List.getElem?_eq_getElem (show z.toNat<a.acc.length by have:a.n=a.acc.length:=rfl;omega)]at e;exact⟨_,List.getElem_mem _,e⟩
 ·rintro⟨b,hb,e⟩
  obtain⟨s,hs⟩:=List.getElem?_of_mem hb;have hlt:=(List.getElem?_eq_some_iff.1 hs).1;refine⟨((s:Nat):Int),(h _).2 ⟨by omega,by have:a.n=a.acc.length:=rfl;omega⟩,?_⟩;unfold Au.ok;rw[Int.toNat_natCast,hs];exact e
theorem take_set{α:Type}{l:List α}{i:Nat}(h:i<l.length)(x:α):(l.set i x).take (i+1)=l.take i++[x]:=by
 rw[List.take_add_one,List.take_set_of_le (Nat.le_refl i),List.getElem?_set_self h];rfl
theorem A4{a:Au}{i:Nat}{x:Int}(h:out.take i=(DE a).take i)(hl:out.length=a.n)(hi:i<a.n)(hx:x=if a.ok i then 0 else-1):(out.set i x).take (i+1)=(DE a).take (i+1):=by
 rw[take_set Qd,List.take_add_one,h]
 congr 1
 unfold DE;rw[List.getElem?_map,List.getElem?_eq_getElem hi,hx];unfold Au.ok;rw[List.getElem?_eq_getElem hi];rfl
theorem yi{a:Au}{n:Nat}(h1:out[s]? =some y)(h2:y<0)(h3:a.nx[s]? =some r)(h4:(r.any fun t=>decide (cv out t.toNat=((n:Nat):Int)))=true):O2 a n out s=out.set s (((n:Nat):Int)+1):=by
 unfold O2;rw[h3,Option.getD_some,if_pos ⟨by unfold cv;rw[h1];exact h2,h4⟩];rfl
theorem SY{a:Au}{n:Nat}(h1:out[s]? =some y)(h3:a.nx[s]? =some r)(h4:y<0→(r.any fun t=>decide (cv out t.toNat=((n:Nat):Int)))=false):O2 a n out s=out:=by
 unfold O2;rw[h3,Option.getD_some,if_neg]
 rintro⟨e1,e2⟩
 unfold cv at e1;rw[h1]at e1;rw[h4 e1]at e2;cases e2
theorem uY{p:Int→Bool}: ∀{l:List Int} {i c:Nat},vv p l i=some c→AF p l i=((c:Nat):Int)∧i≤c∧c<i+l.length
 |[],i,c,h=>by cases h
 |z::l,i,c,h=>by
  rw[vv]at h;rw[AF]
  split at h
  ·rename_i hz
   injection h with h
   subst h;rw[if_pos hz];exact⟨rfl,Nat.le_refl _,by simp⟩
  ·rename_i hz;rw[if_neg hz];obtain⟨h1,h2,h3⟩:=uY h;exact⟨h1,by omega,by simp only[List.length_cons];omega⟩
theorem P6{a:Au}{far:List Int}{f:Nat}{w:List Nat}(hw:FL a far f s=some w)(h1:far[s]? =some y)(h2:0<y)(h3:a.nx[s]? =some r):
  ∃f' c w',f=f'+1∧w=c::w'∧AF (fun t=>decide (cv far t.toNat=y-1)) r 0=((c:Nat):Int)∧c<r.length∧FL a far f' (a.go s c)=some w':=by
 have hy:cv far s=y:=by unfold cv;rw[h1];rfl
 cases f with
 |zero=>cases hw
 |succ f=>
  rw[FL,hy,if_neg Qd,h3,Option.getD_some]at hw
  split at hw
  ·cases hw
  ·rename_i c hc
   split at hw
   ·cases hw
   ·rename_i w' hw'
    injection hw with hw
    obtain⟨k1,k2,k3⟩:=uY hc;exact⟨f,c,w',rfl,hw.symm,k1,by omega,hw'⟩
theorem T8{a:Au}{far:List Int}{f:Nat}{w:List Nat}(hw:FL a far f s=some w)(h1:far[s]? =some y)(h2: ¬0<y):w=[]:=by
 have hy:cv far s=y:=by unfold cv;rw[h1];rfl
 cases f with
 |zero=>cases hw
 |succ f=>
  rw[FL,hy,if_pos Qd]at hw
  injection hw with hw
  exact hw.symm
section
variable {h0:Hp} {n0:Nat} {X:List Nat} {st:St} {L A B:Uc} {ks:AV} {l:List Int}
theorem PG(hM:Mem h0 n0 X st (L++(A++B)))(hA:Acc 0 1 A ks (zC l))(hb1:l.length≤1000000):
  ∃v st' A',QV 261 [ks] st v st'∧v=.tup []∧Mem h0 n0 X st' (L++(A'++B))∧Acc 0 1 A' ks (zC (U4 l)):=by
 have hb:=hA.AW;rw[Qy]at hb;have h00:U4 []=[]:=Y1 (JR []);generalize hg:zC l=ls at hA
 cases hA with
 |none=>
  have hl:l=[]:=Y1 (by have h:=congrArg List.length hg;rw[Qy]at h;exact h);subst hl;exact⟨_,st,[],EF (V0:=fun _=>.tup []) (F:=U4) (V:=Et) rfl hM.fresh,rfl,hM,by rw[h00];exact .none⟩
 |own hc hz hb'=>
  rename_i c m;subst hg
  by_cases hl:l=[]
  ·subst hl;exact⟨_,st,_,EE (V0:=fun _=>.tup []) (F:=U4) (V:=Et) rfl hM.fresh c m,rfl,hM,by rw[h00];exact .own hc hz hb'⟩
  ·have hrow:Qu st.h.get c m (zC l).flatten:=hM.GV (A:=[(c,m,(zC l).flatten)]) Qx
   have hs:ZP (zC l).flatten=some l:=by rw[EY];exact Vc l
   obtain⟨v,st',h1,h2,h3,h4⟩:=Fs (F:=U4) (V:=Et) (V0:=fun _=>.tup []) (G:=DM) (P:=Tryz.prog) (f:=261) rfl hM.fresh hrow hs hl hb1 (JR _);rw[←EY]at h3;refine⟨v,st',[(c,m,(zC (U4 l)).flatten)],?_,h2,Mem.RN (L:=L) (B:=B) hM h4 h3,?_⟩
   ·rw[Qy];exact h1
   ·have:=Acc.own (m:=m) (ls:=zC (U4 l)) hc (G7 _) (by rw[Qy,JR];exact hb);rw[Qy,JR]at this;rw[Qy];exact this
end

theorem jl{st:St}(hf:Qh st){a:Au}(hD:JH st F dp a)(C:Canon a): ∃v st',QV 211 [.ptr dp 0 0] st v st'∧ ∃kr q,v=kr∧HB st st' 1 kr (zC q)∧(∀z,z∈q↔0≤z∧z<((a.n:Nat):Int))∧Qt st st':=by
 have wf:=hD.wf;have htr:=wf.tr;have hmo:=wf.most;have hps:=wf.pos;have hln:=wf.len;have hen:a.n=a.acc.length:=rfl;have hp6:=JL htr;have B:=Ql.start hf;have hrep:(List.replicate a.n false).length=a.n:=List.length_replicate ..;refine Jv Tryz.func211 Tryz.ntmps211 fun T K=>?_;have M:=B.mem;refine Qb 2 K M fun _ K=>?_;refine p1 K (UA J7 rfl rfl) fun _ K=>?_;refine Qb 2 K M fun _ K=>?_;refine oQ K M (AB M.fresh (hD.q (B.step M).qt)) rfl rfl fun _ _ K M=>?_;refine Em AV.bool false (n:=a.n) K M Yc EW rfl Qd rfl fun c13 _ _ K M=>?_;refine Qb 2 K M fun _ K=>?_;obtain⟨y15,hi15⟩:=YL (List.replicate a.n false) 0 Qd;refine p1 K (Qn (j:=0) UI rfl rfl Qd) fun _ K=>?_;refine Jk (k:=0) K M rfl rfl rfl Ae rfl (E1 AV.bool true Qd) fun _ M=>?_;refine au 2 K M ?_;intro c16 _ _ K _ M;replace M:=Mem.cast (M':=((c13,0,(((List.replicate a.n false).set 0 true).map AV.bool))::([(c16,0,[iZ 0])]++[]))) (Mem.perm M (List.perm_append_comm (α:=Nat×Nat×List AV) (l₁:=[(c16,0,[iZ 0])]) (l₂:=[(c13,0,(((List.replicate a.n false).set 0 true).map AV.bool))]))) Za;have hAL0:Acc 0 1 [(c16,0,[iZ 0])] (.sl c16 0 0 1 1) [[iZ 0]]:=Acc.own (n0:=0) (z:=1) (c:=c16) (m:=0) (ls:=[[iZ 0]]) (Nat.zero_le _) Qx Qx;refine Qb 1 K M fun _ K=>?_;replace B:=B.step M;obtain⟨v18,st18,ev18,nau,q18⟩:=H3 B.fresh (hD.q B.qt);refine p1 K (Qf rfl ev18) fun _ K=>?_;obtain⟨kato,kn,vs,Ato,Fn,rfl,hAto,B⟩:=B.He q18 nau;replace B:=B.less (List.sublist_append_left _ _);have hkato:=hAto.cell;have hknc:Qw kn=true:=(Zw.rd (B.at_ (k:=0) rfl)).cell;have M:=B.mem;refine p1 K (XV rfl ((U6 _).trans (Qc QW rfl))) fun _ K=>?_;refine Qb 2 K M fun _ K=>?_;refine Je (fun mm1 T st9=> ∃(i:Nat) (se:List Bool) (ls:List Nat) (kl:AV) (Al:QP),mm1=a.n-i∧QH [(2,.nils),(3,.sl c13 0 0 a.n 1),(4,kl),(5,kn),(6,iN i)] T∧Ql st Ei st9 ((c13,0,(se.map AV.bool))::(Al++[])) [Oc Fn kn vs a.nx]∧Sa a se ls i∧Acc 0 1 Al kl (zC (zN ls))) (fun mm1 T st9 hI=>?_) _ _ _ ⟨0,_,[0],(.sl c16 0 0 1 1),[(c16,0,[iZ 0])],rfl,(K.sub rfl),(B.step M).less (.refl _),(Sa.start wf),hAL0⟩;obtain⟨i,se,ls,kl,Al,rfl,K,B,hm,hAl⟩:=hI;have M:=B.mem;have hlsn:=hm.le;have hsel:=hm.len;have hmost:=hm.most;refine Qb 2 K M fun _ K=>?_;refine p1 K (Q0 Jm rfl rfl (hAl.len.trans (congrArg some (by rw[Qy,List.length_map])))) fun _ K=>?_;refine Qb 1 K M fun _ K=>?_;refine U8 K rfl (fun h23=>?_) fun h23=>?_
 ·refine Qb 3 K M fun _ K=>?_;obtain⟨y29,hi29⟩:=YL ls i Qd;have hls29:=hm.lt y29 (List.mem_of_getElem? hi29);refine oI (Mem.Zv (L:=[(c13,0,(se.map AV.bool))]) (B:=[]) M hAl) (Fa hi29) K QD Qs rfl rfl rfl fun _ _ _ _ K=>?_;obtain⟨s31,hi31⟩:=YL a.nx y29 Qd;obtain⟨w31,hv31,hr31,hz31,hf31⟩:=((B.step M).at_ (k:=0) rfl).vs.at_ _ _ hi31;have hw31:=wf.row s31 (List.mem_of_getElem? hi31);have hl31:s31.length=2^a.tr:=hw31.1;refine oI ((B.step M).at_ (k:=0) rfl).rd (by rw[List.getElem?_map,hv31];rfl) K QK Jn rfl rfl rfl fun _ _ _ _ K=>?_;refine p1 K (Q0 Jm rfl rfl (hr31.len.trans (congrArg some (Qy _)))) fun _ K=>?_;refine Qb 1 K M fun _ K=>?_;refine Je (fun mm2 T st9=> ∃(c:Nat) (se2:List Bool) (ls2:List Nat) (kl2:AV) (Al2:QP),mm2=2^a.tr-c∧QH [(2,.nils),(3,.sl c13 0 0 a.n 1),(4,kl2),(5,kn),(6,iN i),(23,.bool (decide (((i:Nat):Int)<((ls.length:Nat):Int)))),(32,w31),(33,iZ (s31.length:Nat)),(34,iN c)] T∧Ql st Ei st9 ((c13,0,(se2.map AV.bool))::(Al2++[])) [Oc Fn kn vs a.nx]∧Sa a se2 ls2 i∧c≤2^a.tr∧ls2.take (i+1)=ls.take (i+1)∧(∀c',c'<c→a.go y29 c'∈ls2)∧Acc 0 1 Al2 kl2 (zC (zN ls2))) (fun mm2 T st9 hI=>?_) _ _ _ ⟨0,se,ls,kl,Al,rfl,(K.sub rfl),(B.step M).less (.refl _),hm,(Nat.zero_le _),rfl,(fun c' h=>absurd h (Nat.not_lt_zero c')),hAl⟩;obtain⟨c,se2,ls2,kl2,Al2,rfl,K,B,hm2,hcK,htk,hmem,hAl2⟩:=hI;have M:=B.mem;have hls2:=hm2.le;have hsel2:=hm2.len;have hi2:=ZL htk Qd;refine Qb 1 K M fun _ K=>?_;refine U8 K rfl (fun h35=>?_) fun h35=>?_
  ·refine Qb 0 K M fun _ K=>?_;obtain⟨y36,hi36⟩:=YL s31 c Qd;have hb36:=hw31.2 y36 (List.mem_of_getElem? hi36);obtain⟨z36,rfl⟩: ∃m:Nat,y36=((m:Nat):Int):=⟨_,(Int.toNat_of_nonneg hb36.1).symm⟩;refine oI (Zw.row ((B.step M).at_ (k:=0) rfl) hi31 hv31) (JG hi36) K QD Qs rfl rfl rfl fun _ _ _ _ K=>?_;refine Qb 3 K M fun _ K=>?_;obtain⟨y40,hi40⟩:=YL se2 z36 Qd;refine p1 K (Qn (j:=z36) UI rfl rfl Qd) fun _ K=>p1 K (Qi rfl (M.load (k:=0) rfl (Qc Vt (Ie AV.bool hi40)))) fun _ K=>?_;refine Qb 1 K M fun _ K=>?_;refine UJ K rfl (fun h42=>?_) fun h42=>?_
   ·have hb42:=h42
    replace h42:(y40)=false:=by simpa using h42
    refine Qb 2 K M fun _ K=>?_;obtain⟨y45,hi45⟩:=YL se2 z36 Qd;refine p1 K (Qn (j:=z36) UI rfl rfl Qd) fun _ K=>?_;refine Jk (k:=0) K M rfl rfl rfl Ae rfl (E1 AV.bool true Qd) fun _ M=>?_;refine au 3 K M ?_;intro c48 _ _ K _ M;refine Jx (k2:=0) (L:=[(c48,0,[iN z36]),(c13,0,((se2.set z36 true).map AV.bool))]) (B:=[]) K M hAl2 QR rfl rfl rfl rfl (by simp only[Qy,zN,List.length_map];omega) rfl fun ks49 A49 _ _ K hA49 M=>?_;refine Qb 3 K M fun _ K=>?_;have hg36:a.go y29 c=z36:=UG hi31 hi36;have hb40:=ZU hi40;have hm3:=hm2.add (y:=z36) Qd (by rw[hb40];exact h42)
    have hmem3: ∀c',c'<c+1→a.go y29 c'∈ls2++[z36]:=fun c' h=>by
     rcases Nat.lt_succ_iff_lt_or_eq.1 h with h|h
     ·exact List.mem_append_left _ (hmem c' h)
     ·subst h;rw[hg36];simp
    exact⟨_,Qd,c+1,_,(ls2++[z36]),ks49,A49,rfl,(K.sub rfl),(B.step M).less (.cons _ (.refl _)),hm3,Qd,(by rw[List.take_append_of_le_length hi2,htk]),hmem3,(by rw[EX,JJ];exact hA49)⟩
   have hb42:=h42
   replace h42:(y40)=true:=by simpa using h42
   refine Qb 2 K M fun _ K=>?_;have hg36:a.go y29 c=z36:=UG hi31 hi36;have hb40:=ZU hi40;have hm3:=hm2
   have hmem3: ∀c',c'<c+1→a.go y29 c'∈ls2:=fun c' h=>by
    rcases Nat.lt_succ_iff_lt_or_eq.1 h with h|h
    ·exact hmem c' h
    ·subst h;rw[hg36];exact(hm2.iff z36 Qd).1 (by rw[hb40];first|exact h42|simpa using h42)
   exact⟨_,Qd,c+1,se2,ls2,kl2,Al2,rfl,(K.sub rfl),(B.step M).less (.refl _),hm3,Qd,htk,hmem3,hAl2⟩
  refine QM ?_;show W _ _ _ _ _ _ _;refine Qb 3 K M fun _ K=>?_;have e29:=PC htk;exact⟨_,Qd,i+1,se2,ls2,kl2,Al2,rfl,(K.sub rfl),(B.step M).less (.refl _),(hm2.next (by rw[←e29];exact hi29) (fun c' hc'=>hmem c' (by have:a.K=2^a.tr:=rfl;omega))),hAl2⟩
 refine QM ?_;show W _ _ _ _ _ _ _;refine Qb 1 K M fun _ K=>?_;obtain⟨v52,st52,As,ev52,rfl,M7,hAs⟩:=PG (L:=[(c13,0,(se.map AV.bool))]) (B:=[]) M hAl (by simp only[zN,List.length_map];omega);refine p1 K (Qf rfl ev52) fun _ K=>?_;replace M:=M7;refine Qb 2 K M ?_;have hall:=hm.all C Qd;refine⟨_,U4 (zN ls),rfl,(B.step M).newRow hAs (fun c m l h=>by simp[h]),fun z=>?_,(B.step M).qt⟩;rw[Ri];constructor
 ·intro hz;obtain⟨s,hs,rfl⟩:=List.mem_map.1 hz;have:=hm.lt s hs;omega
 ·intro hz;exact List.mem_map.2 ⟨z.toNat,hall _ Qd,by omega⟩

theorem yw{st:St}(hf:Qh st){a:Au}(hD:JH st F dp a)(C:Canon a): ∃v st',QV 159 [.ptr dp 0 0] st v st'∧v=.bool (!(a.acc.any id))∧Qt st st':=by
 have wf:=hD.wf;have htr:=wf.tr;have hmo:=wf.most;have hps:=wf.pos;have hln:=wf.len;have hen:a.n=a.acc.length:=rfl;have hp6:=JL htr;have B:=Ql.start hf;refine Jv Tryz.func159 Tryz.ntmps159 fun T K=>?_;have M:=B.mem;refine Qb 2 K M fun _ K=>?_;obtain⟨v4,st4,ev4,kr,q,rfl,nr,hq,q4⟩:=jl M.fresh (hD.q (B.step M).qt) C;refine p1 K (Qf rfl ev4) fun _ K=>?_;obtain⟨Ar,hAr,M⟩:=M.Yq q4 nr;replace hAr:=hAr.z0;simp only[W4]at M;refine Qb 1 K M fun _ K=>?_;refine p1 K (Y6 rfl rfl) fun _ K=>?_;refine oQ K M (XE (fo:=207) (fa:=[.ptr dp 0 0]) (fc:=[]) (p:=fun z=>a.ok z.toNat) M.fresh (Mem.Zv (L:=[]) (B:=[]) M hAr) (by have:=hAr.AW;rw[Qy]at this;omega) (fun x hx st1 q1=>by have hb:=(hq x).1 hx;have:=Zg q1.fresh ((hD.q (B.step M).qt).q q1) (s:=x.toNat) Qd;rw[Int.toNat_of_nonneg hb.1]at this;exact this)) rfl rfl fun _ _ K M=>?_;refine Qb 2 K M ?_;exact⟨by rw[vU q hq],(B.step M).qt⟩

theorem zi{st:St}(hf:Qh st){co cn:Nat}{ko:AV}{nn:Int}(hco:Y9 st.h.get co 0 [ko])(ho:Jg st.h.get [] 1 (zC out) ko)(hcn:Y9 st.h.get cn 0 [iZ nn]){t:Int}(h0:0≤t)(ht:t<((out.length:Nat):Int)): ∃v st',QV 214 [iZ t,.ptr co 0 0,.ptr cn 0 0] st v st'∧v=.bool (decide (cv out t.toNat=nn))∧Qt st st':=by
 refine Jv Tryz.func214 Tryz.ntmps214 fun T K=>?_;have M:=Mem.start hf;refine Qb 1 K M fun _ K=>?_;refine QT (l:=[(0,0),(1,0),(2,0),(3,0),(4,0),(5,0),(6,0)]) (by kernel_rfl) ?_;refine q1 rfl K (Qi rfl (Qr (M.Jf Qx hco) (Qc Jn rfl))) fun _ K=>q1 rfl K (Q8 rfl) fun _ K=>?_;obtain⟨y7,hi7⟩:=YL out ((t).toNat) Qd;obtain⟨x7,m7,f7,q7,_,la7,lo7,lp7⟩:=(Jg.mem M ho Qx).load (i:=(t).toNat) (cs:=_) (JG hi7);refine q1 rfl K (Qn (j:=(t).toNat) QD (congrArg some q7) (congrArg (fun z=>some (iZ z)) (by omega:_=(((t).toNat:Nat):Int))) (by rw[Qy];omega)) fun _ K=>q1 rfl K (Qi rfl (lo7 _ 0 _ Qs rfl)) fun _ K=>q1 rfl K (Qi rfl (Qr (M.Jf Qx hcn) (Qc Qs rfl))) fun _ K=>?_;refine UT 2 K M fun _ K=>?_;refine Jd ?_;show W _ _ _ _ _ _ _;refine Qb 0 K M ?_;exact⟨by rw[show cv out t.toNat=y7 by unfold cv;rw[hi7];rfl],M.qt⟩

theorem vP{st:St}(hf:Qh st){a:Au}(hD:JH st F dp a){kn:AV}{ls:List (List AV)}(hN:qp st.h.get a.nx kn ls): ∃v st',QV 161 [.ptr dp 0 0,kn] st v st'∧ ∃kr,v=kr∧HB st st' 1 kr (zC (Z4 a a.n))∧Qt st st':=by
 have wf:=hD.wf;have htr:=wf.tr;have hmo:=wf.most;have hps:=wf.pos;have hln:=wf.len;have hen:a.n=a.acc.length:=rfl;have hp6:=JL htr;have hrep:(List.replicate a.n (0:Int)).length=a.n:=List.length_replicate ..;have hknc:Qw kn=true:=hN.r.cell;have B:=Ql.start hf;refine Jv Tryz.func161 Tryz.ntmps161 fun T K=>?_;have M:=B.mem;refine Qb 2 K M fun _ K=>?_;refine oQ K M (AB M.fresh (hD.q (B.step M).qt)) rfl rfl fun _ _ K M=>?_;refine Em (fun z=>iZ z) 0 (n:=a.n) K M QR HJ rfl Qd rfl fun c12 _ _ K M=>?_;refine au 5 K M ?_;intro c5 _ _ K _ M;refine Je (fun mm1 T st9=> ∃(i:Nat) (out:List Int),mm1=a.n-i∧QH [(0,.ptr dp 0 0),(1,kn),(4,.nils),(5,.ptr c5 0 0),(14,iZ (a.n:Nat)),(15,iN i)] T∧Ql st Ei st9 [(c5,0,[.sl c12 0 0 a.n 1]),(c12,0,(out.map (fun z=>iZ z)))] []∧i≤a.n∧out.length=a.n∧out.take i=(DE a).take i) (fun mm1 T st9 hI=>?_) _ _ _ ⟨0,_,rfl,(K.sub rfl),(B.step M).less (.refl _),(Nat.zero_le _),hrep,rfl⟩;obtain⟨i,out,rfl,K,B,hi,hol,htk⟩:=hI;have M:=B.mem;refine Qb 1 K M fun _ K=>?_;refine U8 K rfl (fun h16=>?_) fun h16=>?_
 ·refine Qb 4 K M fun _ K=>?_;obtain⟨y20,hi20⟩:=YL out i Qd;refine p1 K (Qn (j:=i) QD rfl rfl Qd) fun _ K=>?_;refine Jk (k:=1) K M rfl rfl rfl GI rfl (E1 (fun z=>iZ z) (-1) Qd) fun _ M=>?_;refine Qb 2 K M fun _ K=>?_;refine oQ K M (Zg M.fresh (hD.q (B.step M).qt) (s:=i) Qd) rfl rfl fun _ _ K M=>?_;refine Qb 0 K M fun _ K=>?_;refine UJ K rfl (fun h23=>?_) fun h23=>?_
  ·have hb23:=h23;refine Qb 2 K M fun _ K=>?_;obtain⟨y26,hi26⟩: ∃x,(out.set i (-1))[i]? =some x:=⟨_,List.getElem?_eq_getElem (by simp only[List.length_set];omega)⟩;refine p1 K (Qn (j:=i) QD rfl rfl Qd) fun _ K=>?_;refine Jk (k:=1) K M rfl rfl rfl GI rfl (E1 (fun z=>iZ z) 0 (by simp only[List.length_set];omega)) fun _ M=>?_;refine Qb 2 K M fun _ K=>?_;exact⟨_,Qd,i+1,_,rfl,(K.sub rfl),(B.step M).less (.refl _),Qd,(by simp only[List.length_set];exact hol),(by first|exact A4 htk hol Qd (by rw[h23];rfl)|(rw[List.set_set];exact A4 htk hol Qd (by rw[h23];rfl)))⟩
  have hb23:=h23;refine Qb 2 K M fun _ K=>?_;exact⟨_,Qd,i+1,_,rfl,(K.sub rfl),(B.step M).less (.refl _),Qd,(by simp only[List.length_set];exact hol),(by first|exact A4 htk hol Qd (by rw[h23];rfl)|(rw[List.set_set];exact A4 htk hol Qd (by rw[h23];rfl)))⟩
 refine QM ?_;show W _ _ _ _ _ _ _;refine au 2 K M ?_;intro c7 _ _ K _ M
 have hin:i=a.n:=by omega
 have hout:out=Z4 a 0:=by rw[hin]at htk;rw[List.take_of_length_le Qd,List.take_of_length_le (by simp[DE])]at htk;exact htk
 subst hout;refine Je (fun mm2 T st9=> ∃(n:Nat) (cn:Nat),mm2=a.n-n∧QH [(1,kn),(4,.nils),(5,.ptr c5 0 0),(7,.ptr cn 0 0)] T∧Ql st Ei st9 [(cn,0,[iN n]),(c5,0,[.sl c12 0 0 a.n 1]),(c12,0,((Z4 a n).map (fun z=>iZ z)))] []∧n≤a.n) (fun mm2 T st9 hI=>?_) _ _ _ ⟨0,c7,rfl,(K.sub rfl),(B.step M).less (.refl _),(Nat.zero_le _)⟩;obtain⟨n,cn,rfl,K,B,hn⟩:=hI;have M:=B.mem;have hfl:=Wm (a:=a) n;refine Qb 4 K M fun _ K=>?_;refine U8 K rfl (fun h31=>?_) fun h31=>?_
 ·refine Qb 1 K M fun _ K=>?_;refine p1 K (Q0 UO rfl rfl hN.len) fun _ K=>?_;refine Qb 1 K M fun _ K=>?_;refine Je (fun mm3 T st9=> ∃(s:Nat),mm3=a.n-s∧QH [(1,kn),(4,.nils),(5,.ptr c5 0 0),(7,.ptr cn 0 0),(31,.bool (decide (((n:Nat):Int)<((a.n:Nat):Int)))),(34,kn),(35,iZ (a.nx.length:Nat)),(36,iN s)] T∧Ql st Ei st9 [(cn,0,[iN n]),(c5,0,[.sl c12 0 0 a.n 1]),(c12,0,((Wl a n (Z4 a n) s).map (fun z=>iZ z)))] []∧s≤a.n) (fun mm3 T st9 hI=>?_) _ _ _ ⟨0,rfl,(K.sub rfl),(B.step M).less (.refl _),(Nat.zero_le _)⟩;obtain⟨s,rfl,K,B,hs⟩:=hI;have M:=B.mem;have hfl2:(Wl a n (Z4 a n) s).length=a.n:=(Nh s).trans (Wm n);refine Qb 1 K M fun _ K=>?_;refine U8 K rfl (fun h37=>?_) fun h37=>?_
  ·refine Qb 1 K M fun _ K=>?_;obtain⟨s39,hi39⟩:=YL a.nx s Qd;obtain⟨_,hc39,w39,rfl,hr39,hz39⟩:=hN.at_ _ _ hi39;have hw39:=wf.row s39 (List.mem_of_getElem? hi39);have hl39:s39.length=2^a.tr:=hw39.1;refine oI (AX.r (hN.J5 hf fun c hc=>(B.step M).J5 c hc id)) hc39 K QK Jn rfl rfl rfl fun _ _ _ _ K=>?_;refine Qb 4 K M fun _ K=>?_;obtain⟨y43,hi43⟩: ∃x,(Wl a n (Z4 a n) s)[s]? =some x:=⟨_,List.getElem?_eq_getElem Qd⟩;refine p1 K (Qn (j:=s) QD rfl rfl Qd) fun _ K=>p1 K (Qi rfl (M.load (k:=2) rfl (Qc Qs (Ie (fun z=>iZ z) hi43)))) fun _ K=>?_;refine Qb 1 K M fun _ K=>?_;refine U5 K rfl (fun _ e46 K=>?_) fun _ e46 K=>?_
   ·refine Qb 7 K M fun _ K=>?_;have e8:Wl a n (Z4 a n) (s+1)=(Wl a n (Z4 a n) s):=A3.trans (SY hi43 hi39 (by first|exact fun h=>absurd h e46|exact fun _=>h50));replace B:=B.step M;rw[←e8]at B;have M:=B.mem;exact⟨_,Qd,s+1,rfl,(K.sub rfl),(B.step M).less (.refl _),Qd⟩
   refine Qb 1 K M fun _ K=>?_;refine pg K rfl rfl (Y6 rfl rfl) fun _ K=>?_;have hrwo:=(M.Ud (k:=1) rfl).QI;have hrwn:=(M.Ud (k:=0) rfl).QI;have hrx:Jg _ [] 1 (zC (Wl a n (Z4 a n) s)) (.sl c12 0 0 a.n 1):=Qu.ly (f:=fun z=>iZ z) (M.Ud (k:=2) rfl) hfl2 Qd;have hfr:=M.fresh;obtain⟨v49,st49,ev49,rfl,q49⟩:=XE (fo:=214) (fa:=[]) (fc:=[.ptr c5 0 0,.ptr cn 0 0]) (p:=fun t=>decide (cv (Wl a n (Z4 a n) s) t.toNat=((n:Nat):Int))) M.fresh ((B.step M).Cf hf hr39) Qd (fun x hx st1 q1=>zi q1.fresh (hrwo.qt hfr q1) (hrx.qt hfr q1) (hrwn.qt hfr q1) (hw39.2 x hx).1 (by have:=(hw39.2 x hx).2;omega));refine pg K rfl rfl (Qf rfl ev49) fun _ K=>?_;replace M:=M.quiet q49;refine Qb 1 K M fun _ K=>?_;refine UJ K rfl (fun h50=>?_) fun h50=>?_
   ·have hb50:=h50;refine Qb 4 K M fun _ K=>?_;obtain⟨y55,hi55⟩: ∃x,(Wl a n (Z4 a n) s)[s]? =some x:=⟨_,List.getElem?_eq_getElem Qd⟩;refine p1 K (Qn (j:=s) QD rfl rfl Qd) fun _ K=>?_;refine Jk (k:=2) K M rfl rfl rfl GI rfl (E1 (fun z=>iZ z) ((((n:Nat):Int)+1)) Qd) fun _ M=>?_;refine Qb 2 K M fun _ K=>?_;have e8:Wl a n (Z4 a n) (s+1)=((Wl a n (Z4 a n) s).set s ((((n:Nat):Int)+1))):=A3.trans (yi hi43 Qd hi39 h50);replace B:=B.step M;rw[←e8]at B;have M:=B.mem;exact⟨_,Qd,s+1,rfl,(K.sub rfl),(B.step M).less (.refl _),Qd⟩
   have hb50:=h50;refine Qb 2 K M fun _ K=>?_;have e8:Wl a n (Z4 a n) (s+1)=(Wl a n (Z4 a n) s):=A3.trans (SY hi43 hi39 (by first|exact fun h=>absurd h e46|exact fun _=>h50));replace B:=B.step M;rw[←e8]at B;have M:=B.mem;exact⟨_,Qd,s+1,rfl,(K.sub rfl),(B.step M).less (.refl _),Qd⟩
  refine QM ?_;show W _ _ _ _ _ _ _;refine au 6 K M ?_;intro c7 _ _ K _ M
  have hse:s=a.n:=by omega
  replace B:=B.step M;rw[hse,←It]at B;have M:=B.mem;exact⟨_,Qd,n+1,c7,rfl,(K.sub rfl),(B.step M).less (.cons_cons _ (.cons _ (.cons_cons _ (.cons_cons _ (.refl _))))),Qd⟩
 refine QM ?_;show W _ _ _ _ _ _ _;refine Qb 2 K M ?_
 have hne:n=a.n:=by omega
 replace B:=B.step M;rw[hne]at B;have hA9:=Acc.ofM (fun z=>iZ z) (c:=c12) (m:=0) (L:=Z4 a a.n) (by rw[Wm];omega);rw[Wm]at hA9;exact⟨_,rfl,B.newRow hA9 (fun c m l h=>by rw[List.mem_singleton.1 h];simp),B.qt⟩

theorem TN{st:St}(hf:Qh st){co cs:Nat}{ko:AV}(hco:Y9 st.h.get co 0 [ko])(ho:Jg st.h.get [] 1 (zC out) ko)(hcs:Y9 st.h.get cs 0 [iN s])(hbd: ∀z∈out,-1≤z∧z≤1000)(hs:out[s]? =some y){t:Int}(h0:0≤t)(ht:t<((out.length:Nat):Int)): ∃v st',QV 163 [iZ t,.ptr co 0 0,.ptr cs 0 0] st v st'∧v=.bool (decide (cv out t.toNat=y-1))∧Qt st st':=by
 have hsl:=(List.getElem?_eq_some_iff.1 hs).1;refine Jv Tryz.func163 Tryz.ntmps163 fun T K=>?_;have M:=Mem.start hf;refine Qb 1 K M fun _ K=>?_;refine QT (l:=[(0,0),(1,0),(2,0),(3,0),(4,0),(5,0),(6,0),(7,0),(8,0),(9,0),(10,0)]) (by kernel_rfl) ?_;refine q1 rfl K (Qi rfl (Qr (M.Jf Qx hco) (Qc Jn rfl))) fun _ K=>q1 rfl K (Q8 rfl) fun _ K=>?_;obtain⟨y7,hi7⟩:=YL out ((t).toNat) Qd;have hbd7:=hbd y7 (List.mem_of_getElem? hi7);obtain⟨x7,m7,f7,q7,_,la7,lo7,lp7⟩:=(Jg.mem M ho Qx).load (i:=(t).toNat) (cs:=_) (JG hi7);refine q1 rfl K (Qn (j:=(t).toNat) QD (congrArg some q7) (congrArg (fun z=>some (iZ z)) (by omega:_=(((t).toNat:Nat):Int))) (by rw[Qy];omega)) fun _ K=>q1 rfl K (Qi rfl (lo7 _ 0 _ Qs rfl)) fun _ K=>q1 rfl K (Qi rfl (Qr (M.Jf Qx hco) (Qc Jn rfl))) fun _ K=>q1 rfl K (Qi rfl (Qr (M.Jf Qx hcs) (Qc Qs rfl))) fun _ K=>?_;obtain⟨y11,hi11⟩:=YL out s Qd;have hbd11:=hbd y11 (List.mem_of_getElem? hi11);refine dI rfl rfl (Jg.mem M ho Qx) (JG hi11) K QD Qs rfl rfl rfl fun _ _ _ _ K=>?_;refine UT 3 K M fun _ K=>?_;refine Jd ?_;show W _ _ _ _ _ _ _;refine Qb 0 K M ?_
 have e11:y11=y:=by rw[hs]at hi11;injection hi11 with h;exact h.symm
 subst e11;exact⟨by rw[show cv out t.toNat=y7 by unfold cv;rw[hi7];rfl],M.qt⟩

theorem IG{st:St}(hf:Qh st){a:Au}(hD:JH st F dp a)(C:Canon a)(hsh:a.acc.any id=true→(UE a).isSome=true): ∃v st',QV 106 [.ptr dp 0 0] st v st'∧((UE a=none∧v=.tup [.nils,.bool false])∨ ∃w kw,UE a=some w∧v=.tup [kw,.bool true]∧HB st st' 1 kw (zC (zN w)))∧Qt st st':=by
 have wf:=hD.wf;have htr:=wf.tr;have hmo:=wf.most;have hps:=wf.pos;have hln:=wf.len;have hen:a.n=a.acc.length:=rfl;have hp6:=JL htr;have B:=Ql.start hf;have hfl:=Wm (a:=a) a.n
 have hbd: ∀z∈Z4 a a.n,-1≤z∧z≤1000:=fun z hz=>by have:=DD (a:=a) (B:=((a.n:Nat):Int)) a.n Qd z hz;omega
 refine Jv Tryz.func106 Tryz.ntmps106 fun T K=>?_;have M:=B.mem;refine Qb 3 K M fun _ K=>?_;refine oQ K M (yw M.fresh (hD.q (B.step M).qt) C) rfl rfl fun _ _ K M=>?_;refine Qb 0 K M fun _ K=>?_;refine UJ K rfl (fun h10=>?_) fun h10=>?_
 ·have hb10:=h10
  replace h10:((a.acc.any id))=false:=by simpa using h10
  refine Qb 2 K M ?_;refine⟨.inl ⟨?_,rfl⟩,(B.step M).qt⟩
  have hany:a.acc.any id=false:=by simpa using h10
  unfold UE;rw[if_neg (by rw[hany];decide)]
 have hb10:=h10
 replace h10:((a.acc.any id))=true:=by simpa using h10
 refine Qb 0 K M fun _ K=>?_
 have hany:a.acc.any id=true:=by simpa using h10
 obtain⟨w,hw0⟩:=Option.isSome_iff_exists.1 (hsh hany)
 have hwf0:FL a (Z4 a a.n) 401 0=some w:=by unfold UE at hw0;rw[if_pos hany]at hw0;exact hw0
 refine Qb 1 K M fun _ K=>?_;replace B:=B.step M;obtain⟨v12,st12,ev12,nau,q12⟩:=H3 B.fresh (hD.q B.qt);refine p1 K (Qf rfl ev12) fun _ K=>?_;obtain⟨kato,kn,vs,Ato,Fn,rfl,hAto,B⟩:=B.He q12 nau;replace B:=B.less (List.sublist_append_left _ _);have hkato:=hAto.cell;have hknc:Qw kn=true:=(Zw.rd (B.at_ (k:=0) rfl)).cell;have M:=B.mem;refine p1 K (XV rfl ((U6 _).trans (Qc QW rfl))) fun _ K=>?_;refine Qb 3 K M fun _ K=>?_;replace B:=B.step M;obtain⟨v16,st16,ev16,kf,rfl,nrf,q16⟩:=vP B.fresh (hD.q B.qt) (Zw.r (B.at_ (k:=0) rfl));refine p1 K (Qf rfl ev16) fun _ K=>?_;obtain⟨Af,hAf,M⟩:=M.Yq q16 nrf;replace hAf:=hAf.z0;simp only[W4]at M;refine au 1 K M ?_;intro c5 _ _ K _ M;refine Jk (k:=0) K M rfl rfl rfl XP (hAf.cell) rfl fun _ M=>?_;refine au 2 K M ?_;intro c17 _ _ K _ M;replace M:=Mem.cast (M':=((c5,0,[v16])::(Af++([(c17,0,[])]++[])))) (Mem.perm M (List.perm_append_comm (α:=Nat×Nat×List AV) (l₁:=[(c17,0,[])]) (l₂:=((c5,0,[v16])::(Af++[]))))) Za;have hAL1:Acc 0 1 [(c17,0,[])] (.sl c17 0 0 0 1) []:=Acc.own (n0:=0) (z:=1) (c:=c17) (m:=0) (ls:=[]) (Nat.zero_le _) Qx Qx;refine au 2 K M ?_;intro c7 _ _ K _ M;refine Je (fun mm1 T st9=> ∃(f:Nat) (s:Nat) (cs:Nat) (wd:List Nat) (kw:AV) (Aw:QP) (wr:List Nat),mm1=f∧QH [(2,.nils),(3,.bool false),(4,kn),(5,.ptr c5 0 0),(6,kw),(7,.ptr cs 0 0)] T∧Ql st Ei st9 ((cs,0,[iN s])::(c5,0,[v16])::(Af++(Aw++[]))) [Oc Fn kn vs a.nx]∧FL a (Z4 a a.n) f s=some wr∧wd++wr=w∧s<a.n∧wd.length+f≤401∧Acc 0 1 Aw kw (zC (zN wd))) (fun mm1 T st9 hI=>?_) _ _ _ ⟨401,0,c7,[],(.sl c17 0 0 0 1),[(c17,0,[])],w,rfl,(K.sub rfl),(B.step M).less (.refl _),hwf0,rfl,hps,Q9,hAL1⟩;obtain⟨f,s,cs,wd,kw,Aw,wr,rfl,K,B,hwf,hcat,hsn,hwl,hAw⟩:=hI;have M:=B.mem;refine Qb 2 K M fun _ K=>?_;obtain⟨y20,hi20⟩:=YL (Z4 a a.n) s Qd;have hbd20:=hbd y20 (List.mem_of_getElem? hi20);refine oI (Mem.Zv (L:=[(cs,0,[iN s]),(c5,0,[v16])]) (B:=(Aw++[])) M hAf) (JG hi20) K QD Qs rfl rfl rfl fun _ _ _ _ K=>?_;refine Qb 1 K M fun _ K=>?_;refine U8 K rfl (fun h22=>?_) fun h22=>?_
 ·refine Qb 2 K M fun _ K=>?_;obtain⟨s25,hi25⟩:=YL a.nx s Qd;obtain⟨w25,hv25,hr25,hz25,hf25⟩:=((B.step M).at_ (k:=0) rfl).vs.at_ _ _ hi25;have hw25:=wf.row s25 (List.mem_of_getElem? hi25);have hl25:s25.length=2^a.tr:=hw25.1;refine oI ((B.step M).at_ (k:=0) rfl).rd (by rw[List.getElem?_map,hv25];rfl) K QK Jn rfl rfl rfl fun _ _ _ _ K=>?_;refine p1 K (Y6 rfl rfl) fun _ K=>?_;obtain⟨f',c,w',rfl,rfl,hidx,hcl,hw'⟩:=P6 hwf hi20 h22 hi25;have hrwo:=(M.Ud (k:=1) rfl).QI;have hrwn:=(M.Ud (k:=0) rfl).QI;have hrx:=(Mem.Zv (L:=[(cs,0,[iN s]),(c5,0,[v16])]) (B:=(Aw++[])) M hAf);have hfr:=M.fresh;obtain⟨v28,st28,ev28,hv28,q28⟩:=Gc (fo:=163) (fa:=[]) (fc:=[.ptr c5 0 0,.ptr cs 0 0]) (p:=fun t=>decide (cv (Z4 a a.n) t.toNat=y20-1)) M.fresh (Zw.row ((B.step M).at_ (k:=0) rfl) hi25 hv25) Qd (fun x hx st1 q1=>TN q1.fresh (hrwo.qt hfr q1) (hrx.qt hfr q1) (hrwn.qt hfr q1) hbd hi20 (hw25.2 x hx).1 (by have:=(hw25.2 x hx).2;omega));refine p1 K (Qf rfl ev28) fun _ K=>?_;rw[hidx]at hv28;subst hv28;replace M:=M.quiet q28;refine au 4 K M ?_;intro c31 _ _ K _ M;refine Jx (k2:=0) (L:=((c31,0,[iN c])::(cs,0,[iN s])::(c5,0,[v16])::(Af++[]))) (B:=[]) K (Mem.cast M Za) hAw QR rfl rfl rfl rfl (by simp only[Qy,zN,List.length_map];omega) rfl fun ks32 A32 _ _ K hA32 M=>?_;simp only[W4]at M;refine Qb 3 K M fun _ K=>?_;obtain⟨s35,hi35⟩:=YL a.nx s Qd;obtain⟨w35,hv35,hr35,hz35,hf35⟩:=((B.step M).at_ (k:=0) rfl).vs.at_ _ _ hi35;have hw35:=wf.row s35 (List.mem_of_getElem? hi35);have hl35:s35.length=2^a.tr:=hw35.1;refine oI ((B.step M).at_ (k:=0) rfl).rd (by rw[List.getElem?_map,hv35];rfl) K QK Jn rfl rfl rfl fun _ _ _ _ K=>?_;refine Qb 1 K M fun _ K=>?_;obtain⟨y38,hi38⟩:=YL s35 c Qd;have hb38:=hw35.2 y38 (List.mem_of_getElem? hi38);obtain⟨z38,rfl⟩: ∃m:Nat,y38=((m:Nat):Int):=⟨_,(Int.toNat_of_nonneg hb38.1).symm⟩;refine oI (Zw.row ((B.step M).at_ (k:=0) rfl) hi35 hv35) (JG hi38) K QD Qs rfl rfl rfl fun _ _ _ _ K=>?_;refine au 4 K M ?_;intro c7 _ _ K _ M;have hg38:a.go s c=z38:=UG hi35 hi38;exact⟨_,(Nat.lt_succ_self _),f',z38,c7,(wd++[c]),ks32,A32,w',rfl,(K.sub rfl),(B.step M).less (.cons_cons _ (.cons _ (.cons _ (.cons_cons _ (.refl _))))),(by rw[←hg38];exact hw'),(by rw[List.append_assoc];exact hcat),Qd,(by rw[List.length_append,List.length_singleton];omega),(by rw[EX,JJ];exact hA32)⟩
 refine QM ?_;show W _ _ _ _ _ _ _;refine Qb 3 K M ?_;have hwe:=T8 hwf hi20 h22;subst hwe;rw[List.append_nil]at hcat;subst hcat;exact⟨.inr ⟨wd,_,hw0,rfl,(B.step M).newRow hAw (fun c m l h=>by simp[h])⟩,(B.step M).qt⟩
end Go.Proofs.YtildagdnomiahaaGreatDoor
