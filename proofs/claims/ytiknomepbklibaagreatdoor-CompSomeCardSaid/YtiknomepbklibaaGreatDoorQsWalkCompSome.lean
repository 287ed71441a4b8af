/-
  sibylref12: what holds of sets, where nothing is bound.
-/
import Derived.Test.YtiknomepbklibaaGreatDoorQsHoP
set_option maxHeartbeats 8000000
set_option maxRecDepth 100000
set_option linter.unnecessarySimpa false
set_option linter.unusedSimpArgs false
set_option linter.unusedVariables false
namespace Go.Proofs.YtiknomepbklibaaGreatDoor
open Go Go.RowKit
section
variable {a b g n:Int} {k:Cr} {l:List Cr} {o:List Nat}

theorem Fg(h:XO l=true)(hk:k∈l):UY k=true:=by
 induction l with
 |nil=>cases hk
 |cons x l ih=>
  rw[XO,Bool.and_eq_true]at h;rcases List.mem_cons.1 hk with rfl|hk
  ·exact h.1
  ·exact ih h.2 hk
theorem RW(h: ∀(j:Nat) (k:Cr),j<l.length→l[j]? =some k→UY k=true):XO l=true:=by
 induction l with
 |nil=>rfl
 |cons x l ih=>rw[XO,h 0 x Q4 rfl,ih fun j k hj hk=>h (j+1) k (by simpa using hj) hk];rfl
theorem Pd{j:Nat}(hj:l[j]? =some k)(h:UY k=false):XO l=false:=by
 by_cases e:XO l=true
 ·rw[Fg e (VI hj)]at h;cases h
 ·simpa using e
theorem vp(h:UY (.mk o a b g n l)=true):o≠[101,120]∧XO l=true:=by
 rw[UY]at h;simp only[Bool.and_eq_true,decide_eq_true_eq]at h;exact⟨h.2,h.1⟩
theorem yG{m:Int}(h:QV (.mk o a b g n l) m=true)(hm:0≤m):0≤a∧0≤b∧0≤g∧0≤n∧n≤20∧(o≠[101,120]→(a=0∨a<m)∧(b=0∨b<m)∧(g=0∨g<m)):=by
 have fld: ∀{h:List Nat} {k:Nat} {v n:Int},JL h k v n=true→0≤v∧(v=0∨v<n):=fun{h k v n} hf=>by
  unfold JL at hf
  split at hf<;>simp at hf<;>omega
 rw[QV]at h;simp only[Bool.and_eq_true]at h;obtain⟨_,_,h3,h4⟩:=h;have hn:=fld h3
 by_cases e:o=[101,120]
 ·rw[if_pos e]at h4;simp only[Bool.and_eq_true,decide_eq_true_eq]at h4;exact⟨by omega,by omega,by omega,hn.1,by omega,fun h=>absurd e h⟩
 ·rw[if_neg e]at h4;simp only[Bool.and_eq_true]at h4;have k1:=fld h4.1;have k2:=fld h4.2.1;have k3:=fld h4.2.2.1;exact⟨k1.1,k2.1,k3.1,hn.1,by omega,fun _=>⟨k1.2,k2.2,k3.2⟩⟩
theorem yi{S:Nat→Nat}{d:Int}(ho:o=[110,111,116])(hl:l.length=1)(hi:l[0]? =some k):QC S (.mk o a b d n l)= !QC S k:=by
 obtain⟨x,rfl⟩:=List.length_eq_one_iff.1 hl
 injection hi with hi
 subst hi ho;rw[QC,if_pos rfl];simp[EJ]
theorem Ii{S:Nat→Nat}{d:Int}{k':Cr}(ho:o=[97,110,100])(hl:l.length=2)(hi:l[0]? =some k)(hi':l[1]? =some k'):QC S (.mk o a b d n l)=(QC S k&&QC S k'):=by
 match l,hl with
 |[x,y],_=>
  injection hi with hi
  injection hi' with hi'
  subst hi hi' ho;rw[QC,if_neg Q8,if_pos rfl];simp[EJ]
theorem uO{m:Int}(h:QV (.mk o a b g n l) m=true):(o=[110,111,116]→l.length=1)∧(o=[97,110,100]→l.length=2):=by
 rcases Z9 h with⟨hat,rfl⟩|⟨rfl,x,rfl,_⟩|⟨rfl,x,y,rfl,_,_⟩|⟨rfl,x,rfl,_⟩
 ·refine⟨fun e=>?_,fun e=>?_⟩<;>subst e<;>(unfold VQ at hat;simp at hat)
 ·exact⟨fun _=>rfl,fun e=>by simp at e⟩
 ·exact⟨fun e=>by simp at e,fun _=>rfl⟩
 ·exact⟨fun e=>by simp at e,fun e=>by simp at e⟩
abbrev Gm(sets:List Nat)(v:Nat):Nat:=(sets[v]?).getD 0
theorem ax{sets:List Nat}{B:Nat}(h: ∀a∈sets,a<B)(hB:0<B)(v:Nat):Gm sets v<B:=by
 unfold Gm
 cases e:sets[v]? with
 |none=>exact hB
 |some a=>exact h a (List.mem_of_getElem? e)
theorem Yq(x y:Nat):decide (((x:Nat):Int)=((y:Nat):Int))=decide (x=y):=by rw[decide_eq_decide];omega
theorem SO(a:Nat):Yn a=(decide (0<a)&&decide (a&&&(a-1)=0)):=rfl

theorem Ls{st:St}(hf:Qi st){a:Nat}(ha:a<9223372036854775807): ∃v st',Jf 84 [iN a] st v st'∧v=.bool (Yn a)∧Qt st st':=by
 refine J7 Tryz.func84 Tryz.ntmps84 fun T K=>?_;have M:=Mem.start hf;refine Qb 3 K M fun _ K=>?_;refine Ug K rfl (fun _ e5 K=>?_) fun _ e5 K=>?_
 · refine Qb 7 K M ?_;refine⟨?_,M.qt⟩;rw[SO]
   first
    |(have h5: ¬0<a:=Qc;simp[h5,Qj];done)
    |(have h5:0<a:=Qc;simp[h5,Qj];done)
    |(have h5:0<a:=Qc;simp[h5,Qj];omega)
 refine Qb 2 K M fun _ K=>?_;refine pg K rfl rfl (Nw rfl rfl Qc Qc) fun _ K=>pg K rfl rfl (HV (a:=a) (b:=(a-1)) rfl rfl Qc Qc) fun _ K=>?_;refine Qb 3 K M ?_;refine⟨?_,M.qt⟩;rw[SO]
 first
  |(have h5: ¬0<a:=Qc;simp[h5,Qj];done)
  |(have h5:0<a:=Qc;simp[h5,Qj];done)
  |(have h5:0<a:=Qc;simp[h5,Qj];omega)

theorem qe(x:Cr): ∀(R:VN) (st:St) (cs:List AV),Qi st→Yy R st.h.get→YI R x cs→ ∃v st',Jf 30 [.agg cs] st v st'∧v=.bool (UY x)∧Qt st st':=by
 refine E9 (M:=fun x=> ∀(R:VN) (st:St) (cs:List AV),Qi st→Yy R st.h.get→YI R x cs→ ∃v st',Jf 30 [.agg cs] st v st'∧v=.bool (UY x)∧Qt st st') (fun o a b g n l ih=>?_) x;intro R st cs hf hR hr;have hr0:=hr;obtain⟨kc,ls,rfl,hK⟩:=hr.U0;have hln:=hK.ln;have hbn:=hK.W3;refine J7 Tryz.func30 Tryz.ntmps30 fun T K=>?_;have M:=Mem.start hf;refine Qb 0 K M fun _ K=>?_;refine Jv K M rfl (Qa rfl (Qa rfl (Qa rfl (Qa rfl (Qa rfl (Qa hK.cell Qz)))))) Q8 fun c1 _ _ K M=>?_;refine Qb 2 K M fun _ K=>?_;refine QX (fun mm1 T st9=> ∃(i:Nat),mm1=l.length-i∧QS [(1,.ptr c1 0 0),(3,iN i)] T∧Mem st.h.get st.n [] st9 [(c1,0,[.str o,iZ a,iZ b,iZ g,iZ n,kc])]∧i≤l.length∧(∀(j:Nat) (k:Cr),j<i→l[j]? =some k→UY k=true)) (fun mm1 T st9 hI=>?_) _ _ _ ⟨0,rfl,(K.sub rfl),M.less (.refl _),(Nat.zero_le _),(fun j k hj=>absurd hj (Nat.not_lt_zero j))⟩;obtain⟨i,rfl,K,M,hi,hx⟩:=hI;refine Qb 3 K M fun _ K=>?_;refine p1 K (Q5 JN rfl rfl hK.len) fun _ K=>?_;refine Qb 1 K M fun _ K=>?_;refine Jt K rfl (fun h8=>?_) fun h8=>?_
 ·refine Qb 3 K M fun _ K=>?_;obtain⟨⟨o14,a14,b14,g14,n14,l14⟩,hi14⟩: ∃k,l[i]? =some k:=⟨_,List.getElem?_eq_getElem Qc⟩;have hm14:=VI hi14;obtain⟨_,hc14,hn14⟩:=hK.get hi14;have hp14:=hn14;obtain⟨kc14,ls14,rfl,hK14⟩:=hp14.U0;refine Te (hK.r (M.Yy hR)) hc14 K Ji QW rfl rfl fun _ _ _ _ K=>?_;refine oQ K M (ih _ hm14 R _ _ M.fresh (M.Yy hR) hn14) rfl rfl fun _ _ K M=>?_;refine Qb 1 K M fun _ K=>?_;refine Uq K rfl (fun h17=>?_) fun h17=>?_
  ·have hb17:=h17
   replace h17:(UY (.mk o14 a14 b14 g14 n14 l14))=false:=by simpa using h17
   refine Qb 1 K M ?_;refine⟨?_,M.qt⟩;rw[UY,Pd hi14 h17];rfl
  have hb17:=h17
  replace h17:(UY (.mk o14 a14 b14 g14 n14 l14))=true:=by simpa using h17
  refine Qb 3 K M fun _ K=>?_;exact⟨_,Qc,i+1,rfl,(K.sub rfl),M.less (.refl _),Qc,(fun j k hj hq=>by by_cases e:j=i;subst e;rw[hi14]at hq;injection hq with hq;subst hq;exact h17;exact hx j k Qc hq)⟩
 refine QK ?_;show W _ _ _ _ _ _ _;refine Qb 2 K M fun _ K=>?_;refine p1 K (Hd (b:=[101,120]) rfl rfl) fun _ K=>?_;refine Qb 1 K M ?_;refine⟨?_,M.qt⟩;rw[UY,RW fun j k hj hk=>hx j k Qc hk,Bool.true_and]
 congr 1
 first|rfl|simp

theorem qc(x:Cr): ∀(sets:List Nat) (ks:AV) (bd:Nat) (R:VN) (st:St) (cs:List AV),Qi st→Yy R st.h.get→YI R x cs→Jg st.h.get [] 1 (zC (zN sets)) ks→(∀a∈sets,a<65536)→UY x=true→QV x ((sets.length:Nat):Int)=true→bd≤8→ ∃v st',Jf 58 [.agg cs,ks,iN bd] st v st'∧v=.bool (QC (Gm sets) x)∧Qt st st':=by
 refine E9 (M:=fun x=> ∀(sets:List Nat) (ks:AV) (bd:Nat) (R:VN) (st:St) (cs:List AV),Qi st→Yy R st.h.get→YI R x cs→Jg st.h.get [] 1 (zC (zN sets)) ks→(∀a∈sets,a<65536)→UY x=true→QV x ((sets.length:Nat):Int)=true→bd≤8→ ∃v st',Jf 58 [.agg cs,ks,iN bd] st v st'∧v=.bool (QC (Gm sets) x)∧Qt st st') (fun o a b g n l ih=>?_) x;intro sets ks bd R st cs hf hR hr hks hsl hfb hc hbd;have hr0:=hr;obtain⟨kc,ls,rfl,hK⟩:=hr.U0;have hln:=hK.ln;have hbn:=hK.W3;obtain⟨ha0,hb0,hg0,hn0,hn20,hfld⟩:=yG hc Qc;obtain⟨hne,hfl⟩:=vp hfb;obtain⟨hfa,hfbb,hfg⟩:=hfld hne;have hkl:=uO hc;obtain⟨an,rfl⟩: ∃m:Nat,a=((m:Nat):Int):=⟨a.toNat,by omega⟩;obtain⟨bn,rfl⟩: ∃m:Nat,b=((m:Nat):Int):=⟨b.toNat,by omega⟩;obtain⟨dn,rfl⟩: ∃m:Nat,g=((m:Nat):Int):=⟨g.toNat,by omega⟩;obtain⟨nn,rfl⟩: ∃m:Nat,n=((m:Nat):Int):=⟨n.toNat,by omega⟩;have hkc:=hks.cell;have hB:=ax hsl Q8;have hkb:=hks.W3;rw[Qp,List.length_map]at hkb;have B:=Qk.start hf;refine J7 Tryz.func58 Tryz.ntmps58 fun T K=>?_;have M:=B.mem;refine Qb 0 K M fun _ K=>?_;refine Jv K M rfl (Qa rfl (Qa rfl (Qa rfl (Qa rfl (Qa rfl (Qa hK.cell Qz)))))) Q8 fun c3 _ _ K M=>?_;refine p1 K (JV rfl) fun _ K=>XT ?_;show W _ _ _ _ _ _ _;refine Jy<|W7<|p1 K (JV rfl) fun _ K=>p1 K (JV rfl) fun _ K=>p1 K (JV rfl) fun _ K=>XT ?_;show W _ _ _ _ _ _ _;refine CM (J:=fun T st9=> ∃(xa:Nat) (xb:Nat) (xd:Nat),QS [(1,ks),(2,iN bd),(3,.ptr c3 0 0),(6,.bool false),(7,iN xa),(8,iN xb),(9,iN xd)] T∧Qk st ZQ st9 [(c3,0,[.str o,iN an,iN bn,iN dn,iN nn,kc])] []∧xa=Gm sets an∧xb=Gm sets bn∧xd=Gm sets dn) ?_ (fun T st9 hJ=>?_)
 ·refine Qb 2 K M fun _ K=>?_;refine p1 K (Hd (b:=[101,120]) rfl rfl) fun _ K=>?_;refine qR K rfl (fun _ e14 K=>?_) fun _ e14 K=>?_
  · exfalso;exact hne e14
  refine Qb 1 K M fun _ K=>?_;refine pg K rfl rfl (Q5 Je rfl rfl (hks.len.trans (congrArg some (by rw[Qp,List.length_map])))) fun _ K=>?_;refine Qb 2 K M fun _ K=>?_;refine Jt K rfl (fun h18=>?_) fun h18=>?_
  · refine QA (l:=[(0,0),(1,0),(2,0),(3,0),(4,0),(5,0),(6,0),(7,0),(8,0),(9,0),(10,0),(11,0),(12,0),(13,0),(14,0),(15,0),(16,0),(17,0)]) (by kernel_rfl) ?_;refine Jo 3 K M fun _ K=>?_;obtain⟨y22,hi22⟩:=Uy sets an Qc;refine dI rfl rfl ((B.step M).F5 hf hks) (Xw hi22) K Qo Qn rfl rfl rfl fun _ _ _ _ K=>?_;refine Jo 3 K M fun _ K=>?_;obtain⟨y27,hi27⟩:=Uy sets bn Qc;refine dI rfl rfl ((B.step M).F5 hf hks) (Xw hi27) K Qo Qn rfl rfl rfl fun _ _ _ _ K=>?_;refine Jo 3 K M fun _ K=>?_;obtain⟨y32,hi32⟩:=Uy sets dn Qc;refine dI rfl rfl ((B.step M).F5 hf hks) (Xw hi32) K Qo Qn rfl rfl rfl fun _ _ _ _ K=>?_;refine Jo 3 K M fun _ K=>?_;refine QF ?_;exact⟨y22,y27,y32,(K.sub rfl),(B.step M).less (.refl _),(by first|(simp[Gm,hi22];done)|(have h0:sets=[]:=List.eq_nil_of_length_eq_zero Qc;simp[Gm,h0])),(by first|(simp[Gm,hi27];done)|(have h0:sets=[]:=List.eq_nil_of_length_eq_zero Qc;simp[Gm,h0])),(by first|(simp[Gm,hi32];done)|(have h0:sets=[]:=List.eq_nil_of_length_eq_zero Qc;simp[Gm,h0]))⟩
  refine Ra ?_;exact⟨0,0,0,(K.sub rfl),(B.step M).less (.refl _),(by first|(simp[Gm,hi22];done)|(have h0:sets=[]:=List.eq_nil_of_length_eq_zero Qc;simp[Gm,h0])),(by first|(simp[Gm,hi27];done)|(have h0:sets=[]:=List.eq_nil_of_length_eq_zero Qc;simp[Gm,h0])),(by first|(simp[Gm,hi32];done)|(have h0:sets=[]:=List.eq_nil_of_length_eq_zero Qc;simp[Gm,h0]))⟩
 obtain⟨xa,xb,xd,K,B,hxa,hxb,hxd⟩:=hJ;have M:=B.mem;have hxaB:=hB an;have hxbB:=hB bn;have hxdB:=hB dn;rw[←hxa]at hxaB;rw[←hxb]at hxbB;rw[←hxd]at hxdB;refine Qb 2 K M fun _ K=>?_;refine p1 K (QG (b:=[116,114,117,101]) rfl rfl) fun _ K=>?_;refine Qb 1 K M fun _ K=>?_;refine Jt K rfl (fun h36=>?_) fun h36=>?_
 ·refine Qb 1 K M ?_;refine⟨?_,(B.step M).qt⟩
  first
   |(subst_vars;simp only[Yq];simp[QC,QL,Qj];done)
   |(subst_vars;simp only[Yq];simp_all [QC,QL,Qj];done)
   |(subst_vars;simp[QC,QL,Qj];done)
   |(subst_vars;simp[QC,QL,Qj];omega)
   |(subst_vars;simp_all [QC,QL,Qj];done)
   |(subst_vars;simp_all [QC,QL,Qj];omega)
 refine Qb 0 K M fun _ K=>?_;refine p1 K (QG (b:=[115,117,98]) rfl rfl) fun _ K=>?_;refine Qb 1 K M fun _ K=>?_;refine Jt K rfl (fun h38=>?_) fun h38=>?_
 ·refine Qb 2 K M fun _ K=>?_;refine p1 K (He rfl rfl Qc Qc) fun _ K=>?_;refine Qb 2 K M ?_;refine⟨?_,(B.step M).qt⟩
  first
   |(subst_vars;simp only[Yq];simp[QC,QL,Qj];done)
   |(subst_vars;simp only[Yq];simp_all [QC,QL,Qj];done)
   |(subst_vars;simp[QC,QL,Qj];done)
   |(subst_vars;simp[QC,QL,Qj];omega)
   |(subst_vars;simp_all [QC,QL,Qj];done)
   |(subst_vars;simp_all [QC,QL,Qj];omega)
 refine Qb 0 K M fun _ K=>?_;refine p1 K (QG (b:=[115,105,110,103]) rfl rfl) fun _ K=>?_;refine Qb 1 K M fun _ K=>?_;refine Jt K rfl (fun h44=>?_) fun h44=>?_
 ·refine Qb 1 K M fun _ K=>?_;refine oQ K M (Ls M.fresh (a:=xa) Qc) rfl rfl fun _ _ K M=>?_;refine Qb 1 K M ?_;refine⟨?_,(B.step M).qt⟩
  first
   |(subst_vars;simp only[Yq];simp[QC,QL,Qj];done)
   |(subst_vars;simp only[Yq];simp_all [QC,QL,Qj];done)
   |(subst_vars;simp[QC,QL,Qj];done)
   |(subst_vars;simp[QC,QL,Qj];omega)
   |(subst_vars;simp_all [QC,QL,Qj];done)
   |(subst_vars;simp_all [QC,QL,Qj];omega)
 refine Qb 0 K M fun _ K=>?_;refine p1 K (QG (b:=[102,108,97,103]) rfl rfl) fun _ K=>?_;refine Qb 1 K M fun _ K=>?_;refine Jt K rfl (fun h48=>?_) fun h48=>?_
 ·refine Qb 1 K M fun _ K=>?_;refine p1 K (Z0 (a:=xa) rfl rfl Qc) fun _ K=>?_;refine Qb 2 K M ?_;refine⟨?_,(B.step M).qt⟩
  first
   |(subst_vars;simp only[Yq];simp[QC,QL,Qj];done)
   |(subst_vars;simp only[Yq];simp_all [QC,QL,Qj];done)
   |(subst_vars;simp[QC,QL,Qj];done)
   |(subst_vars;simp[QC,QL,Qj];omega)
   |(subst_vars;simp_all [QC,QL,Qj];done)
   |(subst_vars;simp_all [QC,QL,Qj];omega)
 refine Qb 0 K M fun _ K=>?_;refine p1 K (QG (b:=[110,111,110,101]) rfl rfl) fun _ K=>?_;refine Qb 1 K M fun _ K=>?_;refine Jt K rfl (fun h53=>?_) fun h53=>?_
 ·refine Qb 3 K M ?_;refine⟨?_,(B.step M).qt⟩
  first
   |(subst_vars;simp only[Yq];simp[QC,QL,Qj];done)
   |(subst_vars;simp only[Yq];simp_all [QC,QL,Qj];done)
   |(subst_vars;simp[QC,QL,Qj];done)
   |(subst_vars;simp[QC,QL,Qj];omega)
   |(subst_vars;simp_all [QC,QL,Qj];done)
   |(subst_vars;simp_all [QC,QL,Qj];omega)
 refine Qb 0 K M fun _ K=>?_;refine p1 K (QG (b:=[108,101,115,115]) rfl rfl) fun _ K=>?_;refine Qb 1 K M fun _ K=>?_;refine Jt K rfl (fun h57=>?_) fun h57=>?_
 ·refine Qb 1 K M fun _ K=>?_;refine oQ K M (Ls M.fresh (a:=xa) Qc) rfl rfl fun _ _ K M=>?_;refine oB K (Qy rfl) rfl fun b61 _ e61 K=>?_;cases b61
  · refine Qb 9 K M ?_;refine⟨?_,(B.step M).qt⟩
    first
     |(subst_vars;simp only[Yq];simp[QC,QL,Qj];done)
     |(subst_vars;simp only[Yq];simp_all [QC,QL,Qj];done)
     |(subst_vars;simp[QC,QL,Qj];done)
     |(subst_vars;simp[QC,QL,Qj];omega)
     |(subst_vars;simp_all [QC,QL,Qj];done)
     |(subst_vars;simp_all [QC,QL,Qj];omega)
  refine Qb 1 K M fun _ K=>?_;obtain⟨v63,st63,ev63,rfl,q63⟩:=Ls M.fresh (a:=xb) Qc;refine pg K rfl rfl (Qf rfl ev63) fun _ K=>?_;replace M:=M.quiet q63;refine Qb 1 K M fun _ K=>?_;refine oB K (Qy rfl) rfl fun b65 _ e65 K=>?_;cases b65
  · refine Qb 5 K M ?_;refine⟨?_,(B.step M).qt⟩
    first
     |(subst_vars;simp only[Yq];simp[QC,QL,Qj];done)
     |(subst_vars;simp only[Yq];simp_all [QC,QL,Qj];done)
     |(subst_vars;simp[QC,QL,Qj];done)
     |(subst_vars;simp[QC,QL,Qj];omega)
     |(subst_vars;simp_all [QC,QL,Qj];done)
     |(subst_vars;simp_all [QC,QL,Qj];omega)
  refine Qb 5 K M ?_;refine⟨?_,(B.step M).qt⟩
  first
   |(subst_vars;simp only[Yq];simp[QC,QL,Qj];done)
   |(subst_vars;simp only[Yq];simp_all [QC,QL,Qj];done)
   |(subst_vars;simp[QC,QL,Qj];done)
   |(subst_vars;simp[QC,QL,Qj];omega)
   |(subst_vars;simp_all [QC,QL,Qj];done)
   |(subst_vars;simp_all [QC,QL,Qj];omega)
 refine Qb 0 K M fun _ K=>?_;refine p1 K (QG (b:=[112,108,117,115]) rfl rfl) fun _ K=>?_;refine Qb 1 K M fun _ K=>?_;refine Jt K rfl (fun h70=>?_) fun h70=>?_
 ·refine Qb 1 K M fun _ K=>?_;refine oQ K M (Ls M.fresh (a:=xa) Qc) rfl rfl fun _ _ K M=>?_;refine oB K (Qy rfl) rfl fun b74 _ e74 K=>?_;cases b74
  · refine Qb 9 K M ?_;refine⟨?_,(B.step M).qt⟩
    first
     |(subst_vars;simp only[Yq];simp[QC,QL,Qj];done)
     |(subst_vars;simp only[Yq];simp_all [QC,QL,Qj];done)
     |(subst_vars;simp[QC,QL,Qj];done)
     |(subst_vars;simp[QC,QL,Qj];omega)
     |(subst_vars;simp_all [QC,QL,Qj];done)
     |(subst_vars;simp_all [QC,QL,Qj];omega)
  refine Qb 3 K M fun _ K=>?_;refine pg K rfl rfl (U8 (c:=((nn:Nat):Int)) UR Uz rfl (IntWalk.u64_in _ Qc)) fun _ K=>pg K rfl rfl (Ly (a:=xa) (n:=nn) rfl rfl Qc (by have:=Nat.pow_le_pow_right (show 0<2 by decide) (show nn≤20 by omega);have:=Nat.mul_le_mul (show xa≤65535 by omega) this;omega)) fun _ K=>?_;refine Qb 4 K M ?_;refine⟨?_,(B.step M).qt⟩
  first
   |(subst_vars;simp only[Yq];simp[QC,QL,Qj];done)
   |(subst_vars;simp only[Yq];simp_all [QC,QL,Qj];done)
   |(subst_vars;simp[QC,QL,Qj];done)
   |(subst_vars;simp[QC,QL,Qj];omega)
   |(subst_vars;simp_all [QC,QL,Qj];done)
   |(subst_vars;simp_all [QC,QL,Qj];omega)
 refine Qb 0 K M fun _ K=>?_;refine p1 K (QG (b:=[110,117,109]) rfl rfl) fun _ K=>?_;refine Qb 1 K M fun _ K=>?_;refine Jt K rfl (fun h83=>?_) fun h83=>?_
 ·refine Qb 3 K M fun _ K=>?_;refine p1 K (U8 (c:=((nn:Nat):Int)) UR Uz rfl (IntWalk.u64_in _ Qc)) fun _ K=>p1 K (US (n:=nn) rfl rfl Qc) fun _ K=>?_;refine Qb 2 K M ?_;refine⟨?_,(B.step M).qt⟩
  first
   |(subst_vars;simp only[Yq];simp[QC,QL,Qj];done)
   |(subst_vars;simp only[Yq];simp_all [QC,QL,Qj];done)
   |(subst_vars;simp[QC,QL,Qj];done)
   |(subst_vars;simp[QC,QL,Qj];omega)
   |(subst_vars;simp_all [QC,QL,Qj];done)
   |(subst_vars;simp_all [QC,QL,Qj];omega)
 refine Qb 0 K M fun _ K=>?_;refine p1 K (QG (b:=[117,110,105,111,110]) rfl rfl) fun _ K=>?_;refine Qb 1 K M fun _ K=>?_;refine Jt K rfl (fun h91=>?_) fun h91=>?_
 ·refine Qb 3 K M fun _ K=>?_;refine p1 K (BN (a:=xa) (b:=xb) rfl rfl Qc Qc) fun _ K=>?_;refine Qb 2 K M ?_;refine⟨?_,(B.step M).qt⟩
  first
   |(subst_vars;simp only[Yq];simp[QC,QL,Qj];done)
   |(subst_vars;simp only[Yq];simp_all [QC,QL,Qj];done)
   |(subst_vars;simp[QC,QL,Qj];done)
   |(subst_vars;simp[QC,QL,Qj];omega)
   |(subst_vars;simp_all [QC,QL,Qj];done)
   |(subst_vars;simp_all [QC,QL,Qj];omega)
 refine Qb 0 K M fun _ K=>?_;refine p1 K (QG (b:=[105,110,116,101,114]) rfl rfl) fun _ K=>?_;refine Qb 1 K M fun _ K=>?_;refine Jt K rfl (fun h98=>?_) fun h98=>?_
 ·refine Qb 3 K M fun _ K=>?_;refine p1 K (HV (a:=xa) (b:=xb) rfl rfl Qc Qc) fun _ K=>?_;refine Qb 2 K M ?_;refine⟨?_,(B.step M).qt⟩
  first
   |(subst_vars;simp only[Yq];simp[QC,QL,Qj];done)
   |(subst_vars;simp only[Yq];simp_all [QC,QL,Qj];done)
   |(subst_vars;simp[QC,QL,Qj];done)
   |(subst_vars;simp[QC,QL,Qj];omega)
   |(subst_vars;simp_all [QC,QL,Qj];done)
   |(subst_vars;simp_all [QC,QL,Qj];omega)
 refine Qb 0 K M fun _ K=>?_;refine p1 K (QG (b:=[109,105,110,117,115]) rfl rfl) fun _ K=>?_;refine Qb 1 K M fun _ K=>?_;refine Jt K rfl (fun h105=>?_) fun h105=>?_
 ·refine Qb 3 K M fun _ K=>?_;refine p1 K (He rfl rfl Qc Qc) fun _ K=>?_;refine Qb 2 K M ?_;refine⟨?_,(B.step M).qt⟩
  first
   |(subst_vars;simp only[Yq];simp[QC,QL,Qj];done)
   |(subst_vars;simp only[Yq];simp_all [QC,QL,Qj];done)
   |(subst_vars;simp[QC,QL,Qj];done)
   |(subst_vars;simp[QC,QL,Qj];omega)
   |(subst_vars;simp_all [QC,QL,Qj];done)
   |(subst_vars;simp_all [QC,QL,Qj];omega)
 refine Qb 0 K M fun _ K=>?_;refine p1 K (QG (b:=[110,111,116]) rfl rfl) fun _ K=>?_;refine Qb 1 K M fun _ K=>?_;refine Jt K rfl (fun h112=>?_) fun h112=>?_
 ·refine Jy ?_;have hl1:=hkl.1 h112;refine Qb 2 K M fun _ K=>?_;obtain⟨⟨o116,a116,b116,g116,n116,l116⟩,hi116⟩: ∃k,l[0]? =some k:=⟨_,List.getElem?_eq_getElem Qc⟩;have hm116:=VI hi116;obtain⟨_,hc116,hn116⟩:=hK.get hi116;have hp116:=hn116;obtain⟨kc116,ls116,rfl,hK116⟩:=hp116.U0;refine Te (hK.r (fun c m r hr=>(B.step M).U5 hf (hR c m r hr) (fun h=>h))) hc116 K Ji QW rfl rfl fun _ _ _ _ K=>?_;refine Qb 2 K M fun _ K=>?_;have hcd120:=Zx hc hm116;rw[if_neg hne]at hcd120;refine oQ K M (ih _ hm116 sets ks bd R _ _ M.fresh (fun c m r hr=>(B.step M).U5 hf (hR c m r hr) (fun h=>h)) hn116 ((B.step M).F5 hf hks) hsl (Fg hfl hm116) hcd120.1 hbd) rfl rfl fun _ _ K M=>?_;refine Qb 2 K M ?_;refine⟨?_,(B.step M).qt⟩;rw[yi h112 (hkl.1 h112) hi116]
 refine Qb 0 K M fun _ K=>?_;refine p1 K (QG (b:=[97,110,100]) rfl rfl) fun _ K=>?_;refine Qb 1 K M fun _ K=>?_;refine Jt K rfl (fun h122=>?_) fun h122=>?_
 ·refine Jy ?_;have hl2:=hkl.2 h122;refine Qb 2 K M fun _ K=>?_;obtain⟨⟨o126,a126,b126,g126,n126,l126⟩,hi126⟩: ∃k,l[0]? =some k:=⟨_,List.getElem?_eq_getElem Qc⟩;have hm126:=VI hi126;obtain⟨_,hc126,hn126⟩:=hK.get hi126;have hp126:=hn126;obtain⟨kc126,ls126,rfl,hK126⟩:=hp126.U0;refine Te (hK.r (fun c m r hr=>(B.step M).U5 hf (hR c m r hr) (fun h=>h))) hc126 K Ji QW rfl rfl fun _ _ _ _ K=>?_;refine Qb 2 K M fun _ K=>?_;have hcd130:=Zx hc hm126;rw[if_neg hne]at hcd130;refine oQ K M (ih _ hm126 sets ks bd R _ _ M.fresh (fun c m r hr=>(B.step M).U5 hf (hR c m r hr) (fun h=>h)) hn126 ((B.step M).F5 hf hks) hsl (Fg hfl hm126) hcd130.1 hbd) rfl rfl fun _ _ K M=>?_;refine oB K (Qy rfl) rfl fun b131 _ e131 K=>?_;cases b131
  · refine Qb 9 K M ?_;refine⟨?_,(B.step M).qt⟩;have e122:=hkl.2 h122
    first
     |(rw[Ii h122 e122 hi126 hi134];simp_all [Qj];done)
     |(obtain⟨k2,hk2⟩: ∃k2,l[1]? =some k2:=⟨_,List.getElem?_eq_getElem Qc⟩;rw[Ii h122 e122 hi126 hk2];simp_all [Qj];done)
  refine Qb 2 K M fun _ K=>?_;obtain⟨⟨o134,a134,b134,g134,n134,l134⟩,hi134⟩: ∃k,l[1]? =some k:=⟨_,List.getElem?_eq_getElem Qc⟩;have hm134:=VI hi134;obtain⟨_,hc134,hn134⟩:=hK.get hi134;have hp134:=hn134;obtain⟨kc134,ls134,rfl,hK134⟩:=hp134.U0;obtain⟨x134,m134,f134,q134,_,la134,lo134,lp134⟩:=(hK.r (fun c m r hr=>(B.step M).U5 hf (hR c m r hr) (fun h=>h))).load (i:=1) (cs:=_) hc134;refine pg K rfl rfl (Qe (j:=1) Ji (congrArg some q134) rfl (by rw[hK.ln];omega)) fun _ K=>pg K rfl rfl (Qg rfl (la134 _ QW)) fun _ K=>?_;refine Qb 2 K M fun _ K=>?_;have hcd138:=Zx hc hm134;rw[if_neg hne]at hcd138;obtain⟨v138,st138,ev138,rfl,q138⟩:=ih _ hm134 sets ks bd R _ _ M.fresh (fun c m r hr=>(B.step M).U5 hf (hR c m r hr) (fun h=>h)) hn134 ((B.step M).F5 hf hks) hsl (Fg hfl hm134) hcd138.1 hbd;refine pg K rfl rfl (Qf rfl ev138) fun _ K=>?_;replace M:=M.quiet q138;refine Qb 2 K M ?_;refine⟨?_,(B.step M).qt⟩;have e122:=hkl.2 h122
  first
   |(rw[Ii h122 e122 hi126 hi134];simp_all [Qj];done)
   |(obtain⟨k2,hk2⟩: ∃k2,l[1]? =some k2:=⟨_,List.getElem?_eq_getElem Qc⟩;rw[Ii h122 e122 hi126 hk2];simp_all [Qj];done)
 refine Qb 0 K M fun _ K=>?_
 exfalso;rcases Z9 hc with⟨hat,_⟩|⟨e,_⟩|⟨e,_⟩|⟨e,_⟩;unfold VQ at hat;simp_all;exact h112 e;exact h122 e;exact hne e
end
section

theorem TX{w:List Nat}{i l:Nat}(h:w[i]? =some l):w.take (i+1)=w.take i++[l]:=by
 obtain⟨h1,h2⟩:=List.getElem?_eq_some_iff.1 h;rw[List.take_add_one,h];rfl
theorem Rj{w:List Nat}{i l v:Nat}(h:w[i]? =some l):Y2 v (w.take i)|||l/2^v % 2 *2^i=Y2 v (w.take (i+1)):=by
 have hl:=(List.getElem?_eq_some_iff.1 h).1;have:=xo (v:=v) (l:=l) (w:=w.take i);rw[List.length_take,Nat.min_eq_left (Nat.le_of_lt hl)]at this;rw[TX h,←this];rfl
theorem RT{S S':Nat→Nat}{x:Cr}: ∀{m:Int},QV x m=true→UY x=true→(∀v:Nat,v=0∨(v:Int)<m→S v=S' v)→QC S x=QC S' x:=by
 refine E9 (M:=fun x=> ∀{m:Int},QV x m=true→UY x=true→(∀v:Nat,v=0∨(v:Int)<m→S v=S' v)→QC S x=QC S' x) (fun o a b g n l ih=>?_) x;intro m hc hf hS
 have hne:o≠[101,120]∧XO l=true:=by
  rw[UY]at hf;simp only[Bool.and_eq_true,decide_eq_true_eq]at hf;exact⟨hf.2,hf.1⟩
 have hk: ∀y∈l,QC S y=QC S' y:=fun y hy=>by
  have h1:=(Zx hc hy).1;rw[if_neg hne.1]at h1
  have h2:UY y=true:=by
   have hfl:=hne.2;clear ih hc hf hne h1
   induction l with
   |nil=>cases hy
   |cons z l ih2=>
    rw[XO,Bool.and_eq_true]at hfl;rcases List.mem_cons.1 hy with rfl|hy
    ·exact hfl.1
    ·exact ih2 hy hfl.2
  exact ih y hy h1 h2 hS
 have hL:EJ S l=EJ S' l:=by
  clear ih hc hf
  induction l with
  |nil=>rfl
  |cons z l ih2=>rw[EJ,EJ,hk z Q4,ih2 ⟨hne.1,by have:=hne.2;rw[XO,Bool.and_eq_true]at this;exact this.2⟩ fun y hy=>hk y (by simp[hy])]
 have fld: ∀{h:List Nat} {q:Nat} {v n:Int},JL h q v n=true→v.toNat=0∨(v.toNat:Int)<n:=fun{h q v n} hf=>by
  unfold JL at hf
  split at hf<;>simp at hf<;>omega
 have hflds:S a.toNat=S' a.toNat∧S b.toNat=S' b.toNat∧S g.toNat=S' g.toNat:=by
  rw[QV]at hc;simp only[Bool.and_eq_true]at hc;have h4:=hc.2.2.2;rw[if_neg hne.1]at h4;simp only[Bool.and_eq_true]at h4;exact⟨hS _ (fld h4.1),hS _ (fld h4.2.1),hS _ (fld h4.2.2.1)⟩
 rw[QC,QC,hL,hflds.1,hflds.2.1,hflds.2.2]
end
section

def ZS(sets:List Nat)(n:Nat):List Nat:=(List.range n).map fun i=>Y2 i sets
theorem qy(i:Nat):Xm 0 i=0:=by simp[Xm]
theorem q5(n i:Nat):Xm n (i+1)=Xm (n/2) i:=by
 unfold Xm;rw[Nat.pow_succ,Nat.mul_comm,←Nat.div_div_eq_div_mul]
theorem P8(v:Nat): ∀(w:List Nat) (i:Nat),Xm (Y2 v w) i=Xm ((w[i]?).getD 0) v
 |[],i=>by simp[Y2,qy]
 |l::w,0=>by
  have:=EB l v;rw[Y2];show Xm _ 0=Xm l v
  unfold Xm at *
  rw[Nat.pow_zero,Nat.div_one];omega
 |l::w,i+1=>by
  have:=EB l v;rw[Y2,q5,half _ _ this,P8 v w i];rfl
theorem Nb{L:Nat→Nat}{q a:Nat}: ∀(n:Nat),(∀i,i<n→Xm (L i) q=Xm a i)→Y2 q ((List.range n).map L)=a % 2^n
 |0,_=>by simp[Y2,Nat.mod_one]
 |n+1,h=>by
  rw[List.range_succ,List.map_append,List.map_cons,List.map_nil,AW,Nb n fun i hi=>h i Qc,h n Qc,List.length_map,List.length_range,Nat.mod_pow_succ,Nat.mul_comm];rfl
theorem TS{sets:List Nat}{n q:Nat}(h: ∀a∈sets,a<2^n):Y2 q (ZS sets n)=(sets[q]?).getD 0:=by
 unfold ZS;rw[Nb (a:=(sets[q]?).getD 0) n fun i _=>P8 i sets q];refine Nat.mod_eq_of_lt ?_
 cases e:sets[q]? with
 |none=>exact Nat.two_pow_pos n
 |some a=>exact h a (List.mem_of_getElem? e)
theorem IA(sets:List Nat)(n:Nat):X4 (2^sets.length) (ZS sets n):=fun c hc=>by
 obtain⟨i,_,rfl⟩:=List.mem_map.1 hc;exact HM i sets
theorem jD{k c u:Nat}(hc:c<2^k):Zq k c u=c+u *2^k:=by
 unfold Zq;rw[Nat.mod_eq_of_lt hc,Nat.div_eq_of_lt hc,Nat.zero_mul,Nat.add_zero]
theorem TT(sets:List Nat)(v:Nat): ∀(n:Nat),List.zipWith (Zq sets.length) (ZS sets n) ((List.range n).map fun i=>Xm v i)=ZS (sets++[v]) n:=fun n=>by
 unfold ZS;rw[List.zipWith_map];apply List.ext_getElem?;intro i;simp only[List.getElem?_zipWith,List.getElem?_map]
 by_cases h:i<n
 ·rw[List.getElem?_range h];show some (Zq _ _ _)=some _;rw[jD (HM i sets)];exact congrArg some (AW i sets v).symm
 ·rw[List.getElem?_eq_none (by simpa using h)];rfl
abbrev ix(x:Cr)(n:Nat):Cr:=.mk [101,120] ((n:Nat):Int) 0 0 0 [x]
theorem Jl.YB{c:Cr}{sets:List Nat}{v s:Nat}{m:Au}(h:Jl (ix c sets.length) sets.length m s)(hk:sets.length≤6)(hc:QV (ix c sets.length) ((sets.length:Nat):Int)=true)(hf:UY c=true)(hs: ∀a∈sets,a<2^16)(hv:v<2^16)(ht:QC (fun q=>((sets++[v])[q]?).getD 0) c=true):m.ok (m.run 0 (ZS sets 16))=true:=by
 have hkid:=Zx hc (List.mem_singleton.2 rfl);rw[if_pos rfl]at hkid;have h6:=hkid.2 rfl
 have hcc:QV c ((sets.length+1:Nat):Int)=true:=by simpa using hkid.1
 generalize hX:ix c sets.length=X at h
 cases h with
 |atom _ _ h3=>injection hX with e1;exact absurd e1.symm h3
 |not ho=>injection hX with e1;rw[←e1]at ho;simp at ho
 |and ho=>injection hX with e1;rw[←e1]at ho;simp at ho
 | @ex o a b d n x k s p r m acc L ho hx hca hm htr h=>
  injection hX with _ _ _ _ _ e6
  injection e6 with e6
  subst e6;have hpt:=hx.tr;have hw:=IA sets 16;rw[h.like _ (by unfold Au.K;rw[h.tr,htr];exact hw),hm.DP (by unfold Au.K;rw[htr];exact hw)]
  have hw':X4 (2^(p.tr-1)) (ZS sets 16):=by rw[hpt,Nat.add_sub_cancel];exact hw
  refine(zr hx.wf (by rw[hpt];omega) hca hw').2 ⟨(List.range 16).map fun i=>Xm v i,by simp[ZS],fun u hu=>?_,[],(fun c hc=>nomatch hc),?_⟩
  ·obtain⟨i,_,rfl⟩:=List.mem_map.1 hu;exact EB v i
  ·rw[List.append_nil,TT]
   have hz:X4 (2^(sets.length+1)) (ZS (sets++[v]) 16):=by
    have:=IA (sets++[v]) 16
    rwa [List.length_append]at this
   rw[hx.holds Qc hcc hf hz,←ht];refine RT hcc hf fun q _=>TS fun a ha=>?_;rcases List.mem_append.1 ha with ha|ha
   ·exact hs a ha
   ·rw[List.mem_singleton.1 ha];exact hv
end
section
variable {R:VN}

theorem YI.one{x:Cr}{cs:List AV}{o:List Nat}{a b g n:Int}{c m:Nat}(hx:YI R x cs)(hr:R c m cs):YI R (.mk o a b g n [x]) [.str o,.int .i64 a,.int .i64 b,.int .i64 g,.int .i64 n,.sl c m 0 1 6]:=by
 have h6:=hx.iw;refine YI.node (kids:=[x]) hr Q4 (by simp[h6]) fun i k hi=>?_
 match i with
 |0=>injection hi with hi;subst hi;rw[show 0+0 *6=0 by rfl,List.drop_zero,List.take_of_length_le Qc];exact hx
 |i+1=>simp at hi
theorem Qk.fW{st0 st:St}{M:QM}{Os:List Ob}(B:Qk st0 ZQ st M Os)(hf:Qi st0)(hR:Yy R st0.h.get)(A:QM)(hA: ∀x∈A,x∈M):Yy (Np R A) st.h.get:=fun c m r hr=>hr.elim (fun h=>B.U5 hf (hR c m r h) (fun h=>h)) fun h=>(B.row _ _ _ (hA _ h)).Jb
theorem Qk.im{st0 st:St}{X0:Fp}{M:QM}{Os:List Ob}{k mp:Nat}{o:Ob}(B:Qk st0 X0 st M Os)(hk:Os[k]? =some o)(ho:o.F mp)(A:QM)(hA: ∀x∈A,x∈M)(hR: ∀c m r,R c m r→c≠mp): ∀c m r,Np R A c m r→c≠mp:=fun c m r hr=>hr.elim (hR c m r) fun h e=>B.djM o (List.mem_of_getElem? hk) c m r (hA _ h) (by rw[e];exact ho)
theorem CW{α:Type}{M:List α}{a:α}{i:Nat}(h:M[i]? =some a): ∀x∈[a],x∈M:=fun x hx=>by rw[List.mem_singleton.1 hx];exact List.mem_of_getElem? h
end
section
variable {bd:Nat}

theorem aO(l:List Nat)(v:Nat):zC (zN l)++[[AV.int .i64 (v:Nat)]]=zC (zN (l++[v])):=by simp[zC,zN]
theorem wN(h:bd≤8):2^bd≤256:=Nat.pow_le_pow_right (show 0<2 by decide) h

theorem RU{R:VN}{st:St}(hf:Qi st)(hR:Yy R st.h.get){a b g n:Int}{o9:List Nat}{a9 b9 g9 n9:Int}{l9:List Cr}{kc:AV}{ls:List (List AV)}(hK:YF R [(.mk o9 a9 b9 g9 n9 l9)] kc ls){sets:List Nat}{ks:AV}(hks:Jg st.h.get [] 1 (zC (zN sets)) ks)(hsl: ∀a∈sets,a<65536)(hfb:UY (.mk o9 a9 b9 g9 n9 l9)=true)(hc:QV (.mk o9 a9 b9 g9 n9 l9) ((sets.length+1:Nat):Int)=true)(hl6:sets.length≤6)(hbd:bd≤8): ∃v st',Jf 58 [.agg [.str [101,120],iZ a,iZ b,iZ g,iZ n,kc],ks,iN bd] st v st'∧ ∃t,v=.bool t∧(t=true→ ∃u,u<2^bd∧QC (Gm (sets++[u])) (.mk o9 a9 b9 g9 n9 l9)=true)∧Qt st st':=by
 obtain⟨_,hcs,hrc⟩:=hK.get (i:=0) (k:=(.mk o9 a9 b9 g9 n9 l9)) rfl;have hrc0:=hrc;obtain⟨kc9,ls9,rfl,hK9⟩:=hrc.U0;have hkc:=hK.cell;have hkc1:=hK9.cell;have hkln:=hK.ln;have hpb:=wN hbd;have hksc:=hks.cell;have B:=Qk.start hf;refine J7 Tryz.func58 Tryz.ntmps58 fun T K=>?_;have M:=B.mem;refine Qb 0 K M fun _ K=>?_;refine Jv K M rfl (Qa rfl (Qa rfl (Qa rfl (Qa rfl (Qa rfl (Qa hK.cell Qz)))))) Q8 fun c3 _ _ K M=>?_;refine Qb 6 K M fun _ K=>?_;refine p1 K (Hd (b:=[101,120]) rfl rfl) fun _ K=>?_;refine qR K rfl (fun _ e14 K=>?_) fun _ e14 K=>?_
 ·refine Qb 7 K M fun _ K=>?_;refine p1 K (QG (b:=[116,114,117,101]) rfl rfl) fun _ K=>?_;refine Qb 1 K M fun _ K=>?_;refine Jt K rfl (fun h36=>?_) fun h36=>?_
  ·exfalso;simp at h36
  refine Qb 0 K M fun _ K=>?_;refine p1 K (QG (b:=[115,117,98]) rfl rfl) fun _ K=>?_;refine Qb 1 K M fun _ K=>?_;refine Jt K rfl (fun h38=>?_) fun h38=>?_
  ·exfalso;simp at h38
  refine Qb 0 K M fun _ K=>?_;refine p1 K (QG (b:=[115,105,110,103]) rfl rfl) fun _ K=>?_;refine Qb 1 K M fun _ K=>?_;refine Jt K rfl (fun h44=>?_) fun h44=>?_
  ·exfalso;simp at h44
  refine Qb 0 K M fun _ K=>?_;refine p1 K (QG (b:=[102,108,97,103]) rfl rfl) fun _ K=>?_;refine Qb 1 K M fun _ K=>?_;refine Jt K rfl (fun h48=>?_) fun h48=>?_
  ·exfalso;simp at h48
  refine Qb 0 K M fun _ K=>?_;refine p1 K (QG (b:=[110,111,110,101]) rfl rfl) fun _ K=>?_;refine Qb 1 K M fun _ K=>?_;refine Jt K rfl (fun h53=>?_) fun h53=>?_
  ·exfalso;simp at h53
  refine Qb 0 K M fun _ K=>?_;refine p1 K (QG (b:=[108,101,115,115]) rfl rfl) fun _ K=>?_;refine Qb 1 K M fun _ K=>?_;refine Jt K rfl (fun h57=>?_) fun h57=>?_
  ·exfalso;simp at h57
  refine Qb 0 K M fun _ K=>?_;refine p1 K (QG (b:=[112,108,117,115]) rfl rfl) fun _ K=>?_;refine Qb 1 K M fun _ K=>?_;refine Jt K rfl (fun h70=>?_) fun h70=>?_
  ·exfalso;simp at h70
  refine Qb 0 K M fun _ K=>?_;refine p1 K (QG (b:=[110,117,109]) rfl rfl) fun _ K=>?_;refine Qb 1 K M fun _ K=>?_;refine Jt K rfl (fun h83=>?_) fun h83=>?_
  ·exfalso;simp at h83
  refine Qb 0 K M fun _ K=>?_;refine p1 K (QG (b:=[117,110,105,111,110]) rfl rfl) fun _ K=>?_;refine Qb 1 K M fun _ K=>?_;refine Jt K rfl (fun h91=>?_) fun h91=>?_
  ·exfalso;simp at h91
  refine Qb 0 K M fun _ K=>?_;refine p1 K (QG (b:=[105,110,116,101,114]) rfl rfl) fun _ K=>?_;refine Qb 1 K M fun _ K=>?_;refine Jt K rfl (fun h98=>?_) fun h98=>?_
  ·exfalso;simp at h98
  refine Qb 0 K M fun _ K=>?_;refine p1 K (QG (b:=[109,105,110,117,115]) rfl rfl) fun _ K=>?_;refine Qb 1 K M fun _ K=>?_;refine Jt K rfl (fun h105=>?_) fun h105=>?_
  ·exfalso;simp at h105
  refine Qb 0 K M fun _ K=>?_;refine p1 K (QG (b:=[110,111,116]) rfl rfl) fun _ K=>?_;refine Qb 1 K M fun _ K=>?_;refine Jt K rfl (fun h112=>?_) fun h112=>?_
  ·exfalso;simp at h112
  refine Qb 0 K M fun _ K=>?_;refine p1 K (QG (b:=[97,110,100]) rfl rfl) fun _ K=>?_;refine Qb 1 K M fun _ K=>?_;refine Jt K rfl (fun h122=>?_) fun h122=>?_
  ·exfalso;simp at h122
  refine Qb 1 K M fun _ K=>?_;refine QX (fun mm1 T st9=> ∃(i:Nat),mm1=2^bd-i∧QS [(1,ks),(2,iN bd),(3,.ptr c3 0 0),(10,iN i)] T∧Qk st ZQ st9 [(c3,0,[.str [101,120],iZ a,iZ b,iZ g,iZ n,kc])] []∧i≤2^bd) (fun mm1 T st9 hI=>?_) _ _ _ ⟨0,rfl,(K.sub rfl),(B.step M).less (.refl _),(Nat.zero_le _)⟩;obtain⟨i,rfl,K,B,hi⟩:=hI;have M:=B.mem;refine Qb 2 K M fun _ K=>?_;refine p1 K (U8 (c:=((bd:Nat):Int)) UR Uz rfl (IntWalk.u64_in _ Qc)) fun _ K=>p1 K (US (n:=bd) rfl rfl Qc) fun _ K=>?_;refine Qb 1 K M fun _ K=>?_;refine Jt K rfl (fun h144=>?_) fun h144=>?_
  ·refine Qb 0 K M fun _ K=>?_;refine QA (l:=[(4,0),(5,0),(6,0),(7,0),(8,0),(9,0),(0,0),(1,2),(2,0),(3,2),(10,0),(11,0)]) (by kernel_rfl) ?_;have Mq:=M;have Bq:=B;have Mz0:=M;have Bz0:=B;refine Xp rfl K M QD Xv rfl rfl rfl rfl rfl fun c151 _ _ K M=>?_;refine q1 rfl K (Qy rfl) fun _ K=>?_;replace M:=Mem.cast (M':=((c3,0,[.str [101,120],iZ a,iZ b,iZ g,iZ n,kc])::([(c151,0,[])]++[]))) (Mem.perm M (List.perm_append_comm (α:=Nat×Nat×List AV) (l₁:=[(c151,0,[])]) (l₂:=[(c3,0,[.str [101,120],iZ a,iZ b,iZ g,iZ n,kc])]))) Ux;have hA0c151:Acc _ 1 [(c151,0,[])] (.sl c151 0 0 0 1) []:=Acc.own (z:=1) (c:=c151) (m:=0) (ls:=[]) ((M.own c151 0 [] Q4).resolve_right (fun h=>by have hq:=M.nodup;simp at h hq;omega)) Q4 Q4;refine Ef (L:=[(c3,0,[.str [101,120],iZ a,iZ b,iZ g,iZ n,kc])]) (A:=[(c151,0,[])]) (B:=[]) rfl K M hA0c151 QD rfl rfl ((B.step M).F5 hf hks) (EW _) (by(simp only[List.length_append,List.length_nil,Qp,List.length_map];omega)) rfl fun ks153 A153 _ _ K hA153 M=>?_;replace hA153:=hA153.z0;have Mp:=Mq;have Mq:=M;have Bp:=Bq;have Bq:=B;have Mz1:=M;have Bz1:=B;refine q1 rfl K (Qy rfl) fun _ K=>?_;refine Xp rfl K M QD Xv rfl rfl rfl rfl rfl fun c155 _ _ K M=>?_;refine ZT (k2:=0) (L:=[(c155,0,[iN i]),(c3,0,[.str [101,120],iZ a,iZ b,iZ g,iZ n,kc])]) (B:=[]) rfl K M hA153 QD rfl rfl rfl rfl (by(simp only[List.length_append,List.length_nil,Qp,List.length_map];omega)) rfl fun ks156 A156 _ _ K hA156 M=>?_;have Mp:=Mq;have Mq:=M;have Bp:=Bq;have Bq:=B;have Mz2:=M;have Bz2:=B;refine Jo 1 K M fun _ K=>?_
   refine XD rfl K rfl (M.load (k:=1) rfl (Qd X8 rfl)) Q4 (by intro s hs;simp only[List.take_succ_cons,List.take_zero,List.mem_cons,List.not_mem_nil,or_false]at hs;rcases hs with rfl|rfl<;>first|exact(Mz1.load (k:=0) rfl (Qd X8 rfl))|exact(Mz0.load (k:=0) rfl (Qd X8 rfl))) (JI (Ub hK.len)) rfl Q8 fun _ K=>?_
   obtain⟨x149,m149,f149,q149,_,lf149⟩:=Jg.wc (hK.r (fun c m r hr=>(B.step M).U5 hf (hR c m r hr) (fun h=>h))) (i:=0) (cs:=_) hcs;refine q1 rfl K (Qe (j:=0) Ji (congrArg some q149) rfl (by rw[hK.ln];exact Nat.zero_lt_one)) fun _ K=>?_
   refine XD rfl K rfl ((lf149 _ _ (hK.r (fun c m r hr=>(B.step M).U5 hf (hR c m r hr) (fun h=>h)))).1 _ QW) Q4 (by intro s hs;simp only[List.take_succ_cons,List.take_zero,List.mem_cons,List.not_mem_nil,or_false]at hs;rcases hs with rfl|rfl<;>first|exact((lf149 _ _ (hK.r (fun c m r hr=>(Bz1.step Mz1).U5 hf (hR c m r hr) (fun h=>h)))).1 _ QW)|exact((lf149 _ _ (hK.r (fun c m r hr=>(Bz0.step Mz0).U5 hf (hR c m r hr) (fun h=>h)))).1 _ QW)) (Fs (by simp[AE,AF,WU,Ub hK9.len])) rfl Q8 fun _ K=>?_
   refine q1 rfl K (Qy rfl) fun _ K=>?_;have hrw158:Jg _ [] 1 (zC (zN (sets++[i]))) _:=(by rw[←aO];exact(Mem.Ys (L:=[(c155,0,[iN i]),(c3,0,[.str [101,120],iZ a,iZ b,iZ g,iZ n,kc])]) (B:=[]) M hA156));obtain⟨v158,st158,ev158,rfl,q158⟩:=qc _ (sets++[i]) ks156 bd R _ _ M.fresh (fun c m r hr=>(B.step M).U5 hf (hR c m r hr) (fun h=>h)) hrc0 hrw158 (fun x hx=>by rcases List.mem_append.1 hx with hx|hx;exact hsl x hx;rw[List.mem_singleton.1 hx];omega) hfb (by rw[List.length_append];exact hc) Qc;refine qA rfl K (Qf rfl ev158) fun _ K=>?_;replace M:=M.quiet q158;have Mp:=Mq;have Mq:=M;have Bp:=Bq;have Bq:=B;have Mz3:=M;have Bz3:=B;refine QF ?_;show W _ _ _ _ _ _ _;refine Uq K rfl (fun h158=>?_) fun h158=>?_
   ·have hb158:=h158;refine Qb 1 K M ?_;exact⟨_,rfl,fun _=>⟨i,by omega,h158⟩,(B.step M).qt⟩
   have hb158:=h158;refine Qb 3 K M fun _ K=>?_;exact⟨_,Qc,i+1,rfl,(K.sub rfl),(B.step M).less (.cons _ (.cons_cons _ (List.nil_sublist _))),Qc⟩
  refine QK ?_;show W _ _ _ _ _ _ _;refine Qb 1 K M ?_;exact⟨_,rfl,fun h=>(by cases h),(B.step M).qt⟩
 exfalso;exact e14 rfl

theorem DZ{R:VN}{st:St}(hf:Qi st)(hR:Yy R st.h.get){a b g n:Int}{o9:List Nat}{a9 b9 g9 n9:Int}{l9:List Cr}{kc:AV}{ls:List (List AV)}(hK:YF R [(.mk o9 a9 b9 g9 n9 l9)] kc ls){sets:List Nat}{ks:AV}(hks:Jg st.h.get [] 1 (zC (zN sets)) ks)(hsl: ∀a∈sets,a<65536)(hfb:UY (.mk o9 a9 b9 g9 n9 l9)=true)(hc:QV (.mk o9 a9 b9 g9 n9 l9) ((sets.length+1:Nat):Int)=true)(hl6:sets.length≤6)(hr0:YI R (.mk [101,120] a b g n [(.mk o9 a9 b9 g9 n9 l9)]) [.str [101,120],iZ a,iZ b,iZ g,iZ n,kc])(his:zI (.mk [101,120] a b g n [(.mk o9 a9 b9 g9 n9 l9)]) ((sets.length:Nat):Int)=true)(hbd:bd≤8): ∃v st',Jf 32 [.agg [.str [101,120],iZ a,iZ b,iZ g,iZ n,kc],ks,iN bd] st v st'∧ ∃t,v=.bool t∧(t=true→ ∃u,u<2^bd∧QC (Gm (sets++[u])) (.mk o9 a9 b9 g9 n9 l9)=true)∧Qt st st':=by
 have hkc:=hK.cell;have hksc:=hks.cell;have hkb:=hks.W3;rw[Qp,List.length_map]at hkb;have B:=Qk.start hf;refine J7 Tryz.func32 Tryz.ntmps32 fun T K=>?_;have M:=B.mem;refine au 4 K M ?_;intro c3 _ _ K _ M;refine Ug K rfl (fun _ e10 K=>?_) fun _ e10 K=>?_
 ·refine Qb 3 K M fun _ K=>?_;refine Ug K rfl (fun _ e14 K=>?_) fun _ e14 K=>?_
  ·refine Qb 2 K M fun _ K=>?_;refine pg K rfl rfl (Q5 Je rfl rfl (hks.len.trans (congrArg some (by rw[Qp,List.length_map])))) fun _ K=>?_;obtain⟨v18,st18,ev18,hv18,q18⟩:=Nl M.fresh (fun c m r hr=>(B.step M).U5 hf (hR c m r hr) (fun h=>h)) hr0 ((sets.length:Nat):Int);refine pg K rfl rfl (Qf rfl ev18) fun _ K=>?_;rw[his]at hv18;subst hv18;replace M:=M.quiet q18;refine Qb 4 K M fun _ K=>?_;refine QX (fun mm1 T st9=> ∃(i:Nat),mm1=sets.length-i∧QS [(1,ks),(2,iN bd),(3,.ptr c3 0 0),(7,iN i)] T∧Qk st ZQ st9 [(c3,0,[.str [101,120],iZ a,iZ b,iZ g,iZ n,kc])] []∧i≤sets.length) (fun mm1 T st9 hI=>?_) _ _ _ ⟨0,rfl,(K.sub rfl),(B.step M).less (.refl _),(Nat.zero_le _)⟩;obtain⟨i,rfl,K,B,hi⟩:=hI;have M:=B.mem;refine Qb 2 K M fun _ K=>?_;refine p1 K (Q5 Je rfl rfl (hks.len.trans (congrArg some (by rw[Qp,List.length_map])))) fun _ K=>?_;refine Qb 1 K M fun _ K=>?_;refine Jt K rfl (fun h24=>?_) fun h24=>?_
   ·refine Qb 2 K M fun _ K=>?_;obtain⟨y29,hi29⟩:=Uy sets i Qc;have hyb29:=hsl y29 (List.mem_of_getElem? hi29);refine oI ((B.step M).F5 hf hks) (Xw hi29) K Qo Qn rfl rfl rfl fun _ _ _ _ K=>?_;refine Qb 1 K M fun _ K=>?_;refine Ug K rfl (fun _ e32 K=>?_) fun _ e32 K=>?_
    ·refine Qb 2 K M fun _ K=>?_;obtain⟨x35,m35,f35,q35,_,la35,lo35,lp35⟩:=((B.step M).F5 hf hks).load (i:=i) (cs:=_) (Xw hi29);refine pg K rfl rfl (Qe (j:=i) Qo (congrArg some q35) rfl (by rw[Qp,List.length_map];omega)) fun _ K=>pg K rfl rfl (Qg rfl (lo35 _ 0 _ Qn rfl)) fun _ K=>?_;refine Qb 2 K M fun _ K=>?_;refine Jt K rfl (fun h38=>?_) fun h38=>?_
     ·exfalso;omega
     refine Qb 3 K M fun _ K=>?_;exact⟨_,Qc,i+1,rfl,(K.sub rfl),(B.step M).less (.refl _),Qc⟩
    exfalso;omega
   refine QK ?_;show W _ _ _ _ _ _ _;refine Qb 3 K M fun _ K=>?_;have M9:=M;obtain⟨v42,st42,ev42,tx,rfl,htx,q42⟩:=RU M.fresh (fun c m r hr=>(B.step M).U5 hf (hR c m r hr) (fun h=>h)) (a:=a) (b:=b) (g:=g) (n:=n) hK ((B.step M).F5 hf hks) hsl hfb hc hl6 hbd;refine p1 K (Qf rfl ev42) fun _ K=>?_;replace M:=M.quiet q42;refine Qb 1 K M ?_;exact⟨_,rfl,htx,(B.step M).qt⟩
  exfalso;omega
 exfalso;omega
end
section

theorem PZ(z:List Nat)(i:Nat):ZS z (i+1)=ZS z i++[Y2 i z]:=by
 unfold ZS;rw[List.range_succ,List.map_append];rfl
theorem Rk{i q:Nat}{z:List Nat}(hq:q≤z.length)(h6:z.length≤6):Y2 i (z.take q)<64:=by
 have h1:=HM i (z.take q);have h2:=Nat.pow_le_pow_right (show 0<2 by decide) (show(z.take q).length≤6 by rw[List.length_take];omega);omega

theorem Py{R:VN}{st:St}(hf:Qi st)(hR:Yy R st.h.get){o:List Nat}{a b g n:Int}{l:List Cr}{cs:List AV}(hr:YI R (.mk o a b g n l) cs)(m:Int){z:List Int}{kz:AV}(hz:Jg st.h.get [] 1 (zC z) kz)(bd:Int): ∃v st',Jf 9 [.agg cs,iZ m,kz,iZ bd] st v st'∧v=.bool true:=by
 have hr0:=hr;obtain⟨kc,ls,rfl,hK⟩:=hr.U0;have hln:=hK.ln;have hbn:=hK.W3
 have hbnz:(z.length:Int)≤9223372036854775807:=by have:=hz.W3;rw[Qp]at this;exact this
 have hkc:=hK.cell;have hzc:=hz.cell;have B:=Qk.start hf;refine J7 Tryz.func9 Tryz.ntmps9 fun T K=>?_;have M:=B.mem;refine Qb 0 K M fun _ K=>?_;refine Jv K M rfl (Qa rfl (Qa rfl (Qa rfl (Qa rfl (Qa rfl (Qa hK.cell Qz)))))) Q8 fun c4 _ _ K M=>?_;refine Qb 3 K M fun _ K=>?_;refine Xo K M FL VT rfl rfl (Qa rfl (Qa rfl (Qa rfl (Qa rfl (Qa rfl (Qa hK.cell Qz)))))) rfl rfl fun c22 _ _ K M=>?_;refine au 5 K M ?_;intro c9 _ _ K _ M;replace B:=B.step M;obtain⟨v27,st27,ev27,hof1,q27⟩:=uH B.fresh (B.fW hf hR [(c22,0,[.str o,iZ a,iZ b,iZ g,iZ n,kc])] (CW (i:=1) rfl)) (show YI (Np R [(c22,0,[.str o,iZ a,iZ b,iZ g,iZ n,kc])]) (.mk [101,120] m 0 0 0 [(.mk o a b g n l)]) [.str [101,120],iZ m,iZ 0,iZ 0,iZ 0,.sl c22 0 0 1 6]from YI.one (hr0.mono (fun _ _ _=>Lx)) (.inr (.head _))) m;refine p1 K (Qf rfl ev27) fun _ K=>?_;obtain⟨t1,ka1,kn1,ok1,F1,m1,s1,rfl,hka1,hkn1,hnf1,hq1⟩:=hof1;replace B:=B.new (o:=FT F1 (!ok1) m1 ka1 kn1) q27 (fun hb=>(hq1 (by simpa using hb)).2.2.1) hnf1;have M:=B.mem;refine au 4 K M ?_;intro c10 _ _ K _ M;refine QU (k:=0) K M rfl rfl rfl Q9 rfl (Qa rfl (Qa hka1 (Qa hkn1 Qz))) rfl fun _ M=>?_;refine Qb 3 K M fun _ K=>?_;refine oB K (Qy rfl) rfl fun b32 _ e32 K=>?_;cases b32
 · replace e32:(ok1)=true:=by simpa using e32
   refine Qb 2 K M fun _ K=>?_;obtain⟨v35,st35,ev35,rfl,q35⟩:=Nl M.fresh ((B.step M).fW hf hR [(c22,0,[.str o,iZ a,iZ b,iZ g,iZ n,kc])] (CW (i:=2) rfl)) (show YI (Np R [(c22,0,[.str o,iZ a,iZ b,iZ g,iZ n,kc])]) (.mk [101,120] m 0 0 0 [(.mk o a b g n l)]) [.str [101,120],iZ m,iZ 0,iZ 0,iZ 0,.sl c22 0 0 1 6]from YI.one (hr0.mono (fun _ _ _=>Lx)) (.inr (.head _))) m;refine pg K rfl rfl (Qf rfl ev35) fun _ K=>?_;replace M:=M.quiet q35;refine Qb 2 K M fun _ K=>?_;refine oB K (Qy rfl) rfl fun b38 _ e38 K=>?_;cases b38
   · replace e38:(zI (.mk [101,120] m 0 0 0 [(.mk o a b g n l)]) m)=true:=by simpa using e38
     refine Qb 1 K M fun _ K=>?_;refine pg K rfl rfl (Q5 Je rfl rfl (hz.len.trans (congrArg some (Qp _)))) fun _ K=>?_;refine Qb 3 K M fun _ K=>?_;refine qR K rfl (fun _ e44 K=>?_) fun _ e44 K=>?_
     · refine Qb 3 K M fun _ K=>?_;refine Ug K rfl (fun _ e48 K=>?_) fun _ e48 K=>?_
       · refine Qb 3 K M fun _ K=>?_;refine Ug K rfl (fun _ e52 K=>?_) fun _ e52 K=>?_
         · refine Qb 1 K M fun _ K=>?_;obtain⟨v54,st54,ev54,rfl,q54⟩:=qe (.mk o a b g n l) R _ _ M.fresh (fun c m r hr=>(B.step M).U5 hf (hR c m r hr) (fun h=>h)) hr0;refine pg K rfl rfl (Qf rfl ev54) fun _ K=>?_;replace M:=M.quiet q54;refine Qb 2 K M fun _ K=>?_;refine Uq K rfl (fun h56=>?_) fun h56=>?_
           · have hb56:=h56
             replace h56:(UY (.mk o a b g n l))=false:=by simpa using h56
             refine Qb 1 K M ?_
             first
              |rfl
              |(exfalso;omega)
              |(exfalso;obtain⟨u,hu1,hu2⟩:=htx (by simp_all);have hpu:=Nat.pow_le_pow_right (show 0<2 by decide) (show bn≤6 by omega);have hfin:=Jl.YB (c:=(.mk o a b g n l)) (sets:=zn) (v:=u) (s:=s1) (m:=m1) (by rw[hznl];exact hA1) Qc (by rw[hznl];exact hc1) hfb (fun a ha=>hzl a ha) Qc hu2;simp_all;done)
              |(exfalso;simp_all;done)
              |(simp;omega)
           have hb56:=h56
           replace h56:(UY (.mk o a b g n l))=true:=by simpa using h56
           refine Qb 0 K M fun _ K=>?_;have hfb:=h56;have hlz:=e44;obtain⟨hsz1,his1,-,hA1,hs1,rfl⟩:=hq1 (by simp_all);obtain⟨k,rfl,hk6,-,hc1⟩:=ya his1;rw[Int.toNat_natCast]at hA1;replace B:=(B.step M).view (k:=0) (o':=FT F1 false m1 ka1 kn1) rfl (fun _=>(B.step M).at_ (k:=0) rfl (by simp_all)) (fun c hc=>hc);have hkl1:=Xk.len (B.at_ (k:=0) rfl rfl);have hknl1:=Xk.uC (B.at_ (k:=0) rfl rfl);have M:=B.mem;have wf1:=hA1.wf;have htr1:=hA1.tr;have hge1:=hA1.ge;have hps1:=hA1.pos;have hmn1:=wf1.most;have hacl1:m1.acc.length=m1.n:=rfl;obtain⟨bn,rfl⟩: ∃q:Nat,bd=((q:Nat):Int):=⟨bd.toNat,by omega⟩
           have hzk:z.length=k:=by omega
           have hcx:=(Zx hc1 (List.mem_singleton.2 rfl)).1;rw[if_pos rfl]at hcx;have hk5:=(Zx hc1 (List.mem_singleton.2 rfl)).2 rfl
           have hznl:(z.map Int.toNat).length=k:=by rw[List.length_map];exact hzk
           refine Qb 2 K M fun _ K=>?_;refine QX (fun mm1 T st9=> ∃(i:Nat) (kw:AV) (Aw:QM),mm1=16-i∧QS [(1,iN k),(2,kz),(3,iN bn),(9,.ptr c9 0 0),(12,kw),(13,iN i)] T∧Qk st ZQ st9 ((c10,0,[iZ (m1.tr:Nat),ka1,kn1])::(c9,0,[.str [101,120],iN k,iZ 0,iZ 0,iZ 0,(.sl c22 0 0 1 6)])::(c22,0,[.str o,iZ a,iZ b,iZ g,iZ n,kc])::(c4,0,[.str o,iZ a,iZ b,iZ g,iZ n,kc])::(Aw++[])) [FT F1 false m1 ka1 kn1]∧i≤16∧Acc 0 1 Aw kw (zC (zN (ZS (z.map Int.toNat) i)))∧(0<i→ ∀(j:Nat) (c:Int),z[j]? =some c→0≤c∧c<((65536:Nat):Int))) (fun mm1 T st9 hI=>?_) _ _ _ ⟨0,.nils,[],rfl,(K.sub rfl),(B.step M).less (.refl _),(Nat.zero_le _),.none,(fun h=>absurd h (Nat.lt_irrefl 0))⟩;obtain⟨i,kw,Aw,rfl,K,B,hi,hAw,hall⟩:=hI;have M:=B.mem;refine Qb 2 K M fun _ K=>?_;refine Jt K rfl (fun h58=>?_) fun h58=>?_
           · refine Qb 2 K M fun _ K=>?_;refine QX (fun mm2 T st9=> ∃(q:Nat) (l':Nat),mm2=k-q∧QS [(1,iN k),(2,kz),(3,iN bn),(9,.ptr c9 0 0),(12,kw),(13,iN i),(14,iZ (l':Nat)),(15,iN q),(58,.bool (decide (((i:Nat):Int)<16)))] T∧Qk st ZQ st9 ((c10,0,[iZ (m1.tr:Nat),ka1,kn1])::(c9,0,[.str [101,120],iN k,iZ 0,iZ 0,iZ 0,(.sl c22 0 0 1 6)])::(c22,0,[.str o,iZ a,iZ b,iZ g,iZ n,kc])::(c4,0,[.str o,iZ a,iZ b,iZ g,iZ n,kc])::(Aw++[])) [FT F1 false m1 ka1 kn1]∧q≤k∧l'=Y2 i ((z.map Int.toNat).take q)∧(∀(j:Nat) (c:Int),j<q→z[j]? =some c→0≤c∧c<((65536:Nat):Int))) (fun mm2 T st9 hI=>?_) _ _ _ ⟨0,0,rfl,(K.sub rfl),(B.step M).less (.refl _),(Nat.zero_le _),rfl,(fun j c hj=>absurd hj (Nat.not_lt_zero j))⟩;obtain⟨q,l',rfl,K,B,hq,hl,hlet⟩:=hI;have M:=B.mem;refine Qb 3 K M fun _ K=>?_;refine Jt K rfl (fun h63=>?_) fun h63=>?_
             · refine Qb 2 K M fun _ K=>?_;obtain⟨y68,hi68⟩:=Uy z q Qc;refine oI ((B.step M).F5 hf hz) (Jm hi68) K Qo Qn rfl rfl rfl fun _ _ _ _ K=>?_;refine Qb 1 K M fun _ K=>?_;refine Ug K rfl (fun _ e71 K=>?_) fun _ e71 K=>?_
               · refine Qb 2 K M fun _ K=>?_;obtain⟨x74,m74,f74,q74,_,la74,lo74,lp74⟩:=((B.step M).F5 hf hz).load (i:=q) (cs:=_) (Jm hi68);refine pg K rfl rfl (Qe (j:=q) Qo (congrArg some q74) rfl (by rw[Qp];omega)) fun _ K=>pg K rfl rfl (Qg rfl (lo74 _ 0 _ Qn rfl)) fun _ K=>?_;refine Qb 2 K M fun _ K=>?_;refine Jt K rfl (fun h77=>?_) fun h77=>?_
                 · refine Qb 1 K M ?_
                   first
                    |rfl
                    |(exfalso;omega)
                    |(exfalso;obtain⟨u,hu1,hu2⟩:=htx (by simp_all);have hpu:=Nat.pow_le_pow_right (show 0<2 by decide) (show bn≤6 by omega);have hfin:=Jl.YB (c:=(.mk o a b g n l)) (sets:=zn) (v:=u) (s:=s1) (m:=m1) (by rw[hznl];exact hA1) Qc (by rw[hznl];exact hc1) hfb (fun a ha=>hzl a ha) Qc hu2;simp_all;done)
                    |(exfalso;simp_all;done)
                    |(simp;omega)
                 refine Qb 0 K M fun _ K=>?_;obtain⟨zq,rfl⟩: ∃q:Nat,y68=((q:Nat):Int):=⟨y68.toNat,by omega⟩
                 have hwn:(z.map Int.toNat)[q]? =some zq:=by rw[List.getElem?_map,hi68];rfl
                 have hp6:2^q≤64:=Nat.pow_le_pow_right (show 0<2 by decide) (show q≤6 by omega);have hlb:=Rk (i:=i) (q:=q) (z:=z.map Int.toNat) Qc Qc;rw[←hl]at hlb;refine Qb 3 K M fun _ K=>?_;refine oI ((B.step M).F5 hf hz) (Jm hi68) K Qo Qn rfl rfl rfl fun _ _ _ _ K=>?_;refine Qb 1 K M fun _ K=>?_;refine p1 K (U8 (c:=((i:Nat):Int)) UR Uz rfl (IntWalk.u64_in _ Qc)) fun _ K=>p1 K (ZX (a:=zq) (n:=i) rfl rfl Qc) fun _ K=>p1 K (Z0 (a:=(zq/2^i)) rfl rfl (by first|omega|exact Nat.le_trans (Nat.div_le_self _ _) Qc|(have hxq:=Nat.mul_le_mul (show zq/2^i % 2≤1 by omega) hp6;omega))) fun _ K=>?_;refine Qb 1 K M fun _ K=>?_;refine p1 K (U8 (c:=((q:Nat):Int)) UR Uz rfl (IntWalk.u64_in _ Qc)) fun _ K=>p1 K (Ly (a:=((zq/2^i) % 2)) (n:=q) rfl rfl Qc (by first|omega|exact Nat.le_trans (Nat.div_le_self _ _) Qc|(have hxq:=Nat.mul_le_mul (show zq/2^i % 2≤1 by omega) hp6;omega))) fun _ K=>p1 K (BN (a:=l') (b:=(((zq/2^i) % 2) *2^q)) rfl rfl (by first|omega|exact Nat.le_trans (Nat.div_le_self _ _) Qc|(have hxq:=Nat.mul_le_mul (show zq/2^i % 2≤1 by omega) hp6;omega)) (by first|omega|exact Nat.le_trans (Nat.div_le_self _ _) Qc|(have hxq:=Nat.mul_le_mul (show zq/2^i % 2≤1 by omega) hp6;omega))) fun _ K=>?_;refine Qb 4 K M fun _ K=>?_;exact⟨_,Qc,q+1,_,rfl,(K.sub rfl),(B.step M).less (.refl _),Qc,(by rw[hl,Rj hwn]),(E7 hlet hi68 Qc)⟩
               refine Qb 8 K M ?_
               first
                |rfl
                |(exfalso;omega)
                |(exfalso;obtain⟨u,hu1,hu2⟩:=htx (by simp_all);have hpu:=Nat.pow_le_pow_right (show 0<2 by decide) (show bn≤6 by omega);have hfin:=Jl.YB (c:=(.mk o a b g n l)) (sets:=zn) (v:=u) (s:=s1) (m:=m1) (by rw[hznl];exact hA1) Qc (by rw[hznl];exact hc1) hfb (fun a ha=>hzl a ha) Qc hu2;simp_all;done)
                |(exfalso;simp_all;done)
                |(simp;omega)
             refine QK ?_;show W _ _ _ _ _ _ _;refine au 3 K M ?_;intro c93 _ _ K _ M;refine QZ (k2:=0) (L:=[(c93,0,[iZ (l':Nat)]),(c10,0,[iZ (m1.tr:Nat),ka1,kn1]),(c9,0,[.str [101,120],iN k,iZ 0,iZ 0,iZ 0,(.sl c22 0 0 1 6)]),(c22,0,[.str o,iZ a,iZ b,iZ g,iZ n,kc]),(c4,0,[.str o,iZ a,iZ b,iZ g,iZ n,kc])]) (B:=[]) K M hAw QD rfl rfl rfl rfl (by(rw[Qp,List.length_map,ZS,List.length_map,List.length_range];omega)) rfl fun ks94 A94 _ _ K hA94 M=>?_;refine Qb 4 K M fun _ K=>?_;exact⟨_,Qc,i+1,_,_,rfl,(K.sub rfl),(B.step M).less (.cons _ (.refl _)),Qc,(by rw[PZ,show zC (zN (ZS (z.map Int.toNat) i++[Y2 i (z.map Int.toNat)]))=zC (zN (ZS (z.map Int.toNat) i))++[[iZ (Y2 i (z.map Int.toNat):Nat)]]from(aO _ _).symm,←(show l'=Y2 i (z.map Int.toNat) by rw[hl,List.take_of_length_le Qc])];exact hA94),(fun _ j c hj=>hlet j c (by have:=(List.getElem?_eq_some_iff.1 hj).1;omega) hj)⟩
           refine QK ?_;show W _ _ _ _ _ _ _;refine Jy ?_
           obtain rfl:i=16:=by omega
           obtain⟨zn,hzz,hzl⟩:=aP (K:=65536) (fun c hc=>by obtain⟨j,hj⟩:=List.getElem?_of_mem hc;exact hall Q8 j c hj)
           have hznn:z.map Int.toNat=zn:=by rw[hzz];unfold zN;rw[List.map_map];exact(List.map_congr_left fun x _=>Int.toNat_natCast x).trans (List.map_id zn)
           rw[hznn]at hAw hznl
           have hwm:X4 m1.K (ZS zn 16):=by have h9:=IA zn 16;rw[hznl,←htr1]at h9;exact h9
           have hz2:Jg st.h.get [] 1 (zC (zN zn)) kz:=hzz▸hz;refine QA (l:=[(2,0),(0,1),(1,0),(3,0),(4,0),(5,0),(6,0),(7,0),(8,0)]) (by kernel_rfl) ?_;have Mq:=M;have Bq:=B;replace B:=B.step M;obtain⟨v98,st98,ev98,mp98,rfl,hmp98,hrmp98,q98⟩:=u7 B.fresh 1073741824;refine qA rfl K (Qf rfl ev98) fun _ K=>?_;have hzmp98:st.n≤mp98:=Nat.le_trans B.le hmp98;replace B:=B.new (o:=Yr mp98 1073741824 false) q98 hrmp98 (fun c hc=>by rw[show c=mp98 from hc];exact⟨hmp98,hrmp98.lt q98.fresh⟩);have M:=B.mem;have Mp:=Mq;have Mq:=M;have Bp:=Bq;have Bq:=B;refine Ju rfl K rfl (M.load (k:=1) rfl (QN QW rfl)) (Mp.load (k:=1) rfl (QN QW rfl)) (Fs rfl) rfl Q8 fun _ K=>?_;refine q1 rfl K (Qy rfl) fun _ K=>?_;replace B:=B.step M;have B0:=B;obtain⟨v99,st99,ev99,dp99,Fd99,rfl,hDd99,hNd99,hRd99,QB⟩:=qs B.fresh (B.fW hf hR [(c22,0,[.str o,iZ a,iZ b,iZ g,iZ n,kc])] (CW (i:=2) rfl)) (show YI (Np R [(c22,0,[.str o,iZ a,iZ b,iZ g,iZ n,kc])]) (.mk [101,120] ((k:Nat):Int) 0 0 0 [(.mk o a b g n l)]) [.str [101,120],iN k,iZ 0,iZ 0,iZ 0,.sl c22 0 0 1 6]from YI.one (hr0.mono (fun _ _ _=>Lx)) (.inr (.head _))) (B.im (k:=0) rfl rfl [(c22,0,[.str o,iZ a,iZ b,iZ g,iZ n,kc])] (CW (i:=2) rfl) (fun c m r hr=>by have:=hR.lt hf hr;omega)) (show Qx _ mp98 0 [iZ ((1073741824:Nat):Int),.bool false]from B.at_ (k:=0) rfl) Qc hk6 hc1 Qc hA1 Qc;refine qA rfl K (Qf rfl ev99) fun _ K=>?_;replace B:=B.call (k:=0) (o':=Yr mp98 (1073741824-s1) false) rfl QB hRd99 (UC fun c hc=>Nat.lt_of_lt_of_le (B.Y3 (k:=0) rfl c hc) QB.le);replace B:=B0.Zt (k:=0) (o:=Iv Fd99 dp99 m1) (om':=Yr mp98 (1073741824-s1) false) rfl rfl (B.Xf Q4) hDd99.at_ hNd99;have M:=B.mem;have Mp:=Mq;have Mq:=M;have Bp:=Bq;have Bq:=B;refine Jo 5 K M fun _ K=>?_;refine QF ?_;show W _ _ _ _ _ _ _;refine Qb 2 K M fun _ K=>?_;refine qR K rfl (fun _ e104 K=>?_) fun _ e104 K=>?_
           · refine Qb 1 K M fun _ K=>?_;refine pg K rfl rfl (Yg JX rfl rfl) fun _ K=>?_;refine Qb 4 K M fun _ K=>?_;have hrz:=Dq m1 (ZS zn 16) 0 hwm;obtain⟨v111,st111,ev111,hv111,q111⟩:=eY M.fresh ((B.step M).qS (k:=0) rfl) (Mem.Ys (L:=[(c10,0,[iZ (m1.tr:Nat),ka1,kn1]),(c9,0,[.str [101,120],iN k,iZ 0,iZ 0,iZ 0,(.sl c22 0 0 1 6)]),(c22,0,[.str o,iZ a,iZ b,iZ g,iZ n,kc]),(c4,0,[.str o,iZ a,iZ b,iZ g,iZ n,kc])]) (B:=[]) M hAw);refine p1 K (Qf rfl ev111) fun _ K=>?_;rw[hrz]at hv111;subst hv111;replace M:=M.quiet q111;refine Qb 8 K M fun _ K=>?_;have hrE:=(show YI (Np R [(c22,0,[.str o,iZ a,iZ b,iZ g,iZ n,kc])]) (.mk [101,120] ((k:Nat):Int) 0 0 0 [(.mk o a b g n l)]) [.str [101,120],iN k,iZ 0,iZ 0,iZ 0,.sl c22 0 0 1 6]from YI.one (hr0.mono (fun _ _ _=>Lx)) (.inr (.head _)));obtain⟨kcE,lsE,hE,hKE⟩:=hrE.U0
             obtain rfl: .sl c22 0 0 1 6=kcE:=by simpa using hE
             obtain⟨v117,st117,ev117,tx,rfl,htx,q117⟩:=DZ (bd:=bn) M.fresh ((B.step M).fW hf hR [(c22,0,[.str o,iZ a,iZ b,iZ g,iZ n,kc])] (CW (i:=2) rfl)) hKE ((B.step M).F5 hf hz2) (fun a ha=>hzl a ha) hfb (by rw[hznl];simpa using hcx) Qc hrE (by rw[hznl];exact his1) Qc;refine p1 K (Qf rfl ev117) fun _ K=>?_;replace M:=M.quiet q117;refine Qb 1 K M fun _ K=>?_;refine oB K (Qy rfl) rfl fun b119 _ e119 K=>?_;cases b119
             · replace e119:(tx)=true:=by simpa using e119
               refine Qb 2 K M fun _ K=>?_;refine oB K (Qy rfl) rfl fun b122 _ e122 K=>?_;cases b122
               · refine Qb 3 K M ?_
                 first
                  |rfl
                  |(exfalso;omega)
                  |(exfalso;obtain⟨u,hu1,hu2⟩:=htx (by simp_all);have hpu:=Nat.pow_le_pow_right (show 0<2 by decide) (show bn≤6 by omega);have hfin:=Jl.YB (c:=(.mk o a b g n l)) (sets:=zn) (v:=u) (s:=s1) (m:=m1) (by rw[hznl];exact hA1) Qc (by rw[hznl];exact hc1) hfb (fun a ha=>hzl a ha) Qc hu2;simp_all;done)
                  |(exfalso;simp_all;done)
                  |(simp;omega)
               have ev123:=NL;refine pg K rfl rfl (Qf rfl (ev123 _)) fun _ K=>?_;refine Qb 2 K M ?_
               first
                |rfl
                |(exfalso;omega)
                |(exfalso;obtain⟨u,hu1,hu2⟩:=htx (by simp_all);have hpu:=Nat.pow_le_pow_right (show 0<2 by decide) (show bn≤6 by omega);have hfin:=Jl.YB (c:=(.mk o a b g n l)) (sets:=zn) (v:=u) (s:=s1) (m:=m1) (by rw[hznl];exact hA1) Qc (by rw[hznl];exact hc1) hfb (fun a ha=>hzl a ha) Qc hu2;simp_all;done)
                |(exfalso;simp_all;done)
                |(simp;omega)
             replace e119:(tx)=false:=by simpa using e119
             refine Qb 3 K M fun _ K=>?_;have ev123:=NL;refine pg K rfl rfl (Qf rfl (ev123 _)) fun _ K=>?_;refine Qb 2 K M ?_
             first
              |rfl
              |(exfalso;omega)
              |(exfalso;obtain⟨u,hu1,hu2⟩:=htx (by simp_all);have hpu:=Nat.pow_le_pow_right (show 0<2 by decide) (show bn≤6 by omega);have hfin:=Jl.YB (c:=(.mk o a b g n l)) (sets:=zn) (v:=u) (s:=s1) (m:=m1) (by rw[hznl];exact hA1) Qc (by rw[hznl];exact hc1) hfb (fun a ha=>hzl a ha) Qc hu2;simp_all;done)
              |(exfalso;simp_all;done)
              |(simp;omega)
           refine Qb 5 K M ?_
           first
            |rfl
            |(exfalso;omega)
            |(exfalso;obtain⟨u,hu1,hu2⟩:=htx (by simp_all);have hpu:=Nat.pow_le_pow_right (show 0<2 by decide) (show bn≤6 by omega);have hfin:=Jl.YB (c:=(.mk o a b g n l)) (sets:=zn) (v:=u) (s:=s1) (m:=m1) (by rw[hznl];exact hA1) Qc (by rw[hznl];exact hc1) hfb (fun a ha=>hzl a ha) Qc hu2;simp_all;done)
            |(exfalso;simp_all;done)
            |(simp;omega)
         refine Qb 6 K M ?_
         first
          |rfl
          |(exfalso;omega)
          |(exfalso;obtain⟨u,hu1,hu2⟩:=htx (by simp_all);have hpu:=Nat.pow_le_pow_right (show 0<2 by decide) (show bn≤6 by omega);have hfin:=Jl.YB (c:=(.mk o a b g n l)) (sets:=zn) (v:=u) (s:=s1) (m:=m1) (by rw[hznl];exact hA1) Qc (by rw[hznl];exact hc1) hfb (fun a ha=>hzl a ha) Qc hu2;simp_all;done)
          |(exfalso;simp_all;done)
          |(simp;omega)
       refine Qb 10 K M ?_
       first
        |rfl
        |(exfalso;omega)
        |(exfalso;obtain⟨u,hu1,hu2⟩:=htx (by simp_all);have hpu:=Nat.pow_le_pow_right (show 0<2 by decide) (show bn≤6 by omega);have hfin:=Jl.YB (c:=(.mk o a b g n l)) (sets:=zn) (v:=u) (s:=s1) (m:=m1) (by rw[hznl];exact hA1) Qc (by rw[hznl];exact hc1) hfb (fun a ha=>hzl a ha) Qc hu2;simp_all;done)
        |(exfalso;simp_all;done)
        |(simp;omega)
     refine Qb 14 K M ?_
     first
      |rfl
      |(exfalso;omega)
      |(exfalso;obtain⟨u,hu1,hu2⟩:=htx (by simp_all);have hpu:=Nat.pow_le_pow_right (show 0<2 by decide) (show bn≤6 by omega);have hfin:=Jl.YB (c:=(.mk o a b g n l)) (sets:=zn) (v:=u) (s:=s1) (m:=m1) (by rw[hznl];exact hA1) Qc (by rw[hznl];exact hc1) hfb (fun a ha=>hzl a ha) Qc hu2;simp_all;done)
      |(exfalso;simp_all;done)
      |(simp;omega)
   replace e38:(zI (.mk [101,120] m 0 0 0 [(.mk o a b g n l)]) m)=false:=by simpa using e38
   refine Qb 20 K M ?_
   first
    |rfl
    |(exfalso;omega)
    |(exfalso;obtain⟨u,hu1,hu2⟩:=htx (by simp_all);have hpu:=Nat.pow_le_pow_right (show 0<2 by decide) (show bn≤6 by omega);have hfin:=Jl.YB (c:=(.mk o a b g n l)) (sets:=zn) (v:=u) (s:=s1) (m:=m1) (by rw[hznl];exact hA1) Qc (by rw[hznl];exact hc1) hfb (fun a ha=>hzl a ha) Qc hu2;simp_all;done)
    |(exfalso;simp_all;done)
    |(simp;omega)
 replace e32:(ok1)=false:=by simpa using e32
 refine Qb 26 K M ?_
 first
  |rfl
  |(exfalso;omega)
  |(exfalso;obtain⟨u,hu1,hu2⟩:=htx (by simp_all);have hpu:=Nat.pow_le_pow_right (show 0<2 by decide) (show bn≤6 by omega);have hfin:=Jl.YB (c:=(.mk o a b g n l)) (sets:=zn) (v:=u) (s:=s1) (m:=m1) (by rw[hznl];exact hA1) Qc (by rw[hznl];exact hc1) hfb (fun a ha=>hzl a ha) Qc hu2;simp_all;done)
  |(exfalso;simp_all;done)
  |(simp;omega)
end
section
variable {h:Hp} {xs:List AV}

theorem wD:Tryz.prog.underlying 42=some (.slice 44):=by kernel_rfl
theorem wm:Tryz.prog.cellsOf 44=6:=by kernel_rfl
theorem aT: ∃f0 f1 f2 f3 f4 f5:Field,Tryz.prog.underlying 44=some (.struct #[f0,f1,f2,f3,f4,f5])∧(f0.type=9∧f0.offset=0)∧(f1.type=3∧f1.offset=1)∧(f2.type=3∧f2.offset=2)∧(f3.type=3∧f3.offset=3)∧(f4.type=3∧f4.offset=4)∧(f5.type=42∧f5.offset=5):=
 ⟨_,_,_,_,_,_,Tryz.underlying44,⟨rfl,rfl⟩,⟨rfl,rfl⟩,⟨rfl,rfl⟩,⟨rfl,rfl⟩,⟨rfl,rfl⟩,⟨rfl,rfl⟩⟩
theorem kh:Tryz.prog.cellsOf 9=1∧Tryz.prog.cellsOf 3=1∧Tryz.prog.cellsOf 42=1:=⟨by kernel_rfl,by kernel_rfl,by kernel_rfl⟩
theorem xy{H:Type}{d:DataW H}(r:Rd Tryz.prog h 9 xs d): ∃s,xs=[.str s]:=by
 have u:Tryz.prog.underlying 9=some .string:=by kernel_rfl
 cases r with
 |bool ht=>rw[u]at ht;cases ht
 |int ht hw=>rw[u]at ht;cases ht
 |str ht hs=>exact⟨_,rfl⟩
 |nil ht=>rw[u]at ht;cases ht
 |none ht=>rw[u]at ht;cases ht
 |row ht hz hr hl' he hm hd=>rw[u]at ht;cases ht
 |agg ht hl' hp hd=>rw[u]at ht;cases ht
theorem jz{H:Type}{t:TypeId}{d:DataW H}(r:Rd Tryz.prog h t xs d):
  (t=44→ ∃k,YI (Yt h) k xs)∧(t=42→ ∃ks,xs=[ks]∧ ∀o a b g n,∃kids,YI (Yt h) (.mk o a b g n kids) [.str o,.int .i64 a,.int .i64 b,.int .i64 g,.int .i64 n,ks]):=by
 obtain⟨f0,f1,f2,f3,f4,f5,uN,⟨t0,o0⟩,⟨t1,o1⟩,⟨t2,o2⟩,⟨t3,o3⟩,⟨t4,o4⟩,⟨t5,o5⟩⟩:=aT;have uK:=wD
 induction r with
 |bool ht=>exact⟨fun e=>(by subst e;rw[uN]at ht;cases ht),fun e=>(by subst e;rw[uK]at ht;cases ht)⟩
 |int ht hw=>exact⟨fun e=>(by subst e;rw[uN]at ht;cases ht),fun e=>(by subst e;rw[uK]at ht;cases ht)⟩
 |str ht hs=>exact⟨fun e=>(by subst e;rw[uN]at ht;cases ht),fun e=>(by subst e;rw[uK]at ht;cases ht)⟩
 |nil ht=>exact⟨fun e=>(by subst e;rw[uN]at ht;cases ht),fun _=>⟨_,rfl,fun o a b g n=>⟨[],.leaf rfl rfl⟩⟩⟩
 |none ht=>exact⟨fun e=>(by subst e;rw[uN]at ht;cases ht),fun _=>⟨_,rfl,fun o a b g n=>⟨[],.leaf rfl rfl⟩⟩⟩
 |row ht hz hr hl he hm hd ih=>
  rename_i t e c m len cells elems rest;refine⟨fun e=>(by subst e;rw[uN]at ht;cases ht),fun e2=>⟨_,rfl,fun o a b g n=>?_⟩⟩;subst e2;rw[uK]at ht
  injection ht with ht
  injection ht with ht
  subst ht;rw[wm]at hl ih ⊢
  have hk: ∀i,∃k,i<len→YI (Yt h) k ((cells.drop (i *6)).take 6):=fun i=>by
   by_cases hi:i<len
   ·obtain⟨k,hk⟩:=(ih i elems[i] (List.getElem?_eq_getElem (he▸hi))).1 rfl;exact⟨k,fun _=>hk⟩
   ·exact⟨.mk [] 0 0 0 0 [],fun h=>absurd h hi⟩
  obtain⟨f,hf⟩:=Classical.axiomOfChoice hk
  have hlen:((List.range len).map f).length=len:=by simp
  have hmx:(len:Int)≤9223372036854775807:=by
   have h1:(maxLen:Int)≤9223372036854775807:=by decide
   omega
  refine⟨(List.range len).map f,?_⟩
  have:=YI.node (R:=Yt h) (o:=o) (a:=a) (b:=b) (c:=g) (n:=n) (kids:=(List.range len).map f) (off:=0) hr (by rw[hlen];exact hmx) (by rw[hlen];omega) (fun i k hi=>by
   rw[List.getElem?_map]at hi
   have hlt:i<len:=by
    by_cases hi':i<len
    ·exact hi'
    ·rw[List.getElem?_eq_none (by simp;omega)]at hi;cases hi
   rw[List.getElem?_range hlt]at hi
   injection hi with hi
   rw[←hi,Nat.zero_add]
   exact hf i hlt)
  rw[hlen]at this;exact this
 |agg ht hl hp hd ih=>
  rename_i t fs xs parts;refine⟨fun e=>?_,fun e=>(by subst e;rw[uK]at ht;cases ht)⟩;subst e;rw[uN]at ht
  injection ht with ht
  injection ht with ht
  subst ht;rw[wm]at hl
  obtain⟨a0,a1,a2,a3,a4,a5,rfl⟩: ∃a0 a1 a2 a3 a4 a5,xs=[a0,a1,a2,a3,a4,a5]:=by
   match xs,hl with
   |[a0,a1,a2,a3,a4,a5],_=>exact⟨_,_,_,_,_,_,rfl⟩
  obtain⟨d0,d1,d2,d3,d4,d5,rfl⟩: ∃a0 a1 a2 a3 a4 a5,parts=[a0,a1,a2,a3,a4,a5]:=by
   match parts,hp with
   |[a0,a1,a2,a3,a4,a5],_=>exact⟨_,_,_,_,_,_,rfl⟩
  obtain⟨cs,ci,ck⟩:=kh;have r0:=hd 0 f0 d0 rfl rfl;have r1:=hd 1 f1 d1 rfl rfl;have r2:=hd 2 f2 d2 rfl rfl;have r3:=hd 3 f3 d3 rfl rfl;have r4:=hd 4 f4 d4 rfl rfl;have r5:=(ih 5 f5 d5 rfl rfl).2 t5;rw[t0,o0,cs]at r0;rw[t1,o1,ci]at r1;rw[t2,o2,ci]at r2;rw[t3,o3,ci]at r3;rw[t4,o4,ci]at r4;rw[o5,t5,ck]at r5;obtain⟨s0,e0⟩:=xy r0;obtain⟨s1,e1,_⟩:=HQ r1;obtain⟨s2,e2,_⟩:=HQ r2;obtain⟨s3,e3,_⟩:=HQ r3;obtain⟨s4,e4,_⟩:=HQ r4;obtain⟨ks,e5,hk⟩:=r5
  injection e0 with e0;injection e1 with e1;injection e2 with e2;injection e3 with e3;injection e4 with e4;injection e5 with e5
  subst e0 e1 e2 e3 e4 e5;obtain⟨kids,hk⟩:=hk s0 s1 s2 s3 s4;exact⟨_,hk⟩
theorem jy{H:Type}{d:DataW H}(r:Rd Tryz.prog h 44 xs d): ∃k,YI (Yt h) k xs:=(jz r).1 rfl
theorem vj(h:Hp):Yy (Yt h) h:=fun _ _ _ r=>r
theorem YI.later{h':Hp}(hl:zA h h'){k:Cr}{cs:List AV}(r:YI (Yt h) k cs):YI (Yt h') k cs:=r.mono hl
theorem R6:Nq Tryz.prog [44,9,3,42]=true:=by kernel_rfl
theorem qd{H:Type}{enc:TypeId×Value→H}{W:World}{ml:Ko}(hM:Xj W ml){v:Value}{d:DataW H}{p:List MemPlace}(h:DataW.Trod enc Tryz.prog W 0 (fun _=>true) true 44 v d p):
  ∃ml' cs k,ml<+:ml'∧Xj W ml'∧YI (Yt (F8 ml')) k cs∧WF (F8 ml') (.agg cs)∧Qh (Ns ml') (.agg cs)=v:=by
 obtain⟨fuel,h⟩:=h;obtain⟨ml',cs,h1,h2,h3,h4,h5,h6⟩:=lift _ R6 fuel 44 _ d p ml Q4 h hM;obtain⟨k,hk⟩:=jy h6;refine⟨ml',cs,k,h1,h2,hk,h4,?_⟩;obtain⟨e1,e2⟩:=FQ h3 h5
 by_cases hv: ∃cs,v=.agg cs
 ·exact e1 hv
 ·obtain⟨a,rfl,_⟩:=e2 fun cs e=>hv ⟨cs,e⟩;obtain⟨o,a',b,g,n,l⟩:=k;obtain⟨kc,ls,e,_⟩:=hk.U0;cases e
end
section

theorem OD{H:Type}{enc:TypeId×Value→H}{W:World}{v0 v2:Value}{d0 d2:DataW H}{p0 p2:List MemPlace}(h0:DataW.Trod enc Tryz.prog W 0 (fun _=>true) true 44 v0 d0 p0)(k:Int)(h2:DataW.Trod enc Tryz.prog W 0 (fun _=>true) true 54 v2 d2 p2)(n2: ∀cs,v2≠ .agg cs)(bd:Int)(hk: -9223372036854775808≤k∧k≤9223372036854775807)(hbd: -9223372036854775808≤bd∧bd≤9223372036854775807)(hT:EM W):
  Calls Tryz.prog 9 #[v0,.int .i64 k,v2,.int .i64 bd] W fun e w'=>e=.returned (.bool true)∧Below W.heap.size W w':=by
 obtain⟨ml1,cs,⟨o,a,b,g,n,l⟩,_,hM1,hr,hw,hc⟩:=qd Xj.nil h0;obtain⟨ml2,kb,b,p12,hM2,hb,hzb,hwb,hcb⟩:=RV hM1 h2 n2;have hr2:=YI.later (Lu p12) hr
 have:=M6 (G:=yz) (fun _=>rfl) vx mixed (f:=9) (args:=[.agg cs,.int .i64 k,kb,.int .i64 bd]) hM2 ⟨WF.grow (Ih p12) _ hw,trivial,hwb,trivial,trivial⟩
  (Py (Gx ml2) (R:=Yt (F8 ml2)) (by rw[HI];exact vj _) hr2 k (by rw[HI];exact hb) bd) hT
 rw[show Qq (Ns ml2) [.agg cs,.int .i64 k,kb,.int .i64 bd]=[v0,.int .i64 k,v2,.int .i64 bd] by rw[←hc,←hcb,←yH p12 hw];rfl]at this;exact this
end
end Go.Proofs.YtiknomepbklibaaGreatDoor
