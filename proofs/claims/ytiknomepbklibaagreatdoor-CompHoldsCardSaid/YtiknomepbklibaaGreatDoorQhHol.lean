/-
  sibylref12: what holds of sets, where nothing is bound.
-/
import Derived.Test.YtiknomepbklibaaGreatDoorQhHoP
namespace Go.Proofs.YtiknomepbklibaaGreatDoor
open Go Go.RowKit
set_option maxHeartbeats 8000000
set_option linter.unusedVariables false
set_option linter.unusedSimpArgs false
set_option linter.unnecessarySimpa false
set_option maxRecDepth 100000
variable {a b g n:Int} {k:Cr} {l:List Cr} {o:List Nat}

theorem Fa(h:XG l=true)(hk:k∈l):Yi k=true:=by
 induction l with
 |nil=>cases hk
 |cons x l ih=>
  rw[XG,Bool.and_eq_true]at h;rcases List.mem_cons.1 hk with rfl|hk
  ·exact h.1
  ·exact ih h.2 hk
theorem RS(h: ∀(j:Nat) (k:Cr),j<l.length→l[j]? =some k→Yi k=true):XG l=true:=by
 induction l with
 |nil=>rfl
 |cons x l ih=>rw[XG,h 0 x Q7 rfl,ih fun j k hj hk=>h (j+1) k (by simpa using hj) hk];rfl
theorem DX{j:Nat}(hj:l[j]? =some k)(h:Yi k=false):XG l=false:=by
 by_cases e:XG l=true
 ·rw[Fa e (VG hj)]at h;cases h
 ·simpa using e
theorem vo(h:Yi (.mk o a b g n l)=true):o≠[101,120]∧XG l=true:=by
 rw[Yi]at h;simp only[Bool.and_eq_true,decide_eq_true_eq]at h;exact⟨h.2,h.1⟩
theorem yM{m:Int}(h:QX (.mk o a b g n l) m=true)(hm:0≤m):0≤a∧0≤b∧0≤g∧0≤n∧n≤20∧(o≠[101,120]→(a=0∨a<m)∧(b=0∨b<m)∧(g=0∨g<m)):=by
 have fld: ∀{h:List Nat} {k:Nat} {v n:Int},JM h k v n=true→0≤v∧(v=0∨v<n):=fun{h k v n} hf=>by
  unfold JM at hf
  split at hf<;>simp at hf<;>omega
 rw[QX]at h;simp only[Bool.and_eq_true]at h;obtain⟨_,_,h3,h4⟩:=h;have hn:=fld h3
 by_cases e:o=[101,120]
 ·rw[if_pos e]at h4;simp only[Bool.and_eq_true,decide_eq_true_eq]at h4;exact⟨by omega,by omega,by omega,hn.1,by omega,fun h=>absurd e h⟩
 ·rw[if_neg e]at h4;simp only[Bool.and_eq_true]at h4;have k1:=fld h4.1;have k2:=fld h4.2.1;have k3:=fld h4.2.2.1;exact⟨k1.1,k2.1,k3.1,hn.1,by omega,fun _=>⟨k1.2,k2.2,k3.2⟩⟩
theorem yo{S:Nat→Nat}{d:Int}(ho:o=[110,111,116])(hl:l.length=1)(hi:l[0]? =some k):QD S (.mk o a b d n l)= !QD S k:=by
 obtain⟨x,rfl⟩:=List.length_eq_one_iff.1 hl
 injection hi with hi
 subst hi ho;rw[QD,if_pos rfl];simp[EG]
theorem HZ{S:Nat→Nat}{d:Int}{k':Cr}(ho:o=[97,110,100])(hl:l.length=2)(hi:l[0]? =some k)(hi':l[1]? =some k'):QD S (.mk o a b d n l)=(QD S k&&QD S k'):=by
 match l,hl with
 |[x,y],_=>
  injection hi with hi
  injection hi' with hi'
  subst hi hi' ho;rw[QD,if_neg Q9,if_pos rfl];simp[EG]
theorem uV{m:Int}(h:QX (.mk o a b g n l) m=true):(o=[110,111,116]→l.length=1)∧(o=[97,110,100]→l.length=2):=by
 rcases Z9 h with⟨hat,rfl⟩|⟨rfl,x,rfl,_⟩|⟨rfl,x,y,rfl,_,_⟩|⟨rfl,x,rfl,_⟩
 ·refine⟨fun e=>?_,fun e=>?_⟩<;>subst e<;>(unfold VP at hat;simp at hat)
 ·exact⟨fun _=>rfl,fun e=>by simp at e⟩
 ·exact⟨fun e=>by simp at e,fun _=>rfl⟩
 ·exact⟨fun e=>by simp at e,fun e=>by simp at e⟩
abbrev Gg(sets:List Nat)(v:Nat):Nat:=(sets[v]?).getD 0
theorem ai{sets:List Nat}{B:Nat}(h: ∀a∈sets,a<B)(hB:0<B)(v:Nat):Gg sets v<B:=by
 unfold Gg
 cases e:sets[v]? with
 |none=>exact hB
 |some a=>exact h a (List.mem_of_getElem? e)
theorem Ys(x y:Nat):decide (((x:Nat):Int)=((y:Nat):Int))=decide (x=y):=by rw[decide_eq_decide];omega
theorem SK(a:Nat):Yp a=(decide (0<a)&&decide (a&&&(a-1)=0)):=rfl

theorem Lk{st:St}(hf:Qi st){a:Nat}(ha:a<9223372036854775807): ∃v st',Jh 84 [iN a] st v st'∧v=.bool (Yp a)∧Qt st st':=by
 refine JA Tryz.func84 Tryz.ntmps84 fun T K=>?_;have M:=Mem.start hf;refine Qb 3 K M fun _ K=>?_;refine Uj K rfl (fun _ e5 K=>?_) fun _ e5 K=>?_
 · refine Qb 7 K M ?_;refine⟨?_,M.qt⟩;rw[SK]
   first
    |(have h5: ¬0<a:=Qc;simp[h5,Qj];done)
    |(have h5:0<a:=Qc;simp[h5,Qj];done)
    |(have h5:0<a:=Qc;simp[h5,Qj];omega)
 refine Qb 2 K M fun _ K=>?_;refine pg K rfl rfl (Nr rfl rfl Qc Qc) fun _ K=>pg K rfl rfl (HN (a:=a) (b:=(a-1)) rfl rfl Qc Qc) fun _ K=>?_;refine Qb 3 K M ?_;refine⟨?_,M.qt⟩;rw[SK]
 first
  |(have h5: ¬0<a:=Qc;simp[h5,Qj];done)
  |(have h5:0<a:=Qc;simp[h5,Qj];done)
  |(have h5:0<a:=Qc;simp[h5,Qj];omega)

theorem qp(x:Cr): ∀(R:Ee) (st:St) (cs:List AV),Qi st→Y8 R st.h.get→ZO R x cs→ ∃v st',Jh 30 [.agg cs] st v st'∧v=.bool (Yi x)∧Qt st st':=by
 refine E7 (M:=fun x=> ∀(R:Ee) (st:St) (cs:List AV),Qi st→Y8 R st.h.get→ZO R x cs→ ∃v st',Jh 30 [.agg cs] st v st'∧v=.bool (Yi x)∧Qt st st') (fun o a b g n l ih=>?_) x;intro R st cs hf hR hr;have hr0:=hr;obtain⟨kc,ls,rfl,hK⟩:=hr.U5;have hln:=hK.ln;have hbn:=hK.Wv;refine JA Tryz.func30 Tryz.ntmps30 fun T K=>?_;have M:=Mem.start hf;refine Qb 0 K M fun _ K=>?_;refine Ju K M rfl (Qa rfl (Qa rfl (Qa rfl (Qa rfl (Qa rfl (Qa hK.cell Q4)))))) Q9 fun c1 _ _ K M=>?_;refine Qb 2 K M fun _ K=>?_;refine QY (fun mm1 T st9=> ∃(i:Nat),mm1=l.length-i∧QT [(1,.ptr c1 0 0),(3,iN i)] T∧Mem st.h.get st.n [] st9 [(c1,0,[.str o,iZ a,iZ b,iZ g,iZ n,kc])]∧i≤l.length∧(∀(j:Nat) (k:Cr),j<i→l[j]? =some k→Yi k=true)) (fun mm1 T st9 hI=>?_) _ _ _ ⟨0,rfl,(K.sub rfl),M.less (.refl _),(Nat.zero_le _),(fun j k hj=>absurd hj (Nat.not_lt_zero j))⟩;obtain⟨i,rfl,K,M,hi,hx⟩:=hI;refine Qb 3 K M fun _ K=>?_;refine p1 K (Q5 JY rfl rfl hK.len) fun _ K=>?_;refine Qb 1 K M fun _ K=>?_;refine Jy K rfl (fun h8=>?_) fun h8=>?_
 ·refine Qb 3 K M fun _ K=>?_;obtain⟨⟨o14,a14,b14,g14,n14,l14⟩,hi14⟩: ∃k,l[i]? =some k:=⟨_,List.getElem?_eq_getElem Qc⟩;have hm14:=VG hi14;obtain⟨_,hc14,hn14⟩:=hK.get hi14;have hp14:=hn14;obtain⟨kc14,ls14,rfl,hK14⟩:=hp14.U5;refine Ts (hK.r (M.Y8 hR)) hc14 K Jn Jg rfl rfl fun _ _ _ _ K=>?_;refine oQ K M (ih _ hm14 R _ _ M.fresh (M.Y8 hR) hn14) rfl rfl fun _ _ K M=>?_;refine Qb 1 K M fun _ K=>?_;refine Qp (K.QG rfl) (fun h17=>?_) (fun h17=>?_)
  ·have hb17:=h17
   replace h17:(Yi (.mk o14 a14 b14 g14 n14 l14))=false:=by simpa using h17
   refine Qb 1 K M ?_;refine⟨?_,M.qt⟩;rw[Yi,DX hi14 h17];rfl
  have hb17:=h17
  replace h17:(Yi (.mk o14 a14 b14 g14 n14 l14))=true:=by simpa using h17
  refine Qb 3 K M fun _ K=>?_;exact⟨_,Qc,i+1,rfl,(K.sub rfl),M.less (.refl _),Qc,(fun j k hj hq=>by by_cases e:j=i;subst e;rw[hi14]at hq;injection hq with hq;subst hq;exact h17;exact hx j k Qc hq)⟩
 refine QM ?_;show W _ _ _ _ _ _ _;refine Qb 2 K M fun _ K=>?_;refine p1 K (ID (b:=[101,120]) rfl rfl) fun _ K=>?_;refine Qb 1 K M ?_;refine⟨?_,M.qt⟩;rw[Yi,RS fun j k hj hk=>hx j k Qc hk,Bool.true_and]
 congr 1
 first|rfl|simp

theorem qn(x:Cr): ∀(sets:List Nat) (ks:AV) (bd:Nat) (R:Ee) (st:St) (cs:List AV),Qi st→Y8 R st.h.get→ZO R x cs→Jj st.h.get [] 1 (zC (zN sets)) ks→(∀a∈sets,a<65536)→Yi x=true→QX x ((sets.length:Nat):Int)=true→bd≤8→ ∃v st',Jh 58 [.agg cs,ks,iN bd] st v st'∧v=.bool (QD (Gg sets) x)∧Qt st st':=by
 refine E7 (M:=fun x=> ∀(sets:List Nat) (ks:AV) (bd:Nat) (R:Ee) (st:St) (cs:List AV),Qi st→Y8 R st.h.get→ZO R x cs→Jj st.h.get [] 1 (zC (zN sets)) ks→(∀a∈sets,a<65536)→Yi x=true→QX x ((sets.length:Nat):Int)=true→bd≤8→ ∃v st',Jh 58 [.agg cs,ks,iN bd] st v st'∧v=.bool (QD (Gg sets) x)∧Qt st st') (fun o a b g n l ih=>?_) x;intro sets ks bd R st cs hf hR hr hks hsl hfb hc hbd;have hr0:=hr;obtain⟨kc,ls,rfl,hK⟩:=hr.U5;have hln:=hK.ln;have hbn:=hK.Wv;obtain⟨ha0,hb0,hg0,hn0,hn20,hfld⟩:=yM hc Qc;obtain⟨hne,hfl⟩:=vo hfb;obtain⟨hfa,hfbb,hfg⟩:=hfld hne;have hkl:=uV hc;obtain⟨an,rfl⟩: ∃m:Nat,a=((m:Nat):Int):=⟨a.toNat,by omega⟩;obtain⟨bn,rfl⟩: ∃m:Nat,b=((m:Nat):Int):=⟨b.toNat,by omega⟩;obtain⟨dn,rfl⟩: ∃m:Nat,g=((m:Nat):Int):=⟨g.toNat,by omega⟩;obtain⟨nn,rfl⟩: ∃m:Nat,n=((m:Nat):Int):=⟨n.toNat,by omega⟩;have hkc:=hks.cell;have hB:=ai hsl Q9;have hkb:=hks.Wv;rw[Qq,List.length_map]at hkb;have B:=Qk.start hf;refine JA Tryz.func58 Tryz.ntmps58 fun T K=>?_;have M:=B.mem;refine Qb 0 K M fun _ K=>?_;refine Ju K M rfl (Qa rfl (Qa rfl (Qa rfl (Qa rfl (Qa rfl (Qa hK.cell Q4)))))) Q9 fun c3 _ _ K M=>?_;refine p1 K (JW rfl) fun _ K=>XM ?_;show W _ _ _ _ _ _ _;refine Jz<|W7<|p1 K (JW rfl) fun _ K=>p1 K (JW rfl) fun _ K=>p1 K (JW rfl) fun _ K=>XM ?_;show W _ _ _ _ _ _ _;refine CI (J:=fun T st9=> ∃(xa:Nat) (xb:Nat) (xd:Nat),QT [(1,ks),(2,iN bd),(3,.ptr c3 0 0),(6,.bool false),(7,iN xa),(8,iN xb),(9,iN xd)] T∧Qk st Xi st9 [(c3,0,[.str o,iN an,iN bn,iN dn,iN nn,kc])] []∧xa=Gg sets an∧xb=Gg sets bn∧xd=Gg sets dn) ?_ (fun T st9 hJ=>?_)
 ·refine Qb 2 K M fun _ K=>?_;refine p1 K (ID (b:=[101,120]) rfl rfl) fun _ K=>?_;refine zI K rfl (fun _ e14 K=>?_) fun _ e14 K=>?_
  · exfalso;exact hne e14
  refine Qb 1 K M fun _ K=>?_;refine pg K rfl rfl (Q5 Ja rfl rfl (hks.len.trans (congrArg some (by rw[Qq,List.length_map])))) fun _ K=>?_;refine Qb 2 K M fun _ K=>?_;refine Jy K rfl (fun h18=>?_) fun h18=>?_
  · refine QC (l:=[(0,0),(1,0),(2,0),(3,0),(4,0),(5,0),(6,0),(7,0),(8,0),(9,0),(10,0),(11,0),(12,0),(13,0),(14,0),(15,0),(16,0),(17,0)]) (by kernel_rfl) ?_;refine Jo 3 K M fun _ K=>?_;obtain⟨y22,hi22⟩:=Uw sets an Qc;refine dI rfl rfl ((B.step M).FF hf hks) (Xq hi22) K Qo Qn rfl rfl rfl fun _ _ _ _ K=>?_;refine Jo 3 K M fun _ K=>?_;obtain⟨y27,hi27⟩:=Uw sets bn Qc;refine dI rfl rfl ((B.step M).FF hf hks) (Xq hi27) K Qo Qn rfl rfl rfl fun _ _ _ _ K=>?_;refine Jo 3 K M fun _ K=>?_;obtain⟨y32,hi32⟩:=Uw sets dn Qc;refine dI rfl rfl ((B.step M).FF hf hks) (Xq hi32) K Qo Qn rfl rfl rfl fun _ _ _ _ K=>?_;refine Jo 3 K M fun _ K=>?_;refine QF ?_;exact⟨y22,y27,y32,(K.sub rfl),(B.step M).less (.refl _),(by first|(simp[Gg,hi22];done)|(have h0:sets=[]:=List.eq_nil_of_length_eq_zero Qc;simp[Gg,h0])),(by first|(simp[Gg,hi27];done)|(have h0:sets=[]:=List.eq_nil_of_length_eq_zero Qc;simp[Gg,h0])),(by first|(simp[Gg,hi32];done)|(have h0:sets=[]:=List.eq_nil_of_length_eq_zero Qc;simp[Gg,h0]))⟩
  refine PS ?_;exact⟨0,0,0,(K.sub rfl),(B.step M).less (.refl _),(by first|(simp[Gg,hi22];done)|(have h0:sets=[]:=List.eq_nil_of_length_eq_zero Qc;simp[Gg,h0])),(by first|(simp[Gg,hi27];done)|(have h0:sets=[]:=List.eq_nil_of_length_eq_zero Qc;simp[Gg,h0])),(by first|(simp[Gg,hi32];done)|(have h0:sets=[]:=List.eq_nil_of_length_eq_zero Qc;simp[Gg,h0]))⟩
 obtain⟨xa,xb,xd,K,B,hxa,hxb,hxd⟩:=hJ;have M:=B.mem;have hxaB:=hB an;have hxbB:=hB bn;have hxdB:=hB dn;rw[←hxa]at hxaB;rw[←hxb]at hxbB;rw[←hxd]at hxdB;refine Qb 2 K M fun _ K=>?_;refine p1 K (QU (b:=[116,114,117,101]) rfl rfl) fun _ K=>?_;refine Qb 1 K M fun _ K=>?_;refine Jy K rfl (fun h36=>?_) fun h36=>?_
 ·refine Qb 1 K M ?_;refine⟨?_,(B.step M).qt⟩
  first
   |(subst_vars;simp only[Ys];simp[QD,QL,Qj];done)
   |(subst_vars;simp only[Ys];simp_all [QD,QL,Qj];done)
   |(subst_vars;simp[QD,QL,Qj];done)
   |(subst_vars;simp[QD,QL,Qj];omega)
   |(subst_vars;simp_all [QD,QL,Qj];done)
   |(subst_vars;simp_all [QD,QL,Qj];omega)
 refine Qb 0 K M fun _ K=>?_;refine p1 K (QU (b:=[115,117,98]) rfl rfl) fun _ K=>?_;refine Qb 1 K M fun _ K=>?_;refine Jy K rfl (fun h38=>?_) fun h38=>?_
 ·refine Qb 2 K M fun _ K=>?_;refine p1 K (FV rfl rfl Qc Qc) fun _ K=>?_;refine Qb 2 K M ?_;refine⟨?_,(B.step M).qt⟩
  first
   |(subst_vars;simp only[Ys];simp[QD,QL,Qj];done)
   |(subst_vars;simp only[Ys];simp_all [QD,QL,Qj];done)
   |(subst_vars;simp[QD,QL,Qj];done)
   |(subst_vars;simp[QD,QL,Qj];omega)
   |(subst_vars;simp_all [QD,QL,Qj];done)
   |(subst_vars;simp_all [QD,QL,Qj];omega)
 refine Qb 0 K M fun _ K=>?_;refine p1 K (QU (b:=[115,105,110,103]) rfl rfl) fun _ K=>?_;refine Qb 1 K M fun _ K=>?_;refine Jy K rfl (fun h44=>?_) fun h44=>?_
 ·refine Qb 1 K M fun _ K=>?_;refine oQ K M (Lk M.fresh (a:=xa) Qc) rfl rfl fun _ _ K M=>?_;refine Qb 1 K M ?_;refine⟨?_,(B.step M).qt⟩
  first
   |(subst_vars;simp only[Ys];simp[QD,QL,Qj];done)
   |(subst_vars;simp only[Ys];simp_all [QD,QL,Qj];done)
   |(subst_vars;simp[QD,QL,Qj];done)
   |(subst_vars;simp[QD,QL,Qj];omega)
   |(subst_vars;simp_all [QD,QL,Qj];done)
   |(subst_vars;simp_all [QD,QL,Qj];omega)
 refine Qb 0 K M fun _ K=>?_;refine p1 K (QU (b:=[102,108,97,103]) rfl rfl) fun _ K=>?_;refine Qb 1 K M fun _ K=>?_;refine Jy K rfl (fun h48=>?_) fun h48=>?_
 ·refine Qb 1 K M fun _ K=>?_;refine p1 K (Zz (a:=xa) rfl rfl Qc) fun _ K=>?_;refine Qb 2 K M ?_;refine⟨?_,(B.step M).qt⟩
  first
   |(subst_vars;simp only[Ys];simp[QD,QL,Qj];done)
   |(subst_vars;simp only[Ys];simp_all [QD,QL,Qj];done)
   |(subst_vars;simp[QD,QL,Qj];done)
   |(subst_vars;simp[QD,QL,Qj];omega)
   |(subst_vars;simp_all [QD,QL,Qj];done)
   |(subst_vars;simp_all [QD,QL,Qj];omega)
 refine Qb 0 K M fun _ K=>?_;refine p1 K (QU (b:=[110,111,110,101]) rfl rfl) fun _ K=>?_;refine Qb 1 K M fun _ K=>?_;refine Jy K rfl (fun h53=>?_) fun h53=>?_
 ·refine Qb 3 K M ?_;refine⟨?_,(B.step M).qt⟩
  first
   |(subst_vars;simp only[Ys];simp[QD,QL,Qj];done)
   |(subst_vars;simp only[Ys];simp_all [QD,QL,Qj];done)
   |(subst_vars;simp[QD,QL,Qj];done)
   |(subst_vars;simp[QD,QL,Qj];omega)
   |(subst_vars;simp_all [QD,QL,Qj];done)
   |(subst_vars;simp_all [QD,QL,Qj];omega)
 refine Qb 0 K M fun _ K=>?_;refine p1 K (QU (b:=[108,101,115,115]) rfl rfl) fun _ K=>?_;refine Qb 1 K M fun _ K=>?_;refine Jy K rfl (fun h57=>?_) fun h57=>?_
 ·refine Qb 1 K M fun _ K=>?_;refine oQ K M (Lk M.fresh (a:=xa) Qc) rfl rfl fun _ _ K M=>?_;refine oB K (Q0 rfl) rfl fun b61 _ e61 K=>?_;cases b61
  · refine Qb 9 K M ?_;refine⟨?_,(B.step M).qt⟩
    first
     |(subst_vars;simp only[Ys];simp[QD,QL,Qj];done)
     |(subst_vars;simp only[Ys];simp_all [QD,QL,Qj];done)
     |(subst_vars;simp[QD,QL,Qj];done)
     |(subst_vars;simp[QD,QL,Qj];omega)
     |(subst_vars;simp_all [QD,QL,Qj];done)
     |(subst_vars;simp_all [QD,QL,Qj];omega)
  refine Qb 1 K M fun _ K=>?_;obtain⟨v63,st63,ev63,rfl,q63⟩:=Lk M.fresh (a:=xb) Qc;refine pg K rfl rfl (Qg rfl ev63) fun _ K=>?_;replace M:=M.quiet q63;refine Qb 1 K M fun _ K=>?_;refine oB K (Q0 rfl) rfl fun b65 _ e65 K=>?_;cases b65
  · refine Qb 5 K M ?_;refine⟨?_,(B.step M).qt⟩
    first
     |(subst_vars;simp only[Ys];simp[QD,QL,Qj];done)
     |(subst_vars;simp only[Ys];simp_all [QD,QL,Qj];done)
     |(subst_vars;simp[QD,QL,Qj];done)
     |(subst_vars;simp[QD,QL,Qj];omega)
     |(subst_vars;simp_all [QD,QL,Qj];done)
     |(subst_vars;simp_all [QD,QL,Qj];omega)
  refine Qb 5 K M ?_;refine⟨?_,(B.step M).qt⟩
  first
   |(subst_vars;simp only[Ys];simp[QD,QL,Qj];done)
   |(subst_vars;simp only[Ys];simp_all [QD,QL,Qj];done)
   |(subst_vars;simp[QD,QL,Qj];done)
   |(subst_vars;simp[QD,QL,Qj];omega)
   |(subst_vars;simp_all [QD,QL,Qj];done)
   |(subst_vars;simp_all [QD,QL,Qj];omega)
 refine Qb 0 K M fun _ K=>?_;refine p1 K (QU (b:=[112,108,117,115]) rfl rfl) fun _ K=>?_;refine Qb 1 K M fun _ K=>?_;refine Jy K rfl (fun h70=>?_) fun h70=>?_
 ·refine Qb 1 K M fun _ K=>?_;refine oQ K M (Lk M.fresh (a:=xa) Qc) rfl rfl fun _ _ K M=>?_;refine oB K (Q0 rfl) rfl fun b74 _ e74 K=>?_;cases b74
  · refine Qb 9 K M ?_;refine⟨?_,(B.step M).qt⟩
    first
     |(subst_vars;simp only[Ys];simp[QD,QL,Qj];done)
     |(subst_vars;simp only[Ys];simp_all [QD,QL,Qj];done)
     |(subst_vars;simp[QD,QL,Qj];done)
     |(subst_vars;simp[QD,QL,Qj];omega)
     |(subst_vars;simp_all [QD,QL,Qj];done)
     |(subst_vars;simp_all [QD,QL,Qj];omega)
  refine Qb 3 K M fun _ K=>?_;refine pg K rfl rfl (U9 (c:=((nn:Nat):Int)) UT U1 rfl (IntWalk.u64_in _ Qc)) fun _ K=>pg K rfl rfl (Ls (a:=xa) (n:=nn) rfl rfl Qc (by have:=Nat.pow_le_pow_right (show 0<2 by decide) (show nn≤20 by omega);have:=Nat.mul_le_mul (show xa≤65535 by omega) this;omega)) fun _ K=>?_;refine Qb 4 K M ?_;refine⟨?_,(B.step M).qt⟩
  first
   |(subst_vars;simp only[Ys];simp[QD,QL,Qj];done)
   |(subst_vars;simp only[Ys];simp_all [QD,QL,Qj];done)
   |(subst_vars;simp[QD,QL,Qj];done)
   |(subst_vars;simp[QD,QL,Qj];omega)
   |(subst_vars;simp_all [QD,QL,Qj];done)
   |(subst_vars;simp_all [QD,QL,Qj];omega)
 refine Qb 0 K M fun _ K=>?_;refine p1 K (QU (b:=[110,117,109]) rfl rfl) fun _ K=>?_;refine Qb 1 K M fun _ K=>?_;refine Jy K rfl (fun h83=>?_) fun h83=>?_
 ·refine Qb 3 K M fun _ K=>?_;refine p1 K (U9 (c:=((nn:Nat):Int)) UT U1 rfl (IntWalk.u64_in _ Qc)) fun _ K=>p1 K (UU (n:=nn) rfl rfl Qc) fun _ K=>?_;refine Qb 2 K M ?_;refine⟨?_,(B.step M).qt⟩
  first
   |(subst_vars;simp only[Ys];simp[QD,QL,Qj];done)
   |(subst_vars;simp only[Ys];simp_all [QD,QL,Qj];done)
   |(subst_vars;simp[QD,QL,Qj];done)
   |(subst_vars;simp[QD,QL,Qj];omega)
   |(subst_vars;simp_all [QD,QL,Qj];done)
   |(subst_vars;simp_all [QD,QL,Qj];omega)
 refine Qb 0 K M fun _ K=>?_;refine p1 K (QU (b:=[117,110,105,111,110]) rfl rfl) fun _ K=>?_;refine Qb 1 K M fun _ K=>?_;refine Jy K rfl (fun h91=>?_) fun h91=>?_
 ·refine Qb 3 K M fun _ K=>?_;refine p1 K (BJ (a:=xa) (b:=xb) rfl rfl Qc Qc) fun _ K=>?_;refine Qb 2 K M ?_;refine⟨?_,(B.step M).qt⟩
  first
   |(subst_vars;simp only[Ys];simp[QD,QL,Qj];done)
   |(subst_vars;simp only[Ys];simp_all [QD,QL,Qj];done)
   |(subst_vars;simp[QD,QL,Qj];done)
   |(subst_vars;simp[QD,QL,Qj];omega)
   |(subst_vars;simp_all [QD,QL,Qj];done)
   |(subst_vars;simp_all [QD,QL,Qj];omega)
 refine Qb 0 K M fun _ K=>?_;refine p1 K (QU (b:=[105,110,116,101,114]) rfl rfl) fun _ K=>?_;refine Qb 1 K M fun _ K=>?_;refine Jy K rfl (fun h98=>?_) fun h98=>?_
 ·refine Qb 3 K M fun _ K=>?_;refine p1 K (HN (a:=xa) (b:=xb) rfl rfl Qc Qc) fun _ K=>?_;refine Qb 2 K M ?_;refine⟨?_,(B.step M).qt⟩
  first
   |(subst_vars;simp only[Ys];simp[QD,QL,Qj];done)
   |(subst_vars;simp only[Ys];simp_all [QD,QL,Qj];done)
   |(subst_vars;simp[QD,QL,Qj];done)
   |(subst_vars;simp[QD,QL,Qj];omega)
   |(subst_vars;simp_all [QD,QL,Qj];done)
   |(subst_vars;simp_all [QD,QL,Qj];omega)
 refine Qb 0 K M fun _ K=>?_;refine p1 K (QU (b:=[109,105,110,117,115]) rfl rfl) fun _ K=>?_;refine Qb 1 K M fun _ K=>?_;refine Jy K rfl (fun h105=>?_) fun h105=>?_
 ·refine Qb 3 K M fun _ K=>?_;refine p1 K (FV rfl rfl Qc Qc) fun _ K=>?_;refine Qb 2 K M ?_;refine⟨?_,(B.step M).qt⟩
  first
   |(subst_vars;simp only[Ys];simp[QD,QL,Qj];done)
   |(subst_vars;simp only[Ys];simp_all [QD,QL,Qj];done)
   |(subst_vars;simp[QD,QL,Qj];done)
   |(subst_vars;simp[QD,QL,Qj];omega)
   |(subst_vars;simp_all [QD,QL,Qj];done)
   |(subst_vars;simp_all [QD,QL,Qj];omega)
 refine Qb 0 K M fun _ K=>?_;refine p1 K (QU (b:=[110,111,116]) rfl rfl) fun _ K=>?_;refine Qb 1 K M fun _ K=>?_;refine Jy K rfl (fun h112=>?_) fun h112=>?_
 ·refine Jz ?_;have hl1:=hkl.1 h112;refine Qb 2 K M fun _ K=>?_;obtain⟨⟨o116,a116,b116,g116,n116,l116⟩,hi116⟩: ∃k,l[0]? =some k:=⟨_,List.getElem?_eq_getElem Qc⟩;have hm116:=VG hi116;obtain⟨_,hc116,hn116⟩:=hK.get hi116;have hp116:=hn116;obtain⟨kc116,ls116,rfl,hK116⟩:=hp116.U5;refine Ts (hK.r (fun c m r hr=>(B.step M).UI hf (hR c m r hr) (fun h=>h))) hc116 K Jn Jg rfl rfl fun _ _ _ _ K=>?_;refine Qb 2 K M fun _ K=>?_;have hcd120:=VH hc hm116;rw[if_neg hne]at hcd120;refine oQ K M (ih _ hm116 sets ks bd R _ _ M.fresh (fun c m r hr=>(B.step M).UI hf (hR c m r hr) (fun h=>h)) hn116 ((B.step M).FF hf hks) hsl (Fa hfl hm116) hcd120.1 hbd) rfl rfl fun _ _ K M=>?_;refine Qb 2 K M ?_;refine⟨?_,(B.step M).qt⟩;rw[yo h112 (hkl.1 h112) hi116]
 refine Qb 0 K M fun _ K=>?_;refine p1 K (QU (b:=[97,110,100]) rfl rfl) fun _ K=>?_;refine Qb 1 K M fun _ K=>?_;refine Jy K rfl (fun h122=>?_) fun h122=>?_
 ·refine Jz ?_;have hl2:=hkl.2 h122;refine Qb 2 K M fun _ K=>?_;obtain⟨⟨o126,a126,b126,g126,n126,l126⟩,hi126⟩: ∃k,l[0]? =some k:=⟨_,List.getElem?_eq_getElem Qc⟩;have hm126:=VG hi126;obtain⟨_,hc126,hn126⟩:=hK.get hi126;have hp126:=hn126;obtain⟨kc126,ls126,rfl,hK126⟩:=hp126.U5;refine Ts (hK.r (fun c m r hr=>(B.step M).UI hf (hR c m r hr) (fun h=>h))) hc126 K Jn Jg rfl rfl fun _ _ _ _ K=>?_;refine Qb 2 K M fun _ K=>?_;have hcd130:=VH hc hm126;rw[if_neg hne]at hcd130;refine oQ K M (ih _ hm126 sets ks bd R _ _ M.fresh (fun c m r hr=>(B.step M).UI hf (hR c m r hr) (fun h=>h)) hn126 ((B.step M).FF hf hks) hsl (Fa hfl hm126) hcd130.1 hbd) rfl rfl fun _ _ K M=>?_;refine oB K (Q0 rfl) rfl fun b131 _ e131 K=>?_;cases b131
  · refine Qb 9 K M ?_;refine⟨?_,(B.step M).qt⟩;have e122:=hkl.2 h122
    first
     |(rw[HZ h122 e122 hi126 hi134];simp_all [Qj];done)
     |(obtain⟨k2,hk2⟩: ∃k2,l[1]? =some k2:=⟨_,List.getElem?_eq_getElem Qc⟩;rw[HZ h122 e122 hi126 hk2];simp_all [Qj];done)
  refine Qb 2 K M fun _ K=>?_;obtain⟨⟨o134,a134,b134,g134,n134,l134⟩,hi134⟩: ∃k,l[1]? =some k:=⟨_,List.getElem?_eq_getElem Qc⟩;have hm134:=VG hi134;obtain⟨_,hc134,hn134⟩:=hK.get hi134;have hp134:=hn134;obtain⟨kc134,ls134,rfl,hK134⟩:=hp134.U5;obtain⟨x134,m134,f134,q134,_,la134,lo134,lp134⟩:=(hK.r (fun c m r hr=>(B.step M).UI hf (hR c m r hr) (fun h=>h))).load (i:=1) (cs:=_) hc134;refine pg K rfl rfl (Qe (j:=1) Jn (congrArg some q134) rfl (by rw[hK.ln];omega)) fun _ K=>pg K rfl rfl (Qf rfl (la134 _ Jg)) fun _ K=>?_;refine Qb 2 K M fun _ K=>?_;have hcd138:=VH hc hm134;rw[if_neg hne]at hcd138;obtain⟨v138,st138,ev138,rfl,q138⟩:=ih _ hm134 sets ks bd R _ _ M.fresh (fun c m r hr=>(B.step M).UI hf (hR c m r hr) (fun h=>h)) hn134 ((B.step M).FF hf hks) hsl (Fa hfl hm134) hcd138.1 hbd;refine pg K rfl rfl (Qg rfl ev138) fun _ K=>?_;replace M:=M.quiet q138;refine Qb 2 K M ?_;refine⟨?_,(B.step M).qt⟩;have e122:=hkl.2 h122
  first
   |(rw[HZ h122 e122 hi126 hi134];simp_all [Qj];done)
   |(obtain⟨k2,hk2⟩: ∃k2,l[1]? =some k2:=⟨_,List.getElem?_eq_getElem Qc⟩;rw[HZ h122 e122 hi126 hk2];simp_all [Qj];done)
 refine Qb 0 K M fun _ K=>?_
 exfalso;rcases Z9 hc with⟨hat,_⟩|⟨e,_⟩|⟨e,_⟩|⟨e,_⟩;unfold VP at hat;simp_all;exact h112 e;exact h122 e;exact hne e
end Go.Proofs.YtiknomepbklibaaGreatDoor
