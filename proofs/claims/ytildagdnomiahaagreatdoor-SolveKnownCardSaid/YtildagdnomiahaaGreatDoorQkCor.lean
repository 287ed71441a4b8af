/-
  Atoms: the program's machines, plainly; they accept what the document's atoms accept.
-/
import Derived.Test.YtildagdnomiahaaGreatDoorQkMnm
set_option maxHeartbeats 8000000
set_option linter.unnecessarySimpa false
set_option linter.unusedSectionVars false
set_option linter.unusedSimpArgs false
set_option linter.unusedVariables false
namespace Go.Proofs.YtildagdnomiahaaGreatDoor
section
variable {s:Nat}

def QL(o:List Nat)(n s:Nat)(x y z:Bool):Int:=
 if o=[116,114,117,101]then 0
 else if o=[115,117,98]then(if(!x||y)=true then 0 else-1)
 else if o=[110,111,110,101]then(if(!x)=true then 0 else-1)
 else if o=[117,110,105,111,110]then(if(z==(x||y))=true then 0 else-1)
 else if o=[105,110,116,101,114]then(if(z==(x&&y))=true then 0 else-1)
 else if o=[109,105,110,117,115]then(if(z==(x&& !y))=true then 0 else-1)
 else if o=[115,105,110,103]then(if x=false then((s:Nat):Int)else if s=0 then 1 else-1)
 else if o=[102,108,97,103]then(if s=1∨x=true then 1 else-1)
 else if o=[108,101,115,115]then(if x=false∧y=false then((s:Nat):Int)else if s=0∧x=true∧y=false then 1 else if s=1∧y=true∧x=false then 2 else-1)
 else if o=[112,108,117,115]then(if s=0∧x=true∧y=decide (n=0)then 1 else if(s=0∧x=false∧y=false)∨(s=n+1∧x=false∧y=false)then((s:Nat):Int)else if 0<s∧s<n+1∧x=false∧y=decide (s=n)then((s+1:Nat):Int)else-1)
 else(if s<n+1∧x=decide (s=n)then((s+1:Nat):Int)else if s=n+1∧x=false then((n+1:Nat):Int)else-1)
def Q9(o:List Nat)(n:Nat):Nat:=
 if o=[115,105,110,103]∨o=[102,108,97,103]then 1 else if o=[108,101,115,115]then 2 else if o=[112,108,117,115]∨o=[110,117,109]then n+1 else 0
abbrev Qn(o:List Nat)(n:Nat):Nat:=Q9 o n+1
def EN(o:List Nat):Prop:=o=[116,114,117,101]∨o=[115,117,98]∨o=[110,111,110,101]∨o=[117,110,105,111,110]∨o=[105,110,116,101,114]∨o=[109,105,110,117,115]∨o=[115,105,110,103]∨o=[102,108,97,103]∨o=[108,101,115,115]∨o=[112,108,117,115]∨o=[110,117,109]
def Xs(b:Bool):Nat:=if b then 1 else 0
theorem qo{o:List Nat}(h:EN o){n:Nat}(hn:n≤20)(hs:s<Qn o n)(x y z:Bool):(QL o n s x y z= -1∧X3 o n s (Xs x) (Xs y) (Xs z)=30)∨ ∃t:Nat,QL o n s x y z=((t:Nat):Int)∧t<Qn o n∧X3 o n s (Xs x) (Xs y) (Xs z)=t:=by
 have hst:Qn o n≤22:=by unfold Qn Q9;split<;>(try split)<;>(try split)<;>omega
 have h30: ¬s=30:=by omega
 rcases h with rfl|rfl|rfl|rfl|rfl|rfl|rfl|rfl|rfl|rfl|rfl
 ·clear hst;simp[Qn,Q9]at hs;simp only[QL,X3,Qn,Q9,if_neg h30];cases x<;>cases y<;>cases z<;>simp[Xs]<;>first|omega|(rcases(show s=0∨s=1∨s=2 by omega)with rfl|rfl|rfl<;>first|omega|(simp;done)|simp_all)|simp_all
 ·clear hst;simp[Qn,Q9]at hs;simp only[QL,X3,Qn,Q9,if_neg h30];cases x<;>cases y<;>cases z<;>simp[Xs]<;>first|omega|(rcases(show s=0∨s=1∨s=2 by omega)with rfl|rfl|rfl<;>first|omega|(simp;done)|simp_all)|simp_all
 ·clear hst;simp[Qn,Q9]at hs;simp only[QL,X3,Qn,Q9,if_neg h30];cases x<;>cases y<;>cases z<;>simp[Xs]<;>first|omega|(rcases(show s=0∨s=1∨s=2 by omega)with rfl|rfl|rfl<;>first|omega|(simp;done)|simp_all)|simp_all
 ·clear hst;simp[Qn,Q9]at hs;simp only[QL,X3,Qn,Q9,if_neg h30];cases x<;>cases y<;>cases z<;>simp[Xs]<;>first|omega|(rcases(show s=0∨s=1∨s=2 by omega)with rfl|rfl|rfl<;>first|omega|(simp;done)|simp_all)|simp_all
 ·clear hst;simp[Qn,Q9]at hs;simp only[QL,X3,Qn,Q9,if_neg h30];cases x<;>cases y<;>cases z<;>simp[Xs]<;>first|omega|(rcases(show s=0∨s=1∨s=2 by omega)with rfl|rfl|rfl<;>first|omega|(simp;done)|simp_all)|simp_all
 ·clear hst;simp[Qn,Q9]at hs;simp only[QL,X3,Qn,Q9,if_neg h30];cases x<;>cases y<;>cases z<;>simp[Xs]<;>first|omega|(rcases(show s=0∨s=1∨s=2 by omega)with rfl|rfl|rfl<;>first|omega|(simp;done)|simp_all)|simp_all
 ·clear hst;simp[Qn,Q9]at hs;simp only[QL,X3,Qn,Q9,if_neg h30];cases x<;>cases y<;>cases z<;>simp[Xs]<;>first|omega|(rcases(show s=0∨s=1∨s=2 by omega)with rfl|rfl|rfl<;>first|omega|(simp;done)|simp_all)|simp_all
 ·clear hst;simp[Qn,Q9]at hs;simp only[QL,X3,Qn,Q9,if_neg h30];cases x<;>cases y<;>cases z<;>simp[Xs]<;>first|omega|(rcases(show s=0∨s=1∨s=2 by omega)with rfl|rfl|rfl<;>first|omega|(simp;done)|simp_all)|simp_all
 ·clear hst;simp[Qn,Q9]at hs;simp only[QL,X3,Qn,Q9,if_neg h30];cases x<;>cases y<;>cases z<;>simp[Xs]<;>first|omega|(rcases(show s=0∨s=1∨s=2 by omega)with rfl|rfl|rfl<;>first|omega|(simp;done)|simp_all)|simp_all
 ·simp[Qn,Q9]at hs;simp only[QL,X3,Qn,Q9,if_neg h30];rcases(show(s=0∧n=0)∨(s=0∧0<n)∨(0<s∧s<n)∨(0<s∧s=n)∨s=n+1 by omega)with⟨rfl,rfl⟩|⟨rfl,h1⟩|⟨h1,h2⟩|⟨h1,rfl⟩|rfl
  ·cases x<;>cases y<;>simp[Xs]
  ·have e1: ¬n=0:=by omega
   cases x<;>cases y<;>simp[Xs,e1]<;>omega
  ·have e1: ¬s=0:=by omega
   have e2: ¬s=n+1:=by omega
   have e3: ¬s=n:=by omega
   have e4:s<n+1:=by omega
   cases x<;>cases y<;>simp[Xs,e1,e2,e3,e4,h1,h2]<;>first|omega|exact⟨s+1,rfl,by omega,rfl⟩|exact⟨s+1,by omega,by omega,by omega⟩
  ·have e1: ¬s=0:=by omega
   cases x<;>cases y<;>simp[Xs,e1,h1]<;>first|omega|exact⟨s+1,rfl,by omega,rfl⟩|exact⟨s+1,by omega,by omega,by omega⟩
  ·cases x<;>cases y<;>simp[Xs]<;>first|omega|exact⟨n+1,by omega,by omega,by omega⟩
 ·simp[Qn,Q9]at hs;simp only[QL,X3,Qn,Q9,if_neg h30];rcases(show s<n∨s=n∨s=n+1 by omega)with h1|rfl|rfl
  ·have e2: ¬s=n+1:=by omega
   have e3: ¬s=n:=by omega
   have e4:s<n+1:=by omega
   have e5: ¬n<s:=by omega
   cases x<;>simp[Xs,e2,e3,e4,e5,h1]<;>first|omega|exact⟨s+1,by omega,by omega,by omega⟩
  ·cases x<;>simp[Xs]<;>first|omega|exact⟨s+1,by omega,by omega,by omega⟩
  ·cases x<;>simp[Xs]<;>first|omega|exact⟨n+1,by omega,by omega,by omega⟩
theorem Bb(l v:Nat):Xs (decide (((Bc l v:Nat):Int)=1))=Bc l v:=by
 have h:Bc l v=0∨Bc l v=1:=by unfold Bc;omega
 rcases h with h|h<;>rw[h]<;>rfl
abbrev YN(l v:Nat):Bool:=decide (((Bc l v:Nat):Int)=1)
def W3(o:List Nat)(n a b d s l:Nat):Nat:=if s<Qn o n then(if QL o n s (YN l a) (YN l b) (YN l d)= -1 then Qn o n else(QL o n s (YN l a) (YN l b) (YN l d)).toNat)else Qn o n
def Pe(o:List Nat)(n a b d k s:Nat):List Int:=(List.range (2^k)).map fun l=>((W3 o n a b d s l:Nat):Int)
def X4(o:List Nat)(a b d n k:Nat):Au:=⟨k,(List.range (Qn o n+1)).map fun s=>decide (((s:Nat):Int)=((Q9 o n:Nat):Int)),(List.range (Qn o n+1)).map (Pe o n a b d k)⟩
section
variable {o:List Nat} {a b d n k:Nat}
theorem WW(n:Nat)(hn:n≤20):Q9 o n≤21:=by unfold Q9;split<;>(try split)<;>(try split)<;>omega
theorem Gt:(X4 o a b d n k).n=Qn o n+1:=by simp[X4,Au.n]
theorem qF{l:Nat}(hs:s<Qn o n+1)(hl:l<2^k):(X4 o a b d n k).go s l=W3 o n a b d s l:=by
 unfold Au.go X4 Pe;simp only[List.getElem?_map,List.getElem?_range hs,Option.map_some,Option.getD_some,List.getElem?_range hl,Int.toNat_natCast]
theorem qE(hs:s<Qn o n+1):(X4 o a b d n k).ok s=decide (((s:Nat):Int)=((Q9 o n:Nat):Int)):=by
 unfold Au.ok X4;simp only[List.getElem?_map,List.getElem?_range hs,Option.map_some,Option.getD_some]
def Bm(o:List Nat)(n s t:Nat):Prop:=(s=t∧s<Qn o n)∨(s=Qn o n∧t=30)
theorem Bm.step(h:EN o)(hn:n≤20){t:Nat}(R:Bm o n s t)(l:Nat):Bm o n (W3 o n a b d s l) (EW o n a b d t l):=by
 have hl:=WW (o:=o) n hn;have hsp:Qn o n=Q9 o n+1:=rfl;rcases R with⟨rfl,hs⟩|⟨rfl,rfl⟩
 ·unfold W3 EW;rw[if_pos hs,←Bb l a,←Bb l b,←Bb l d];rcases qo h hn hs (YN l a) (YN l b) (YN l d)with⟨h1,h2⟩|⟨t,h1,h2,h3⟩
  ·rw[if_pos h1,h2];exact .inr ⟨rfl,rfl⟩
  ·rw[h1,if_neg Qe,h3,Int.toNat_natCast];exact .inl ⟨by omega,h2⟩
 ·unfold W3 EW X3;rw[if_neg (Nat.lt_irrefl _),if_pos rfl];exact .inr ⟨rfl,rfl⟩
theorem jg(h:EN o)(hn:n≤20)(s l:Nat):W3 o n a b d s l<Qn o n+1:=by
 by_cases hs:s<Qn o n
 ·rcases Bm.step (a:=a) (b:=b) (d:=d) h hn (.inl ⟨rfl,hs⟩:Bm o n s s) l with⟨_,h1⟩|⟨h1,_⟩<;>omega
 ·unfold W3;rw[if_neg hs];omega
theorem qD(h:EN o)(hn:n≤20)(hk:k≤6):ZX (X4 o a b d n k):=by
 have hl:=WW (o:=o) n hn;have hsp:Qn o n=Q9 o n+1:=rfl;refine⟨hk,by rw[Gt];omega,by rw[Gt];omega,by simp[X4,Au.n],fun r hr=>?_⟩;obtain⟨s,_,rfl⟩:=List.mem_map.1 hr;refine⟨by simp[Pe,X4,Au.K],fun z hz=>?_⟩;obtain⟨l,_,rfl⟩:=List.mem_map.1 hz;have:=jg (a:=a) (b:=b) (d:=d) h hn s l;rw[Gt];omega
theorem Bm.ok(h:EN o)(hn:n≤20){t:Nat}(R:Bm o n s t):decide (((s:Nat):Int)=((Q9 o n:Nat):Int))=MB o n t:=by
 have hl:=WW (o:=o) n hn;have hsp:Qn o n=Q9 o n+1:=rfl;rcases R with⟨rfl,hs⟩|⟨rfl,rfl⟩
 ·unfold MB;rw[if_neg Qe]
  rcases h with rfl|rfl|rfl|rfl|rfl|rfl|rfl|rfl|rfl|rfl|rfl<;>simp[Qn,Q9]at hs ⊢ <;>first|omega|(rw[decide_eq_decide];omega)
 ·unfold MB;rw[if_pos rfl,decide_eq_false Qe]
theorem Pp(h:EN o)(hn:n≤20):ZZ (X4 o a b d n k) (VV o a b d n k) 0 0:=fun w hw=>by
 have key: ∀(w:List Nat) (s t:Nat),HD (2^k) w→Bm o n s t→t<31→Bm o n ((X4 o a b d n k).run s w) ((VV o a b d n k).run t w):=by
  intro w
  induction w with
  |nil=>intro s t _ R _;exact R
  |cons c w ih=>
   intro s t hw R ht
   have hs:s<Qn o n+1:=by rcases R with⟨_,h1⟩|⟨h1,_⟩<;>omega
   rw[Au.Kz,Au.Kz,qF hs (hw c Q0),D4 ht (hw c Q0)];exact ih _ _ (fun x hx=>hw x (by simp[hx])) (R.step h hn c) (Kp _ _)
 have R:=key w 0 0 hw (.inl ⟨rfl,Nat.succ_pos _⟩) QA;have hl:=WW (o:=o) n hn;have hsp:Qn o n=Q9 o n+1:=rfl
 have hs:(X4 o a b d n k).run 0 w<Qn o n+1:=by rcases R with⟨_,h1⟩|⟨h1,_⟩<;>omega
 have ht:(VV o a b d n k).run 0 w<31:=by rcases R with⟨h1,h2⟩|⟨_,h1⟩<;>omega
 rw[qE hs,D3 ht,R.ok h hn]
theorem Jm.trans{x y m:Au}(h:Jm x m)(hl:ZZ x y 0 0)(ht:y.tr=x.tr):Jm y m:=
 ⟨h.canon,fun w hw=>by rw[h.like w hw];exact hl w (E6 h.tr hw),h.tr.trans ht.symm⟩
theorem Jm.atom(h:EN o)(hn:n≤20){m:Au}(hm:Jm (X4 o a b d n k) m):Jm (VV o a b d n k) m:=hm.trans (Pp h hn) rfl
end
end
section
open Go Go.RowKit
set_option maxRecDepth 100000

theorem uN (x : Cr) : ∀ (most : Int) (R : EM) (st : St) (cs : List AV), Qh st → Xx R st.h.get → Xd R x cs → 1 ≤ most → most ≤ 1000000 → ∃ v st', QP 152 [.agg cs, iZ most] st v st' ∧ v = iZ (min ((Wc x : Nat) : Int) most) ∧ Qt st st' := by
 refine GQ (M := fun x => ∀ (most : Int) (R : EM) (st : St) (cs : List AV), Qh st → Xx R st.h.get → Xd R x cs → 1 ≤ most → most ≤ 1000000 → ∃ v st', QP 152 [.agg cs, iZ most] st v st' ∧ v = iZ (min ((Wc x : Nat) : Int) most) ∧ Qt st st') (fun o a b g n l ih => ?_) x;intro most R st cs hf hR hr h1 h2;have hr0 := hr;obtain ⟨kc, ls, rfl, hK⟩ := hr.Xg;have hln := hK.ln;have hbn := hK.FP;refine Jy Tryz.func152 Tryz.ntmps152 fun T K => ?_;have M := Mem.start hf;refine Qa 0 K M fun _ K => ?_;refine Uj K M rfl (Qc rfl (Qc rfl (Qc rfl (Qc rfl (Qc rfl (Qc hK.cell QY)))))) QA fun c2 _ _ K M => ?_;refine Qa 3 K M fun _ K => ?_;refine UA K rfl (fun h9 => ?_) fun h9 => ?_
 · refine Qa 1 K M ?_
   first
    | (exfalso; omega)
    | (refine ⟨?_, M.qt⟩; rw [hinv]; congr 1; have hz : i = l.length := by omega
       rw [H5 Qe, Xa]; omega)
    | (refine ⟨?_, M.qt⟩; rw [hinv]; congr 1; omega)
 refine Qa 3 K M fun _ K => ?_;refine p1 K (Q7 JD rfl rfl hK.len) fun _ K => ?_;refine Qa 1 K M fun _ K => ?_;refine Jc (fun mm1 T st9 => ∃ (i : Nat) (m : Int), mm1 = l.length - i ∧ QG [(1, iZ most), (4, iZ 0), (5, iZ m), (11, kc), (12, iZ (l.length : Nat)), (13, iN i)] T ∧ Mem st.h.get st.n [] st9 [(c2, 0, [.str o, iZ a, iZ b, iZ g, iZ n, kc])] ∧ i ≤ l.length ∧ 1 ≤ m ∧ m ≤ most ∧ min (((Wc (.mk o a b g n l)) : Nat) : Int) most = min (m + ((Xa (l.drop i) : Nat) : Int)) most) (fun mm1 T st9 hI => ?_) _ _ _ ⟨0, 1, rfl, (K.sub rfl), M.less (.refl _), (Nat.zero_le _), Qe, h1, (by rw [Wc, List.drop_zero]; omega)⟩;obtain ⟨i, m, rfl, K, M, hi, hm1, hm2, hinv⟩ := hI;refine Qa 1 K M fun _ K => ?_;refine UA K rfl (fun h14 => ?_) fun h14 => ?_
 · refine Qa 0 K M fun _ K => ?_;obtain ⟨⟨o15, a15, b15, g15, n15, l15⟩, hi15⟩ : ∃ k, l[i]? = some k := ⟨_, List.getElem?_eq_getElem Qe⟩;have hm15 := uO hi15;obtain ⟨_, hc15, hn15⟩ := hK.get hi15;have hp15 := hn15;obtain ⟨kc15, ls15, rfl, hK15⟩ := hp15.Xg;refine fX (hK.r (M.Xx hR)) hc15 K US J6 rfl rfl fun _ _ _ _ K => ?_;refine au 1 K M ?_;intro c7 _ _ K _ M;refine Yf (k := 0) K M rfl rfl rfl YV rfl (Qc rfl (Qc rfl (Qc rfl (Qc rfl (Qc rfl (Qc hK15.cell QY)))))) rfl fun _ M => ?_;refine Qa 3 K M fun _ K => ?_;refine UA K rfl (fun h19 => ?_) fun h19 => ?_
   · refine QT ?_;show W _ _ _ _ _ _ _;refine Qa 2 K M ?_
     first
      | (exfalso; omega)
      | (refine ⟨?_, M.qt⟩; rw [hinv]; congr 1; have hz : i = l.length := by omega
         rw [H5 Qe, Xa]; omega)
      | (refine ⟨?_, M.qt⟩; rw [hinv]; congr 1; omega)
   refine Qa 5 K M fun _ K => ?_;refine oQ K M (ih _ hm15 (most - m) R _ _ M.fresh (M.Xx hR) hn15 Qe Qe) rfl rfl fun _ _ K M => ?_;refine Qa 4 K M fun _ K => ?_;have hst := SR hi15;have hsp := zw (.mk o15 a15 b15 g15 n15 l15);exact ⟨_, Qe, i + 1, (m + min ((Wc (.mk o15 a15 b15 g15 n15 l15) : Nat) : Int) (most - m)), rfl, (K.sub rfl), M.less (.cons _ (.refl _)), Qe, Qe, Qe, Qe⟩
 refine QT ?_;show W _ _ _ _ _ _ _;refine Qa 2 K M ?_
 first
  | (exfalso; omega)
  | (refine ⟨?_, M.qt⟩; rw [hinv]; congr 1; have hz : i = l.length := by omega
     rw [H5 Qe, Xa]; omega)
  | (refine ⟨?_, M.qt⟩; rw [hinv]; congr 1; omega)

theorem Mr{R:EM}{st:St}(hf:Qh st)(hR:Xx R st.h.get){o:List Nat}{a b g n:Int}{l:List Cr}{cs:List AV}(hr:Xd R (.mk o a b g n l) cs): ∃v st',QP 103 [.agg cs] st v st'∧v=iZ (min ((Wc (.mk o a b g n l):Nat):Int) 2001)∧Qt st st':=by
 have hr0:=hr;obtain⟨kc,ls,rfl,hK⟩:=hr.Xg;have hln:=hK.ln;have hbn:=hK.FP;refine Jy Tryz.func103 Tryz.ntmps103 fun T K=>?_;have M:=Mem.start hf;refine Qa 0 K M fun _ K=>?_;refine Uj K M rfl (Qc rfl (Qc rfl (Qc rfl (Qc rfl (Qc rfl (Qc hK.cell QY)))))) QA fun c1 _ _ K M=>?_;refine Qa 2 K M fun _ K=>?_;refine oQ K M (uN (.mk o a b g n l) 2001 R _ _ M.fresh (M.Xx hR) hr0 QA QA) rfl rfl fun _ _ K M=>?_;refine Qa 1 K M ?_;exact⟨rfl,M.qt⟩

end
end Go.Proofs.YtildagdnomiahaaGreatDoor
