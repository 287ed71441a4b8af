/-
  Atoms: the program's machines, plainly; they accept what the document's atoms accept.
-/
import Derived.Test.YtildagdnomiahaaGreatDoorQgMnm
set_option maxHeartbeats 8000000
set_option linter.unnecessarySimpa false
set_option linter.unusedSectionVars false
set_option linter.unusedSimpArgs false
set_option linter.unusedVariables false
namespace Go.Proofs.YtildagdnomiahaaGreatDoor
section
variable {s:Nat}

def QL(o:List Nat)(n s:Nat)(x y z:Bool):Int:=
 if o=[116,114,117,101]then 0
 else if o=[115,117,98]then(if(!x||y)=true then 0 else-1)
 else if o=[110,111,110,101]then(if(!x)=true then 0 else-1)
 else if o=[117,110,105,111,110]then(if(z==(x||y))=true then 0 else-1)
 else if o=[105,110,116,101,114]then(if(z==(x&&y))=true then 0 else-1)
 else if o=[109,105,110,117,115]then(if(z==(x&& !y))=true then 0 else-1)
 else if o=[115,105,110,103]then(if x=false then((s:Nat):Int)else if s=0 then 1 else-1)
 else if o=[102,108,97,103]then(if s=1∨x=true then 1 else-1)
 else if o=[108,101,115,115]then(if x=false∧y=false then((s:Nat):Int)else if s=0∧x=true∧y=false then 1 else if s=1∧y=true∧x=false then 2 else-1)
 else if o=[112,108,117,115]then(if s=0∧x=true∧y=decide (n=0)then 1 else if(s=0∧x=false∧y=false)∨(s=n+1∧x=false∧y=false)then((s:Nat):Int)else if 0<s∧s<n+1∧x=false∧y=decide (s=n)then((s+1:Nat):Int)else-1)
 else(if s<n+1∧x=decide (s=n)then((s+1:Nat):Int)else if s=n+1∧x=false then((n+1:Nat):Int)else-1)
def QC(o:List Nat)(n:Nat):Nat:=
 if o=[115,105,110,103]∨o=[102,108,97,103]then 1 else if o=[108,101,115,115]then 2 else if o=[112,108,117,115]∨o=[110,117,109]then n+1 else 0
abbrev Qn(o:List Nat)(n:Nat):Nat:=QC o n+1
def EB(o:List Nat):Prop:=o=[116,114,117,101]∨o=[115,117,98]∨o=[110,111,110,101]∨o=[117,110,105,111,110]∨o=[105,110,116,101,114]∨o=[109,105,110,117,115]∨o=[115,105,110,103]∨o=[102,108,97,103]∨o=[108,101,115,115]∨o=[112,108,117,115]∨o=[110,117,109]
def Xk(b:Bool):Nat:=if b then 1 else 0
theorem TM{o:List Nat}(h:EB o){n:Nat}(hn:n≤20)(hs:s<Qn o n)(x y z:Bool):(QL o n s x y z= -1∧Xs o n s (Xk x) (Xk y) (Xk z)=30)∨ ∃t:Nat,QL o n s x y z=((t:Nat):Int)∧t<Qn o n∧Xs o n s (Xk x) (Xk y) (Xk z)=t:=by
 have hst:Qn o n≤22:=by unfold Qn QC;split<;>(try split)<;>(try split)<;>omega
 have h30: ¬s=30:=by omega
 rcases h with rfl|rfl|rfl|rfl|rfl|rfl|rfl|rfl|rfl|rfl|rfl
 ·clear hst;simp[Qn,QC]at hs;simp only[QL,Xs,Qn,QC,if_neg h30];cases x<;>cases y<;>cases z<;>simp[Xk]<;>first|omega|(rcases(show s=0∨s=1∨s=2 by omega)with rfl|rfl|rfl<;>first|omega|(simp;done)|simp_all)|simp_all
 ·clear hst;simp[Qn,QC]at hs;simp only[QL,Xs,Qn,QC,if_neg h30];cases x<;>cases y<;>cases z<;>simp[Xk]<;>first|omega|(rcases(show s=0∨s=1∨s=2 by omega)with rfl|rfl|rfl<;>first|omega|(simp;done)|simp_all)|simp_all
 ·clear hst;simp[Qn,QC]at hs;simp only[QL,Xs,Qn,QC,if_neg h30];cases x<;>cases y<;>cases z<;>simp[Xk]<;>first|omega|(rcases(show s=0∨s=1∨s=2 by omega)with rfl|rfl|rfl<;>first|omega|(simp;done)|simp_all)|simp_all
 ·clear hst;simp[Qn,QC]at hs;simp only[QL,Xs,Qn,QC,if_neg h30];cases x<;>cases y<;>cases z<;>simp[Xk]<;>first|omega|(rcases(show s=0∨s=1∨s=2 by omega)with rfl|rfl|rfl<;>first|omega|(simp;done)|simp_all)|simp_all
 ·clear hst;simp[Qn,QC]at hs;simp only[QL,Xs,Qn,QC,if_neg h30];cases x<;>cases y<;>cases z<;>simp[Xk]<;>first|omega|(rcases(show s=0∨s=1∨s=2 by omega)with rfl|rfl|rfl<;>first|omega|(simp;done)|simp_all)|simp_all
 ·clear hst;simp[Qn,QC]at hs;simp only[QL,Xs,Qn,QC,if_neg h30];cases x<;>cases y<;>cases z<;>simp[Xk]<;>first|omega|(rcases(show s=0∨s=1∨s=2 by omega)with rfl|rfl|rfl<;>first|omega|(simp;done)|simp_all)|simp_all
 ·clear hst;simp[Qn,QC]at hs;simp only[QL,Xs,Qn,QC,if_neg h30];cases x<;>cases y<;>cases z<;>simp[Xk]<;>first|omega|(rcases(show s=0∨s=1∨s=2 by omega)with rfl|rfl|rfl<;>first|omega|(simp;done)|simp_all)|simp_all
 ·clear hst;simp[Qn,QC]at hs;simp only[QL,Xs,Qn,QC,if_neg h30];cases x<;>cases y<;>cases z<;>simp[Xk]<;>first|omega|(rcases(show s=0∨s=1∨s=2 by omega)with rfl|rfl|rfl<;>first|omega|(simp;done)|simp_all)|simp_all
 ·clear hst;simp[Qn,QC]at hs;simp only[QL,Xs,Qn,QC,if_neg h30];cases x<;>cases y<;>cases z<;>simp[Xk]<;>first|omega|(rcases(show s=0∨s=1∨s=2 by omega)with rfl|rfl|rfl<;>first|omega|(simp;done)|simp_all)|simp_all
 ·simp[Qn,QC]at hs;simp only[QL,Xs,Qn,QC,if_neg h30];rcases(show(s=0∧n=0)∨(s=0∧0<n)∨(0<s∧s<n)∨(0<s∧s=n)∨s=n+1 by omega)with⟨rfl,rfl⟩|⟨rfl,h1⟩|⟨h1,h2⟩|⟨h1,rfl⟩|rfl
  ·cases x<;>cases y<;>simp[Xk]
  ·have e1: ¬n=0:=by omega
   cases x<;>cases y<;>simp[Xk,e1]<;>omega
  ·have e1: ¬s=0:=by omega
   have e2: ¬s=n+1:=by omega
   have e3: ¬s=n:=by omega
   have e4:s<n+1:=by omega
   cases x<;>cases y<;>simp[Xk,e1,e2,e3,e4,h1,h2]<;>first|omega|exact⟨s+1,rfl,by omega,rfl⟩|exact⟨s+1,by omega,by omega,by omega⟩
  ·have e1: ¬s=0:=by omega
   cases x<;>cases y<;>simp[Xk,e1,h1]<;>first|omega|exact⟨s+1,rfl,by omega,rfl⟩|exact⟨s+1,by omega,by omega,by omega⟩
  ·cases x<;>cases y<;>simp[Xk]<;>first|omega|exact⟨n+1,by omega,by omega,by omega⟩
 ·simp[Qn,QC]at hs;simp only[QL,Xs,Qn,QC,if_neg h30];rcases(show s<n∨s=n∨s=n+1 by omega)with h1|rfl|rfl
  ·have e2: ¬s=n+1:=by omega
   have e3: ¬s=n:=by omega
   have e4:s<n+1:=by omega
   have e5: ¬n<s:=by omega
   cases x<;>simp[Xk,e2,e3,e4,e5,h1]<;>first|omega|exact⟨s+1,by omega,by omega,by omega⟩
  ·cases x<;>simp[Xk]<;>first|omega|exact⟨s+1,by omega,by omega,by omega⟩
  ·cases x<;>simp[Xk]<;>first|omega|exact⟨n+1,by omega,by omega,by omega⟩
theorem Gt(l v:Nat):Xk (decide (((Gu l v:Nat):Int)=1))=Gu l v:=by
 have h:Gu l v=0∨Gu l v=1:=by unfold Gu;omega
 rcases h with h|h<;>rw[h]<;>rfl
abbrev YD(l v:Nat):Bool:=decide (((Gu l v:Nat):Int)=1)
def Wt(o:List Nat)(n a b d s l:Nat):Nat:=if s<Qn o n then(if QL o n s (YD l a) (YD l b) (YD l d)= -1 then Qn o n else(QL o n s (YD l a) (YD l b) (YD l d)).toNat)else Qn o n
def Dk(o:List Nat)(n a b d k s:Nat):List Int:=(List.range (2^k)).map fun l=>((Wt o n a b d s l:Nat):Int)
def Xt(o:List Nat)(a b d n k:Nat):Au:=⟨k,(List.range (Qn o n+1)).map fun s=>decide (((s:Nat):Int)=((QC o n:Nat):Int)),(List.range (Qn o n+1)).map (Dk o n a b d k)⟩
section
variable {o:List Nat} {a b d n k:Nat}
theorem WM(n:Nat)(hn:n≤20):QC o n≤21:=by unfold QC;split<;>(try split)<;>(try split)<;>omega
theorem OF:(Xt o a b d n k).n=Qn o n+1:=by simp[Xt,Au.n]
theorem Mb{l:Nat}(hs:s<Qn o n+1)(hl:l<2^k):(Xt o a b d n k).go s l=Wt o n a b d s l:=by
 unfold Au.go Xt Dk;simp only[List.getElem?_map,List.getElem?_range hs,Option.map_some,Option.getD_some,List.getElem?_range hl,Int.toNat_natCast]
theorem Ma(hs:s<Qn o n+1):(Xt o a b d n k).ok s=decide (((s:Nat):Int)=((QC o n:Nat):Int)):=by
 unfold Au.ok Xt;simp only[List.getElem?_map,List.getElem?_range hs,Option.map_some,Option.getD_some]
def G3(o:List Nat)(n s t:Nat):Prop:=(s=t∧s<Qn o n)∨(s=Qn o n∧t=30)
theorem G3.step(h:EB o)(hn:n≤20){t:Nat}(R:G3 o n s t)(l:Nat):G3 o n (Wt o n a b d s l) (EJ o n a b d t l):=by
 have hl:=WM (o:=o) n hn;have hsp:Qn o n=QC o n+1:=rfl;rcases R with⟨rfl,hs⟩|⟨rfl,rfl⟩
 ·unfold Wt EJ;rw[if_pos hs,←Gt l a,←Gt l b,←Gt l d];rcases TM h hn hs (YD l a) (YD l b) (YD l d)with⟨h1,h2⟩|⟨t,h1,h2,h3⟩
  ·rw[if_pos h1,h2];exact .inr ⟨rfl,rfl⟩
  ·rw[h1,if_neg Qe,h3,Int.toNat_natCast];exact .inl ⟨by omega,h2⟩
 ·unfold Wt EJ Xs;rw[if_neg (Nat.lt_irrefl _),if_pos rfl];exact .inr ⟨rfl,rfl⟩
theorem Mz(h:EB o)(hn:n≤20)(s l:Nat):Wt o n a b d s l<Qn o n+1:=by
 by_cases hs:s<Qn o n
 ·rcases G3.step (a:=a) (b:=b) (d:=d) h hn (.inl ⟨rfl,hs⟩:G3 o n s s) l with⟨_,h1⟩|⟨h1,_⟩<;>omega
 ·unfold Wt;rw[if_neg hs];omega
theorem TZ(h:EB o)(hn:n≤20)(hk:k≤6):ZP (Xt o a b d n k):=by
 have hl:=WM (o:=o) n hn;have hsp:Qn o n=QC o n+1:=rfl;refine⟨hk,by rw[OF];omega,by rw[OF];omega,by simp[Xt,Au.n],fun r hr=>?_⟩;obtain⟨s,_,rfl⟩:=List.mem_map.1 hr;refine⟨by simp[Dk,Xt,Au.K],fun z hz=>?_⟩;obtain⟨l,_,rfl⟩:=List.mem_map.1 hz;have:=Mz (a:=a) (b:=b) (d:=d) h hn s l;rw[OF];omega
theorem G3.ok(h:EB o)(hn:n≤20){t:Nat}(R:G3 o n s t):decide (((s:Nat):Int)=((QC o n:Nat):Int))=Tx o n t:=by
 have hl:=WM (o:=o) n hn;have hsp:Qn o n=QC o n+1:=rfl;rcases R with⟨rfl,hs⟩|⟨rfl,rfl⟩
 ·unfold Tx;rw[if_neg Qe]
  rcases h with rfl|rfl|rfl|rfl|rfl|rfl|rfl|rfl|rfl|rfl|rfl<;>simp[Qn,QC]at hs ⊢ <;>first|omega|(rw[decide_eq_decide];omega)
 ·unfold Tx;rw[if_pos rfl,decide_eq_false Qe]
theorem Du(h:EB o)(hn:n≤20):ZS (Xt o a b d n k) (VI o a b d n k) 0 0:=fun w hw=>by
 have key: ∀(w:List Nat) (s t:Nat),Hv (2^k) w→G3 o n s t→t<31→G3 o n ((Xt o a b d n k).run s w) ((VI o a b d n k).run t w):=by
  intro w
  induction w with
  |nil=>intro s t _ R _;exact R
  |cons c w ih=>
   intro s t hw R ht
   have hs:s<Qn o n+1:=by rcases R with⟨_,h1⟩|⟨h1,_⟩<;>omega
   rw[Au.Kc,Au.Kc,Mb hs (hw c Qx),CF ht (hw c Qx)];exact ih _ _ (fun x hx=>hw x (by simp[hx])) (R.step h hn c) (IU _ _)
 have R:=key w 0 0 hw (.inl ⟨rfl,Nat.succ_pos _⟩) Q8;have hl:=WM (o:=o) n hn;have hsp:Qn o n=QC o n+1:=rfl
 have hs:(Xt o a b d n k).run 0 w<Qn o n+1:=by rcases R with⟨_,h1⟩|⟨h1,_⟩<;>omega
 have ht:(VI o a b d n k).run 0 w<31:=by rcases R with⟨h1,h2⟩|⟨_,h1⟩<;>omega
 rw[Ma hs,CE ht,R.ok h hn]
theorem Jo.trans{x y m:Au}(h:Jo x m)(hl:ZS x y 0 0)(ht:y.tr=x.tr):Jo y m:=
 ⟨h.canon,fun w hw=>by rw[h.like w hw];exact hl w (Er h.tr hw),h.tr.trans ht.symm⟩
theorem Jo.atom(h:EB o)(hn:n≤20){m:Au}(hm:Jo (Xt o a b d n k) m):Jo (VI o a b d n k) m:=hm.trans (Du h hn) rfl
end
end
section
open Go Go.RowKit
set_option maxRecDepth 100000

theorem qM (x : Cr) : ∀ (most : Int) (R : Vl) (st : St) (cs : List AV), Qg st → ZL R st.h.get → Uy R x cs → 1 ≤ most → most ≤ 1000000 → ∃ v st', QR 152 [.agg cs, iZ most] st v st' ∧ v = iZ (min ((VN x : Nat) : Int) most) ∧ Qt st st' := by
 refine Le (M := fun x => ∀ (most : Int) (R : Vl) (st : St) (cs : List AV), Qg st → ZL R st.h.get → Uy R x cs → 1 ≤ most → most ≤ 1000000 → ∃ v st', QR 152 [.agg cs, iZ most] st v st' ∧ v = iZ (min ((VN x : Nat) : Int) most) ∧ Qt st st') (fun o a b g n l ih => ?_) x;intro most R st cs hf hR hr h1 h2;have hr0 := hr;obtain ⟨kc, ls, rfl, hK⟩ := hr.YN;have hln := hK.ln;have hbn := hK.EA;refine Jq Tryz.func152 Tryz.ntmps152 fun T K => ?_;have M := Mem.start hf;refine Qb 0 K M fun _ K => ?_;refine J3 K M rfl (Qa rfl (Qa rfl (Qa rfl (Qa rfl (Qa rfl (Qa hK.cell Q9)))))) Q8 fun c2 _ _ K M => ?_;refine Qb 3 K M fun _ K => ?_;refine Uk K rfl (fun h9 => ?_) fun h9 => ?_
 · refine Qb 1 K M ?_
   first
    | (exfalso; omega)
    | (refine ⟨?_, M.qt⟩; rw [hinv]; congr 1; have hz : i = l.length := by omega
       rw [Hm Qe, ZU]; omega)
    | (refine ⟨?_, M.qt⟩; rw [hinv]; congr 1; omega)
 refine Qb 3 K M fun _ K => ?_;refine p1 K (Q4 Ji rfl rfl hK.len) fun _ K => ?_;refine Qb 1 K M fun _ K => ?_;refine QV (fun mm1 T st9 => ∃ (i : Nat) (m : Int), mm1 = l.length - i ∧ QE [(1, iZ most), (4, iZ 0), (5, iZ m), (11, kc), (12, iZ (l.length : Nat)), (13, iN i)] T ∧ Mem st.h.get st.n [] st9 [(c2, 0, [.str o, iZ a, iZ b, iZ g, iZ n, kc])] ∧ i ≤ l.length ∧ 1 ≤ m ∧ m ≤ most ∧ min (((VN (.mk o a b g n l)) : Nat) : Int) most = min (m + ((ZU (l.drop i) : Nat) : Int)) most) (fun mm1 T st9 hI => ?_) _ _ _ ⟨0, 1, rfl, (K.sub rfl), M.less (.refl _), (Nat.zero_le _), Qe, h1, (by rw [VN, List.drop_zero]; omega)⟩;obtain ⟨i, m, rfl, K, M, hi, hm1, hm2, hinv⟩ := hI;refine Qb 1 K M fun _ K => ?_;refine Uk K rfl (fun h14 => ?_) fun h14 => ?_
 · refine Qb 0 K M fun _ K => ?_;obtain ⟨⟨o15, a15, b15, g15, n15, l15⟩, hi15⟩ : ∃ k, l[i]? = some k := ⟨_, List.getElem?_eq_getElem Qe⟩;have hm15 := Pe hi15;obtain ⟨_, hc15, hn15⟩ := hK.get hi15;have hp15 := hn15;obtain ⟨kc15, ls15, rfl, hK15⟩ := hp15.YN;refine vt (hK.r (M.ZL hR)) hc15 K JV QZ rfl rfl fun _ _ _ _ K => ?_;refine au 1 K M ?_;intro c7 _ _ K _ M;refine J9 (k := 0) K M rfl rfl rfl Jm rfl (Qa rfl (Qa rfl (Qa rfl (Qa rfl (Qa rfl (Qa hK15.cell Q9)))))) rfl fun _ M => ?_;refine Qb 3 K M fun _ K => ?_;refine Uk K rfl (fun h19 => ?_) fun h19 => ?_
   · refine QO ?_;show W _ _ _ _ _ _ _;refine Qb 2 K M ?_
     first
      | (exfalso; omega)
      | (refine ⟨?_, M.qt⟩; rw [hinv]; congr 1; have hz : i = l.length := by omega
         rw [Hm Qe, ZU]; omega)
      | (refine ⟨?_, M.qt⟩; rw [hinv]; congr 1; omega)
   refine Qb 5 K M fun _ K => ?_;refine oQ K M (ih _ hm15 (most - m) R _ _ M.fresh (M.ZL hR) hn15 Qe Qe) rfl rfl fun _ _ K M => ?_;refine Qb 4 K M fun _ K => ?_;have hst := RJ hi15;have hsp := ud (.mk o15 a15 b15 g15 n15 l15);exact ⟨_, Qe, i + 1, (m + min ((VN (.mk o15 a15 b15 g15 n15 l15) : Nat) : Int) (most - m)), rfl, (K.sub rfl), M.less (.cons _ (.refl _)), Qe, Qe, Qe, Qe⟩
 refine QO ?_;show W _ _ _ _ _ _ _;refine Qb 2 K M ?_
 first
  | (exfalso; omega)
  | (refine ⟨?_, M.qt⟩; rw [hinv]; congr 1; have hz : i = l.length := by omega
     rw [Hm Qe, ZU]; omega)
  | (refine ⟨?_, M.qt⟩; rw [hinv]; congr 1; omega)

theorem Tb{R:Vl}{st:St}(hf:Qg st)(hR:ZL R st.h.get){o:List Nat}{a b g n:Int}{l:List Cr}{cs:List AV}(hr:Uy R (.mk o a b g n l) cs): ∃v st',QR 103 [.agg cs] st v st'∧v=iZ (min ((VN (.mk o a b g n l):Nat):Int) 2001)∧Qt st st':=by
 have hr0:=hr;obtain⟨kc,ls,rfl,hK⟩:=hr.YN;have hln:=hK.ln;have hbn:=hK.EA;refine Jq Tryz.func103 Tryz.ntmps103 fun T K=>?_;have M:=Mem.start hf;refine Qb 0 K M fun _ K=>?_;refine J3 K M rfl (Qa rfl (Qa rfl (Qa rfl (Qa rfl (Qa rfl (Qa hK.cell Q9)))))) Q8 fun c1 _ _ K M=>?_;refine Qb 2 K M fun _ K=>?_;refine oQ K M (qM (.mk o a b g n l) 2001 R _ _ M.fresh (M.ZL hR) hr0 Q8 Q8) rfl rfl fun _ _ K M=>?_;refine Qb 1 K M ?_;exact⟨rfl,M.qt⟩

end
end Go.Proofs.YtildagdnomiahaaGreatDoor
