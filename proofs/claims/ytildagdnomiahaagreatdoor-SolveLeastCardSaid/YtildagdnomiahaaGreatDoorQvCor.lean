/-
  Atoms: the program's machines, plainly; they accept what the document's atoms accept.
-/
import Derived.Test.YtildagdnomiahaaGreatDoorQvMnm
set_option maxHeartbeats 8000000
set_option linter.unnecessarySimpa false
set_option linter.unusedSectionVars false
set_option linter.unusedSimpArgs false
set_option linter.unusedVariables false
namespace Go.Proofs.YtildagdnomiahaaGreatDoor
section
variable {s:Nat}

def QQ(o:List Nat)(n s:Nat)(x y z:Bool):Int:=
 if o=[116,114,117,101]then 0
 else if o=[115,117,98]then(if(!x||y)=true then 0 else-1)
 else if o=[110,111,110,101]then(if(!x)=true then 0 else-1)
 else if o=[117,110,105,111,110]then(if(z==(x||y))=true then 0 else-1)
 else if o=[105,110,116,101,114]then(if(z==(x&&y))=true then 0 else-1)
 else if o=[109,105,110,117,115]then(if(z==(x&& !y))=true then 0 else-1)
 else if o=[115,105,110,103]then(if x=false then((s:Nat):Int)else if s=0 then 1 else-1)
 else if o=[102,108,97,103]then(if s=1∨x=true then 1 else-1)
 else if o=[108,101,115,115]then(if x=false∧y=false then((s:Nat):Int)else if s=0∧x=true∧y=false then 1 else if s=1∧y=true∧x=false then 2 else-1)
 else if o=[112,108,117,115]then(if s=0∧x=true∧y=decide (n=0)then 1 else if(s=0∧x=false∧y=false)∨(s=n+1∧x=false∧y=false)then((s:Nat):Int)else if 0<s∧s<n+1∧x=false∧y=decide (s=n)then((s+1:Nat):Int)else-1)
 else(if s<n+1∧x=decide (s=n)then((s+1:Nat):Int)else if s=n+1∧x=false then((n+1:Nat):Int)else-1)
def QA(o:List Nat)(n:Nat):Nat:=
 if o=[115,105,110,103]∨o=[102,108,97,103]then 1 else if o=[108,101,115,115]then 2 else if o=[112,108,117,115]∨o=[110,117,109]then n+1 else 0
abbrev Qo(o:List Nat)(n:Nat):Nat:=QA o n+1
def AG(o:List Nat):Prop:=o=[116,114,117,101]∨o=[115,117,98]∨o=[110,111,110,101]∨o=[117,110,105,111,110]∨o=[105,110,116,101,114]∨o=[109,105,110,117,115]∨o=[115,105,110,103]∨o=[102,108,97,103]∨o=[108,101,115,115]∨o=[112,108,117,115]∨o=[110,117,109]
def XF(b:Bool):Nat:=if b then 1 else 0
theorem jd{o:List Nat}(h:AG o){n:Nat}(hn:n≤20)(hs:s<Qo o n)(x y z:Bool):(QQ o n s x y z= -1∧XQ o n s (XF x) (XF y) (XF z)=30)∨ ∃t:Nat,QQ o n s x y z=((t:Nat):Int)∧t<Qo o n∧XQ o n s (XF x) (XF y) (XF z)=t:=by
 have hst:Qo o n≤22:=by unfold Qo QA;split<;>(try split)<;>(try split)<;>omega
 have h30: ¬s=30:=by omega
 rcases h with rfl|rfl|rfl|rfl|rfl|rfl|rfl|rfl|rfl|rfl|rfl
 ·clear hst;simp[Qo,QA]at hs;simp only[QQ,XQ,Qo,QA,if_neg h30];cases x<;>cases y<;>cases z<;>simp[XF]<;>first|omega|(rcases(show s=0∨s=1∨s=2 by omega)with rfl|rfl|rfl<;>first|omega|(simp;done)|simp_all)|simp_all
 ·clear hst;simp[Qo,QA]at hs;simp only[QQ,XQ,Qo,QA,if_neg h30];cases x<;>cases y<;>cases z<;>simp[XF]<;>first|omega|(rcases(show s=0∨s=1∨s=2 by omega)with rfl|rfl|rfl<;>first|omega|(simp;done)|simp_all)|simp_all
 ·clear hst;simp[Qo,QA]at hs;simp only[QQ,XQ,Qo,QA,if_neg h30];cases x<;>cases y<;>cases z<;>simp[XF]<;>first|omega|(rcases(show s=0∨s=1∨s=2 by omega)with rfl|rfl|rfl<;>first|omega|(simp;done)|simp_all)|simp_all
 ·clear hst;simp[Qo,QA]at hs;simp only[QQ,XQ,Qo,QA,if_neg h30];cases x<;>cases y<;>cases z<;>simp[XF]<;>first|omega|(rcases(show s=0∨s=1∨s=2 by omega)with rfl|rfl|rfl<;>first|omega|(simp;done)|simp_all)|simp_all
 ·clear hst;simp[Qo,QA]at hs;simp only[QQ,XQ,Qo,QA,if_neg h30];cases x<;>cases y<;>cases z<;>simp[XF]<;>first|omega|(rcases(show s=0∨s=1∨s=2 by omega)with rfl|rfl|rfl<;>first|omega|(simp;done)|simp_all)|simp_all
 ·clear hst;simp[Qo,QA]at hs;simp only[QQ,XQ,Qo,QA,if_neg h30];cases x<;>cases y<;>cases z<;>simp[XF]<;>first|omega|(rcases(show s=0∨s=1∨s=2 by omega)with rfl|rfl|rfl<;>first|omega|(simp;done)|simp_all)|simp_all
 ·clear hst;simp[Qo,QA]at hs;simp only[QQ,XQ,Qo,QA,if_neg h30];cases x<;>cases y<;>cases z<;>simp[XF]<;>first|omega|(rcases(show s=0∨s=1∨s=2 by omega)with rfl|rfl|rfl<;>first|omega|(simp;done)|simp_all)|simp_all
 ·clear hst;simp[Qo,QA]at hs;simp only[QQ,XQ,Qo,QA,if_neg h30];cases x<;>cases y<;>cases z<;>simp[XF]<;>first|omega|(rcases(show s=0∨s=1∨s=2 by omega)with rfl|rfl|rfl<;>first|omega|(simp;done)|simp_all)|simp_all
 ·clear hst;simp[Qo,QA]at hs;simp only[QQ,XQ,Qo,QA,if_neg h30];cases x<;>cases y<;>cases z<;>simp[XF]<;>first|omega|(rcases(show s=0∨s=1∨s=2 by omega)with rfl|rfl|rfl<;>first|omega|(simp;done)|simp_all)|simp_all
 ·simp[Qo,QA]at hs;simp only[QQ,XQ,Qo,QA,if_neg h30];rcases(show(s=0∧n=0)∨(s=0∧0<n)∨(0<s∧s<n)∨(0<s∧s=n)∨s=n+1 by omega)with⟨rfl,rfl⟩|⟨rfl,h1⟩|⟨h1,h2⟩|⟨h1,rfl⟩|rfl
  ·cases x<;>cases y<;>simp[XF]
  ·have e1: ¬n=0:=by omega
   cases x<;>cases y<;>simp[XF,e1]<;>omega
  ·have e1: ¬s=0:=by omega
   have e2: ¬s=n+1:=by omega
   have e3: ¬s=n:=by omega
   have e4:s<n+1:=by omega
   cases x<;>cases y<;>simp[XF,e1,e2,e3,e4,h1,h2]<;>first|omega|exact⟨s+1,rfl,by omega,rfl⟩|exact⟨s+1,by omega,by omega,by omega⟩
  ·have e1: ¬s=0:=by omega
   cases x<;>cases y<;>simp[XF,e1,h1]<;>first|omega|exact⟨s+1,rfl,by omega,rfl⟩|exact⟨s+1,by omega,by omega,by omega⟩
  ·cases x<;>cases y<;>simp[XF]<;>first|omega|exact⟨n+1,by omega,by omega,by omega⟩
 ·simp[Qo,QA]at hs;simp only[QQ,XQ,Qo,QA,if_neg h30];rcases(show s<n∨s=n∨s=n+1 by omega)with h1|rfl|rfl
  ·have e2: ¬s=n+1:=by omega
   have e3: ¬s=n:=by omega
   have e4:s<n+1:=by omega
   have e5: ¬n<s:=by omega
   cases x<;>simp[XF,e2,e3,e4,e5,h1]<;>first|omega|exact⟨s+1,by omega,by omega,by omega⟩
  ·cases x<;>simp[XF]<;>first|omega|exact⟨s+1,by omega,by omega,by omega⟩
  ·cases x<;>simp[XF]<;>first|omega|exact⟨n+1,by omega,by omega,by omega⟩
theorem BP(l v:Nat):XF (decide (((BQ l v:Nat):Int)=1))=BQ l v:=by
 have h:BQ l v=0∨BQ l v=1:=by unfold BQ;omega
 rcases h with h|h<;>rw[h]<;>rfl
abbrev Zh(l v:Nat):Bool:=decide (((BQ l v:Nat):Int)=1)
def Ee(o:List Nat)(n a b d s l:Nat):Nat:=if s<Qo o n then(if QQ o n s (Zh l a) (Zh l b) (Zh l d)= -1 then Qo o n else(QQ o n s (Zh l a) (Zh l b) (Zh l d)).toNat)else Qo o n
def PQ(o:List Nat)(n a b d k s:Nat):List Int:=(List.range (2^k)).map fun l=>((Ee o n a b d s l:Nat):Int)
def XS(o:List Nat)(a b d n k:Nat):Au:=⟨k,(List.range (Qo o n+1)).map fun s=>decide (((s:Nat):Int)=((QA o n:Nat):Int)),(List.range (Qo o n+1)).map (PQ o n a b d k)⟩
section
variable {o:List Nat} {a b d n k:Nat}
theorem E9(n:Nat)(hn:n≤20):QA o n≤21:=by unfold QA;split<;>(try split)<;>(try split)<;>omega
theorem Bc:(XS o a b d n k).n=Qo o n+1:=by simp[XS,Au.n]
theorem js{l:Nat}(hs:s<Qo o n+1)(hl:l<2^k):(XS o a b d n k).go s l=Ee o n a b d s l:=by
 unfold Au.go XS PQ;simp only[List.getElem?_map,List.getElem?_range hs,Option.map_some,Option.getD_some,List.getElem?_range hl,Int.toNat_natCast]
theorem jr(hs:s<Qo o n+1):(XS o a b d n k).ok s=decide (((s:Nat):Int)=((QA o n:Nat):Int)):=by
 unfold Au.ok XS;simp only[List.getElem?_map,List.getElem?_range hs,Option.map_some,Option.getD_some]
def Cc(o:List Nat)(n s t:Nat):Prop:=(s=t∧s<Qo o n)∨(s=Qo o n∧t=30)
theorem Cc.step(h:AG o)(hn:n≤20){t:Nat}(R:Cc o n s t)(l:Nat):Cc o n (Ee o n a b d s l) (AO o n a b d t l):=by
 have hl:=E9 (o:=o) n hn;have hsp:Qo o n=QA o n+1:=rfl;rcases R with⟨rfl,hs⟩|⟨rfl,rfl⟩
 ·unfold Ee AO;rw[if_pos hs,←BP l a,←BP l b,←BP l d];rcases jd h hn hs (Zh l a) (Zh l b) (Zh l d)with⟨h1,h2⟩|⟨t,h1,h2,h3⟩
  ·rw[if_pos h1,h2];exact .inr ⟨rfl,rfl⟩
  ·rw[h1,if_neg Qd,h3,Int.toNat_natCast];exact .inl ⟨by omega,h2⟩
 ·unfold Ee AO XQ;rw[if_neg (Nat.lt_irrefl _),if_pos rfl];exact .inr ⟨rfl,rfl⟩
theorem jT(h:AG o)(hn:n≤20)(s l:Nat):Ee o n a b d s l<Qo o n+1:=by
 by_cases hs:s<Qo o n
 ·rcases Cc.step (a:=a) (b:=b) (d:=d) h hn (.inl ⟨rfl,hs⟩:Cc o n s s) l with⟨_,h1⟩|⟨h1,_⟩<;>omega
 ·unfold Ee;rw[if_neg hs];omega
theorem jq(h:AG o)(hn:n≤20)(hk:k≤6):Xu (XS o a b d n k):=by
 have hl:=E9 (o:=o) n hn;have hsp:Qo o n=QA o n+1:=rfl;refine⟨hk,by rw[Bc];omega,by rw[Bc];omega,by simp[XS,Au.n],fun r hr=>?_⟩;obtain⟨s,_,rfl⟩:=List.mem_map.1 hr;refine⟨by simp[PQ,XS,Au.K],fun z hz=>?_⟩;obtain⟨l,_,rfl⟩:=List.mem_map.1 hz;have:=jT (a:=a) (b:=b) (d:=d) h hn s l;rw[Bc];omega
theorem Cc.ok(h:AG o)(hn:n≤20){t:Nat}(R:Cc o n s t):decide (((s:Nat):Int)=((QA o n:Nat):Int))=ql o n t:=by
 have hl:=E9 (o:=o) n hn;have hsp:Qo o n=QA o n+1:=rfl;rcases R with⟨rfl,hs⟩|⟨rfl,rfl⟩
 ·unfold ql;rw[if_neg Qd]
  rcases h with rfl|rfl|rfl|rfl|rfl|rfl|rfl|rfl|rfl|rfl|rfl<;>simp[Qo,QA]at hs ⊢ <;>first|omega|(rw[decide_eq_decide];omega)
 ·unfold ql;rw[if_pos rfl,decide_eq_false Qd]
theorem PY(h:AG o)(hn:n≤20):Xw (XS o a b d n k) (Wx o a b d n k) 0 0:=fun w hw=>by
 have key: ∀(w:List Nat) (s t:Nat),I4 (2^k) w→Cc o n s t→t<31→Cc o n ((XS o a b d n k).run s w) ((Wx o a b d n k).run t w):=by
  intro w
  induction w with
  |nil=>intro s t _ R _;exact R
  |cons c w ih=>
   intro s t hw R ht
   have hs:s<Qo o n+1:=by rcases R with⟨_,h1⟩|⟨h1,_⟩<;>omega
   rw[Au.Lv,Au.Lv,js hs (hw c Qx),Pq ht (hw c Qx)];exact ih _ _ (fun x hx=>hw x (by simp[hx])) (R.step h hn c) (Lj _ _)
 have R:=key w 0 0 hw (.inl ⟨rfl,Nat.succ_pos _⟩) Q9;have hl:=E9 (o:=o) n hn;have hsp:Qo o n=QA o n+1:=rfl
 have hs:(XS o a b d n k).run 0 w<Qo o n+1:=by rcases R with⟨_,h1⟩|⟨h1,_⟩<;>omega
 have ht:(Wx o a b d n k).run 0 w<31:=by rcases R with⟨h1,h2⟩|⟨_,h1⟩<;>omega
 rw[jr hs,Pp ht,R.ok h hn]
theorem Ju.trans{x y m:Au}(h:Ju x m)(hl:Xw x y 0 0)(ht:y.tr=x.tr):Ju y m:=
 ⟨h.canon,fun w hw=>by rw[h.like w hw];exact hl w (Ap h.tr hw),h.tr.trans ht.symm⟩
theorem Ju.atom(h:AG o)(hn:n≤20){m:Au}(hm:Ju (XS o a b d n k) m):Ju (Wx o a b d n k) m:=hm.trans (PY h hn) rfl
end
end
section
open Go Go.RowKit
set_option maxRecDepth 100000

theorem yA (x : Cr) : ∀ (most : Int) (R : W5) (st : St) (cs : List AV), Qh st → X1 R st.h.get → Yr R x cs → 1 ≤ most → most ≤ 1000000 → ∃ v st', QV 152 [.agg cs, iZ most] st v st' ∧ v = iZ (min ((Xx x : Nat) : Int) most) ∧ Qt st st' := by
 refine BE (M := fun x => ∀ (most : Int) (R : W5) (st : St) (cs : List AV), Qh st → X1 R st.h.get → Yr R x cs → 1 ≤ most → most ≤ 1000000 → ∃ v st', QV 152 [.agg cs, iZ most] st v st' ∧ v = iZ (min ((Xx x : Nat) : Int) most) ∧ Qt st st') (fun o a b g n l ih => ?_) x;intro most R st cs hf hR hr h1 h2;have hr0 := hr;obtain ⟨kc, ls, rfl, hK⟩ := hr.ZG;have hln := hK.ln;have hbn := hK.AW;refine Jv Tryz.func152 Tryz.ntmps152 fun T K => ?_;have M := Mem.start hf;refine Qb 0 K M fun _ K => ?_;refine JK K M rfl (Qa rfl (Qa rfl (Qa rfl (Qa rfl (Qa rfl (Qa hK.cell QL)))))) Q9 fun c2 _ _ K M => ?_;refine Qb 3 K M fun _ K => ?_;refine U8 K rfl (fun h9 => ?_) fun h9 => ?_
 · refine Qb 1 K M ?_
   first
    | (exfalso; omega)
    | (refine ⟨?_, M.qt⟩; rw [hinv]; congr 1; have hz : i = l.length := by omega
       rw [Iw Qd, Xy]; omega)
    | (refine ⟨?_, M.qt⟩; rw [hinv]; congr 1; omega)
 refine Qb 3 K M fun _ K => ?_;refine p1 K (Q0 JI rfl rfl hK.len) fun _ K => ?_;refine Qb 1 K M fun _ K => ?_;refine Je (fun mm1 T st9 => ∃ (i : Nat) (m : Int), mm1 = l.length - i ∧ QH [(1, iZ most), (4, iZ 0), (5, iZ m), (11, kc), (12, iZ (l.length : Nat)), (13, iN i)] T ∧ Mem st.h.get st.n [] st9 [(c2, 0, [.str o, iZ a, iZ b, iZ g, iZ n, kc])] ∧ i ≤ l.length ∧ 1 ≤ m ∧ m ≤ most ∧ min (((Xx (.mk o a b g n l)) : Nat) : Int) most = min (m + ((Xy (l.drop i) : Nat) : Int)) most) (fun mm1 T st9 hI => ?_) _ _ _ ⟨0, 1, rfl, (K.sub rfl), M.less (.refl _), (Nat.zero_le _), Qd, h1, (by rw [Xx, List.drop_zero]; omega)⟩;obtain ⟨i, m, rfl, K, M, hi, hm1, hm2, hinv⟩ := hI;refine Qb 1 K M fun _ K => ?_;refine U8 K rfl (fun h14 => ?_) fun h14 => ?_
 · refine Qb 0 K M fun _ K => ?_;obtain ⟨⟨o15, a15, b15, g15, n15, l15⟩, hi15⟩ : ∃ k, l[i]? = some k := ⟨_, List.getElem?_eq_getElem Qd⟩;have hm15 := yB hi15;obtain ⟨_, hc15, hn15⟩ := hK.get hi15;have hp15 := hn15;obtain ⟨kc15, ls15, rfl, hK15⟩ := hp15.ZG;refine aA (hK.r (M.X1 hR)) hc15 K Yf Jh rfl rfl fun _ _ _ _ K => ?_;refine au 1 K M ?_;intro c7 _ _ K _ M;refine Uh (k := 0) K M rfl rfl rfl Ub rfl (Qa rfl (Qa rfl (Qa rfl (Qa rfl (Qa rfl (Qa hK15.cell QL)))))) rfl fun _ M => ?_;refine Qb 3 K M fun _ K => ?_;refine U8 K rfl (fun h19 => ?_) fun h19 => ?_
   · refine QM ?_;show W _ _ _ _ _ _ _;refine Qb 2 K M ?_
     first
      | (exfalso; omega)
      | (refine ⟨?_, M.qt⟩; rw [hinv]; congr 1; have hz : i = l.length := by omega
         rw [Iw Qd, Xy]; omega)
      | (refine ⟨?_, M.qt⟩; rw [hinv]; congr 1; omega)
   refine Qb 5 K M fun _ K => ?_;refine oQ K M (ih _ hm15 (most - m) R _ _ M.fresh (M.X1 hR) hn15 Qd Qd) rfl rfl fun _ _ K M => ?_;refine Qb 4 K M fun _ K => ?_;have hst := TF hi15;have hsp := xd (.mk o15 a15 b15 g15 n15 l15);exact ⟨_, Qd, i + 1, (m + min ((Xx (.mk o15 a15 b15 g15 n15 l15) : Nat) : Int) (most - m)), rfl, (K.sub rfl), M.less (.cons _ (.refl _)), Qd, Qd, Qd, Qd⟩
 refine QM ?_;show W _ _ _ _ _ _ _;refine Qb 2 K M ?_
 first
  | (exfalso; omega)
  | (refine ⟨?_, M.qt⟩; rw [hinv]; congr 1; have hz : i = l.length := by omega
     rw [Iw Qd, Xy]; omega)
  | (refine ⟨?_, M.qt⟩; rw [hinv]; congr 1; omega)

theorem MV{R:W5}{st:St}(hf:Qh st)(hR:X1 R st.h.get){o:List Nat}{a b g n:Int}{l:List Cr}{cs:List AV}(hr:Yr R (.mk o a b g n l) cs): ∃v st',QV 103 [.agg cs] st v st'∧v=iZ (min ((Xx (.mk o a b g n l):Nat):Int) 2001)∧Qt st st':=by
 have hr0:=hr;obtain⟨kc,ls,rfl,hK⟩:=hr.ZG;have hln:=hK.ln;have hbn:=hK.AW;refine Jv Tryz.func103 Tryz.ntmps103 fun T K=>?_;have M:=Mem.start hf;refine Qb 0 K M fun _ K=>?_;refine JK K M rfl (Qa rfl (Qa rfl (Qa rfl (Qa rfl (Qa rfl (Qa hK.cell QL)))))) Q9 fun c1 _ _ K M=>?_;refine Qb 2 K M fun _ K=>?_;refine oQ K M (yA (.mk o a b g n l) 2001 R _ _ M.fresh (M.X1 hR) hr0 Q9 Q9) rfl rfl fun _ _ K M=>?_;refine Qb 1 K M ?_;exact⟨rfl,M.qt⟩

end
end Go.Proofs.YtildagdnomiahaaGreatDoor
