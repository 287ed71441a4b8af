/-
  Is a text one whole name: the reference's answer, and the program's.
-/
import Derived.Test.YthjgndgnmkiaiaaGreatDoorZpRrT
import Derived.Test.YthjgndgnmkiaiaaGreatDoorZpPaP
set_option maxHeartbeats 8000000
set_option maxRecDepth 100000
set_option linter.unusedSimpArgs false
set_option linter.unusedVariables false
namespace Go.Proofs.YthjgndgnmkiaiaaGreatDoor
section
open Go Go.RowKit

def Ui(l:List Nat):Bool:=decide ((tokens (bytesOf l)).2.2=0)&&(decide ((((tokens (bytesOf l)).1.length:Nat):Int)=2)&&(match(tokens (bytesOf l)).1[0]? with
 |some t=>decide (t.kind=1)&&decide (Ym t.text=l)
 |none=>false))

theorem Vi{st:St}(hf:Q3 st)(l:List Nat)(hB:Bytes l): ∃v st',Ev Tryz.prog JF 11 [.str l] st v st'∧v=.bool (Ui l)∧Qt st st':=by
 have htl:=Hr (bytesOf l)
 have hml:((tokens (bytesOf l)).1.map Uy.cells).length=(tokens (bytesOf l)).1.length:=by simp
 refine XB Tryz.func11 Tryz.ntmps11 fun T K=>?_;have M:=Mem.start hf;refine Qg 2 K M fun _ K=>?_;obtain⟨v8,st8,ev8,ks8,rfl,nr8,q8⟩:=SC M.fresh l hB;refine p1 K (Qh rfl ev8) fun _ K=>?_;obtain⟨A8,hA8,M⟩:=M.Nz q8 nr8;refine Qg 9 K M fun _ K=>?_;refine oB K (Q7 rfl) rfl fun b14 _ e14 K=>?_;cases b14
 ·replace e14:=of_decide_eq_false e14;refine Qg 20 K M ?_;refine⟨?_,M.qt⟩
  simp_all [Ui,Ql]
 ·replace e14:=of_decide_eq_true e14;refine Qg 1 K M fun _ K=>?_;refine pg K rfl rfl (Jp Wg rfl rfl hA8.len) fun _ K=>?_;refine Qg 2 K M fun _ K=>?_;refine oB K (Q7 rfl) rfl fun b19 _ e19 K=>?_;cases b19
  ·replace e19:=of_decide_eq_false e19;refine Qg 15 K M ?_;refine⟨?_,M.qt⟩
   simp_all [Ui,Ql]
  ·replace e19:=of_decide_eq_true e19;refine Qg 1 K M fun _ K=>?_;obtain⟨t21,ht21⟩: ∃t,(tokens (bytesOf l)).1[0]? =some t:=⟨_,List.getElem?_eq_getElem Qk⟩;obtain⟨x21,m21,f21,q21,_,la21,lo21,lp21⟩:=(Mem.ag (L:=[]) (B:=[]) M hA8).load (i:=0) (cs:=_) (by rw[List.getElem?_map,ht21];rfl);refine pg K rfl rfl (Qp (j:=0) ZL (congrArg some q21) rfl (by rw[List.length_map];omega)) fun _ K=>?_;refine Qg 1 K M fun _ K=>?_;refine pg K rfl rfl (QK rfl (lo21 _ 0 _ J4 rfl)) fun _ K=>?_;refine Qg 2 K M fun _ K=>?_;refine oB K (Q7 rfl) rfl fun b26 _ e26 K=>?_;cases b26
   ·replace e26:=of_decide_eq_false e26;refine Qg 8 K M ?_;refine⟨?_,M.qt⟩
    simp_all [Ui,Ql]
   ·replace e26:=of_decide_eq_true e26;refine Qg 1 K M fun _ K=>?_;obtain⟨t28,ht28⟩: ∃t,(tokens (bytesOf l)).1[0]? =some t:=⟨_,List.getElem?_eq_getElem Qk⟩;obtain⟨x28,m28,f28,q28,_,la28,lo28,lp28⟩:=(Mem.ag (L:=[]) (B:=[]) M hA8).load (i:=0) (cs:=_) (by rw[List.getElem?_map,ht28];rfl);refine pg K rfl rfl (Qp (j:=0) ZL (congrArg some q28) rfl (by rw[List.length_map];omega)) fun _ K=>?_;refine Qg 1 K M fun _ K=>?_;refine pg K rfl rfl (QK rfl (lo28 _ 1 _ Qr rfl)) fun _ K=>?_;refine Qg 4 K M ?_;refine⟨?_,M.qt⟩
    simp_all [Ui,Ql]

end
section
open Go Go.RowKit
variable {i:Nat} {k:Nd} {kids:List Nd}

structure F0(h:Hp)(kids:List Nd)(kk:AV)(ls:List (List AV)):Prop where
 r:Ja h [] 5 ls kk
 ln:ls.length=kids.length
 at_: ∀(i:Nat) (k:Nd),kids[i]? =some k→ ∃cs,ls[i]? =some cs∧XW h k cs
theorem F0.len{h:Hp}{kids:List Nd}{kk:AV}{ls:List (List AV)}(H:F0 h kids kk ls):VN kk=some kids.length:=by rw[←H.ln];exact H.r.len
theorem F0.cell{h:Hp}{kids:List Nd}{kk:AV}{ls:List (List AV)}(H:F0 h kids kk ls):QI kk=true:=H.r.cell
theorem F0.W9{h:Hp}{kids:List Nd}{kk:AV}{ls:List (List AV)}(H:F0 h kids kk ls):(kids.length:Int)≤9223372036854775807:=by rw[←H.ln];exact H.r.W9
theorem XW.J3{h:Hp}{op name:List Nat}{n at_:Int}{cs:List AV}(r:XW h (.mk op name n at_ kids) cs):
  ∃kk ls,cs=[.str op,.str name,.int .i64 n,.int .i64 at_,kk]∧F0 h kids kk ls∧Bytes op∧Bytes name:=by
 cases r with
 |leaf hs ha hb=>
  rename_i ks;refine⟨ks,[],rfl,⟨⟨hs,by simp,Hs hs,fun i cs hi=>by simp at hi,fun c m off n z e=>by subst e;cases ha⟩,rfl,fun i k hi=>by simp at hi⟩,hb⟩
 |node hr hn hl hk hb=>
  rename_i c m off cells
  have hlen:((List.range kids.length).map fun i=>(cells.drop (off+i *5)).take 5).length=kids.length:=by simp
  have hat: ∀(i:Nat) (cs:List AV),((List.range kids.length).map fun i=>(cells.drop (off+i *5)).take 5)[i]? =some cs→i<kids.length∧cs=(cells.drop (off+i *5)).take 5:=by
   intro i cs hi;rw[List.getElem?_map]at hi
   have hlt:i<kids.length:=by
    by_cases h:i<kids.length
    ·exact h
    ·rw[List.getElem?_eq_none (by simp;omega)]at hi;cases hi
   rw[List.getElem?_range hlt]at hi
   injection hi with hi
   exact⟨hlt,hi.symm⟩
  refine⟨_,(List.range kids.length).map fun i=>(cells.drop (off+i *5)).take 5,rfl,⟨⟨by rw[hlen];rfl,by rw[hlen];exact hn,rfl,fun i cs hi=>?_,fun c' m' off' n' z e=>?_⟩,hlen,fun i k hi=>?_⟩,hb⟩
  ·obtain⟨h1,rfl⟩:=hat i cs hi;refine⟨c,m,off,cells,by rw[hlen],by simp,hr,?_,rfl⟩;rw[List.length_take,List.length_drop];omega
  ·injection e with e1 e2 e3 e4 e5
   subst e1 e2 e3 e4 e5;exact⟨by simp,cells,hr,hl⟩
  ·have hlt:=(List.getElem?_eq_some_iff.1 hi).1;refine⟨_,?_,hk i k hi⟩;rw[List.getElem?_map,List.getElem?_range hlt];rfl
def Nd.op:Nd→List Nat
 |.mk op _ _ _ _=>op
theorem J7(h:kids[i]? =some k):k∈kids:=List.mem_of_getElem? h

mutual
def ua:Nd→Nat
 |.mk _ _ _ _ kids=>eO kids+1
def eO:List Nd→Nat
 |[]=>0
 |a::l=>max (ua a) (eO l)
end
theorem XJ(k:Nd):1≤YT k:=by cases k;rw[YT];omega
theorem eN(k:Nd):1≤ua k:=by cases k;rw[ua];omega
theorem yg(h:kids[i]? =some k):WC (kids.drop i)=YT k+WC (kids.drop (i+1)):=by
 obtain⟨h1,h2⟩:=List.getElem?_eq_some_iff.1 h;rw[List.drop_eq_getElem_cons h1,WC,h2]
theorem xX(h:kids[i]? =some k):eO (kids.drop i)=max (ua k) (eO (kids.drop (i+1))):=by
 obtain⟨h1,h2⟩:=List.getElem?_eq_some_iff.1 h;rw[List.drop_eq_getElem_cons h1,eO,h2]
theorem Kz{p:Nd→Bool}(h:kids[i]? =some k):(kids.drop i).all p=(p k&&(kids.drop (i+1)).all p):=by
 obtain⟨h1,h2⟩:=List.getElem?_eq_some_iff.1 h;rw[List.drop_eq_getElem_cons h1,List.all_cons,h2]
theorem J0{α:Type}{l:List α}(h:l.length≤i):l.drop i=[]:=List.drop_eq_nil_of_le h

def Y7:List Nat:=[118,97,114]
def ZS:List Nat:=[110,117,109]
def Yr:List Nat:=[112,108,117,115]
def U3:List Nat:=[115,101,116]
def Jf(op:List Nat):Bool:=decide (op=[117,110,105,111,110])||(decide (op=[105,110,116,101,114])||decide (op=[109,105,110,117,115]))
def JQ(name:List Nat)(n:Int)(kids:List Nd)(m:Int):Bool:=decide (name=[])&&(decide (n=0)&&decide (((kids.length:Nat):Int)=m))
def QM(x:Nd):Bool:=match x with
 |.mk op name n _ kids=>
  if op=Y7 then Ui name&&(decide (n=0)&&decide (((kids.length:Nat):Int)=0))
  else if op=ZS then decide (name=[])&&(decide (0≤n)&&(decide (n≤99)&&decide (((kids.length:Nat):Int)=0)))
  else if op=Yr then decide (name=[])&&(decide (1≤n)&&(decide (n≤99)&&(decide (((kids.length:Nat):Int)=1)&&kids.attach.all fun k=>decide (k.1.op=Y7)&&QM k.1)))
  else if op=U3 then decide (name=[])&&(decide (n=0)&&(decide (((kids.length:Nat):Int)≤6)&&kids.attach.all fun k=>QM k.1&&(!Jf k.1.op&& !decide (k.1.op=U3))))
  else if Jf op then JQ name n kids 2&&((kids.attach.all fun k=>QM k.1)&&(match kids[1]? with|some k=> !Jf k.op|none=>true))
  else false
termination_by YT x
decreasing_by
 all_goals
  simp_wf
  have:=F5 k.2;rw[YT];omega
theorem Ar{α:Type}(l:List α)(p:α→Bool):(l.attach.all fun x=>p x.1)=l.all p:=by
 rw[List.all_eq,List.all_eq];simp
def L6(k:Nd):Bool:=QM k&&(!Jf k.op&& !decide (k.op=U3))
theorem Uf(op name:List Nat)(n at_:Int)(kids:List Nd):QM (.mk op name n at_ kids)=
  if op=Y7 then Ui name&&(decide (n=0)&&decide (((kids.length:Nat):Int)=0))
  else if op=ZS then decide (name=[])&&(decide (0≤n)&&(decide (n≤99)&&decide (((kids.length:Nat):Int)=0)))
  else if op=Yr then decide (name=[])&&(decide (1≤n)&&(decide (n≤99)&&(decide (((kids.length:Nat):Int)=1)&&kids.all fun k=>decide (k.op=Y7)&&QM k)))
  else if op=U3 then decide (name=[])&&(decide (n=0)&&(decide (((kids.length:Nat):Int)≤6)&&kids.all L6))
  else if Jf op then JQ name n kids 2&&((kids.all QM)&&(match kids[1]? with|some k=> !Jf k.op|none=>true))
  else false:=by
 rw[QM];rw[Ar kids fun k=>decide (k.op=Y7)&&QM k,Ar kids fun k=>QM k&&(!Jf k.op&& !decide (k.op=U3)),Ar kids QM];rfl
def oneOf(op:List Nat)(l:List (List Nat)):Bool:=l.any fun x=>decide (op=x)
def Jg(x:Nd):Bool:=match x with
 |.mk op name n _ kids=>
  if oneOf op [[116,114,117,101],[102,97,108,115,101]]then JQ name n kids 0
  else if op=[110,111,116]then JQ name n kids 1&&kids.attach.all fun k=>Jg k.1
  else if oneOf op [[97,110,100],[111,114],[105,109,112],[105,102,102]]then JQ name n kids 2&&kids.attach.all fun k=>Jg k.1
  else if oneOf op [[101,120],[97,108,108]]then Ui name&&(decide (0≤n)&&(decide (n<3)&&(decide (((kids.length:Nat):Int)=1)&&kids.attach.all fun k=>Jg k.1)))
  else if op=[105,115]then Ui name&&(decide (n=0)&&decide (((kids.length:Nat):Int)=0))
  else if oneOf op [[101,113],[110,101],[108,116],[108,101],[105,110],[110,111,116,105,110],[115,117,98]]then JQ name n kids 2&&kids.all QM
  else if op=[99,97,108,108]then Ui name&&(decide (n=0)&&(decide (((kids.length:Nat):Int)≤6)&&kids.all QM))
  else false
termination_by YT x
decreasing_by
 all_goals
  simp_wf
  have:=F5 k.2;rw[YT];omega
theorem UY(op name:List Nat)(n at_:Int)(kids:List Nd):Jg (.mk op name n at_ kids)=
  if oneOf op [[116,114,117,101],[102,97,108,115,101]]then JQ name n kids 0
  else if op=[110,111,116]then JQ name n kids 1&&kids.all Jg
  else if oneOf op [[97,110,100],[111,114],[105,109,112],[105,102,102]]then JQ name n kids 2&&kids.all Jg
  else if oneOf op [[101,120],[97,108,108]]then Ui name&&(decide (0≤n)&&(decide (n<3)&&(decide (((kids.length:Nat):Int)=1)&&kids.all Jg)))
  else if op=[105,115]then Ui name&&(decide (n=0)&&decide (((kids.length:Nat):Int)=0))
  else if oneOf op [[101,113],[110,101],[108,116],[108,101],[105,110],[110,111,116,105,110],[115,117,98]]then JQ name n kids 2&&kids.all QM
  else if op=[99,97,108,108]then Ui name&&(decide (n=0)&&(decide (((kids.length:Nat):Int)≤6)&&kids.all QM))
  else false:=by
 rw[Jg];rw[Ar kids Jg]
end
section
open Go Go.RowKit

theorem uf (x : Nd) : ∀ (most : Int) (st : St) (cs : List AV), Q3 st → XW st.h.get x cs → 1 ≤ most → most ≤ 1000000 → ∃ v st', Ev Tryz.prog JF 10 [.agg cs, iZ most] st v st' ∧ v = iZ (min ((YT x : Nat) : Int) most) ∧ Qt st st' := by
 refine H4 (M := fun x => ∀ (most : Int) (st : St) (cs : List AV), Q3 st → XW st.h.get x cs → 1 ≤ most → most ≤ 1000000 → ∃ v st', Ev Tryz.prog JF 10 [.agg cs, iZ most] st v st' ∧ v = iZ (min ((YT x : Nat) : Int) most) ∧ Qt st st') (fun o s z a l ih => ?_) x;intro most st cs hf hr h1 h2;have hr0 := hr;obtain ⟨kk, ls, rfl, hK, hb⟩ := hr.J3;have hln := hK.ln;have hbn := hK.W9;refine XB Tryz.func10 Tryz.ntmps10 fun T K => ?_;have M := Mem.start hf;refine Qg 0 K M fun _ K => ?_;refine Y8 K M rfl (Qa rfl (Qa rfl (Qa rfl (Qa rfl (Qa hK.cell QV))))) Qo fun c2 _ _ K M => ?_;refine Qg 3 K M fun _ K => ?_;refine UE (fun mm1 T st9 => ∃ (i : Nat) (m : Int), mm1 = l.length - i ∧ Jn [(1, iZ most), (2, .ptr c2 0 0), (4, iZ 0), (5, iZ m), (6, iN i)] T ∧ Mem st.h.get st.n [] st9 [(c2, 0, [.str o, .str s, iZ z, iZ a, kk])] ∧ i ≤ l.length ∧ 1 ≤ m ∧ m ≤ most ∧ min (((YT (.mk o s z a l)) : Nat) : Int) most = min (m + ((WC (l.drop i) : Nat) : Int)) most) (fun mm1 T st9 hI => ?_) _ _ _ ⟨0, 1, rfl, (K.sub rfl), M.less (.refl _), (Nat.zero_le _), Qk, h1, (by rw [YT, List.drop_zero]; omega)⟩;obtain ⟨i, m, rfl, K, M, hi, hm1, hm2, hinv⟩ := hI;refine Qg 3 K M fun _ K => ?_;refine p1 K (Jp Jj rfl rfl hK.len) fun _ K => ?_;refine Qg 1 K M fun _ K => ?_;refine oB K (Q7 rfl) rfl fun b12 _ e12 K => ?_;cases b12
 · replace e12 := of_decide_eq_false e12;refine Qg 5 K M fun _ K => ?_;refine Uz ?_;show W _ _ _ _ _ _ _;refine Qg 2 K M fun _ K => ?_;refine p1 K (CK rfl rfl) fun _ K => ?_;refine Qg 1 K M ?_
   first
    | (refine ⟨?_, M.qt⟩; rw [hinv]; congr 1; have hz : i = l.length := by omega
       rw [J0 Qk, WC]; omega)
    | (refine ⟨?_, M.qt⟩; rw [hinv]; congr 1; omega)
 · replace e12 := of_decide_eq_true e12;refine Qg 4 K M fun _ K => ?_;refine Zb K rfl (fun h16 => ?_) fun h16 => ?_
   · have hb16 := h16;replace h16 := of_decide_eq_true h16;refine Qg 4 K M fun _ K => ?_;obtain ⟨⟨o23, s23, z23, a23, l23⟩, hi23⟩ : ∃ k, l[i]? = some k := ⟨_, List.getElem?_eq_getElem Qk⟩;have hm23 := J7 hi23;obtain ⟨_, hc23, hn23⟩ := hK.at_ _ _ hi23;have hp23 := hn23;obtain ⟨kk23, ls23, rfl, hK23, hb23⟩ := hp23.J3;refine aJ (hK.r.mem M Q1) hc23 K QB Qs rfl rfl fun _ _ _ _ K => ?_;refine Qg 3 K M fun _ K => ?_;refine oQ K M (ih _ (hm23) (most - m) _ _ M.fresh (hn23.mono M.rows) Qk Qk) rfl rfl fun _ _ K M => ?_;refine Qg 5 K M fun _ K => ?_;have hst := yg hi23;have hsp := XJ (.mk o23 s23 z23 a23 l23);exact ⟨_, Qk, i + 1, (m + min ((YT (.mk o23 s23 z23 a23 l23) : Nat) : Int) (most - m)), rfl, (K.sub rfl), M.less (.refl _), Qk, Qk, Qk, Qk⟩
   · have hb16 := h16;replace h16 := of_decide_eq_false h16;refine Uz ?_;show W _ _ _ _ _ _ _;refine Qg 2 K M fun _ K => ?_;refine p1 K (CK rfl rfl) fun _ K => ?_;refine Qg 1 K M ?_
     first
      | (refine ⟨?_, M.qt⟩; rw [hinv]; congr 1; have hz : i = l.length := by omega
         rw [J0 Qk, WC]; omega)
      | (refine ⟨?_, M.qt⟩; rw [hinv]; congr 1; omega)

theorem vb(x:Nd): ∀(most:Int) (st:St) (cs:List AV),Q3 st→XW st.h.get x cs→1≤most→most≤1000000→ ∃v st',Ev Tryz.prog JF 88 [.agg cs,iZ most] st v st'∧v=iZ (min ((ua x:Nat):Int) most)∧Qt st st':=by
 refine H4 (M:=fun x=> ∀(most:Int) (st:St) (cs:List AV),Q3 st→XW st.h.get x cs→1≤most→most≤1000000→ ∃v st',Ev Tryz.prog JF 88 [.agg cs,iZ most] st v st'∧v=iZ (min ((ua x:Nat):Int) most)∧Qt st st') (fun o s z a l ih=>?_) x;intro most st cs hf hr h1 h2;have hr0:=hr;obtain⟨kk,ls,rfl,hK,hb⟩:=hr.J3;have hln:=hK.ln;have hbn:=hK.W9;refine XB Tryz.func88 Tryz.ntmps88 fun T K=>?_;have M:=Mem.start hf;refine Qg 0 K M fun _ K=>?_;refine Y8 K M rfl (Qa rfl (Qa rfl (Qa rfl (Qa rfl (Qa hK.cell QV))))) Qo fun c2 _ _ K M=>?_;refine Qg 3 K M fun _ K=>?_;refine Zb K rfl (fun h8=>?_) fun h8=>?_
 ·have hb8:=h8;replace h8:=of_decide_eq_true h8;refine Qg 1 K M fun _ K=>?_;refine p1 K (CK rfl rfl) fun _ K=>?_;refine Qg 1 K M ?_;refine⟨congrArg (AV.int .i64) ?_,M.qt⟩
  first
   |(rw[ua,J0 (show l.length≤i by omega),eO]at *;omega)
   |(rw[ua];omega)
 ·have hb8:=h8;replace h8:=of_decide_eq_false h8;refine Qg 2 K M fun _ K=>?_;refine UE (fun mm1 T st9=> ∃(i:Nat) (m:Int),mm1=l.length-i∧Jn [(1,iZ most),(2,.ptr c2 0 0),(4,iZ 0),(5,iZ m),(6,iN i)] T∧Mem st.h.get st.n [] st9 [(c2,0,[.str o,.str s,iZ z,iZ a,kk])]∧i≤l.length∧0≤m∧m≤most-1∧min (((eO l):Nat):Int) (most-1)=max m (min ((eO (l.drop i):Nat):Int) (most-1))) (fun mm1 T st9 hI=>?_) _ _ _ ⟨0,0,rfl,(K.sub rfl),M.less (.refl _),(Nat.zero_le _),Qk,Qk,(by rw[List.drop_zero];omega)⟩;obtain⟨i,m,rfl,K,M,hi,hm1,hm2,hinv⟩:=hI;refine Qg 3 K M fun _ K=>?_;refine p1 K (Jp Jj rfl rfl hK.len) fun _ K=>?_;refine Qg 1 K M fun _ K=>?_;refine Zb K rfl (fun h15=>?_) fun h15=>?_
  · have hb15:=h15;replace h15:=of_decide_eq_true h15;refine Qg 4 K M fun _ K=>?_;obtain⟨⟨o22,s22,z22,a22,l22⟩,hi22⟩: ∃k,l[i]? =some k:=⟨_,List.getElem?_eq_getElem Qk⟩;have hm22:=J7 hi22;obtain⟨_,hc22,hn22⟩:=hK.at_ _ _ hi22;have hp22:=hn22;obtain⟨kk22,ls22,rfl,hK22,hb22⟩:=hp22.J3;refine aJ (hK.r.mem M Q1) hc22 K QB Qs rfl rfl fun _ _ _ _ K=>?_;refine Qg 2 K M fun _ K=>?_;refine oQ K M (ih _ (hm22) (most-1) _ _ M.fresh (hn22.mono M.rows) Qk Qk) rfl rfl fun _ _ K M=>?_;refine p1 K (fW rfl rfl) fun _ K=>?_;refine Qg 4 K M fun _ K=>?_;have hst:=xX hi22;have hsp:=eN (.mk o22 s22 z22 a22 l22);exact⟨_,Qk,i+1,(max m (min ((ua (.mk o22 s22 z22 a22 l22):Nat):Int) (most-1))),rfl,(K.sub rfl),M.less (.refl _),Qk,Qk,Qk,Qk⟩
  · have hb15:=h15;replace h15:=of_decide_eq_false h15;refine Uz ?_;show W _ _ _ _ _ _ _;refine Qg 3 K M ?_;refine⟨congrArg (AV.int .i64) ?_,M.qt⟩
    first
     |(rw[ua,J0 (show l.length≤i by omega),eO]at *;omega)
     |(rw[ua];omega)
end
section
open Go

theorem Ct:tk Tryz.prog 42=.one:=by kernel_rfl
end
section
open Go Go.RowKit
variable {l:List Nd} {s:List Nat}

theorem Y4{k:Nd}(h:((l.length:Nat):Int)=1)(hi:l[0]? =some k):l=[k]:=by
 match l,h,hi with
 |[a],_,hi=>injection hi with hi;rw[hi]
 |[],h,_=>simp at h
 |a::b::l,h,_=>exact absurd h (by simp only[List.length_cons];omega)
def hasB(name:List Nat)(n:Int)(kids:List Nd)(m:Int)(nm nb:Bool):Bool:=decide (((kids.length:Nat):Int)=m)&&((nm||decide (name=[]))&&((nb||decide (n=0))&&(!nm||Ui name)))
theorem Q5{n:Int}{m:Int}{nm nb:Bool}(h:hasB s n l m nm nb=true):((l.length:Nat):Int)=m:=by
 simp[hasB]at h;exact h.1

theorem CF{o:List Nat}{z a:Int}{st:St}{cs:List AV}(hf:Q3 st)(hr:XW st.h.get (.mk o s z a l) cs): ∃v st',Ev Tryz.prog JF 124 [.agg cs] st v st'∧v=.bool (Jf o)∧Qt st st':=by
 have hr0:=hr;obtain⟨kk,ls,rfl,hK,hb⟩:=hr.J3;have hln:=hK.ln;have hbn:=hK.W9;refine XB Tryz.func124 Tryz.ntmps124 fun T K=>?_;have M:=Mem.start hf;refine Qg 0 K M fun _ K=>?_;refine Y8 K M rfl (Qa rfl (Qa rfl (Qa rfl (Qa rfl (Qa hK.cell QV))))) Qo fun c1 _ _ K M=>?_;refine Qg 3 K M fun _ K=>?_;refine p1 K (Jw (b:=[117,110,105,111,110]) rfl rfl) fun _ K=>?_;refine No K rfl (fun _ e6 K=>?_) fun _ e6 K=>?_
 ·refine Qg 2 K M fun _ K=>?_;refine pg K rfl rfl (Jw (b:=[105,110,116,101,114]) rfl rfl) fun _ K=>?_;refine Qg 1 K M fun _ K=>?_;refine No K rfl (fun _ e11 K=>?_) fun _ e11 K=>?_
  ·refine Qg 2 K M fun _ K=>?_;refine pg K rfl rfl (Jw (b:=[109,105,110,117,115]) rfl rfl) fun _ K=>?_;refine Qg 2 K M ?_;refine⟨?_,M.qt⟩
   simp_all [Ql,Jf]<;>first|done|rfl|omega|(congr 1;done)|(congr 2;done)|(intros;omega)
  refine Qg 5 K M ?_;refine⟨?_,M.qt⟩
  simp_all [Ql,Jf]<;>first|done|rfl|omega|(congr 1;done)|(congr 2;done)|(intros;omega)
 refine Qg 10 K M ?_;refine⟨?_,M.qt⟩
 simp_all [Ql,Jf]<;>first|done|rfl|omega|(congr 1;done)|(congr 2;done)|(intros;omega)

theorem VI{o:List Nat}{z a:Int}{st:St}{cs:List AV}(hf:Q3 st)(hr:XW st.h.get (.mk o s z a l) cs)(m:Int)(nm nb:Bool): ∃v st',Ev Tryz.prog JF 54 [.agg cs,iZ m,.bool nm,.bool nb] st v st'∧v=.bool (hasB s z l m nm nb)∧Qt st st':=by
 have hr0:=hr;obtain⟨kk,ls,rfl,hK,hb⟩:=hr.J3;have hln:=hK.ln;have hbn:=hK.W9;refine XB Tryz.func54 Tryz.ntmps54 fun T K=>?_;have M:=Mem.start hf;refine Qg 0 K M fun _ K=>?_;refine Y8 K M rfl (Qa rfl (Qa rfl (Qa rfl (Qa rfl (Qa hK.cell QV))))) Qo fun c4 _ _ K M=>?_;refine Qg 3 K M fun _ K=>?_;refine p1 K (Jp Jj rfl rfl hK.len) fun _ K=>?_;refine Qg 2 K M fun _ K=>?_;refine No K rfl (fun _ e14 K=>?_) fun _ e14 K=>?_
 ·refine Qg 25 K M ?_;refine⟨?_,M.qt⟩
  simp_all [Ql,hasB]<;>first|done|rfl|omega|(congr 1;done)|(congr 2;done)|(intros;omega)
 refine Qg 1 K M fun _ K=>?_;refine uC K rfl rfl (Q7 rfl) rfl fun b16 _ e16 K=>?_;cases b16
 ·refine Qg 2 K M fun _ K=>?_;refine pg K rfl rfl (Jw (b:=[]) rfl rfl) fun _ K=>?_;refine Qg 2 K M fun _ K=>?_;refine No K rfl (fun _ e22 K=>?_) fun _ e22 K=>?_
  ·refine Qg 17 K M ?_;refine⟨?_,M.qt⟩
   simp_all [Ql,hasB]<;>first|done|rfl|omega|(congr 1;done)|(congr 2;done)|(intros;omega)
  refine Qg 1 K M fun _ K=>?_;refine uC K rfl rfl (Q7 rfl) rfl fun b24 _ e24 K=>?_;cases b24
  ·refine Qg 5 K M fun _ K=>?_;refine No K rfl (fun _ e30 K=>?_) fun _ e30 K=>?_
   ·refine Qg 9 K M ?_;refine⟨?_,M.qt⟩
    simp_all [Ql,hasB]<;>first|done|rfl|omega|(congr 1;done)|(congr 2;done)|(intros;omega)
   refine Qg 2 K M fun _ K=>?_;refine uC K rfl rfl (Q7 rfl) rfl fun b33 _ e33 K=>?_;cases b33
   ·replace e33:(nm)=true:=by simpa using e33
    refine Qg 2 K M fun _ K=>?_;obtain⟨v36,st36,ev36,rfl,q36⟩:=Vi M.fresh s hb.2;refine pg K rfl rfl (Qh rfl ev36) fun _ K=>?_;replace M:=M.quiet q36;refine Qg 3 K M ?_;refine⟨?_,M.qt⟩
    simp_all [Ql,hasB]<;>first|done|rfl|omega|(congr 1;done)|(congr 2;done)|(intros;omega)
   replace e33:(nm)=false:=by simpa using e33
   refine Qg 6 K M ?_;refine⟨?_,M.qt⟩
   simp_all [Ql,hasB]<;>first|done|rfl|omega|(congr 1;done)|(congr 2;done)|(intros;omega)
  refine Qg 8 K M fun _ K=>?_;refine uC K rfl rfl (Q7 rfl) rfl fun b33 _ e33 K=>?_;cases b33
  ·replace e33:(nm)=true:=by simpa using e33
   refine Qg 2 K M fun _ K=>?_;obtain⟨v36,st36,ev36,rfl,q36⟩:=Vi M.fresh s hb.2;refine pg K rfl rfl (Qh rfl ev36) fun _ K=>?_;replace M:=M.quiet q36;refine Qg 3 K M ?_;refine⟨?_,M.qt⟩
   simp_all [Ql,hasB]<;>first|done|rfl|omega|(congr 1;done)|(congr 2;done)|(intros;omega)
  replace e33:(nm)=false:=by simpa using e33
  refine Qg 6 K M ?_;refine⟨?_,M.qt⟩
  simp_all [Ql,hasB]<;>first|done|rfl|omega|(congr 1;done)|(congr 2;done)|(intros;omega)
 refine Qg 7 K M fun _ K=>?_;refine uC K rfl rfl (Q7 rfl) rfl fun b24 _ e24 K=>?_;cases b24
 ·refine Qg 5 K M fun _ K=>?_;refine No K rfl (fun _ e30 K=>?_) fun _ e30 K=>?_
  ·refine Qg 9 K M ?_;refine⟨?_,M.qt⟩
   simp_all [Ql,hasB]<;>first|done|rfl|omega|(congr 1;done)|(congr 2;done)|(intros;omega)
  refine Qg 2 K M fun _ K=>?_;refine uC K rfl rfl (Q7 rfl) rfl fun b33 _ e33 K=>?_;cases b33
  ·replace e33:(nm)=true:=by simpa using e33
   refine Qg 2 K M fun _ K=>?_;obtain⟨v36,st36,ev36,rfl,q36⟩:=Vi M.fresh s hb.2;refine pg K rfl rfl (Qh rfl ev36) fun _ K=>?_;replace M:=M.quiet q36;refine Qg 3 K M ?_;refine⟨?_,M.qt⟩
   simp_all [Ql,hasB]<;>first|done|rfl|omega|(congr 1;done)|(congr 2;done)|(intros;omega)
  replace e33:(nm)=false:=by simpa using e33
  refine Qg 6 K M ?_;refine⟨?_,M.qt⟩
  simp_all [Ql,hasB]<;>first|done|rfl|omega|(congr 1;done)|(congr 2;done)|(intros;omega)
 refine Qg 8 K M fun _ K=>?_;refine uC K rfl rfl (Q7 rfl) rfl fun b33 _ e33 K=>?_;cases b33
 ·replace e33:(nm)=true:=by simpa using e33
  refine Qg 2 K M fun _ K=>?_;obtain⟨v36,st36,ev36,rfl,q36⟩:=Vi M.fresh s hb.2;refine pg K rfl rfl (Qh rfl ev36) fun _ K=>?_;replace M:=M.quiet q36;refine Qg 3 K M ?_;refine⟨?_,M.qt⟩
  simp_all [Ql,hasB]<;>first|done|rfl|omega|(congr 1;done)|(congr 2;done)|(intros;omega)
 replace e33:(nm)=false:=by simpa using e33
 refine Qg 6 K M ?_;refine⟨?_,M.qt⟩
 simp_all [Ql,hasB]<;>first|done|rfl|omega|(congr 1;done)|(congr 2;done)|(intros;omega)

theorem F0.mem{h0:Hp}{n0:Nat}{st:St}{M:List (Nat×Nat×List AV)}{kids:List Nd}{kk:AV}{ls:List (List AV)}(H:F0 h0 kids kk ls)(hM:Mem h0 n0 [] st M):F0 st.h.get kids kk ls:=
 ⟨H.r.mem hM Q1,H.ln,fun i k hi=>by
  obtain⟨cs,h1,h2⟩:=H.at_ i k hi
  exact⟨cs,h1,h2.mono hM.rows⟩⟩

end
end Go.Proofs.YthjgndgnmkiaiaaGreatDoor
