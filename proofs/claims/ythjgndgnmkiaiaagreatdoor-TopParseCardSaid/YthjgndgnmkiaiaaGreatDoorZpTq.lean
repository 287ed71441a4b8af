/-
  What is shown of a program: its pieces, and that they are parsed to it, or something is too deep: plain law.
-/
import Derived.Test.YthjgndgnmkiaiaaGreatDoorZpTrE
namespace Go.Proofs.YthjgndgnmkiaiaaGreatDoor
open Go Go.RowKit
set_option linter.unusedVariables false
set_option linter.unusedSectionVars false
set_option maxRecDepth 10000
variable {e:Int}

def WB:List Nat:=[118,97,114]
def DC:List Nat:=[112,114,101,100]
def Jc(d:Dc):List Pc:=[.w (WB++U4 d.order.toNat),.b,.m d.name]
def JU:List Dc→List Pc
 |[]=>[]
 |d::l=>Jc d++(.g [59]:: .l::JU l)
def IF(p:Pd):List Pc:=.w DC:: .b:: .m p.name:: .g [40]::(UF (p.params.map Jc)++(.g [41]:: .b:: .g [61]:: .b::(Q8 p.body++[.g [59],.l])))
def JP:List Pd→List Pc
 |[]=>[]
 |p::l=>IF p++JP l
def Xk(g:Pg):List Pc:=JU g.decls++(JP g.preds++(Q8 g.main++[.g [59],.l]))
theorem Ko{d:Dc}(h:Ya d=true):Ui d.name=true∧ ∃k:Nat,k<3∧d.order=(k:Int)∧WB++U4 d.order.toNat=WB++[48+k]:=by
 unfold Ya at h;simp only[Bool.and_eq_true,decide_eq_true_eq]at h;obtain⟨h1,h2,h3⟩:=h;refine⟨h1,d.order.toNat,by omega,by omega,by rw[BR Qk]⟩
theorem R5{d:Dc}(h:Ya d=true):Fit (Jc d):=fun R hR hs=>by
 obtain⟨h1,k,hk,_,e⟩:=Ko h
 have hw:uB (.w (WB++U4 d.order.toNat))=true:=by
  rw[e]
  have: ∀k,k<3→uB (.w (WB++[48+k]))=true:=by decide
  exact this k hk
 exact⟨Yi hw rfl (LZ (Yi h1 hs hR)),rfl⟩
theorem Rk: ∀ps:List (List Pc),(∀p∈ps,Fit p)→ ∀R,EI R=true→y9 R=true→EI (UF ps++R)=true
 |[],_,R,h,_=>h
 |[p],hk,R,h,hs=>(hk p Q1 R h hs).1
 |p::q::ps,hk,R,h,hs=>by
  have ih:=Rk (q::ps) (fun x hx=>hk x (List.mem_cons_of_mem _ hx)) R h hs;rw[UF,List.append_assoc];exact(hk p Q1 _ (Yi (p:=.g [44]) Qo rfl (LZ ih)) rfl).1
theorem nW{l:List Pc}(h:EI l=true):EI (.l::l)=true:=Yi rfl rfl h
theorem z8{l:List Pc}(h:EI l=true):EI (.g [59]:: .l::l)=true:=Yi Qo rfl (nW h)
theorem R4: ∀l:List Dc,l.all Ya=true→ ∀R,EI R=true→EI (JU l++R)=true
 |[],_,R,h=>h
 |d::l,hl,R,h=>by
  simp only[List.all_cons,Bool.and_eq_true]at hl;rw[JU,List.append_assoc];exact(R5 hl.1 _ (z8 (R4 l hl.2 R h)) rfl).1
theorem ID{p:Pd}(h:XN p=true):Ui p.name=true∧p.params.length≤6∧p.params.all Ya=true∧Jg p.body=true:=by
 unfold XN at h;simp only[Bool.and_eq_true,decide_eq_true_eq]at h;obtain⟨h1,h2,h3,h4,h5⟩:=h;exact⟨h1,by omega,h3,h5⟩
theorem Ri{k:Nd}(h:Jg k=true){R:List Pc}(hR:EI R=true):EI (Q8 k++(.g [59]:: .l::R))=true:=(Fh _ k (Nat.le_refl _) h _ (z8 hR) rfl).1
theorem P4: ∀l:List Pd,l.all XN=true→ ∀R,EI R=true→EI (JP l++R)=true
 |[],_,R,h=>h
 |p::l,hl,R,h=>by
  simp only[List.all_cons,Bool.and_eq_true]at hl;obtain⟨h1,h2,h3,h4⟩:=ID hl.1;have h5:=Ri h4 (P4 l hl.2 R h)
  have h6:=Rk (p.params.map Jc) (fun x hx=>by
   obtain⟨d,hd,rfl⟩:=List.mem_map.1 hx
   exact R5 (List.all_eq_true.1 h3 d hd)) (.g [41]:: .b:: .g [61]:: .b::(Q8 p.body++(.g [59]:: .l::(JP l++R)))) (Yi Qo rfl (LZ (Yi Qo rfl (LZ h5)))) rfl
  have e:JP (p::l)++R=.w DC:: .b:: .m p.name:: .g [40]::(UF (p.params.map Jc)++(.g [41]:: .b:: .g [61]:: .b::(Q8 p.body++(.g [59]:: .l::(JP l++R))))):=by
   rw[JP,IF];simp
  rw[e];exact Yi Qo rfl (LZ (Yi h1 rfl (Yi Qo rfl h6)))
theorem Nl{g:Pg}(h:Vd g=true):EI (Xk g)=true:=by
 unfold Vd at h;simp only[Bool.and_eq_true]at h;obtain⟨h1,h2,h3,h4⟩:=h;exact R4 _ h1 _ (P4 _ h2 _ (Ri h4 rfl))
section
variable {L:List Tk} {S:PS} {R:List Tk} {a:Nat}
theorem Ys.ord{k:Nat}{at_:Int}(b:Ys L S (⟨3,WB++[48+k],0,at_⟩::R))(hk:k<3):Qw L S [118,97,114]=(k:Int):=by
 match k,hk with
 |0,_=>exact MA b.yes
 |1,_=>exact M9 b.yes
 |2,_=>exact M8 b.yes
theorem Ys.name{s:List Nat}{at_:Int}(b:Ys L S (⟨1,s,0,at_⟩::R)):QF L S=Qd L S∧Jq L S=⟨1,s,0,at_⟩:=by
 unfold QF Jq;rw[b.now];exact⟨rfl,rfl⟩
theorem Mg(d:Dc)(a:Nat)(R:List Tk):UC a (Jc d)++R=⟨3,WB++U4 d.order.toNat,0,(a:Int)⟩::⟨1,d.name,0,((a+(WB++U4 d.order.toNat).length+1:Nat):Int)⟩::R:=rfl
theorem uZ(a:Nat)(l:List Pc):UC a (.g [59]:: .l::l)=⟨3,[59],0,(a:Int)⟩::UC (a+1+1) l:=rfl
theorem vc{d:Dc}(h:Ya d=true)(b:Ys L S (UC a (Jc d)++(⟨3,[59],0,e⟩::R))):JO L S DC=false∧0≤Qw L S [118,97,114]∧ ∃d',(Zs L S).2=[d']∧Bm d d'=true∧Ys L (Zs L S).1 R:=by
 obtain⟨_,k,hk,hd,e2⟩:=Ko h;rw[Mg,e2]at b;have ho:=b.ord hk;have b1:=b.next (show(3:Int)≠4 by decide);obtain⟨n1,n2⟩:=b1.name;have b2:=b1.next (show(1:Int)≠4 by decide);refine⟨b.no (.inr fun x=>by have h:(WB++[48+k]).head? =DC.head? :=congrArg List.head? x;simp[WB,DC]at h),by omega,⟨d.name,(k:Int),((a+(WB++[48+k]).length+1:Nat):Int)⟩,?_⟩;rw[Zs,ho,YZ,if_neg (by rw[b1.e];decide),n1,n2,if_neg (by rw[b2.no (.inr (show([59]:List Nat)≠[44] by decide))];decide)];exact⟨rfl,by unfold Bm;rw[hd];simp,b2.CT⟩
theorem BT: ∀(l:List Dc),l.all Ya=true→ ∀(a f:Nat) (S:PS) (ds:List Dc) (ps:List Pd),Ys L S (UC a (JU l)++R)→ ∃S' ds',JS L (f+l.length) S ds ps=JS L f S' (ds++ds') ps∧Z0 l ds'=true∧Ys L S' R
 |[],_,a,f,S,ds,ps,b=>⟨S,[],by rw[List.append_nil];rfl,rfl,b⟩
 |d::l,hl,a,f,S,ds,ps,b=>by
  simp only[List.all_cons,Bool.and_eq_true]at hl;rw[JU,JI,List.append_assoc,uZ]at b;obtain⟨h1,h2,d',h3,h4,h5⟩:=vc hl.1 b;obtain⟨S',ds',k1,k2,k3⟩:=BT l hl.2 _ f _ (ds++[d']) ps h5;refine⟨S',d'::ds',?_,by rw[Z0,h4,k2];rfl,k3⟩;rw[List.length_cons,←Nat.add_assoc,L5 b.e h1 h2,h3,k1,List.append_assoc];rfl
theorem B5: ∀(q:Dc) (qs:List Dc),(q::qs).all Ya=true→ ∀(a f:Nat) (S:PS) (l:List Dc) (e:Int),l.length+(q::qs).length≤6→Ys L S (UC a (UF ((q::qs).map Jc))++(⟨3,[41],0,e⟩::R))→(q::qs).length≤f→ ∃ds',(Yn L f S l).2=l++ds'∧Z0 (q::qs) ds'=true∧Ys L (Yn L f S l).1 R
 |q,qs,hl,a,f,S,l,e,h6,b,hf=>by
  simp only[List.all_cons,Bool.and_eq_true]at hl;obtain⟨_,k,hk,hd,e2⟩:=Ko hl.1;obtain⟨f,rfl⟩: ∃g,f=g+1:=⟨f-1,by rw[List.length_cons]at hf;omega⟩
  have hlen:l.length≠6:=by rw[List.length_cons]at h6;omega
  have step: ∀T,Ys L S (UC a (Jc q)++T)→JY L S l.length=Qd L S∧Qw L S [118,97,114]=(k:Int)∧QF L (JY L S l.length)=Qd L (Qd L S)∧(Jq L (JY L S l.length)).s=q.name∧Ys L (Qd L (Qd L S)) T:=fun T b=>by
   rw[Mg,e2]at b;have ho:=b.ord hk;have b1:=b.next (show(3:Int)≠4 by decide);obtain⟨n1,n2⟩:=b1.name
   have hp:JY L S l.length=Qd L S:=by
    unfold JY;simp only[if_neg hlen];rw[if_neg Qk]
   rw[hp];exact⟨rfl,ho,n1,by rw[n2],b1.next (show(1:Int)≠4 by decide)⟩
  have hsd: ∀z,Bm q ⟨q.name,(k:Int),z⟩=true:=fun z=>by unfold Bm;rw[hd];simp
  cases qs with
  |nil=>
   obtain⟨s1,s2,s3,s4,s5⟩:=step _ b;refine⟨[⟨q.name,(k:Int),(Jq L (JY L S l.length)).a⟩],?_⟩;rw[Yn,if_neg (by rw[b.e];decide),s3,if_neg (by rw[s5.no (.inr (show([41]:List Nat)≠[44] by decide))];decide),s2,s4];exact⟨rfl,by rw[Z0,hsd];rfl,s5.CT⟩
  |cons r rs=>
   have b':Ys L S (UC a (Jc q)++(⟨3,[44],0,((a+(QQ (Jc q)).length:Nat):Int)⟩::(UC (a+(QQ (Jc q)).length+1+1) (UF ((r::rs).map Jc))++(⟨3,[41],0,e⟩::R)))):=by
    have h:UC a (UF ((q::r::rs).map Jc))=UC a (Jc q)++(⟨3,[44],0,((a+(QQ (Jc q)).length:Nat):Int)⟩::UC (a+(QQ (Jc q)).length+1+1) (UF ((r::rs).map Jc))):=by
     show UC a (Jc q++(.g [44]:: .b::UF ((r::rs).map Jc)))=_;rw[JI];rfl
    rw[h,List.append_assoc]at b;exact b
   obtain⟨s1,s2,s3,s4,s5⟩:=step _ b';have s6:=s5.next (show(3:Int)≠4 by decide);obtain⟨ds',k1,k2,k3⟩:=B5 r rs (by simp only[List.all_cons,Bool.and_eq_true];simpa using hl.2) _ f _ (l++[⟨q.name,(k:Int),(Jq L (JY L S l.length)).a⟩]) e (by simp only[List.length_append,List.length_cons,List.length_nil]at h6 ⊢;omega) s6 (by simp only[List.length_cons]at hf ⊢;omega)
   have hgo:Yn L (f+1) S l=Yn L f (Qd L (Qd L (Qd L S))) (l++[⟨q.name,(k:Int),(Jq L (JY L S l.length)).a⟩]):=by
    rw[Yn,if_neg (by rw[b.e];decide),s3,if_pos s5.yes,s2,s4]
   rw[hgo];exact⟨_::ds',by rw[k1,List.append_assoc];rfl,by rw[Z0,hsd,k2];rfl,k3⟩
theorem SV{qs:List Dc}(hl:qs.all Ya=true)(h6:qs.length≤6)(b:Ys L S (UC a (UF (qs.map Jc))++(⟨3,[41],0,e⟩::R))): ∃ds',(YB L S).2=ds'∧Z0 qs ds'=true∧Ys L (YB L S).1 R:=by
 cases qs with
 |nil=>
  have b:Ys L S (⟨3,[41],0,e⟩::R):=b;rw[YB,if_pos b.yes];exact⟨[],rfl,rfl,b.next (show(3:Int)≠4 by decide)⟩
 |cons q qs=>
  have hno:JO L S [41]=false:=by
   have e2: ∃T,UC a (UF ((q::qs).map Jc))++(⟨3,[41],0,e⟩::R)=⟨3,WB++U4 q.order.toNat,0,(a:Int)⟩::T:=by
    cases qs<;>exact⟨_,rfl⟩
   obtain⟨T,e2⟩:=e2;have b':=b;rw[e2]at b';exact b'.no (.inr fun x=>by have h:(WB++U4 q.order.toNat).head? =([41]:List Nat).head? :=congrArg List.head? x;simp[WB]at h)
  have hf:(q::qs).length≤L.length+1:=by
   have:=b.len
   have hge: ∀(l:List Dc) (a:Nat),l.length≤(UC a (UF (l.map Jc))).length:=by
    intro l
    induction l with
    |nil=>intro a;exact Nat.zero_le _
    |cons x l ih=>
     intro a
     cases l with
     |nil=>exact Nat.succ_le_succ (Nat.zero_le _)
     |cons y l=>
      have h:UC a (UF ((x::y::l).map Jc))=UC a (Jc x)++(⟨3,[44],0,((a+(QQ (Jc x)).length:Nat):Int)⟩::UC (a+(QQ (Jc x)).length+1+1) (UF ((y::l).map Jc))):=by
       show UC a (Jc x++(.g [44]:: .b::UF ((y::l).map Jc)))=_;rw[JI];rfl
      have:=ih (a+(QQ (Jc x)).length+1+1);rw[h];simp only[List.length_append,List.length_cons]at this ⊢;omega
   have h2:=hge (q::qs) a;rw[List.length_append]at this;omega
  rw[YB,if_neg (by rw[hno];decide)];obtain⟨ds',k1,k2,k3⟩:=B5 q qs hl a (L.length+1) S [] e (by rw[List.length_nil,Nat.zero_add];exact h6) b hf;exact⟨ds',by rw[k1];rfl,k2,k3⟩
end
mutual
theorem Bi: ∀x y:Nd,Un x y=Un y x
 |.mk o s z a l,.mk o' s' z' a' l'=>by
  rw[Un,Un,Bj l l',decide_eq_decide.2 (eq_comm (a:=o) (b:=o')),decide_eq_decide.2 (eq_comm (a:=s) (b:=s')),decide_eq_decide.2 (eq_comm (a:=z) (b:=z'))]
theorem Bj: ∀x y:List Nd,Yd x y=Yd y x
 |[],[]=>rfl
 |[],_::_=>rfl
 |_::_,[]=>rfl
 |a::l,b::r=>by rw[Yd,Yd,Bi a b,Bj l r]
end
section
variable {L:List Tk} {S:PS} {R:List Tk} {a:Nat}
theorem RO{k:Nd}(h:Jg k=true)(hL:(UC a (Q8 k)++(⟨3,[59],0,e⟩::R)).length≤L.length)(b:Ys L S (UC a (Q8 k)++(⟨3,[59],0,e⟩::R))):(Q2 L (Je L L.length S 0).1 [59]).e=4∨(Un k (Je L L.length S 0).2=true∧Ys L (Q2 L (Je L L.length S 0).1 [59]) R):=by
 have hn: ∀W:List (List Nat),[59]∉W→Hm (⟨3,[59],0,e⟩::R) W:=fun W hW=>Hm.sg hW;have hr:Hl L (Je L L.length S 0) (⟨3,[59],0,e⟩::R) k:=O8 (N7 _ k (Nat.le_refl _) h L.length 0 a S _ b (hn _ Qo) hL) (hn _ Qo) b.e;rcases hr with hr|⟨hr,b1⟩
 ·exact .inl (by rw[YX (n4 hr)];exact hr)
 ·exact .inr ⟨by rw[Bi];exact hr,b1.CT⟩
theorem ze{p:Pd}(h:XN p=true)(b:Ys L S (UC a (IF p)++R)):JO L S DC=true∧((UN L S).1.e=4∨(Mu p (UN L S).2=true∧Ys L (UN L S).1 R)):=by
 obtain⟨h1,h2,h3,h4⟩:=ID h
 have e:UC a (IF p)++R=⟨3,DC,0,(a:Int)⟩::⟨1,p.name,0,((a+4+1:Nat):Int)⟩::⟨3,[40],0,((a+4+1+p.name.length:Nat):Int)⟩::(UC (a+4+1+p.name.length+1) (UF (p.params.map Jc))++(⟨3,[41],0,((a+4+1+p.name.length+1+(QQ (UF (p.params.map Jc))).length:Nat):Int)⟩::⟨3,[61],0,((a+4+1+p.name.length+1+(QQ (UF (p.params.map Jc))).length+1+1:Nat):Int)⟩::
   (UC (a+4+1+p.name.length+1+(QQ (UF (p.params.map Jc))).length+1+1+1+1) (Q8 p.body)++(⟨3,[59],0,((a+4+1+p.name.length+1+(QQ (UF (p.params.map Jc))).length+1+1+1+1+(QQ (Q8 p.body)).length:Nat):Int)⟩::R)))):=by
  show⟨3,DC,0,(a:Int)⟩::⟨1,p.name,0,((a+4+1:Nat):Int)⟩::⟨3,[40],0,((a+4+1+p.name.length:Nat):Int)⟩::(UC (a+4+1+p.name.length+1) (UF (p.params.map Jc)++(.g [41]:: .b:: .g [61]:: .b::(Q8 p.body++[.g [59],.l])))++R)=_;rw[JI];show _::_::_::((_++(_::_::UC _ (Q8 p.body++[.g [59],.l])))++R)=_;rw[JI];simp only[List.append_assoc,List.cons_append];rfl
 rw[e]at b;have hlen:=b.len;have y1:=b.yes;have b1:=b.next (show(3:Int)≠4 by decide);obtain⟨n1,n2⟩:=b1.name;have b2:=b1.next (show(1:Int)≠4 by decide);obtain⟨ds',k1,k2,k3⟩:=SV h3 h2 b2.CT;have b4:=k3.CT;refine⟨y1,?_⟩
 have hB:=RO h4 (by
  have:=b4.len
  omega) b4
 have e1:(UN L S).1=Q2 L (Je L L.length (Q2 L (YB L (Q2 L (Qd L (Qd L S)) [40])).1 [61]) 0).1 [59]:=by
  unfold UN;simp only[n1]
 have e2:(UN L S).2=⟨p.name,ds',(Je L L.length (Q2 L (YB L (Q2 L (Qd L (Qd L S)) [40])).1 [61]) 0).2,((a+4+1:Nat):Int)⟩:=by
  unfold UN;simp only[n1,n2,k1]
 rw[e1,e2];rcases hB with hB|⟨hB,b5⟩
 ·exact .inl hB
 ·exact .inr ⟨by unfold Mu;rw[k2,hB];simp,b5⟩
theorem Bw: ∀(l:List Pd),l.all XN=true→ ∀(a f:Nat) (S:PS) (ds:List Dc) (ps:List Pd),Ys L S (UC a (JP l)++R)→(∃S' ps',JS L (f+1+l.length) S ds ps=(S',ds,ps')∧S'.e=4)∨ ∃S' ps',JS L (f+1+l.length) S ds ps=JS L (f+1) S' ds (ps++ps')∧Wj l ps'=true∧Ys L S' R
 |[],_,a,f,S,ds,ps,b=>.inr ⟨S,[],by rw[List.append_nil];rfl,rfl,b⟩
 |p::l,hl,a,f,S,ds,ps,b=>by
  simp only[List.all_cons,Bool.and_eq_true]at hl;rw[JP,JI,List.append_assoc]at b;obtain⟨h1,h2⟩:=ze hl.1 b
  have hgo:JS L (f+1+(p::l).length) S ds ps=JS L (f+1+l.length) (UN L S).1 ds (ps++[(UN L S).2]):=by
   rw[List.length_cons,←Nat.add_assoc,L4 h1]
  rw[hgo];rcases h2 with h2|⟨h2,h3⟩
  ·refine .inl ⟨(UN L S).1,ps++[(UN L S).2],?_,h2⟩;rw[show f+1+l.length=f+l.length+1 by omega];exact EZ (.inl (n4 h2))
  ·rcases Bw l hl.2 _ f _ ds (ps++[(UN L S).2]) h3 with k|⟨S',ps',k1,k2,k3⟩
   ·exact .inl k
   ·exact .inr ⟨S',(UN L S).2::ps',by rw[k1,List.append_assoc];rfl,by rw[Wj,h2,k2];rfl,k3⟩
theorem e7: ∀(n:Nat) (k:Nd),YT k≤n→Jg k=true→ ∀(a:Nat) (T:List Tk),∃t R,UC a (Q8 k)++T=t::R∧(t.k≠3∨t.s∉[DC,WB++[48],WB++[49],WB++[50]])
 |0,k,hn,_=>by have:=XJ k;omega
 |n+1,k,hn,h=>fun a T=>by
  have term: ∀x:Nd,QM x=true→ ∀T,∃t R,UC a (QP x)++T=t::R∧(t.k≠3∨t.s∉[DC,WB++[48],WB++[49],WB++[50]]):=fun x=>by
   intro hx T;obtain⟨t,R,h1,h2⟩:=Iy (YT x) x (Nat.le_refl _) hx a T;exact⟨t,R,h1,h2.imp id fun e=>by rw[e];decide⟩
  rcases Wt h with⟨o,at_,ho,rfl⟩|⟨at_,x,hx,rfl⟩|⟨o,at_,x,y,ho,hx,hy,rfl⟩|⟨o,s,z,at_,x,ho,hs,hz0,hz3,hx,rfl⟩|⟨s,at_,hs,rfl⟩|⟨o,at_,x,y,ho,hx,hy,rfl⟩|⟨s,at_,ks,hs,h6,hk,rfl⟩
  ·rw[E6 ho]
   have:o=[116,114,117,101]∨o=[102,97,108,115,101]:=by simpa [oneOf]using ho
   exact⟨_,_,rfl,.inr (show o∉[DC,WB++[48],WB++[49],WB++[50]] by rcases this with rfl|rfl<;>decide)⟩
  ·rw[E5];exact⟨_,_,rfl,.inr (show([126]:List Nat)∉[DC,WB++[48],WB++[49],WB++[50]] by decide)⟩
  ·rw[E3 ho];exact⟨_,_,rfl,.inr (show([40]:List Nat)∉[DC,WB++[48],WB++[49],WB++[50]] by decide)⟩
  ·rw[Fi ho];exact⟨_,_,rfl,.inr (show([40]:List Nat)∉[DC,WB++[48],WB++[49],WB++[50]] by decide)⟩
  ·rw[Fj];exact⟨_,_,rfl,.inl (show(1:Int)≠3 by decide)⟩
  ·rw[E4 ho,JI,List.append_assoc];exact term x hx _
  ·rw[Wu];exact⟨_,_,rfl,.inl (show(1:Int)≠3 by decide)⟩
theorem BS: ∀(l:List Dc) (a:Nat),l.length≤(UC a (JU l)).length
 |[],a=>Nat.zero_le _
 |d::l,a=>by
  rw[JU,JI,uZ,List.length_append,List.length_cons,List.length_cons];have:=BS l (a+(QQ (Jc d)).length+1+1);omega
theorem Bv: ∀(l:List Pd) (a:Nat),l.length≤(UC a (JP l)).length
 |[],a=>Nat.zero_le _
 |p::l,a=>by
  rw[JP,JI,List.length_append,List.length_cons];have:=Bv l (a+(QQ (IF p)).length);have h:1≤(UC a (IF p)).length:=Nat.succ_le_succ (Nat.zero_le _);omega
theorem yZ{g:Pg}(h:Vd g=true)(hL:L=UC 0 (Xk g)++[⟨4,[],0,e⟩]):(ZF L).1.e=4∨((ZF L).1.e=0∧NP g (ZF L).2=true):=by
 unfold Vd at h;simp only[Bool.and_eq_true]at h;obtain⟨h1,h2,h3,h4⟩:=h
 have e1:L=UC 0 (JU g.decls)++(UC (0+(QQ (JU g.decls)).length) (JP g.preds)++(UC (0+(QQ (JU g.decls)).length+(QQ (JP g.preds)).length) (Q8 g.main)++(⟨3,[59],0,((0+(QQ (JU g.decls)).length+(QQ (JP g.preds)).length+(QQ (Q8 g.main)).length:Nat):Int)⟩::[⟨4,[],0,e⟩]))):=by
  rw[hL,Xk,JI,JI,JI,List.append_assoc,List.append_assoc,List.append_assoc];rfl
 have b:Ys L ⟨0,0,0⟩ L:=⟨rfl,rfl⟩;have hlen:=congrArg List.length e1;simp only[List.length_append]at hlen;have l1:=BS g.decls 0;have l2:=Bv g.preds (0+(QQ (JU g.decls)).length);have b0:=b;rw(occs:=.pos [2]) [e1]at b0;obtain⟨f,hf⟩: ∃f,L.length+1=f+1+g.preds.length+g.decls.length:=⟨L.length-g.preds.length-g.decls.length,by omega⟩;obtain⟨S1,ds,k1,k2,k3⟩:=BT g.decls h1 _ (f+1+g.preds.length) _ [] [] b0;rw[←hf,List.nil_append]at k1
 have herr: ∀(S':PS) ps,JS L (L.length+1) ⟨0,0,0⟩ [] []=(S',ds,ps)→S'.e=4→(ZF L).1.e=4:=fun S' ps hgo he=>by
  have hfm:(Je L L.length S' 0).1=S':=OP (n4 he);rw[II (S4:=S') hgo (by rw[hfm,YX (n4 he),An (n4 he)];rfl)];exact he
 rcases Bw g.preds h2 _ f S1 ds [] k3 with⟨S',ps',k4,k5⟩|⟨S2,ps,k4,k5,k6⟩
 ·exact .inl (herr S' ps' (k1.trans k4) k5)
 ·rw[List.nil_append]at k4;obtain⟨t,R',ht,hts⟩:=e7 _ g.main (Nat.le_refl _) h4 (0+(QQ (JU g.decls)).length+(QQ (JP g.preds)).length) (⟨3,[59],0,((0+(QQ (JU g.decls)).length+(QQ (JP g.preds)).length+(QQ (Q8 g.main)).length:Nat):Int)⟩::[⟨4,[],0,e⟩])
  have hno: ∀w∈[DC,WB++[48],WB++[49],WB++[50]],JO L S2 w=false:=fun w hw=>by
   have b':=k6;rw[ht]at b';exact b'.no (hts.imp id fun x y=>x (y▸hw))
  have hgo:JS L (L.length+1) ⟨0,0,0⟩ [] []=(S2,ds,ps):=by
   rw[k1,k4];refine EZ (.inr ⟨hno DC Q1,?_⟩);show Qw L S2 WB<0
   have hn1: ∀w∈[DC,WB++[48],WB++[49],WB++[50]],¬JO L S2 w=true:=fun w hw h=>by rw[hno w hw]at h;cases h
   rw[KS (hn1 (WB++[48]) Q1) (hn1 (WB++[49]) Q1) (hn1 (WB++[50]) Q1)];decide
  have hlen2:=k6.len;rcases RO h4 Qk k6 with hb|⟨hb,b7⟩
  ·left;rw[II (S4:=Q2 L (Je L L.length S2 0).1 [59]) hgo (by rw[An (n4 hb)];rfl)];exact hb
  ·right;rw[II (S4:=Q2 L (Je L L.length S2 0).1 [59]) hgo (by rw[b7.now];rfl)];exact⟨b7.e,by unfold NP;rw[k2,k5,hb];rfl⟩
end
end Go.Proofs.YthjgndgnmkiaiaaGreatDoor
