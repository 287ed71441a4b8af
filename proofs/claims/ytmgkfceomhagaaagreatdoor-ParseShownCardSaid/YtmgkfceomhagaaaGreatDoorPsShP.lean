/-
  Parsing, plainly: behind an error nothing changes; what a text of words is.
-/
import Derived.Test.YtmgkfceomhagaaaGreatDoorPsRpC
set_option linter.unusedSectionVars false
set_option linter.unusedVariables false
namespace Go.Proofs.YtmgkfceomhagaaaGreatDoor
open Go Go.RowKit
section
variable {k:Nat} {l:List Nd} {s:List Nat}

def Vt(L:List Tk):Prop:= ∀(i:Nat) (t u:Tk),L[i]? =some t→L[i+1]? =some u→t.k=3→t.s=[43]→u.k=2→u.n≠0
section
variable {L:List Tk} {S:PS} {w:List Nat}
theorem V6(h:S.e≠0):JD L S w=false:=by
 cases hq:JD L S w with
 |false=>rfl
 |true=>exact absurd (Zs hq) h
theorem Vg{a e:Int}(h:S.e≠0):Qw S a e=S:=if_neg h
theorem WL(h:S.e≠0):Q9 L S w=S:=by rw[Q9,V6 h,Vg h];rfl
theorem XG{a e:Int}(he:e≠0):(Qw S a e).e≠0:=by
 unfold Qw
 split
 ·exact he
 ·assumption
theorem Cf(h:S.e≠0):Qc L S=Lv:=Ag h
theorem MT(h:S.e≠0):(Jl L S).1=S:=by
 rw[Jl,Cf h,if_neg Qz,if_neg Qz];exact Vg h
theorem Ot(h:S.e≠0):(QE L S).1=S:=by
 rw[QE,Cf h,if_neg Qz,if_neg Qz,V6 h];exact Vg h
theorem NG(h:JD L S [123]=false):QE L S=Jl L S:=by rw[QE,Jl,h];rfl
theorem RQ{n:Nd}(h:S.e≠0):ZY L k S n=(S,n):=by
 cases k with
 |zero=>rfl
 |succ k=>rw[ZY,if_pos h]
theorem DS(h:S.e≠0):(Qn L S).1=S:=by rw[Qn,Ot h,RQ h]
theorem yk(h:S.e≠0):Up L S=false:=by rw[Up,Cf h];rfl
theorem yl(h:S.e≠0):(Jt L S).1=S:=by
 rw[Jt,yk h,if_neg Qz,DS h,if_neg fun x=>h x.1];show(if _ then _ else _)=_
 split
 ·exact Vg h
 ·rfl
theorem MU{d:Nat}(h:S.e≠0):Qd L S d=S:=by
 unfold Qd
 split
 ·exact Vg h
 ·rfl
theorem An{p:PS→PR}{op:List Nat}{n:Nd}(h:S.e≠0):ZO p op w L k S n=(S,n):=by
 cases k with
 |zero=>rfl
 |succ k=>rw[ZO,V6 h];rfl
theorem Ou{p:PS→PR}{op:List Nat}(hp:(p S).1=S)(h:S.e≠0):(YR p op w L S).1=S:=by rw[YR,hp,An h]
theorem ek{u:PS→PR}(hu:(u S).1=S)(h:S.e≠0):(V3 u L S).1=S:=Ou (Ou hu h) h
theorem xz{u:PS→PR}(hu:(u S).1=S)(h:S.e≠0):(JO u L k S).1=S:=by
 have:=ek (L:=L) hu h
 cases k with
 |zero=>exact this
 |succ k=>rw[JO,this,V6 h];exact this
theorem yj{f d:Nat}(h:S.e≠0):(J9 L f S d).1=S:=by
 cases f with
 |zero=>rfl
 |succ f=>rw[J9,MU h,if_pos h]
theorem e0{S T:PS}(h:S.e≠0→T=S)(hT:T.e=0):S.e=0:=by
 by_cases he:S.e=0
 ·exact he
 ·rw[h he]at hT;exact hT
theorem jN(hP:Vt L)(h:JD L S [43]=true)(hi:S.i<L.length)(h2:(Qc L (Qb L S)).k=2):(Qc L (Qb L S)).n≠0:=by
 have he:=Zs h;have h3:=GM h
 have hs:(Qc L S).s=[43]:=by
  unfold JD at h;simp only[Bool.and_eq_true,decide_eq_true_eq]at h;exact h.2
 have hx:Qb L S=⟨S.i+1,S.e,S.a⟩:=if_pos ⟨he,by rw[h3];decide⟩;rw[hx]at h2 ⊢;have hn:Qc L ⟨S.i+1,S.e,S.a⟩=(L[S.i+1]?).getD Lv:=if_neg (by simp[he]);rw[hn]at h2 ⊢
 cases hq:L[S.i+1]? with
 |none=>rw[hq]at h2;exact absurd h2 Qz
 |some t=>rw[hq]at h2;exact hP S.i _ t (BO he hi) hq h3 hs h2
def Lf(el:PS→PR)(L:List Tk)(w:List Nat)(k:Nat)(S:PS)(l:List Nd):PS×List Nd:=if JD L S [44]=true then Xa el L w k (Qb L S) l else(Q9 L S w,l)
theorem Dk{el:PS→PR}(h:S.e=0)(hl:l.length≠6):Xa el L w (k+1) S l=Lf el L w k (el S).1 (l++[(el S).2]):=by
 rw[Xa,if_neg (by simp[h]),if_neg hl];rfl
def Sq(el:PS→PR)(L:List Tk)(w:List Nat)(R:PS×List Nd)(S:PS)(l:List Nd):Prop:=(S.e≠0→R.1=S)∧(S.e=0→l.length≤6∧R=Lf el L w (7-l.length) S l)
theorem Rq{el:PS→PR}{m:Nd}(h:JD L S w=false)(he:S.e=0)(hm:(el (Qi L S w)).1.e=0→m=(el (Qi L S w)).2):Sq el L w (Y5 el L w S) (el (Qi L S w)).1 [m]:=by
 have ht:Qi L S w=S:=by rw[Qi,if_neg (by simp[h])]
 rw[ht]at hm ⊢
 have h1:Y5 el L w S=Lf el L w 6 (el S).1 [(el S).2]:=by
  rw[Y5,if_neg (by simp[h])];exact Dk he Q3
 refine⟨fun hx=>?_,fun hx=>⟨by simp,?_⟩⟩
 ·rw[h1,Lf,V6 hx];exact WL hx
 ·rw[h1,hm hx];rfl
theorem Mm{el:PS→PR}{R:PS×List Nd}{m:Nd}(hI:Sq el L w R S l)(h:JD L S [44]=true)(hl: ¬6≤l.length)(hm:(el (Qi L S [44])).1.e=0→m=(el (Qi L S [44])).2):Sq el L w R (el (Qi L S [44])).1 (l++[m]):=by
 have ht:Qi L S [44]=Qb L S:=by rw[Qi,if_pos h]
 rw[ht]at hm ⊢;have he:=Zs h;have h1:=(hI.2 he).2
 rw[Lf,if_pos h,show 7-l.length=(6-l.length)+1 by omega,Dk (by unfold Qb;split<;>exact he) Qq]at h1
 refine⟨fun hx=>?_,fun hx=>⟨by simp;omega,?_⟩⟩
 ·rw[h1,Lf,V6 hx];exact WL hx
 ·rw[h1,hm hx,List.length_append,List.length_singleton,show 7-(l.length+1)=6-l.length by omega]
theorem Mn{el:PS→PR}{R:PS×List Nd}{l':List Nd}(hZ: ∀S,S.e≠0→(el S).1=S)(hI:Sq el L w R S l)(h:JD L S [44]=true)(hl:6≤l.length):Sq el L w R (el (Qw (Qi L S [44]) (Qc L (Qi L S [44])).a 2)).1 l':=by
 have ht:Qi L S [44]=Qb L S:=by rw[Qi,if_pos h]
 rw[ht];have he:=Zs h;obtain⟨h0,h1⟩:=hI.2 he
 have h6:l.length=6:=by omega
 have hn:(Qb L S).e=0:=by unfold Qb;split<;>exact he
 have hx:(Qw (Qb L S) (Qc L (Qb L S)).a 2).e≠0:=XG Qz;rw[hZ _ hx];refine⟨fun _=>?_,fun h=>absurd h hx⟩;rw[h1,Lf,if_pos h,show 7-l.length=0+1 by omega,Xa,if_neg (by simp[hn]),if_pos h6]
theorem jw{el:PS→PR}{R:PS×List Nd}(hI:Sq el L w R S l)(h:JD L S [44]=false):R.1=Q9 L (Qi L S [44]) w∧((Q9 L (Qi L S [44]) w).e=0→l=R.2):=by
 have ht:Qi L S [44]=S:=by rw[Qi,if_neg (by simp[h])]
 rw[ht]
 by_cases he:S.e=0
 ·have h1:=(hI.2 he).2;rw[Lf,if_neg (by simp[h])]at h1;rw[h1];exact⟨rfl,fun _=>rfl⟩
 ·rw[hI.1 he,WL he];exact⟨rfl,fun h=>absurd h he⟩
end
theorem LS{L:List Tk}{S:PS}{w:List Nat}(h:JD L S w=true):(Qc L S).s=w:=by
 unfold JD at h;simp only[Bool.and_eq_true,decide_eq_true_eq]at h;exact h.2
theorem UN{L:List Tk}{S:PS}{w u:List Nat}(h:JD L S w=true)(hu:u≠w):JD L S u=false:=by
 cases hq:JD L S u with
 |false=>rfl
 |true=>exact absurd ((LS hq).symm.trans (LS h)) hu
section
variable {L:List Tk} {S:PS} {n d f:Nat} {w o:List Nat}
theorem V9{E:PS}{u:List Nat}(h:JD L E w=true)(hu:u≠w): ¬JD L E u=true:=by rw[UN h hu];decide
theorem vm{E:PS}(h:JD L E (s++[48])=true):QI L E s=0:=by rw[QI,if_pos h]
theorem vl{E:PS}(h:JD L E (s++[49])=true):QI L E s=1:=by rw[QI,if_neg (V9 h Q3),if_pos h]
theorem vk{E:PS}(h:JD L E (s++[50])=true):QI L E s=2:=by rw[QI,if_neg (V9 h Q3),if_neg (V9 h Q3),if_pos h]
theorem BL{E:PS}(h0: ¬JD L E (s++[48])=true)(h1: ¬JD L E (s++[49])=true)(h2: ¬JD L E (s++[50])=true):QI L E s= -1:=by rw[QI,if_neg h0,if_neg h1,if_neg h2]
theorem V2{E:PS}(h:JD L E w=true)(hs:w≠s++[48]∧w≠s++[49]∧w≠s++[50]):QI L E s= -1:=BL (V9 h hs.1.symm) (V9 h hs.2.1.symm) (V9 h hs.2.2.symm)
def eJ:List (List Nat):=[[101,120,48],[101,120,49],[101,120,50],[97,108,108,48],[97,108,108,49],[97,108,108,50]]
def fM:List (List Nat):=[[101,120],[97,108,108]]
structure eG(L:List Tk)(E:PS)(n:Nat)(o:List Nat):Prop where
 t:JD L E [126]=false
 q:0≤QI L E [101,120]∨0≤QI L E [97,108,108]
 o:(if QI L E [101,120]<0 then [97,108,108]else [101,120])=o
 n:(if QI L E [101,120]<0 then QI L E [97,108,108]else QI L E [101,120])=((n % 3:Nat):Int)
theorem SR{E:PS}(hw:eJ[n]? =some w)(h:JD L E w=true): ∃o,fM[n/3]? =some o∧eG L E n o∧Bytes o∧n<6:=by
 match n,hw with
 |0,hw=>cases hw;have e:=vm (s:=[101,120]) h;exact⟨_,rfl,⟨UN h Qz,.inl (by rw[e];decide),by rw[e];rfl,by rw[e];rfl⟩,by unfold Bytes;decide,by decide⟩
 |1,hw=>cases hw;have e:=vl (s:=[101,120]) h;exact⟨_,rfl,⟨UN h Qz,.inl (by rw[e];decide),by rw[e];rfl,by rw[e];rfl⟩,by unfold Bytes;decide,by decide⟩
 |2,hw=>cases hw;have e:=vk (s:=[101,120]) h;exact⟨_,rfl,⟨UN h Qz,.inl (by rw[e];decide),by rw[e];rfl,by rw[e];rfl⟩,by unfold Bytes;decide,by decide⟩
 |3,hw=>cases hw;have e:=vm (s:=[97,108,108]) h;have x:=V2 (s:=[101,120]) h Qz;exact⟨_,rfl,⟨UN h Qz,.inr (by rw[e];decide),by rw[x];rfl,by rw[x,e];rfl⟩,by unfold Bytes;decide,by decide⟩
 |4,hw=>cases hw;have e:=vl (s:=[97,108,108]) h;have x:=V2 (s:=[101,120]) h Qz;exact⟨_,rfl,⟨UN h Qz,.inr (by rw[e];decide),by rw[x];rfl,by rw[x,e];rfl⟩,by unfold Bytes;decide,by decide⟩
 |5,hw=>cases hw;have e:=vk (s:=[97,108,108]) h;have x:=V2 (s:=[101,120]) h Qz;exact⟨_,rfl,⟨UN h Qz,.inr (by rw[e];decide),by rw[x];rfl,by rw[x,e];rfl⟩,by unfold Bytes;decide,by decide⟩
 |n+6,hw=>cases hw
theorem zP{E:PS}(h: ∀w∈eJ,JD L E w=false):QI L E [101,120]= -1∧QI L E [97,108,108]= -1:=
 ⟨BL (by rw[h _ Qz];decide) (by rw[h _ Qz];decide) (by rw[h _ Qz];decide),BL (by rw[h _ Qz];decide) (by rw[h _ Qz];decide) (by rw[h _ Qz];decide)⟩
theorem PY(h:JD L (Qd L S d) [126]=true):J9 L (f+1) S d=((J9 L f (Qi L (Qd L S d) [126]) (d+1)).1,.mk [110,111,116] [] 0 (Qc L (Qd L S d)).a [(J9 L f (Qi L (Qd L S d) [126]) (d+1)).2]):=by
 rw[J9,if_neg (by simp[Zs h]),if_pos h,Qi,if_pos h]
theorem Gp(he:(Qd L S d).e=0)(h:eG L (Qd L S d) n o):J9 L (f+1) S d=((JY (fun S=>J9 L f S (d+1)) L (Q9 L (Jk L (Qb L (Qd L S d))) [58]) (d+1)).1,.mk o (Jc L (Qb L (Qd L S d))).s ((n % 3:Nat):Int) (Qc L (Qd L S d)).a [(JY (fun S=>J9 L f S (d+1)) L (Q9 L (Jk L (Qb L (Qd L S d))) [58]) (d+1)).2]):=by
 rw[J9,if_neg (by simp[he]),if_neg (by rw[h.t];decide),if_pos h.q,h.o,h.n]
theorem Nj(h:JD L (Qd L S d) w=true)(hw:w=[116,114,117,101]∨w=[102,97,108,115,101]):J9 L (f+1) S d=(Qi L (Qd L S d) w,.mk (Qc L (Qd L S d)).s [] 0 (Qc L (Qd L S d)).a []):=by
 have h1:w≠[126]∧(w≠[101,120]++[48]∧w≠[101,120]++[49]∧w≠[101,120]++[50])∧(w≠[97,108,108]++[48]∧w≠[97,108,108]++[49]∧w≠[97,108,108]++[50]):=by rcases hw with rfl|rfl<;>decide
 rw[J9,if_neg (by simp[Zs h]),if_neg (V9 h h1.1.symm),V2 h h1.2.1,V2 h h1.2.2,if_neg Qz,if_pos (by rcases hw with rfl|rfl;exact .inl h;exact .inr h),Qi,if_pos h]
theorem Ii(h:JD L (Qd L S d) [40]=true):J9 L (f+1) S d=(Q9 L (JY (fun S=>J9 L f S (d+1)) L (Qi L (Qd L S d) [40]) (d+1)).1 [41],(JY (fun S=>J9 L f S (d+1)) L (Qi L (Qd L S d) [40]) (d+1)).2):=by
 rw[J9,if_neg (by simp[Zs h]),if_neg (V9 h Qz),V2 h Qz,V2 h Qz,if_neg Qz,if_neg (fun x=>x.elim (V9 h Qz) (V9 h Qz)),if_pos h,Qi,if_pos h]
theorem S8(h1:JD L (Qd L S d) [126]=false)(h2:JD L (Qd L S d) [116,114,117,101]=false)(h3:JD L (Qd L S d) [102,97,108,115,101]=false)(h4:JD L (Qd L S d) [40]=false)(h5: ∀w∈eJ,JD L (Qd L S d) w=false):(J9 L (f+1) S d).1=(Jt L (Qd L S d)).1∧((Jt L (Qd L S d)).1.e=0→(J9 L (f+1) S d).2=(Jt L (Qd L S d)).2):=by
 by_cases he:(Qd L S d).e=0
 ·obtain⟨h6,h7⟩:=zP h5;rw[J9,if_neg (by simp[he]),h1,if_neg Qz,h6,h7,if_neg Qz,h2,h3,if_neg Qz,h4,if_neg Qz];exact⟨rfl,fun _=>rfl⟩
 ·rw[yl he,J9,if_pos he];exact⟨rfl,fun h=>absurd h he⟩
end
end
section
set_option maxRecDepth 10000
variable {a:Int} {w:List Nat}

inductive Pc where
 |m (s:List Nat)
 |w (s:List Nat)
 |n (z:Nat)
 |g (s:List Nat)
 |b
def Y1(n:Nat):List Nat:=if n<10 then [48+n]else Y1 (n/10)++[48+n % 10]
termination_by n
decreasing_by omega
def Pc.tx:Pc→List Nat
 |.m s=>s
 |.w s=>s
 |.n z=>Y1 z
 |.g s=>s
 |.b=>[32]
def Uc(l:List Pc):List Nat:=l.flatMap Pc.tx
theorem YV(a b:List Pc):Uc (a++b)=Uc a++Uc b:=List.flatMap_append
theorem Jb(a:Pc)(b:List Pc):Uc (a::b)=a.tx++Uc b:=rfl
def Zq:Nat→List Pc→List Tk
 |_,[]=>[]
 |a,.m s::l=>⟨1,s,0,(a:Int)⟩::Zq (a+s.length) l
 |a,.w s::l=>⟨3,s,0,(a:Int)⟩::Zq (a+s.length) l
 |a,.n z::l=>⟨2,[],(z:Int),(a:Int)⟩::Zq (a+(Y1 z).length) l
 |a,.g s::l=>⟨3,s,0,(a:Int)⟩::Zq (a+s.length) l
 |a,.b::l=>Zq (a+1) l
theorem Y3: ∀(l r:List Pc) (a:Nat),Zq a (l++r)=Zq a l++Zq (a+(Uc l).length) r
 |[],r,a=>rfl
 |.m s::l,r,a=>by rw[List.cons_append,Zq,Y3 l r,Zq,Jb,List.length_append,Nat.add_assoc];rfl
 |.w s::l,r,a=>by rw[List.cons_append,Zq,Y3 l r,Zq,Jb,List.length_append,Nat.add_assoc];rfl
 |.n s::l,r,a=>by rw[List.cons_append,Zq,Y3 l r,Zq,Jb,List.length_append,Nat.add_assoc];rfl
 |.g s::l,r,a=>by rw[List.cons_append,Zq,Y3 l r,Zq,Jb,List.length_append,Nat.add_assoc];rfl
 |.b::l,r,a=>by rw[List.cons_append,Zq,Y3 l r,Zq,Jb,List.length_append,Nat.add_assoc];rfl
def XI(o:List Nat):Pc:=if o=[109,105,110,117,115]then .g [92]else if o=[97,110,100]then .g [38]else if o=[111,114]then .g [124]else if o=[105,109,112]then .g [61,62]else if o=[105,102,102]then .g [60,61,62]
 else if o=[101,113]then .g [61]else if o=[110,101]then .g [126,61]else if o=[108,116]then .g [60]else if o=[108,101]then .g [60,61]else .w o
def Zk:List (List Pc)→List Pc
 |[]=>[]
 |[a]=>a
 |a::b::l=>a++(.g [44]:: .b::Zk (b::l))
mutual
def Jp : Nd → List Pc
  | .mk o s z _ ks => if o = YO then [.m s] else if o = Xn then [.n z.toNat] else if o = YB then (J5 ks).headD [] ++ [.b, .g [43], .b, .n z.toNat]
    else if o = UY then .g [123] :: (Zk (J5 ks) ++ [.g [125]]) else (J5 ks).headD [] ++ (.b :: XI o :: .b :: ((J5 ks).drop 1).headD [])
def J5 : List Nd → List (List Pc)
  | [] => []
  | k :: l => Jp k :: J5 l
end
mutual
def Js : Nd → List Pc
  | .mk o s z _ ks => if oneOf o [[116, 114, 117, 101], [102, 97, 108, 115, 101]] then [.w o]
    else if o = [110, 111, 116] then .g [126] :: (Oe ks).headD []
    else if oneOf o [[97, 110, 100], [111, 114], [105, 109, 112], [105, 102, 102]] then .g [40] :: ((Oe ks).headD [] ++ (.b :: XI o :: .b :: (((Oe ks).drop 1).headD [] ++ [.g [41]])))
    else if oneOf o [[101, 120], [97, 108, 108]] then .g [40] :: .w (o ++ Y1 z.toNat) :: .b :: .m s :: .g [58] :: .b :: ((Oe ks).headD [] ++ [.g [41]])
    else if o = [105, 115] then [.m s]
    else if o = [99, 97, 108, 108] then .m s :: .g [40] :: (Zk (J5 ks) ++ [.g [41]])
    else (J5 ks).headD [] ++ (.b :: XI o :: .b :: ((J5 ks).drop 1).headD [])
def Oe : List Nd → List (List Pc)
  | [] => []
  | k :: l => Js k :: Oe l
end
structure ZL(L:List Tk)(S:PS)(T:List Tk):Prop where
 e:S.e=0
 d:L.drop S.i=T
section
variable {L:List Tk} {S:PS} {T R:List Tk} {t:Tk}
theorem ZL.get(h:ZL L S (t::T)):L[S.i]? =some t:=by
 have:=congrArg (fun l=>l[0]?) h.d
 simpa using this
theorem ZL.lt(h:ZL L S (t::T)):S.i<L.length:=(List.getElem?_eq_some_iff.1 h.get).1
theorem ZL.now(h:ZL L S (t::T)):Qc L S=t:=BP h.e h.get
theorem ZL.nx(h:ZL L S (t::T))(hk:t.k≠4):Qb L S=⟨S.i+1,S.e,S.a⟩:=if_pos ⟨h.e,by rw[h.now];exact hk⟩
theorem ZL.next(h:ZL L S (t::T))(hk:t.k≠4):ZL L (Qb L S) T:=by
 rw[h.nx hk];refine⟨h.e,?_⟩;have:=congrArg (List.drop 1) h.d;rw[List.drop_drop]at this;exact this
theorem ZL.ni(h:ZL L S (t::T))(hk:t.k≠4):(Qb L S).i=S.i+1:=by rw[h.nx hk]
theorem ZL.is(h:ZL L S (t::T))(w:List Nat):JD L S w=(decide (t.k=3)&&decide (t.s=w)):=by rw[JD,h.now]
theorem ZL.yes(h:ZL L S (⟨3,w,0,a⟩::T)):JD L S w=true:=by rw[h.is];simp
theorem ZL.no(h:ZL L S (t::T))(ht:t.k≠3∨t.s≠w):JD L S w=false:=by
 rw[h.is]
 rcases ht with ht|ht<;>simp[ht]
theorem ZL.take(h:ZL L S (⟨3,w,0,a⟩::T)):ZL L (Qi L S w) T:=by rw[Qi,if_pos h.yes];exact h.next (show(3:Int)≠4 by decide)
theorem ZL.uq(h:ZL L S (⟨3,w,0,a⟩::T)):ZL L (Q9 L S w) T:=by rw[Q9,if_pos h.yes];exact h.next (show(3:Int)≠4 by decide)
def Hg(T:List Tk)(W:List (List Nat)):Prop:= ∃t R,T=t::R∧(t.k≠3∨t.s∉W)
theorem Hg.no{W:List (List Nat)}(h:Hg T W)(b:ZL L S T){w:List Nat}(hw:w∈W):JD L S w=false:=by
 obtain⟨t,R,rfl,ht⟩:=h;exact b.no (ht.imp id fun x e=>x (e▸hw))
end
end
end Go.Proofs.YtmgkfceomhagaaaGreatDoor
