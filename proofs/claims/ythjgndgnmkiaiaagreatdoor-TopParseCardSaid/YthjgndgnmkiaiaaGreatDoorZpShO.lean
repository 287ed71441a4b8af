/-
  Tokens of a text that stands among blanks: the same ones, moved. Plain Lean.
-/
import Derived.Test.YthjgndgnmkiaiaaGreatDoorZpShT
set_option maxRecDepth 10000
set_option linter.unusedSectionVars false
set_option linter.unusedVariables false
namespace Go.Proofs.YthjgndgnmkiaiaaGreatDoor
open Go Go.RowKit
section

theorem De(a b:ByteArray)(i:Nat)(h:i<a.size):(a++b).get! i=a.get! i:=by
 show(a++b).data[i]! =a.data[i]!;have h':i<a.data.size:=h;rw[ByteArray.data_append,getElem!_def,getElem!_def,Array.getElem?_append_left h']
theorem G5(a b:ByteArray)(i:Nat):(a++b).get! (a.size+i)=b.get! i:=by
 show(a++b).data[a.size+i]! =b.data[i]!;rw[ByteArray.data_append,getElem!_def,getElem!_def,Array.getElem?_append_right (show a.data.size≤a.size+i from Nat.le_add_right _ _)];rw[show a.size+i-a.data.size=i from Nat.add_sub_cancel_left ..]
theorem Ap(a b:ByteArray)(p:Nat):Utf8.decode (a++b) (a.size+p)=Utf8.decode b p:=by
 unfold Utf8.decode;simp only[ByteArray.size_append,Nat.add_assoc,G5,Nat.add_lt_add_iff_left]
def oq(b0 b1:Nat):Nat×Nat:=
 let c:=(b0 % 32) *64+b1 % 64
 if c≥0x80 then(c,2)else(Utf8.runeError,1)
def oo(b0 b1 b2:Nat):Nat×Nat:=
 let c:=(b0 % 16) *4096+(b1 % 64) *64+b2 % 64
 if c≥0x800&&Utf8.valid c then(c,3)else(Utf8.runeError,1)
def om(b0 b1 b2 b3:Nat):Nat×Nat:=
 let c:=(b0 % 8) *262144+(b1 % 64) *4096+(b2 % 64) *64+b3 % 64
 if c≥0x10000&&Utf8.valid c then(c,4)else(Utf8.runeError,1)
def vf(b0:Nat)(x2 x3 x4:Nat×Nat)(c1 c2 c3:Bool):Nat×Nat:=
 if b0<0x80 then(b0,1)
 else if b0/32==6&&c1 then x2
 else if b0/16==14&&c1&&c2 then x3
 else if b0/8==30&&c1&&c2&&c3 then x4
 else(Utf8.runeError,1)
def Xd(s:ByteArray)(i k:Nat):Nat:=(s.get! (i+k)).toNat
def Lf(s:ByteArray)(i k:Nat):Bool:=decide (i+k<s.size)&&Xd s i k/64==2
theorem R3(s:ByteArray)(i:Nat):Utf8.decode s i=vf (Xd s i 0) (oq (Xd s i 0) (Xd s i 1)) (oo (Xd s i 0) (Xd s i 1) (Xd s i 2)) (om (Xd s i 0) (Xd s i 1) (Xd s i 2) (Xd s i 3)) (Lf s i 1) (Lf s i 2) (Lf s i 3):=rfl
theorem ub{b0:Nat}{x2 x3 x4 y2 y3 y4:Nat×Nat}{c1 c2 c3 d1 d2 d3:Bool}(h:vf b0 x2 x3 x4 c1 c2 c3≠(Utf8.runeError,1))(h1:c1=true→d1=true∧y2=x2)(h2:c1=true→c2=true→d2=true∧y3=x3)(h3:c1=true→c2=true→c3=true→d3=true∧y4=x4):
  vf b0 y2 y3 y4 d1 d2 d3=vf b0 x2 x3 x4 c1 c2 c3:=by
 have k12:(b0/32==6)=true→(b0/16==14)=false∧(b0/8==30)=false:=by
  intro e
  have e:b0/32=6:=by simpa using e
  exact⟨by simp;omega,by simp;omega⟩
 have k23:(b0/16==14)=true→(b0/8==30)=false:=by
  intro e
  have e:b0/16=14:=by simpa using e
  simp;omega
 unfold vf at h ⊢
 by_cases hb:b0<0x80
 ·rw[if_pos hb,if_pos hb]
 ·rw[if_neg hb]at h;rw[if_neg hb,if_neg hb]
  generalize (b0/32==6)=k1 at *
  generalize (b0/16==14)=k2 at *
  generalize (b0/8==30)=k3 at *
  cases c1 with
  |false=>simp at h
  |true=>
   obtain⟨rfl,rfl⟩:=h1 rfl
   cases k1 with
   |true=>simp
   |false=>
    cases c2 with
    |false=>simp at h
    |true=>
     obtain⟨rfl,rfl⟩:=h2 rfl rfl
     cases k2 with
     |true=>simp
     |false=>
      cases c3 with
      |false=>simp at h
      |true=>
       obtain⟨rfl,rfl⟩:=h3 rfl rfl rfl;simp
theorem R2(a b:ByteArray)(p:Nat)(hp:p<a.size)(ho: ¬((Utf8.decode a p).1=65533∧(Utf8.decode a p).2=1)):Utf8.decode (a++b) p=Utf8.decode a p:=by
 have gk: ∀k,p+k<a.size→Xd (a++b) p k=Xd a p k:=fun k h=>by unfold Xd;rw[De a b _ h]
 have ck: ∀k,Lf a p k=true→Lf (a++b) p k=true∧Xd (a++b) p k=Xd a p k:=fun k h=>by
  unfold Lf at h ⊢;rw[Bool.and_eq_true]at h;have h1:=of_decide_eq_true h.1;rw[gk k h1];exact⟨by rw[h.2,decide_eq_true (show p+k<(a++b).size by rw[ByteArray.size_append];omega)];rfl,rfl⟩
 have hne:Utf8.decode a p≠(Utf8.runeError,1):=fun e=>ho (by rw[e];exact⟨rfl,rfl⟩);rw[R3 a p]at hne ⊢;rw[R3 (a++b) p,gk 0 Qk];refine ub hne (fun h1=>?_) (fun h1 h2=>?_) (fun h1 h2 h3=>?_)
 ·obtain⟨d1,e1⟩:=ck 1 h1;exact⟨d1,by rw[e1]⟩
 ·obtain⟨d1,e1⟩:=ck 1 h1;obtain⟨d2,e2⟩:=ck 2 h2;exact⟨d2,by rw[e1,e2]⟩
 ·obtain⟨d1,e1⟩:=ck 1 h1;obtain⟨d2,e2⟩:=ck 2 h2;obtain⟨d3,e3⟩:=ck 3 h3;exact⟨d3,by rw[e1,e2,e3]⟩

def AW(d:Nat)(r:List (Nat×Nat)):List (Nat×Nat):=r.map fun x=>(x.1,x.2+d)
theorem LN(s:ByteArray): ∀f p g,s.size≤p+f→f≤g→JA s g p=JA s f p:=by
 intro f
 induction f with
 |zero=>intro p g h _;rw[UK s g p Qk,UK s 0 p Qk]
 |succ f ih=>
  intro p g h hg;obtain⟨g,rfl⟩: ∃g',g=g'+1:=⟨g-1,by omega⟩
  by_cases hp:p<s.size
  ·by_cases ho:(Utf8.decode s p).1=65533∧(Utf8.decode s p).2=1
   ·rw[Zl s g p hp ho,Zl s f p hp ho]
   ·have hw:=Zx s p hp;rw[Ux s g p hp ho,Ux s f p hp ho,ih _ g Qk Qk]
  ·rw[UK s _ p hp,UK s _ p hp]
theorem Kl(a b:ByteArray): ∀f p,JA (a++b) f (a.size+p)=(AW a.size (JA b f p).1,(JA b f p).2.map (· +a.size)):=by
 intro f
 induction f with
 |zero=>intro p;rfl
 |succ f ih=>
  intro p;have hs:(a++b).size=a.size+b.size:=ByteArray.size_append
  by_cases hp:p<b.size
  ·by_cases ho:(Utf8.decode b p).1=65533∧(Utf8.decode b p).2=1
   ·rw[Zl b f p hp ho,Zl (a++b) f (a.size+p) Qk (by rw[Ap];exact ho)];simp[AW,Nat.add_comm]
   ·rw[Ux b f p hp ho,Ux (a++b) f (a.size+p) Qk (by rw[Ap];exact ho),Ap,Nat.add_assoc,ih];simp[AW,Nat.add_comm]
  ·rw[UK b _ p hp,UK (a++b) _ _ Qk];rfl
theorem Rx(a b:ByteArray): ∀f p g,a.size≤p+f→p≤a.size→(JA a f p).2=none→f+b.size≤g→JA (a++b) g p=((JA a f p).1++AW a.size (JA b b.size 0).1,(JA b b.size 0).2.map (· +a.size)):=by
 intro f
 induction f with
 |zero=>
  intro p g h hp _ hg
  have e:p=a.size+0:=by omega
  rw[UK a 0 p Qk,e,Kl,LN b b.size 0 g Qk Qk];rfl
 |succ f ih=>
  intro p g h hp hn hg
  by_cases hlt:p<a.size
  ·by_cases ho:(Utf8.decode a p).1=65533∧(Utf8.decode a p).2=1
   ·rw[Zl a f p hlt ho]at hn;cases hn
   ·have hw:=Zx a p hlt;have hs:(a++b).size=a.size+b.size:=ByteArray.size_append;obtain⟨g,rfl⟩: ∃g',g=g'+1:=⟨g-1,by omega⟩;rw[Ux a f p hlt ho]at hn;have hd:=R2 a b p hlt ho;rw[Ux a f p hlt ho,Ux (a++b) g p Qk (by rw[hd];exact ho),hd,ih _ g Qk Qk hn Qk];rfl
  ·have e:p=a.size+0:=by omega
   rw[UK a _ p hlt,e,Kl,LN b b.size 0 g Qk Qk];rfl
theorem xT(a b:ByteArray)(h:(each a).2=none):each (a++b)=((each a).1++AW a.size (each b).1,(each b).2.map (· +a.size)):=
 Rx a b a.size 0 _ Qk Qk h (by rw[ByteArray.size_append];omega)

theorem CS(d:Nat)(r:List (Nat×Nat)):(AW d r).length=r.length:=by unfold AW;rw[List.length_map]
theorem LI(a:ByteArray)(i j:Nat)(h:a.size≤i∨j=0):a.extract i j=ByteArray.empty:=by
 apply ByteArray.ext;rw[ByteArray.data_extract];apply Array.eq_empty_of_size_eq_zero;rw[Array.size_extract];have:a.data.size=a.size:=rfl;omega
theorem Rm(g s R:ByteArray)(p q:Nat)(hq:q≤s.size):(g++s++R).extract (p+g.size) (q+g.size)=s.extract p q:=by
 have hs:(g++s).size=g.size+s.size:=ByteArray.size_append;rw[ByteArray.extract_append,ByteArray.extract_append,LI R _ _ (.inr Qk),LI g _ _ (.inl Qk),Nat.add_sub_cancel,Nat.add_sub_cancel];simp
theorem iu(a b:Nat)(r:List (Nat×Nat)):AW a (AW b r)=AW (b+a) r:=by
 unfold AW;rw[List.map_map]
 congr 1
 funext x
 simp[Nat.add_assoc]
theorem Fs(a b:List Nat):bytesOf (a++b)=bytesOf a++bytesOf b:=by
 apply ByteArray.ext;rw[ByteArray.data_append];unfold bytesOf;simp
end
section

def Gx(p:Pc):List (Nat×Nat):=(each (bytesOf p.tx)).1
def Eo:Nat→List Pc→List (Nat×Nat)
 |_,[]=>[]
 |d,p::l=>AW d (Gx p)++Eo (d+p.tx.length) l
theorem JD(l:List Nat):(bytesOf l).size=l.length:=by simp[bytesOf,ByteArray.size]
theorem wY(d:Nat)(a b:List (Nat×Nat)):AW d (a++b)=AW d a++AW d b:=by unfold AW;rw[List.map_append]
theorem yJ: ∀(l:List Pc) (d e:Nat),AW e (Eo d l)=Eo (d+e) l
 |[],d,e=>rfl
 |p::l,d,e=>by
  rw[Eo,Eo,wY,iu,yJ l,Nat.add_right_comm]
theorem LM: ∀l:List Pc,(∀p∈l,(each (bytesOf p.tx)).2=none)→each (bytesOf (QQ l))=(Eo 0 l,none)
 |[],_=>by rw[show QQ []=[]from rfl];decide+kernel
 |p::l,h=>by
  have h1:=LM l fun q hq=>h q (List.mem_cons_of_mem _ hq);rw[Qz,Fs,xT _ _ (h p Q1),h1,Eo,JD]
  have h0:AW 0 (Gx p)=Gx p:=by unfold AW;simp
  rw[h0,yJ,Nat.zero_add];rfl
end
section

theorem Dn(s:ByteArray): ∀(f p:Nat) (x:Nat×Nat),x∈(JA s f p).1→p≤x.2:=by
 intro f
 induction f with
 |zero=>intro p x hx;cases hx
 |succ f ih=>
  intro p x hx;rw[JA]at hx
  split at hx
  ·split at hx
   ·cases hx
   ·rcases List.mem_cons.1 hx with rfl|hx
    ·exact Nat.le_refl _
    ·exact Nat.le_trans (Nat.le_add_right _ _) (ih _ _ hx)
  ·cases hx
theorem jY(s:ByteArray)(j:Nat)(x:Nat×Nat)(r:List (Nat×Nat))(h:(each s).1.drop j=x::r)(h0:x.2=0):j=0:=by
 cases j with
 |zero=>rfl
 |succ j=>
  exfalso
  unfold each at h
  cases hf:s.size with
  |zero=>rw[hf]at h;simp[JA]at h
  |succ f=>
   rw[hf,JA]at h
   split at h
   ·rename_i hp
    split at h
    ·simp at h
    ·rw[List.drop_succ_cons]at h;have hx:x∈(JA s f (0+(Utf8.decode s 0).2)).1:=List.mem_of_mem_drop (by rw[h];exact List.mem_cons_self);have h1:=Dn s _ _ _ hx;have h2:=(Zx s 0 hp).1;omega
   ·simp at h
end
section

theorem jZ(s:ByteArray): ∀(f p:Nat) (x:Nat×Nat),x∈(JA s f p).1→x.2<s.size:=by
 intro f
 induction f with
 |zero=>intro p x hx;cases hx
 |succ f ih=>
  intro p x hx;rw[JA]at hx
  split at hx
  ·split at hx
   ·cases hx
   ·rcases List.mem_cons.1 hx with rfl|hx
    ·assumption
    ·exact ih _ _ hx
  ·cases hx
theorem PF: ∀r:List (Nat×Nat),Ju r=r.length→ ∀x∈r,Zd x.1=true
 |[],_,x,hx=>nomatch hx
 |(c,q)::r,h,x,hx=>by
  rw[Ju]at h
  split at h
  ·rename_i hc;rcases List.mem_cons.1 hx with rfl|hx
   ·exact hc
   ·exact PF r (by rw[List.length_cons]at h;omega) x hx
  ·rw[List.length_cons]at h;omega
structure o5(s:List Nat):Prop where
 ex: ∃c r,(each (bytesOf s)).1=(c,0)::r∧Q0 c=1
 more: ∀x∈(each (bytesOf s)).1,Zd x.1=true
 ok:(each (bytesOf s)).2=none
 by':Bytes s
 cn:count (bytesOf s)≤12
theorem yp(b:ByteArray)(i j:Nat):(b.extract i j).size=min j b.size-i:=by rw[ByteArray.size_extract]
theorem Ag{s:List Nat}(h:Ui s=true):o5 s∧YJ Zz (bytesOf s)=false:=by
 unfold Ui at h;simp only[Bool.and_eq_true,decide_eq_true_eq]at h;obtain⟨h1,h2,h3⟩:=h
 by_cases hl:2000<(bytesOf s).size
 ·rw[Iu hl]at h1;exact absurd h1 (show¬(3:Int)=0 by decide)
 rcases hx:XZ (bytesOf s) (QT (bytesOf s) (each (bytesOf s)).2) ((each (bytesOf s)).1.length+1) ((each (bytesOf s)).1.drop (QC false (each (bytesOf s)).1))with⟨a,p⟩
 cases a with
 |none=>rw[Cr hl hx]at h1;exact absurd h1 (show¬(2:Int)=0 by decide)
 |some a=>
  cases hq:(each (bytesOf s)).2 with
  |some q=>rw[Cp hl hx hq]at h1;exact absurd h1 (show¬(2:Int)=0 by decide)
  |none=>
   rw[Nf hl hx hq]at h2 h3
   have ha:a.length=1:=by
    simp only[List.length_append,List.length_cons,List.length_nil]at h2;omega
   obtain⟨t,rfl⟩:=List.length_eq_one_iff.1 ha
   have h3:t.kind=1∧Ym t.text=s:=by simpa using h3
   obtain⟨hk,ht⟩:=h3
   generalize hL:(each (bytesOf s)).1=L at *
   generalize hj:QC false L=j at *
   rw[hq]at hx;have hf:QT (bytesOf s) none=(bytesOf s).size:=rfl;rw[hf]at hx
   cases hr:L.drop j with
   |nil=>rw[hr,XZ]at hx;cases hx
   |cons x r=>
    rw[hr,XZ]at hx
    split at hx
    ·rename_i hok
     injection hx with hx _
     generalize (XZ (bytesOf s) (bytesOf s).size L.length _).1=y at hx
     cases y with
     |none=>cases hx
     |some l1=>
      have e:Zn (bytesOf s) (bytesOf s).size (x::r)=t:=by
       rw[Option.map_some]at hx
       injection hx with hx
       injection hx
      obtain⟨c,q⟩:=x
      have hv:Zn (bytesOf s) (bytesOf s).size ((c,q)::r)=if Q0 c=1 then IM (bytesOf s) (bytesOf s).size ((c,q)::r)else if Q0 c=2 then CP (bytesOf s).size c ((c,q)::r)else if Q0 c=4 then Ha (bytesOf s).size ((c,q)::r)else Hd:=rfl
      rw[e]at hv hok
      have c1:Q0 c=1:=by
       by_cases c1:Q0 c=1
       ·exact c1
       ·exfalso
        rw[if_neg c1]at hv;rw[hv]at hk
        split at hk
        ·exact absurd hk (show¬(2:Int)=1 by decide)
        ·split at hk
         ·unfold Ha at hk
          split at hk
          ·exact absurd hk (show¬(3:Int)=1 by decide)
          ·exact absurd hk (show¬(0:Int)=1 by decide)
         ·exact absurd hk (show¬(0:Int)=1 by decide)
      rw[if_pos c1]at hv;subst hv
      have hw:YJ Zz ((bytesOf s).extract (Qq (bytesOf s).size ((c,q)::r) 0) (Qq (bytesOf s).size ((c,q)::r) (Ju ((c,q)::r))))=false:=by
       cases hh:YJ Zz ((bytesOf s).extract (Qq (bytesOf s).size ((c,q)::r) 0) (Qq (bytesOf s).size ((c,q)::r) (Ju ((c,q)::r))))with
       |false=>rfl
       |true=>
        have hk:(if YJ Zz ((bytesOf s).extract (Qq (bytesOf s).size ((c,q)::r) 0) (Qq (bytesOf s).size ((c,q)::r) (Ju ((c,q)::r))))then(3:Int)else 1)=1:=hk;rw[hh]at hk;exact absurd hk Qo
      have hcn:=of_decide_eq_true hok;have ht:Ym ((bytesOf s).extract q (Qq (bytesOf s).size ((c,q)::r) (Ju ((c,q)::r))))=s:=ht;have hw:YJ Zz ((bytesOf s).extract q (Qq (bytesOf s).size ((c,q)::r) (Ju ((c,q)::r))))=false:=hw;have hcn:count ((bytesOf s).extract q (Qq (bytesOf s).size ((c,q)::r) (Ju ((c,q)::r))))≤12:=hcn
      have hby:Bytes s:=by rw[←ht];exact ZW _
      have hbx:(bytesOf s).extract q (Qq (bytesOf s).size ((c,q)::r) (Ju ((c,q)::r)))=bytesOf s:=by
       have:=congrArg bytesOf ht
       rwa [Za]at this
      have hin: ∀x∈L,x.2<(bytesOf s).size:=fun x hx=>jZ _ _ _ x (by rw[←hL]at hx;exact hx);have hqi:q<(bytesOf s).size:=hin (c,q) (List.mem_of_mem_drop (i:=j) (by rw[hr];exact List.mem_cons_self));have hsz:=congrArg ByteArray.size hbx;rw[yp]at hsz
      have hq0:q=0:=by omega
      subst hq0;have hj0:=jY (bytesOf s) j (c,0) r (by rw[hL];exact hr) rfl;subst hj0;rw[List.drop_zero]at hr;subst hr
      have hm:Ju ((c,0)::r)=((c,0)::r).length:=by
       refine Nat.le_antisymm (IN _) (Nat.le_of_not_lt fun hlt=>?_)
       have hpl:Qq (bytesOf s).size ((c,0)::r) (Ju ((c,0)::r))<(bytesOf s).size:=by
        unfold Qq;rw[List.getElem?_eq_getElem hlt];exact hin _ (List.getElem_mem _)
       omega
      rw[hbx]at hw hcn;exact⟨⟨⟨c,r,hL,c1⟩,by rw[hL];exact PF _ hm,hq,hby,hcn⟩,hw⟩
    ·cases hx
end
section
variable {s:List Nat} {z:Nat}

def nh:List (List Nat):=[[118,97,114,48],[118,97,114,49],[118,97,114,50],[112,114,101,100],[116,114,117,101],[102,97,108,115,101],[101,120,48],[101,120,49],[101,120,50],[97,108,108,48],[97,108,108,49],[97,108,108,50],[105,110],[110,111,116,105,110],[115,117,98],[117,110,105,111,110],[105,110,116,101,114]]
def vN:List (List Nat):=[[60,61,62],[61,62],[60,61],[126,61],[61],[126],[60],[38],[124],[40],[41],[123],[125],[44],[59],[58],[43],[92]]
def uB:Pc→Bool
 |.m s=>Ui s
 |.w s=>decide (s∈nh)
 |.n z=>decide (z≤99)
 |.g s=>decide (s∈vN)
 |.b=>true
 |.l=>true
def y9:List Pc→Bool
 |[]=>true
 |.b::_=>true
 |.l::_=>true
 |.g _::_=>true
 |_=>false
def iJ:List Pc→Bool
 |.g s::_=>decide (s.head? =some 61)
 |_=>false
def n5:List Pc→Bool
 |.b::_=>true
 |_=>false
def l9:List Pc→Bool
 |.b:: .n z::_=>decide (z≠0)
 |_=>false
def im:Pc→List Pc→Bool
 |.b,_=>true
 |.l,_=>true
 |.g s,l=>if s=[126]then !iJ l else if s=[60]∨s=[61]∨s=[60,61]then n5 l else if s=[43]then l9 l else true
 |_,l=>y9 l
def EI:List Pc→Bool
 |[]=>true
 |p::l=>uB p&&(im p l&&EI l)
def oE(s:List Nat):Bool:=match each (bytesOf s)with
 |((c,0)::r,none)=>decide (Q0 c=1)&&((((c,0)::r).all fun x=>Zd x.1)&&(decide (∀x∈s,x<256)&&(decide (count (bytesOf s)≤12)&&YJ Zz (bytesOf s))))
 |_=>false
theorem uI: ∀s∈nh,oE s=true:=by decide+kernel
theorem EK(h:s∈nh):o5 s∧YJ Zz (bytesOf s)=true:=by
 have h:=uI s h;unfold oE at h
 split at h
 ·rename_i c r he;simp only[Bool.and_eq_true,decide_eq_true_eq,List.all_eq_true]at h;obtain⟨h1,h2,h3,h4,h5⟩:=h;exact⟨⟨⟨c,r,by rw[he],h1⟩,by rw[he];exact h2,by rw[he],h3,h4⟩,h5⟩
 ·cases h
theorem NL: ∀s∈vN,each (bytesOf s)=(s.zipIdx,none):=by decide+kernel
theorem MZ: ∀z,z<10→each (bytesOf [48+z])=([(48+z,0)],none):=by decide+kernel
theorem MY: ∀z,z<100→each (bytesOf [48+z/10,48+z % 10])=([(48+z/10,0),(48+z % 10,1)],none):=by decide+kernel
theorem BR(h:z<10):U4 z=[48+z]:=by rw[U4,if_pos h]
theorem va(h: ¬z<10)(h':z<100):U4 z=[48+z/10,48+z % 10]:=by
 rw[U4,if_neg h,BR Qk];rfl
def oF:Pc→Nat→Prop
 |.m _,c=>Q0 c=1
 |.w _,c=>Q0 c=1
 |.n _,c=>U2 c=true
 |.g s,c=>s.head? =some c∧s∈vN
 |.b,c=>c=32
 |.l,c=>c=10
theorem X6{p:Pc}(h:uB p=true):(each (bytesOf p.tx)).2=none∧ ∃c r,Gx p=(c,0)::r∧oF p c:=by
 cases p with
 |m s=>obtain⟨⟨⟨c,r,h1,h2⟩,h3,h4,h5,h6⟩,h7⟩:=Ag h;exact⟨h4,c,r,h1,h2⟩
 |w s=>obtain⟨⟨⟨c,r,h1,h2⟩,h3,h4,h5,h6⟩,h7⟩:=EK (of_decide_eq_true h);exact⟨h4,c,r,h1,h2⟩
 |n z=>
  have h:=of_decide_eq_true h;unfold Gx;show(each (bytesOf (U4 z))).2=none∧ ∃c r,(each (bytesOf (U4 z))).1=(c,0)::r∧U2 c=true
  by_cases h1:z<10
  ·rw[BR h1,MZ z h1];exact⟨rfl,_,_,rfl,decide_eq_true Qk⟩
  ·rw[va h1 Qk,MY z Qk];exact⟨rfl,_,_,rfl,decide_eq_true Qk⟩
 |g s=>
  have h:=of_decide_eq_true h;unfold Gx;show(each (bytesOf s)).2=none∧ ∃c r,(each (bytesOf s)).1=(c,0)::r∧s.head? =some c∧s∈vN;rw[NL s h]
  cases s with
  |nil=>exact absurd h Qo
  |cons c s=>exact⟨rfl,c,_,rfl,rfl,h⟩
 |b=>exact⟨by decide+kernel,32,[],by decide+kernel,rfl⟩
 |l=>exact⟨by decide+kernel,10,[],by decide+kernel,rfl⟩
theorem AM{p:Pc}{l:List Pc}{d c:Nat}{r:List (Nat×Nat)}(h:Gx p=(c,0)::r):Eo d (p::l)=(c,d)::(AW d r++Eo (d+p.tx.length) l):=by
 rw[Eo,h,AW,List.map_cons,Nat.zero_add];rfl
def ll(s:List Nat):Bool:=s.head?.all fun c=> !Zd c&&(!U2 c&&(decide (Q0 c=4)&&(!Yy c&&decide (c≠35))))
theorem yr: ∀s∈vN,ll s=true:=by decide+kernel
theorem I3: ∀s∈vN,∀c,s.head? =some c→Zd c=false∧U2 c=false∧Q0 c=4∧Yy c=false∧c≠35:=by
 intro s hs c hc;have h:=yr s hs;unfold ll at h;rw[hc]at h;have h:=(show _=true from h);simp at h;obtain⟨h1,h2,h3,h4,h5⟩:=h;exact⟨h1,h2,h3,h4,by omega⟩
theorem NO{l:List Pc}(hl:EI l=true)(h:y9 l=true)(d:Nat):Eo d l=[]∨ ∃c q r,Eo d l=(c,q)::r∧Zd c=false∧U2 c=false:=by
 cases l with
 |nil=>exact .inl rfl
 |cons p l=>
  rw[EI,Bool.and_eq_true]at hl;obtain⟨_,c,r,hr,hc⟩:=X6 hl.1;refine .inr ⟨c,d,_,AM hr,?_⟩
  cases p with
  |b=>rw[show c=32 from hc];decide
  |l=>rw[show c=10 from hc];decide
  |g s=>have:=I3 s hc.2 c hc.1;exact⟨this.1,this.2.1⟩
  |m s=>cases h
  |w s=>cases h
  |n s=>cases h
theorem BX{c:Nat}(h:Q0 c=1):c≠61:=fun e=>by rw[e]at h;exact absurd h Qo
theorem eE{l:List Pc}(hl:EI l=true)(h:iJ l=false)(d:Nat):Eo d l=[]∨ ∃c q r,Eo d l=(c,q)::r∧c≠61:=by
 cases l with
 |nil=>exact .inl rfl
 |cons p l=>
  rw[EI,Bool.and_eq_true]at hl;obtain⟨_,c,r,hr,hc⟩:=X6 hl.1;refine .inr ⟨c,d,_,AM hr,?_⟩
  cases p with
  |b=>rw[show c=32 from hc];decide
  |l=>rw[show c=10 from hc];decide
  |g s=>
   intro e;rw[e]at hc;have h:=of_decide_eq_false h;exact h hc.1
  |m s=>exact BX hc
  |w s=>exact BX hc
  |n s=>
   intro e;rw[e]at hc;exact absurd (show U2 ((61:Nat):Int)=true from hc) Qo
theorem eX{l:List Pc}(h:n5 l=true)(d:Nat): ∃r,Eo d l=(32,d)::r:=by
 cases l with
 |nil=>cases h
 |cons p l=>
  cases p with
  |b=>exact⟨_,AM (r:=[]) (by decide+kernel)⟩
  |l=>cases h
  |m s=>cases h
  |w s=>cases h
  |n s=>cases h
  |g s=>cases h
theorem PE: ∀(A T:List (Nat×Nat)),(∀x∈A,Zd x.1=true)→(T=[]∨ ∃c q r,T=(c,q)::r∧Zd c=false)→Ju (A++T)=A.length
 |[],T,_,h=>by
  rcases h with rfl|⟨c,q,r,rfl,h⟩
  ·rfl
  ·rw[List.nil_append,Ju,h];rfl
 |(c,q)::A,T,hA,h=>by
  rw[List.cons_append,Ju,if_pos (hA (c,q) Q1),PE A T (fun x hx=>hA x (by simp[hx])) h];rfl
theorem zO{A:List (Nat×Nat)}(h: ∀x∈A,Zd x.1=true)(d:Nat): ∀x∈AW d A,Zd x.1=true:=by
 intro x hx;unfold AW at hx;obtain⟨y,hy,rfl⟩:=List.mem_map.1 hx;exact h y hy
theorem zk{l:List Pc}(hl:EI l=true)(d fin:Nat)(hf:fin=d+(QQ l).length):Qq fin (Eo d l) 0=d:=by
 cases l with
 |nil=>rw[hf];rfl
 |cons p l=>
  rw[EI,Bool.and_eq_true]at hl;obtain⟨_,c,r,hr,hc⟩:=X6 hl.1;rw[AM hr];rfl
theorem SS(fin n:Nat)(A T:List (Nat×Nat))(h:n=A.length):Qq fin (A++T) n=Qq fin T 0:=by
 subst h;unfold Qq;rw[List.getElem?_append_right (Nat.le_refl _),Nat.sub_self]
theorem OL(a s b:List Nat):(bytesOf (a++(s++b))).extract a.length (a.length+s.length)=bytesOf s:=by
 rw[Fs,Fs,←ByteArray.append_assoc];have h:=Rm (bytesOf a) (bytesOf s) (bytesOf b) 0 s.length (by rw[JD];exact Nat.le_refl _);rw[JD,Nat.zero_add,Nat.add_comm s.length]at h;rw[h,←JD s];exact ByteArray.extract_zero_size
theorem BA{W a b:List Nat}{T:List (Nat×Nat)}(hW:W=a++(s++b))(h:o5 s)(hT:T=[]∨ ∃c q r,T=(c,q)::r∧Zd c=false)(hp:Qq W.length T 0=a.length+s.length):
  Zn (bytesOf W) W.length (AW a.length (each (bytesOf s)).1++T)=⟨if YJ Zz (bytesOf s)then 3 else 1,bytesOf s,0,a.length,true,(each (bytesOf s)).1.length⟩:=by
 obtain⟨⟨c,r,h1,h2⟩,h3,h4,h5,h6⟩:=h;have hm:=PE (AW a.length (each (bytesOf s)).1) T (zO h3 _) hT
 have e:AW a.length (each (bytesOf s)).1++T=(c,0+a.length)::(AW a.length r++T):=by rw[h1];rfl
 have hp1:Qq W.length (AW a.length (each (bytesOf s)).1++T) 0=a.length:=by rw[e];exact Nat.zero_add _
 have hp2:Qq W.length (AW a.length (each (bytesOf s)).1++T) (Ju (AW a.length (each (bytesOf s)).1++T))=a.length+s.length:=by rw[hm,SS _ _ _ _ rfl,hp]
 have hn:IM (bytesOf W) W.length (AW a.length (each (bytesOf s)).1++T)=⟨if YJ Zz (bytesOf s)then 3 else 1,bytesOf s,0,a.length,true,(each (bytesOf s)).1.length⟩:=by
  unfold IM;rw[hp1,hp2,hm,hW,OL,CS,decide_eq_true h6]
 rw[←hn,e,Zn,if_pos h2]
theorem qU(hs:s∈vN)(d:Nat)(T:List (Nat×Nat))(h1:s=[126]→T=[]∨ ∃c q r,T=(c,q)::r∧c≠61)(h2:s=[60]∨s=[61]∨s=[60,61]→ ∃q r,T=(32,q)::r):
  VH (AW d s.zipIdx++T)=some (bytesOf s):=by
 have hb: ∀b:UInt8,b.toNat=61→ ∀r l,Zq ((32,r)::l) [b]=false:=fun b hb r l=>by simp[Zq,hb]
 simp only[vN,List.mem_cons,List.not_mem_nil,or_false]at hs;rcases hs with rfl|rfl|rfl|rfl|rfl|rfl|rfl|rfl|rfl|rfl|rfl|rfl|rfl|rfl|rfl|rfl|rfl|rfl
 case inr.inr.inl=>
  obtain⟨q,r,rfl⟩:=h2 Q1;rfl
 case inr.inr.inr.inr.inl=>
  obtain⟨q,r,rfl⟩:=h2 Q1;rfl
 case inr.inr.inr.inr.inr.inr.inl=>
  obtain⟨q,r,rfl⟩:=h2 Q1;rfl
 case inr.inr.inr.inr.inr.inl=>
  rcases h1 rfl with rfl|⟨c,q,r,rfl,hc⟩
  ·rfl
  ·have h3:Zq ((126,0+d)::(c,q)::r) [126,61]=false:=by simp[Zq,hc]
   show ZB.find? (fun sg=>Zq ((126,0+d)::(c,q)::r) sg.data.toList)=_;simp only[ZB,List.find?]
   rw[show Zq ((126,0+d)::(c,q)::r) (ByteArray.mk #[60,61,62]).data.toList=false from rfl,show Zq ((126,0+d)::(c,q)::r) (ByteArray.mk #[61,62]).data.toList=false from rfl,show Zq ((126,0+d)::(c,q)::r) (ByteArray.mk #[60,61]).data.toList=false from rfl,show Zq ((126,0+d)::(c,q)::r) (ByteArray.mk #[126,61]).data.toList=false from h3,show Zq ((126,0+d)::(c,q)::r) (ByteArray.mk #[61]).data.toList=false from rfl,show Zq ((126,0+d)::(c,q)::r) (ByteArray.mk #[126]).data.toList=true from by cases r<;>rfl]
   rfl
 all_goals(cases T<;>rfl)
theorem zA(hz:z≤99)(s:ByteArray)(fin d:Nat)(T:List (Nat×Nat))(hT:T=[]∨ ∃c q r,T=(c,q)::r∧U2 c=false):
  Zn s fin (AW d (Gx (.n z))++T)=⟨2,⟨#[]⟩,z,d,true,(Gx (.n z)).length⟩:=by
 have hT1: ∀a,J9 100 a T=a:=fun a=>by
  rcases hT with rfl|⟨c,q,r,rfl,h⟩
  ·rfl
  ·rw[J9,h];rfl
 have hT2:YM T=0:=by
  rcases hT with rfl|⟨c,q,r,rfl,h⟩
  ·rfl
  ·rw[YM,h];rfl
 have hdg: ∀k,k<10→U2 ((48+k:Nat):Int)=true∧Q0 ((48+k:Nat):Int)=2:=by decide+kernel
 unfold Gx;show Zn s fin (AW d (each (bytesOf (U4 z))).1++T)=⟨2,⟨#[]⟩,z,d,true,(each (bytesOf (U4 z))).1.length⟩
 by_cases h1:z<10
 ·obtain⟨g1,g2⟩:=hdg z h1;rw[BR h1,MZ z h1];show Zn s fin ((48+z,0+d)::T)=⟨2,⟨#[]⟩,z,d,true,1⟩
  have e1:J9 100 0 ((48+z,0+d)::T)=z:=by rw[J9,if_pos g1,hT1];omega
  have e2:YM ((48+z,0+d)::T)=1:=by rw[YM,if_pos g1,hT2]
  rw[Zn,if_neg (by rw[g2];decide),if_pos g2,CP,e1,e2,decide_eq_true hz,decide_eq_true (show(1:Nat)=1 from rfl),Bool.or_true];show Uy.mk _ _ _ (0+d) _ _=_;rw[Nat.zero_add];rfl
 ·obtain⟨g1,g2⟩:=hdg (z/10) Qk;obtain⟨g3,g4⟩:=hdg (z % 10) Qk;rw[va h1 Qk,MY z Qk];show Zn s fin ((48+z/10,0+d)::(48+z % 10,1+d)::T)=⟨2,⟨#[]⟩,z,d,true,2⟩
  have e1:J9 100 0 ((48+z/10,0+d)::(48+z % 10,1+d)::T)=z:=by rw[J9,if_pos g1,J9,if_pos g3,hT1];omega
  have e2:YM ((48+z/10,0+d)::(48+z % 10,1+d)::T)=2:=by rw[YM,if_pos g1,YM,if_pos g3,hT2]
  rw[Zn,if_neg (by rw[g2];decide),if_pos g2,CP,e1,e2,decide_eq_true hz,decide_eq_true (show 48+z/10≠48 by omega),Bool.true_or];show Uy.mk _ _ _ (0+d) _ _=_;rw[Nat.zero_add];rfl
def DR(d:Nat):Pc→Uy
 |.m s=>⟨1,bytesOf s,0,d,true,(Gx (.m s)).length⟩
 |.w s=>⟨3,bytesOf s,0,d,true,(Gx (.w s)).length⟩
 |.n z=>⟨2,⟨#[]⟩,z,d,true,(Gx (.n z)).length⟩
 |.g s=>⟨3,bytesOf s,0,d,true,(Gx (.g s)).length⟩
 |.b=>Hd
 |.l=>Hd
def yb:Nat→List Pc→List Uy
 |_,[]=>[]
 |d,.b::l=>yb (d+1) l
 |d,.l::l=>yb (d+1) l
 |d,p::l=>DR d p::yb (d+p.tx.length) l
end
end Go.Proofs.YthjgndgnmkiaiaaGreatDoor
