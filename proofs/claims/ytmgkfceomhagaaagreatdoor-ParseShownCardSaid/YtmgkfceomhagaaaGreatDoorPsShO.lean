/-
  Tokens of a text that stands among blanks: the same ones, moved. Plain Lean.
-/
import Derived.Test.YtmgkfceomhagaaaGreatDoorPsShT
set_option maxRecDepth 10000
set_option linter.unusedSectionVars false
set_option linter.unusedVariables false
namespace Go.Proofs.YtmgkfceomhagaaaGreatDoor
open Go Go.RowKit
section

theorem BZ(a b:ByteArray)(i:Nat)(h:i<a.size):(a++b).get! i=a.get! i:=by
 show(a++b).data[i]! =a.data[i]!;have h':i<a.data.size:=h;rw[ByteArray.data_append,getElem!_def,getElem!_def,Array.getElem?_append_left h']
theorem OR(a b:ByteArray)(i:Nat):(a++b).get! (a.size+i)=b.get! i:=by
 show(a++b).data[a.size+i]! =b.data[i]!;rw[ByteArray.data_append,getElem!_def,getElem!_def,Array.getElem?_append_right (show a.data.size≤a.size+i from Nat.le_add_right _ _)];rw[show a.size+i-a.data.size=i from Nat.add_sub_cancel_left ..]
theorem Ap(a b:ByteArray)(p:Nat):Utf8.decode (a++b) (a.size+p)=Utf8.decode b p:=by
 unfold Utf8.decode;simp only[ByteArray.size_append,Nat.add_assoc,OR,Nat.add_lt_add_iff_left]
def iE(b0 b1:Nat):Nat×Nat:=
 let c:=(b0 % 32) *64+b1 % 64
 if c≥0x80 then(c,2)else(Utf8.runeError,1)
def iD(b0 b1 b2:Nat):Nat×Nat:=
 let c:=(b0 % 16) *4096+(b1 % 64) *64+b2 % 64
 if c≥0x800&&Utf8.valid c then(c,3)else(Utf8.runeError,1)
def iC(b0 b1 b2 b3:Nat):Nat×Nat:=
 let c:=(b0 % 8) *262144+(b1 % 64) *4096+(b2 % 64) *64+b3 % 64
 if c≥0x10000&&Utf8.valid c then(c,4)else(Utf8.runeError,1)
def yB(b0:Nat)(x2 x3 x4:Nat×Nat)(c1 c2 c3:Bool):Nat×Nat:=
 if b0<0x80 then(b0,1)
 else if b0/32==6&&c1 then x2
 else if b0/16==14&&c1&&c2 then x3
 else if b0/8==30&&c1&&c2&&c3 then x4
 else(Utf8.runeError,1)
def Xu(s:ByteArray)(i k:Nat):Nat:=(s.get! (i+k)).toNat
def KO(s:ByteArray)(i k:Nat):Bool:=decide (i+k<s.size)&&Xu s i k/64==2
theorem Ph(s:ByteArray)(i:Nat):Utf8.decode s i=yB (Xu s i 0) (iE (Xu s i 0) (Xu s i 1)) (iD (Xu s i 0) (Xu s i 1) (Xu s i 2)) (iC (Xu s i 0) (Xu s i 1) (Xu s i 2) (Xu s i 3)) (KO s i 1) (KO s i 2) (KO s i 3):=rfl
theorem qa{b0:Nat}{x2 x3 x4 y2 y3 y4:Nat×Nat}{c1 c2 c3 d1 d2 d3:Bool}(h:yB b0 x2 x3 x4 c1 c2 c3≠(Utf8.runeError,1))(h1:c1=true→d1=true∧y2=x2)(h2:c1=true→c2=true→d2=true∧y3=x3)(h3:c1=true→c2=true→c3=true→d3=true∧y4=x4):
  yB b0 y2 y3 y4 d1 d2 d3=yB b0 x2 x3 x4 c1 c2 c3:=by
 have k12:(b0/32==6)=true→(b0/16==14)=false∧(b0/8==30)=false:=by
  intro e
  have e:b0/32=6:=by simpa using e
  exact⟨by simp;omega,by simp;omega⟩
 have k23:(b0/16==14)=true→(b0/8==30)=false:=by
  intro e
  have e:b0/16=14:=by simpa using e
  simp;omega
 unfold yB at h ⊢
 by_cases hb:b0<0x80
 ·rw[if_pos hb,if_pos hb]
 ·rw[if_neg hb]at h;rw[if_neg hb,if_neg hb]
  generalize (b0/32==6)=k1 at *
  generalize (b0/16==14)=k2 at *
  generalize (b0/8==30)=k3 at *
  cases c1 with
  |false=>simp at h
  |true=>
   obtain⟨rfl,rfl⟩:=h1 rfl
   cases k1 with
   |true=>simp
   |false=>
    cases c2 with
    |false=>simp at h
    |true=>
     obtain⟨rfl,rfl⟩:=h2 rfl rfl
     cases k2 with
     |true=>simp
     |false=>
      cases c3 with
      |false=>simp at h
      |true=>
       obtain⟨rfl,rfl⟩:=h3 rfl rfl rfl;simp
theorem Pf(a b:ByteArray)(p:Nat)(hp:p<a.size)(ho: ¬((Utf8.decode a p).1=65533∧(Utf8.decode a p).2=1)):Utf8.decode (a++b) p=Utf8.decode a p:=by
 have gk: ∀k,p+k<a.size→Xu (a++b) p k=Xu a p k:=fun k h=>by unfold Xu;rw[BZ a b _ h]
 have ck: ∀k,KO a p k=true→KO (a++b) p k=true∧Xu (a++b) p k=Xu a p k:=fun k h=>by
  unfold KO at h ⊢;rw[Bool.and_eq_true]at h;have h1:=of_decide_eq_true h.1;rw[gk k h1];exact⟨by rw[h.2,decide_eq_true (show p+k<(a++b).size by rw[ByteArray.size_append];omega)];rfl,rfl⟩
 have hne:Utf8.decode a p≠(Utf8.runeError,1):=fun e=>ho (by rw[e];exact⟨rfl,rfl⟩);rw[Ph a p]at hne ⊢;rw[Ph (a++b) p,gk 0 Qq];refine qa hne (fun h1=>?_) (fun h1 h2=>?_) (fun h1 h2 h3=>?_)
 ·obtain⟨d1,e1⟩:=ck 1 h1;exact⟨d1,by rw[e1]⟩
 ·obtain⟨d1,e1⟩:=ck 1 h1;obtain⟨d2,e2⟩:=ck 2 h2;exact⟨d2,by rw[e1,e2]⟩
 ·obtain⟨d1,e1⟩:=ck 1 h1;obtain⟨d2,e2⟩:=ck 2 h2;obtain⟨d3,e3⟩:=ck 3 h3;exact⟨d3,by rw[e1,e2,e3]⟩

def AU(d:Nat)(r:List (Nat×Nat)):List (Nat×Nat):=r.map fun x=>(x.1,x.2+d)
theorem Lx(s:ByteArray): ∀f p g,s.size≤p+f→f≤g→Ub s g p=Ub s f p:=by
 intro f
 induction f with
 |zero=>intro p g h _;rw[Yk s g p Qq,Yk s 0 p Qq]
 |succ f ih=>
  intro p g h hg;obtain⟨g,rfl⟩: ∃g',g=g'+1:=⟨g-1,by omega⟩
  by_cases hp:p<s.size
  ·by_cases ho:(Utf8.decode s p).1=65533∧(Utf8.decode s p).2=1
   ·rw[Z4 s g p hp ho,Z4 s f p hp ho]
   ·have hw:=ZJ s p hp;rw[UR s g p hp ho,UR s f p hp ho,ih _ g Qq Qq]
  ·rw[Yk s _ p hp,Yk s _ p hp]
theorem IY(a b:ByteArray): ∀f p,Ub (a++b) f (a.size+p)=(AU a.size (Ub b f p).1,(Ub b f p).2.map (· +a.size)):=by
 intro f
 induction f with
 |zero=>intro p;rfl
 |succ f ih=>
  intro p;have hs:(a++b).size=a.size+b.size:=ByteArray.size_append
  by_cases hp:p<b.size
  ·by_cases ho:(Utf8.decode b p).1=65533∧(Utf8.decode b p).2=1
   ·rw[Z4 b f p hp ho,Z4 (a++b) f (a.size+p) Qq (by rw[Ap];exact ho)];simp[AU,Nat.add_comm]
   ·rw[UR b f p hp ho,UR (a++b) f (a.size+p) Qq (by rw[Ap];exact ho),Ap,Nat.add_assoc,ih];simp[AU,Nat.add_comm]
  ·rw[Yk b _ p hp,Yk (a++b) _ _ Qq];rfl
theorem Pb(a b:ByteArray): ∀f p g,a.size≤p+f→p≤a.size→(Ub a f p).2=none→f+b.size≤g→Ub (a++b) g p=((Ub a f p).1++AU a.size (Ub b b.size 0).1,(Ub b b.size 0).2.map (· +a.size)):=by
 intro f
 induction f with
 |zero=>
  intro p g h hp _ hg
  have e:p=a.size+0:=by omega
  rw[Yk a 0 p Qq,e,IY,Lx b b.size 0 g Qq Qq];rfl
 |succ f ih=>
  intro p g h hp hn hg
  by_cases hlt:p<a.size
  ·by_cases ho:(Utf8.decode a p).1=65533∧(Utf8.decode a p).2=1
   ·rw[Z4 a f p hlt ho]at hn;cases hn
   ·have hw:=ZJ a p hlt;have hs:(a++b).size=a.size+b.size:=ByteArray.size_append;obtain⟨g,rfl⟩: ∃g',g=g'+1:=⟨g-1,by omega⟩;rw[UR a f p hlt ho]at hn;have hd:=Pf a b p hlt ho;rw[UR a f p hlt ho,UR (a++b) g p Qq (by rw[hd];exact ho),hd,ih _ g Qq Qq hn Qq];rfl
  ·have e:p=a.size+0:=by omega
   rw[Yk a _ p hlt,e,IY,Lx b b.size 0 g Qq Qq];rfl
theorem yv(a b:ByteArray)(h:(each a).2=none):each (a++b)=((each a).1++AU a.size (each b).1,(each b).2.map (· +a.size)):=
 Pb a b a.size 0 _ Qq Qq h (by rw[ByteArray.size_append];omega)

theorem BS(d:Nat)(r:List (Nat×Nat)):(AU d r).length=r.length:=by unfold AU;rw[List.length_map]
theorem Lt(a:ByteArray)(i j:Nat)(h:a.size≤i∨j=0):a.extract i j=ByteArray.empty:=by
 apply ByteArray.ext;rw[ByteArray.data_extract];apply Array.eq_empty_of_size_eq_zero;rw[Array.size_extract];have:a.data.size=a.size:=rfl;omega
theorem DR(g s R:ByteArray)(p q:Nat)(hq:q≤s.size):(g++s++R).extract (p+g.size) (q+g.size)=s.extract p q:=by
 have hs:(g++s).size=g.size+s.size:=ByteArray.size_append;rw[ByteArray.extract_append,ByteArray.extract_append,Lt R _ _ (.inr Qq),Lt g _ _ (.inl Qq),Nat.add_sub_cancel,Nat.add_sub_cancel];simp
theorem wW(a b:Nat)(r:List (Nat×Nat)):AU a (AU b r)=AU (b+a) r:=by
 unfold AU;rw[List.map_map]
 congr 1
 funext x
 simp[Nat.add_assoc]
theorem Fq(a b:List Nat):bytesOf (a++b)=bytesOf a++bytesOf b:=by
 apply ByteArray.ext;rw[ByteArray.data_append];unfold bytesOf;simp
end
section

def OJ(p:Pc):List (Nat×Nat):=(each (bytesOf p.tx)).1
def EU:Nat→List Pc→List (Nat×Nat)
 |_,[]=>[]
 |d,p::l=>AU d (OJ p)++EU (d+p.tx.length) l
theorem Zj(l:List Nat):(bytesOf l).size=l.length:=by simp[bytesOf,ByteArray.size]
theorem xk(d:Nat)(a b:List (Nat×Nat)):AU d (a++b)=AU d a++AU d b:=by unfold AU;rw[List.map_append]
theorem jy: ∀(l:List Pc) (d e:Nat),AU e (EU d l)=EU (d+e) l
 |[],d,e=>rfl
 |p::l,d,e=>by
  rw[EU,EU,xk,wW,jy l,Nat.add_right_comm]
theorem Lw: ∀l:List Pc,(∀p∈l,(each (bytesOf p.tx)).2=none)→each (bytesOf (Uc l))=(EU 0 l,none)
 |[],_=>by rw[show Uc []=[]from rfl];decide+kernel
 |p::l,h=>by
  have h1:=Lw l fun q hq=>h q (List.mem_cons_of_mem _ hq);rw[Jb,Fq,yv _ _ (h p Q3),h1,EU,Zj]
  have h0:AU 0 (OJ p)=OJ p:=by unfold AU;simp
  rw[h0,jy,Nat.zero_add];rfl
end
section

theorem Cj(s:ByteArray): ∀(f p:Nat) (x:Nat×Nat),x∈(Ub s f p).1→p≤x.2:=by
 intro f
 induction f with
 |zero=>intro p x hx;cases hx
 |succ f ih=>
  intro p x hx;rw[Ub]at hx
  split at hx
  ·split at hx
   ·cases hx
   ·rcases List.mem_cons.1 hx with rfl|hx
    ·exact Nat.le_refl _
    ·exact Nat.le_trans (Nat.le_add_right _ _) (ih _ _ hx)
  ·cases hx
theorem MW(s:ByteArray)(j:Nat)(x:Nat×Nat)(r:List (Nat×Nat))(h:(each s).1.drop j=x::r)(h0:x.2=0):j=0:=by
 cases j with
 |zero=>rfl
 |succ j=>
  exfalso
  unfold each at h
  cases hf:s.size with
  |zero=>rw[hf]at h;simp[Ub]at h
  |succ f=>
   rw[hf,Ub]at h
   split at h
   ·rename_i hp
    split at h
    ·simp at h
    ·rw[List.drop_succ_cons]at h;have hx:x∈(Ub s f (0+(Utf8.decode s 0).2)).1:=List.mem_of_mem_drop (by rw[h];exact List.mem_cons_self);have h1:=Cj s _ _ _ hx;have h2:=(ZJ s 0 hp).1;omega
   ·simp at h
end
section

theorem MX(s:ByteArray): ∀(f p:Nat) (x:Nat×Nat),x∈(Ub s f p).1→x.2<s.size:=by
 intro f
 induction f with
 |zero=>intro p x hx;cases hx
 |succ f ih=>
  intro p x hx;rw[Ub]at hx
  split at hx
  ·split at hx
   ·cases hx
   ·rcases List.mem_cons.1 hx with rfl|hx
    ·assumption
    ·exact ih _ _ hx
  ·cases hx
theorem D7: ∀r:List (Nat×Nat),JM r=r.length→ ∀x∈r,Zx x.1=true
 |[],_,x,hx=>nomatch hx
 |(c,q)::r,h,x,hx=>by
  rw[JM]at h
  split at h
  ·rename_i hc;rcases List.mem_cons.1 hx with rfl|hx
   ·exact hc
   ·exact D7 r (by rw[List.length_cons]at h;omega) x hx
  ·rw[List.length_cons]at h;omega
structure iO(s:List Nat):Prop where
 ex: ∃c r,(each (bytesOf s)).1=(c,0)::r∧QJ c=1
 more: ∀x∈(each (bytesOf s)).1,Zx x.1=true
 ok:(each (bytesOf s)).2=none
 by':Bytes s
 cn:count (bytesOf s)≤12
theorem jd(b:ByteArray)(i j:Nat):(b.extract i j).size=min j b.size-i:=by rw[ByteArray.size_extract]
theorem Ah{s:List Nat}(h:Yr s=true):iO s∧Zg ZM (bytesOf s)=false:=by
 unfold Yr at h;simp only[Bool.and_eq_true,decide_eq_true_eq]at h;obtain⟨h1,h2,h3⟩:=h
 by_cases hl:2000<(bytesOf s).size
 ·rw[Ij hl]at h1;exact absurd h1 (show¬(3:Int)=0 by decide)
 rcases hx:Vs (bytesOf s) (Jq (bytesOf s) (each (bytesOf s)).2) ((each (bytesOf s)).1.length+1) ((each (bytesOf s)).1.drop (QW false (each (bytesOf s)).1))with⟨a,p⟩
 cases a with
 |none=>rw[Bu hl hx]at h1;exact absurd h1 (show¬(2:Int)=0 by decide)
 |some a=>
  cases hq:(each (bytesOf s)).2 with
  |some q=>rw[Bs hl hx hq]at h1;exact absurd h1 (show¬(2:Int)=0 by decide)
  |none=>
   rw[LG hl hx hq]at h2 h3
   have ha:a.length=1:=by
    simp only[List.length_append,List.length_cons,List.length_nil]at h2;omega
   obtain⟨t,rfl⟩:=List.length_eq_one_iff.1 ha
   have h3:t.kind=1∧Y4 t.text=s:=by simpa using h3
   obtain⟨hk,ht⟩:=h3
   generalize hL:(each (bytesOf s)).1=L at *
   generalize hj:QW false L=j at *
   rw[hq]at hx;have hf:Jq (bytesOf s) none=(bytesOf s).size:=rfl;rw[hf]at hx
   cases hr:L.drop j with
   |nil=>rw[hr,Vs]at hx;cases hx
   |cons x r=>
    rw[hr,Vs]at hx
    split at hx
    ·rename_i hok
     injection hx with hx _
     generalize (Vs (bytesOf s) (bytesOf s).size L.length _).1=y at hx
     cases y with
     |none=>cases hx
     |some l1=>
      have e:Z7 (bytesOf s) (bytesOf s).size (x::r)=t:=by
       rw[Option.map_some]at hx
       injection hx with hx
       injection hx
      obtain⟨c,q⟩:=x
      have hv:Z7 (bytesOf s) (bytesOf s).size ((c,q)::r)=if QJ c=1 then I9 (bytesOf s) (bytesOf s).size ((c,q)::r)else if QJ c=2 then BN (bytesOf s).size c ((c,q)::r)else if QJ c=4 then FV (bytesOf s).size ((c,q)::r)else I7:=rfl
      rw[e]at hv hok
      have c1:QJ c=1:=by
       by_cases c1:QJ c=1
       ·exact c1
       ·exfalso
        rw[if_neg c1]at hv;rw[hv]at hk
        split at hk
        ·exact absurd hk (show¬(2:Int)=1 by decide)
        ·split at hk
         ·unfold FV at hk
          split at hk
          ·exact absurd hk (show¬(3:Int)=1 by decide)
          ·exact absurd hk (show¬(0:Int)=1 by decide)
         ·exact absurd hk (show¬(0:Int)=1 by decide)
      rw[if_pos c1]at hv;subst hv
      have hw:Zg ZM ((bytesOf s).extract (Q5 (bytesOf s).size ((c,q)::r) 0) (Q5 (bytesOf s).size ((c,q)::r) (JM ((c,q)::r))))=false:=by
       cases hh:Zg ZM ((bytesOf s).extract (Q5 (bytesOf s).size ((c,q)::r) 0) (Q5 (bytesOf s).size ((c,q)::r) (JM ((c,q)::r))))with
       |false=>rfl
       |true=>
        have hk:(if Zg ZM ((bytesOf s).extract (Q5 (bytesOf s).size ((c,q)::r) 0) (Q5 (bytesOf s).size ((c,q)::r) (JM ((c,q)::r))))then(3:Int)else 1)=1:=hk;rw[hh]at hk;exact absurd hk Qz
      have hcn:=of_decide_eq_true hok;have ht:Y4 ((bytesOf s).extract q (Q5 (bytesOf s).size ((c,q)::r) (JM ((c,q)::r))))=s:=ht;have hw:Zg ZM ((bytesOf s).extract q (Q5 (bytesOf s).size ((c,q)::r) (JM ((c,q)::r))))=false:=hw;have hcn:count ((bytesOf s).extract q (Q5 (bytesOf s).size ((c,q)::r) (JM ((c,q)::r))))≤12:=hcn
      have hby:Bytes s:=by rw[←ht];exact Xq _
      have hbx:(bytesOf s).extract q (Q5 (bytesOf s).size ((c,q)::r) (JM ((c,q)::r)))=bytesOf s:=by
       have:=congrArg bytesOf ht
       rwa [Zv]at this
      have hin: ∀x∈L,x.2<(bytesOf s).size:=fun x hx=>MX _ _ _ x (by rw[←hL]at hx;exact hx);have hqi:q<(bytesOf s).size:=hin (c,q) (List.mem_of_mem_drop (i:=j) (by rw[hr];exact List.mem_cons_self));have hsz:=congrArg ByteArray.size hbx;rw[jd]at hsz
      have hq0:q=0:=by omega
      subst hq0;have hj0:=MW (bytesOf s) j (c,0) r (by rw[hL];exact hr) rfl;subst hj0;rw[List.drop_zero]at hr;subst hr
      have hm:JM ((c,0)::r)=((c,0)::r).length:=by
       refine Nat.le_antisymm (IA _) (Nat.le_of_not_lt fun hlt=>?_)
       have hpl:Q5 (bytesOf s).size ((c,0)::r) (JM ((c,0)::r))<(bytesOf s).size:=by
        unfold Q5;rw[List.getElem?_eq_getElem hlt];exact hin _ (List.getElem_mem _)
       omega
      rw[hbx]at hw hcn;exact⟨⟨⟨c,r,hL,c1⟩,by rw[hL];exact D7 _ hm,hq,hby,hcn⟩,hw⟩
    ·cases hx
end
section
variable {s:List Nat} {z:Nat}

def zo:List (List Nat):=[[116,114,117,101],[102,97,108,115,101],[101,120,48],[101,120,49],[101,120,50],[97,108,108,48],[97,108,108,49],[97,108,108,50],[105,110],[110,111,116,105,110],[115,117,98],[117,110,105,111,110],[105,110,116,101,114]]
def Rn:List (List Nat):=[[60,61,62],[61,62],[60,61],[126,61],[61],[126],[60],[38],[124],[40],[41],[123],[125],[44],[59],[58],[43],[92]]
def zl:Pc→Bool
 |.m s=>Yr s
 |.w s=>decide (s∈zo)
 |.n z=>decide (z≤99)
 |.g s=>decide (s∈Rn)
 |.b=>true
def zG:List Pc→Bool
 |[]=>true
 |.b::_=>true
 |.g _::_=>true
 |_=>false
def eo:List Pc→Bool
 |.g s::_=>decide (s.head? =some 61)
 |_=>false
def fR:List Pc→Bool
 |.b::_=>true
 |_=>false
def aF:List Pc→Bool
 |.b:: .n z::_=>decide (z≠0)
 |_=>false
def wR:Pc→List Pc→Bool
 |.b,_=>true
 |.g s,l=>if s=[126]then !eo l else if s=[60]∨s=[61]∨s=[60,61]then fR l else if s=[43]then aF l else true
 |_,l=>zG l
def I6:List Pc→Bool
 |[]=>true
 |p::l=>zl p&&(wR p l&&I6 l)
def iY(s:List Nat):Bool:=match each (bytesOf s)with
 |((c,0)::r,none)=>decide (QJ c=1)&&((((c,0)::r).all fun x=>Zx x.1)&&(decide (∀x∈s,x<256)&&(decide (count (bytesOf s)≤12)&&Zg ZM (bytesOf s))))
 |_=>false
theorem qD: ∀s∈zo,iY s=true:=by decide+kernel
theorem EI(h:s∈zo):iO s∧Zg ZM (bytesOf s)=true:=by
 have h:=qD s h;unfold iY at h
 split at h
 ·rename_i c r he;simp only[Bool.and_eq_true,decide_eq_true_eq,List.all_eq_true]at h;obtain⟨h1,h2,h3,h4,h5⟩:=h;exact⟨⟨⟨c,r,by rw[he],h1⟩,by rw[he];exact h2,by rw[he],h3,h4⟩,h5⟩
 ·cases h
theorem Nx: ∀s∈Rn,each (bytesOf s)=(s.zipIdx,none):=by decide+kernel
theorem Ty: ∀z,z<10→each (bytesOf [48+z])=([(48+z,0)],none):=by decide+kernel
theorem Tx: ∀z,z<100→each (bytesOf [48+z/10,48+z % 10])=([(48+z/10,0),(48+z % 10,1)],none):=by decide+kernel
theorem Pe(h:z<10):Y1 z=[48+z]:=by rw[Y1,if_pos h]
theorem y8(h: ¬z<10)(h':z<100):Y1 z=[48+z/10,48+z % 10]:=by
 rw[Y1,if_neg h,Pe Qq];rfl
def kg:Pc→Nat→Prop
 |.m _,c=>QJ c=1
 |.w _,c=>QJ c=1
 |.n _,c=>UW c=true
 |.g s,c=>s.head? =some c∧s∈Rn
 |.b,c=>c=32
theorem XK{p:Pc}(h:zl p=true):(each (bytesOf p.tx)).2=none∧ ∃c r,OJ p=(c,0)::r∧kg p c:=by
 cases p with
 |m s=>obtain⟨⟨⟨c,r,h1,h2⟩,h3,h4,h5,h6⟩,h7⟩:=Ah h;exact⟨h4,c,r,h1,h2⟩
 |w s=>obtain⟨⟨⟨c,r,h1,h2⟩,h3,h4,h5,h6⟩,h7⟩:=EI (of_decide_eq_true h);exact⟨h4,c,r,h1,h2⟩
 |n z=>
  have h:=of_decide_eq_true h;unfold OJ;show(each (bytesOf (Y1 z))).2=none∧ ∃c r,(each (bytesOf (Y1 z))).1=(c,0)::r∧UW c=true
  by_cases h1:z<10
  ·rw[Pe h1,Ty z h1];exact⟨rfl,_,_,rfl,decide_eq_true Qq⟩
  ·rw[y8 h1 Qq,Tx z Qq];exact⟨rfl,_,_,rfl,decide_eq_true Qq⟩
 |g s=>
  have h:=of_decide_eq_true h;unfold OJ;show(each (bytesOf s)).2=none∧ ∃c r,(each (bytesOf s)).1=(c,0)::r∧s.head? =some c∧s∈Rn;rw[Nx s h]
  cases s with
  |nil=>exact absurd h Qz
  |cons c s=>exact⟨rfl,c,_,rfl,rfl,h⟩
 |b=>exact⟨by decide+kernel,32,[],by decide+kernel,rfl⟩
theorem Ho{p:Pc}{l:List Pc}{d c:Nat}{r:List (Nat×Nat)}(h:OJ p=(c,0)::r):EU d (p::l)=(c,d)::(AU d r++EU (d+p.tx.length) l):=by
 rw[EU,h,AU,List.map_cons,Nat.zero_add];rfl
def ax(s:List Nat):Bool:=s.head?.all fun c=> !Zx c&&(!UW c&&(decide (QJ c=4)&&(!YE c&&decide (c≠35))))
theorem jf: ∀s∈Rn,ax s=true:=by decide+kernel
theorem Io: ∀s∈Rn,∀c,s.head? =some c→Zx c=false∧UW c=false∧QJ c=4∧YE c=false∧c≠35:=by
 intro s hs c hc;have h:=jf s hs;unfold ax at h;rw[hc]at h;have h:=(show _=true from h);simp at h;obtain⟨h1,h2,h3,h4,h5⟩:=h;exact⟨h1,h2,h3,h4,by omega⟩
theorem N0{l:List Pc}(hl:I6 l=true)(h:zG l=true)(d:Nat):EU d l=[]∨ ∃c q r,EU d l=(c,q)::r∧Zx c=false∧UW c=false:=by
 cases l with
 |nil=>exact .inl rfl
 |cons p l=>
  rw[I6,Bool.and_eq_true]at hl;obtain⟨_,c,r,hr,hc⟩:=XK hl.1;refine .inr ⟨c,d,_,Ho hr,?_⟩
  cases p with
  |b=>rw[show c=32 from hc];decide
  |g s=>have:=Io s hc.2 c hc.1;exact⟨this.1,this.2.1⟩
  |m s=>cases h
  |w s=>cases h
  |n s=>cases h
theorem Ba{c:Nat}(h:QJ c=1):c≠61:=fun e=>by rw[e]at h;exact absurd h Qz
theorem xA{l:List Pc}(hl:I6 l=true)(h:eo l=false)(d:Nat):EU d l=[]∨ ∃c q r,EU d l=(c,q)::r∧c≠61:=by
 cases l with
 |nil=>exact .inl rfl
 |cons p l=>
  rw[I6,Bool.and_eq_true]at hl;obtain⟨_,c,r,hr,hc⟩:=XK hl.1;refine .inr ⟨c,d,_,Ho hr,?_⟩
  cases p with
  |b=>rw[show c=32 from hc];decide
  |g s=>
   intro e;rw[e]at hc;have h:=of_decide_eq_false h;exact h hc.1
  |m s=>exact Ba hc
  |w s=>exact Ba hc
  |n s=>
   intro e;rw[e]at hc;exact absurd (show UW ((61:Nat):Int)=true from hc) Qz
theorem xP{l:List Pc}(h:fR l=true)(d:Nat): ∃r,EU d l=(32,d)::r:=by
 cases l with
 |nil=>cases h
 |cons p l=>
  cases p with
  |b=>exact⟨_,Ho (r:=[]) (by decide+kernel)⟩
  |m s=>cases h
  |w s=>cases h
  |n s=>cases h
  |g s=>cases h
theorem D6: ∀(A T:List (Nat×Nat)),(∀x∈A,Zx x.1=true)→(T=[]∨ ∃c q r,T=(c,q)::r∧Zx c=false)→JM (A++T)=A.length
 |[],T,_,h=>by
  rcases h with rfl|⟨c,q,r,rfl,h⟩
  ·rfl
  ·rw[List.nil_append,JM,h];rfl
 |(c,q)::A,T,hA,h=>by
  rw[List.cons_append,JM,if_pos (hA (c,q) Q3),D6 A T (fun x hx=>hA x (by simp[hx])) h];rfl
theorem uo{A:List (Nat×Nat)}(h: ∀x∈A,Zx x.1=true)(d:Nat): ∀x∈AU d A,Zx x.1=true:=by
 intro x hx;unfold AU at hx;obtain⟨y,hy,rfl⟩:=List.mem_map.1 hx;exact h y hy
theorem jQ{l:List Pc}(hl:I6 l=true)(d fin:Nat)(hf:fin=d+(Uc l).length):Q5 fin (EU d l) 0=d:=by
 cases l with
 |nil=>rw[hf];rfl
 |cons p l=>
  rw[I6,Bool.and_eq_true]at hl;obtain⟨_,c,r,hr,hc⟩:=XK hl.1;rw[Ho hr];rfl
theorem R3(fin n:Nat)(A T:List (Nat×Nat))(h:n=A.length):Q5 fin (A++T) n=Q5 fin T 0:=by
 subst h;unfold Q5;rw[List.getElem?_append_right (Nat.le_refl _),Nat.sub_self]
theorem Oq(a s b:List Nat):(bytesOf (a++(s++b))).extract a.length (a.length+s.length)=bytesOf s:=by
 rw[Fq,Fq,←ByteArray.append_assoc];have h:=DR (bytesOf a) (bytesOf s) (bytesOf b) 0 s.length (by rw[Zj];exact Nat.le_refl _);rw[Zj,Nat.zero_add,Nat.add_comm s.length]at h;rw[h,←Zj s];exact ByteArray.extract_zero_size
theorem GD{W a b:List Nat}{T:List (Nat×Nat)}(hW:W=a++(s++b))(h:iO s)(hT:T=[]∨ ∃c q r,T=(c,q)::r∧Zx c=false)(hp:Q5 W.length T 0=a.length+s.length):
  Z7 (bytesOf W) W.length (AU a.length (each (bytesOf s)).1++T)=⟨if Zg ZM (bytesOf s)then 3 else 1,bytesOf s,0,a.length,true,(each (bytesOf s)).1.length⟩:=by
 obtain⟨⟨c,r,h1,h2⟩,h3,h4,h5,h6⟩:=h;have hm:=D6 (AU a.length (each (bytesOf s)).1) T (uo h3 _) hT
 have e:AU a.length (each (bytesOf s)).1++T=(c,0+a.length)::(AU a.length r++T):=by rw[h1];rfl
 have hp1:Q5 W.length (AU a.length (each (bytesOf s)).1++T) 0=a.length:=by rw[e];exact Nat.zero_add _
 have hp2:Q5 W.length (AU a.length (each (bytesOf s)).1++T) (JM (AU a.length (each (bytesOf s)).1++T))=a.length+s.length:=by rw[hm,R3 _ _ _ _ rfl,hp]
 have hn:I9 (bytesOf W) W.length (AU a.length (each (bytesOf s)).1++T)=⟨if Zg ZM (bytesOf s)then 3 else 1,bytesOf s,0,a.length,true,(each (bytesOf s)).1.length⟩:=by
  unfold I9;rw[hp1,hp2,hm,hW,Oq,BS,decide_eq_true h6]
 rw[←hn,e,Z7,if_pos h2]
theorem Mg(hs:s∈Rn)(d:Nat)(T:List (Nat×Nat))(h1:s=[126]→T=[]∨ ∃c q r,T=(c,q)::r∧c≠61)(h2:s=[60]∨s=[61]∨s=[60,61]→ ∃q r,T=(32,q)::r):
  VW (AU d s.zipIdx++T)=some (bytesOf s):=by
 have hb: ∀b:UInt8,b.toNat=61→ ∀r l,ZB ((32,r)::l) [b]=false:=fun b hb r l=>by simp[ZB,hb]
 simp only[Rn,List.mem_cons,List.not_mem_nil,or_false]at hs;rcases hs with rfl|rfl|rfl|rfl|rfl|rfl|rfl|rfl|rfl|rfl|rfl|rfl|rfl|rfl|rfl|rfl|rfl|rfl
 case inr.inr.inl=>
  obtain⟨q,r,rfl⟩:=h2 Q3;rfl
 case inr.inr.inr.inr.inl=>
  obtain⟨q,r,rfl⟩:=h2 Q3;rfl
 case inr.inr.inr.inr.inr.inr.inl=>
  obtain⟨q,r,rfl⟩:=h2 Q3;rfl
 case inr.inr.inr.inr.inr.inl=>
  rcases h1 rfl with rfl|⟨c,q,r,rfl,hc⟩
  ·rfl
  ·have h3:ZB ((126,0+d)::(c,q)::r) [126,61]=false:=by simp[ZB,hc]
   show ZZ.find? (fun sg=>ZB ((126,0+d)::(c,q)::r) sg.data.toList)=_;simp only[ZZ,List.find?]
   rw[show ZB ((126,0+d)::(c,q)::r) (ByteArray.mk #[60,61,62]).data.toList=false from rfl,show ZB ((126,0+d)::(c,q)::r) (ByteArray.mk #[61,62]).data.toList=false from rfl,show ZB ((126,0+d)::(c,q)::r) (ByteArray.mk #[60,61]).data.toList=false from rfl,show ZB ((126,0+d)::(c,q)::r) (ByteArray.mk #[126,61]).data.toList=false from h3,show ZB ((126,0+d)::(c,q)::r) (ByteArray.mk #[61]).data.toList=false from rfl,show ZB ((126,0+d)::(c,q)::r) (ByteArray.mk #[126]).data.toList=true from by cases r<;>rfl]
   rfl
 all_goals(cases T<;>rfl)
theorem ud(hz:z≤99)(s:ByteArray)(fin d:Nat)(T:List (Nat×Nat))(hT:T=[]∨ ∃c q r,T=(c,q)::r∧UW c=false):
  Z7 s fin (AU d (OJ (.n z))++T)=⟨2,⟨#[]⟩,z,d,true,(OJ (.n z)).length⟩:=by
 have hT1: ∀a,Ua 100 a T=a:=fun a=>by
  rcases hT with rfl|⟨c,q,r,rfl,h⟩
  ·rfl
  ·rw[Ua,h];rfl
 have hT2:Zh T=0:=by
  rcases hT with rfl|⟨c,q,r,rfl,h⟩
  ·rfl
  ·rw[Zh,h];rfl
 have hdg: ∀k,k<10→UW ((48+k:Nat):Int)=true∧QJ ((48+k:Nat):Int)=2:=by decide+kernel
 unfold OJ;show Z7 s fin (AU d (each (bytesOf (Y1 z))).1++T)=⟨2,⟨#[]⟩,z,d,true,(each (bytesOf (Y1 z))).1.length⟩
 by_cases h1:z<10
 ·obtain⟨g1,g2⟩:=hdg z h1;rw[Pe h1,Ty z h1];show Z7 s fin ((48+z,0+d)::T)=⟨2,⟨#[]⟩,z,d,true,1⟩
  have e1:Ua 100 0 ((48+z,0+d)::T)=z:=by rw[Ua,if_pos g1,hT1];omega
  have e2:Zh ((48+z,0+d)::T)=1:=by rw[Zh,if_pos g1,hT2]
  rw[Z7,if_neg (by rw[g2];decide),if_pos g2,BN,e1,e2,decide_eq_true hz,decide_eq_true (show(1:Nat)=1 from rfl),Bool.or_true];show US.mk _ _ _ (0+d) _ _=_;rw[Nat.zero_add];rfl
 ·obtain⟨g1,g2⟩:=hdg (z/10) Qq;obtain⟨g3,g4⟩:=hdg (z % 10) Qq;rw[y8 h1 Qq,Tx z Qq];show Z7 s fin ((48+z/10,0+d)::(48+z % 10,1+d)::T)=⟨2,⟨#[]⟩,z,d,true,2⟩
  have e1:Ua 100 0 ((48+z/10,0+d)::(48+z % 10,1+d)::T)=z:=by rw[Ua,if_pos g1,Ua,if_pos g3,hT1];omega
  have e2:Zh ((48+z/10,0+d)::(48+z % 10,1+d)::T)=2:=by rw[Zh,if_pos g1,Zh,if_pos g3,hT2]
  rw[Z7,if_neg (by rw[g2];decide),if_pos g2,BN,e1,e2,decide_eq_true hz,decide_eq_true (show 48+z/10≠48 by omega),Bool.true_or];show US.mk _ _ _ (0+d) _ _=_;rw[Nat.zero_add];rfl
def CK(d:Nat):Pc→US
 |.m s=>⟨1,bytesOf s,0,d,true,(OJ (.m s)).length⟩
 |.w s=>⟨3,bytesOf s,0,d,true,(OJ (.w s)).length⟩
 |.n z=>⟨2,⟨#[]⟩,z,d,true,(OJ (.n z)).length⟩
 |.g s=>⟨3,bytesOf s,0,d,true,(OJ (.g s)).length⟩
 |.b=>I7
def vb:Nat→List Pc→List US
 |_,[]=>[]
 |d,.b::l=>vb (d+1) l
 |d,p::l=>CK d p::vb (d+p.tx.length) l
end
end Go.Proofs.YtmgkfceomhagaaaGreatDoor
