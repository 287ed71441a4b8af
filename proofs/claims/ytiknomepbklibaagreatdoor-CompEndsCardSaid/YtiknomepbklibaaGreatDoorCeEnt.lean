/-
  Atoms: the program's machines, plainly; they accept what the document's atoms accept.
-/
import Derived.Test.YtiknomepbklibaaGreatDoorCeCmP
set_option linter.unusedSimpArgs false
set_option linter.unusedVariables false
section
namespace Go.Proofs.YtiknomepbklibaaGreatDoor
set_option maxHeartbeats 2000000
variable {s:Nat}

def Jm(o:List Nat)(n s:Nat)(x y z:Bool):Int:=
 if o=[116,114,117,101]then 0
 else if o=[115,117,98]then(if(!x||y)=true then 0 else-1)
 else if o=[110,111,110,101]then(if(!x)=true then 0 else-1)
 else if o=[117,110,105,111,110]then(if(z==(x||y))=true then 0 else-1)
 else if o=[105,110,116,101,114]then(if(z==(x&&y))=true then 0 else-1)
 else if o=[109,105,110,117,115]then(if(z==(x&& !y))=true then 0 else-1)
 else if o=[115,105,110,103]then(if x=false then((s:Nat):Int)else if s=0 then 1 else-1)
 else if o=[102,108,97,103]then(if s=1∨x=true then 1 else-1)
 else if o=[108,101,115,115]then(if x=false∧y=false then((s:Nat):Int)else if s=0∧x=true∧y=false then 1 else if s=1∧y=true∧x=false then 2 else-1)
 else if o=[112,108,117,115]then(if s=0∧x=true∧y=decide (n=0)then 1 else if(s=0∧x=false∧y=false)∨(s=n+1∧x=false∧y=false)then((s:Nat):Int)else if 0<s∧s<n+1∧x=false∧y=decide (s=n)then((s+1:Nat):Int)else-1)
 else(if s<n+1∧x=decide (s=n)then((s+1:Nat):Int)else if s=n+1∧x=false then((n+1:Nat):Int)else-1)
def QR(o:List Nat)(n:Nat):Nat:=
 if o=[115,105,110,103]∨o=[102,108,97,103]then 1 else if o=[108,101,115,115]then 2 else if o=[112,108,117,115]∨o=[110,117,109]then n+1 else 0
abbrev Qp(o:List Nat)(n:Nat):Nat:=QR o n+1
def Wm(o:List Nat):Prop:=o=[116,114,117,101]∨o=[115,117,98]∨o=[110,111,110,101]∨o=[117,110,105,111,110]∨o=[105,110,116,101,114]∨o=[109,105,110,117,115]∨o=[115,105,110,103]∨o=[102,108,97,103]∨o=[108,101,115,115]∨o=[112,108,117,115]∨o=[110,117,109]
def Vg(b:Bool):Nat:=if b then 1 else 0
theorem qH{o:List Nat}(h:Wm o){n:Nat}(hn:n≤20)(hs:s<Qp o n)(x y z:Bool):(Jm o n s x y z= -1∧QM o n s (Vg x) (Vg y) (Vg z)=30)∨ ∃t:Nat,Jm o n s x y z=((t:Nat):Int)∧t<Qp o n∧QM o n s (Vg x) (Vg y) (Vg z)=t:=by
 have hst:Qp o n≤22:=by unfold Qp QR;split<;>(try split)<;>(try split)<;>omega
 have h30: ¬s=30:=by omega
 rcases h with rfl|rfl|rfl|rfl|rfl|rfl|rfl|rfl|rfl|rfl|rfl
 ·clear hst;simp[Qp,QR]at hs;simp only[Jm,QM,Qp,QR,if_neg h30];cases x<;>cases y<;>cases z<;>simp[Vg]<;>first|omega|(rcases(show s=0∨s=1∨s=2 by omega)with rfl|rfl|rfl<;>first|omega|(simp;done)|simp_all)|simp_all
 ·clear hst;simp[Qp,QR]at hs;simp only[Jm,QM,Qp,QR,if_neg h30];cases x<;>cases y<;>cases z<;>simp[Vg]<;>first|omega|(rcases(show s=0∨s=1∨s=2 by omega)with rfl|rfl|rfl<;>first|omega|(simp;done)|simp_all)|simp_all
 ·clear hst;simp[Qp,QR]at hs;simp only[Jm,QM,Qp,QR,if_neg h30];cases x<;>cases y<;>cases z<;>simp[Vg]<;>first|omega|(rcases(show s=0∨s=1∨s=2 by omega)with rfl|rfl|rfl<;>first|omega|(simp;done)|simp_all)|simp_all
 ·clear hst;simp[Qp,QR]at hs;simp only[Jm,QM,Qp,QR,if_neg h30];cases x<;>cases y<;>cases z<;>simp[Vg]<;>first|omega|(rcases(show s=0∨s=1∨s=2 by omega)with rfl|rfl|rfl<;>first|omega|(simp;done)|simp_all)|simp_all
 ·clear hst;simp[Qp,QR]at hs;simp only[Jm,QM,Qp,QR,if_neg h30];cases x<;>cases y<;>cases z<;>simp[Vg]<;>first|omega|(rcases(show s=0∨s=1∨s=2 by omega)with rfl|rfl|rfl<;>first|omega|(simp;done)|simp_all)|simp_all
 ·clear hst;simp[Qp,QR]at hs;simp only[Jm,QM,Qp,QR,if_neg h30];cases x<;>cases y<;>cases z<;>simp[Vg]<;>first|omega|(rcases(show s=0∨s=1∨s=2 by omega)with rfl|rfl|rfl<;>first|omega|(simp;done)|simp_all)|simp_all
 ·clear hst;simp[Qp,QR]at hs;simp only[Jm,QM,Qp,QR,if_neg h30];cases x<;>cases y<;>cases z<;>simp[Vg]<;>first|omega|(rcases(show s=0∨s=1∨s=2 by omega)with rfl|rfl|rfl<;>first|omega|(simp;done)|simp_all)|simp_all
 ·clear hst;simp[Qp,QR]at hs;simp only[Jm,QM,Qp,QR,if_neg h30];cases x<;>cases y<;>cases z<;>simp[Vg]<;>first|omega|(rcases(show s=0∨s=1∨s=2 by omega)with rfl|rfl|rfl<;>first|omega|(simp;done)|simp_all)|simp_all
 ·clear hst;simp[Qp,QR]at hs;simp only[Jm,QM,Qp,QR,if_neg h30];cases x<;>cases y<;>cases z<;>simp[Vg]<;>first|omega|(rcases(show s=0∨s=1∨s=2 by omega)with rfl|rfl|rfl<;>first|omega|(simp;done)|simp_all)|simp_all
 ·simp[Qp,QR]at hs;simp only[Jm,QM,Qp,QR,if_neg h30];rcases(show(s=0∧n=0)∨(s=0∧0<n)∨(0<s∧s<n)∨(0<s∧s=n)∨s=n+1 by omega)with⟨rfl,rfl⟩|⟨rfl,h1⟩|⟨h1,h2⟩|⟨h1,rfl⟩|rfl
  ·cases x<;>cases y<;>simp[Vg]
  ·have e1: ¬n=0:=by omega
   cases x<;>cases y<;>simp[Vg,e1]<;>omega
  ·have e1: ¬s=0:=by omega
   have e2: ¬s=n+1:=by omega
   have e3: ¬s=n:=by omega
   have e4:s<n+1:=by omega
   cases x<;>cases y<;>simp[Vg,e1,e2,e3,e4,h1,h2]<;>first|omega|exact⟨s+1,rfl,by omega,rfl⟩|exact⟨s+1,by omega,by omega,by omega⟩
  ·have e1: ¬s=0:=by omega
   cases x<;>cases y<;>simp[Vg,e1,h1]<;>first|omega|exact⟨s+1,rfl,by omega,rfl⟩|exact⟨s+1,by omega,by omega,by omega⟩
  ·cases x<;>cases y<;>simp[Vg]<;>first|omega|exact⟨n+1,by omega,by omega,by omega⟩
 ·simp[Qp,QR]at hs;simp only[Jm,QM,Qp,QR,if_neg h30];rcases(show s<n∨s=n∨s=n+1 by omega)with h1|rfl|rfl
  ·have e2: ¬s=n+1:=by omega
   have e3: ¬s=n:=by omega
   have e4:s<n+1:=by omega
   have e5: ¬n<s:=by omega
   cases x<;>simp[Vg,e2,e3,e4,e5,h1]<;>first|omega|exact⟨s+1,by omega,by omega,by omega⟩
  ·cases x<;>simp[Vg]<;>first|omega|exact⟨s+1,by omega,by omega,by omega⟩
  ·cases x<;>simp[Vg]<;>first|omega|exact⟨n+1,by omega,by omega,by omega⟩
theorem Cl(l v:Nat):Vg (decide (((NV l v:Nat):Int)=1))=NV l v:=by
 have h:NV l v=0∨NV l v=1:=by unfold NV;omega
 rcases h with h|h<;>rw[h]<;>rfl
abbrev YF(l v:Nat):Bool:=decide (((NV l v:Nat):Int)=1)
def E4(o:List Nat)(n a b d s l:Nat):Nat:=if s<Qp o n then(if Jm o n s (YF l a) (YF l b) (YF l d)= -1 then Qp o n else(Jm o n s (YF l a) (YF l b) (YF l d)).toNat)else Qp o n
def PL(o:List Nat)(n a b d k s:Nat):List Int:=(List.range (2^k)).map fun l=>((E4 o n a b d s l:Nat):Int)
def Vt(o:List Nat)(a b d n k:Nat):Au:=⟨k,(List.range (Qp o n+1)).map fun s=>decide (((s:Nat):Int)=((QR o n:Nat):Int)),(List.range (Qp o n+1)).map (PL o n a b d k)⟩
section
variable {o:List Nat} {a b d n k:Nat}
theorem EZ(n:Nat)(hn:n≤20):QR o n≤21:=by unfold QR;split<;>(try split)<;>(try split)<;>omega
theorem Bs:(Vt o a b d n k).n=Qp o n+1:=by simp[Vt,Au.n]
theorem ja{l:Nat}(hs:s<Qp o n+1)(hl:l<2^k):(Vt o a b d n k).go s l=E4 o n a b d s l:=by
 unfold Au.go Vt PL;simp only[List.getElem?_map,List.getElem?_range hs,Option.map_some,Option.getD_some,List.getElem?_range hl,Int.toNat_natCast]
theorem qZ(hs:s<Qp o n+1):(Vt o a b d n k).ok s=decide (((s:Nat):Int)=((QR o n:Nat):Int)):=by
 unfold Au.ok Vt;simp only[List.getElem?_map,List.getElem?_range hs,Option.map_some,Option.getD_some]
def Cq(o:List Nat)(n s t:Nat):Prop:=(s=t∧s<Qp o n)∨(s=Qp o n∧t=30)
theorem Cq.step(h:Wm o)(hn:n≤20){t:Nat}(R:Cq o n s t)(l:Nat):Cq o n (E4 o n a b d s l) (EH o n a b d t l):=by
 have hl:=EZ (o:=o) n hn;have hsp:Qp o n=QR o n+1:=rfl;rcases R with⟨rfl,hs⟩|⟨rfl,rfl⟩
 ·unfold E4 EH;rw[if_pos hs,←Cl l a,←Cl l b,←Cl l d];rcases qH h hn hs (YF l a) (YF l b) (YF l d)with⟨h1,h2⟩|⟨t,h1,h2,h3⟩
  ·rw[if_pos h1,h2];exact .inr ⟨rfl,rfl⟩
  ·rw[h1,if_neg Qe,h3,Int.toNat_natCast];exact .inl ⟨by omega,h2⟩
 ·unfold E4 EH QM;rw[if_neg (Nat.lt_irrefl _),if_pos rfl];exact .inr ⟨rfl,rfl⟩
theorem jA(h:Wm o)(hn:n≤20)(s l:Nat):E4 o n a b d s l<Qp o n+1:=by
 by_cases hs:s<Qp o n
 ·rcases Cq.step (a:=a) (b:=b) (d:=d) h hn (.inl ⟨rfl,hs⟩:Cq o n s s) l with⟨_,h1⟩|⟨h1,_⟩<;>omega
 ·unfold E4;rw[if_neg hs];omega
theorem qY(h:Wm o)(hn:n≤20)(hk:k≤6):Zl (Vt o a b d n k):=by
 have hl:=EZ (o:=o) n hn;have hsp:Qp o n=QR o n+1:=rfl;refine⟨hk,by rw[Bs];omega,by rw[Bs];omega,by simp[Vt,Au.n],fun r hr=>?_⟩;obtain⟨s,_,rfl⟩:=List.mem_map.1 hr;refine⟨by simp[PL,Vt,Au.K],fun z hz=>?_⟩;obtain⟨l,_,rfl⟩:=List.mem_map.1 hz;have:=jA (a:=a) (b:=b) (d:=d) h hn s l;rw[Bs];omega
theorem Cq.ok(h:Wm o)(hn:n≤20){t:Nat}(R:Cq o n s t):decide (((s:Nat):Int)=((QR o n:Nat):Int))=Yy o n t:=by
 have hl:=EZ (o:=o) n hn;have hsp:Qp o n=QR o n+1:=rfl;rcases R with⟨rfl,hs⟩|⟨rfl,rfl⟩
 ·unfold Yy;rw[if_neg Qe]
  rcases h with rfl|rfl|rfl|rfl|rfl|rfl|rfl|rfl|rfl|rfl|rfl<;>simp[Qp,QR]at hs ⊢ <;>first|omega|(rw[decide_eq_decide];omega)
 ·unfold Yy;rw[if_pos rfl,decide_eq_false Qe]
theorem PW(h:Wm o)(hn:n≤20):XO (Vt o a b d n k) (ZI o a b d n k) 0 0:=fun w hw=>by
 have key: ∀(w:List Nat) (s t:Nat),Vj (2^k) w→Cq o n s t→t<31→Cq o n ((Vt o a b d n k).run s w) ((ZI o a b d n k).run t w):=by
  intro w
  induction w with
  |nil=>intro s t _ R _;exact R
  |cons c w ih=>
   intro s t hw R ht
   have hs:s<Qp o n+1:=by rcases R with⟨_,h1⟩|⟨h1,_⟩<;>omega
   rw[Au.LF,Au.LF,ja hs (hw c Q7),Pn ht (hw c Q7)];exact ih _ _ (fun x hx=>hw x (by simp[hx])) (R.step h hn c) (Hn _ _)
 have R:=key w 0 0 hw (.inl ⟨rfl,Nat.succ_pos _⟩) QD;have hl:=EZ (o:=o) n hn;have hsp:Qp o n=QR o n+1:=rfl
 have hs:(Vt o a b d n k).run 0 w<Qp o n+1:=by rcases R with⟨_,h1⟩|⟨h1,_⟩<;>omega
 have ht:(ZI o a b d n k).run 0 w<31:=by rcases R with⟨h1,h2⟩|⟨_,h1⟩<;>omega
 rw[qZ hs,Oa ht,R.ok h hn]
theorem JS.trans{x y m:Au}(h:JS x m)(hl:XO x y 0 0)(ht:y.tr=x.tr):JS y m:=
 ⟨h.canon,fun w hw=>by rw[h.like w hw];exact hl w (VJ h.tr hw),h.tr.trans ht.symm⟩
theorem JS.atom(h:Wm o)(hn:n≤20){m:Au}(hm:JS (Vt o a b d n k) m):JS (ZI o a b d n k) m:=hm.trans (PW h hn) rfl
end
end Go.Proofs.YtiknomepbklibaaGreatDoor
end
section
namespace Go.Proofs.YtiknomepbklibaaGreatDoor
variable {s:Nat}

def JY:List Int→List Int→List Int
 |seen,[]=>seen
 |seen,x::xs=>if x∈seen then JY seen xs else JY (seen++[x]) xs
theorem AE: ∀(xs seen:List Int),(JY seen xs).length≤seen.length+xs.length
 |[],seen=>by simp[JY]
 |x::xs,seen=>by
  rw[JY]
  split
  ·have:=AE xs seen;simp only[List.length_cons];omega
  ·have:=AE xs (seen++[x]);simp only[List.length_cons,List.length_append,List.length_nil]at this ⊢;omega
theorem Le: ∀(xs seen:List Int) {x:Int} {i:Nat},seen.Nodup→(JY seen xs)[i]? =some x→Ue seen (xs++[x])=Ue seen xs++[((i:Nat):Int)]∧JY seen (xs++[x])=JY seen xs
 |[],seen,x,i,hn,h=>by
  have h:seen[i]? =some x:=h;have hm:=List.mem_of_getElem? h
  have hi:seen.idxOf x=i:=by
   have hlt:=List.idxOf_lt_length_of_mem hm;exact(List.getElem?_inj hlt hn).1 (by rw[List.getElem?_eq_getElem hlt,List.getElem_idxOf,h])
  rw[List.nil_append];unfold Ue JY;rw[if_pos hm,if_pos hm,hi];exact⟨rfl,rfl⟩
 |y::xs,seen,x,i,hn,h=>by
  rw[JY]at h;rw[List.cons_append,Ue,Ue,JY,JY]
  split at h
  ·rename_i hy;obtain⟨h1,h2⟩:=Le xs seen hn h;rw[if_pos hy,if_pos hy,if_pos hy,if_pos hy,h1,h2];exact⟨rfl,rfl⟩
  ·rename_i hy;have hn':(seen++[y]).Nodup:=List.nodup_append.2 ⟨hn,by simp,fun a ha b hb e=>by rw[List.mem_singleton]at hb;subst hb e;exact hy ha⟩;obtain⟨h1,h2⟩:=Le xs _ hn' h;rw[if_neg hy,if_neg hy,if_neg hy,if_neg hy,h1,h2];exact⟨rfl,rfl⟩
theorem Lf: ∀(xs seen:List Int) {x:Int},x∉JY seen xs→Ue seen (xs++[x])=Ue seen xs++[(((JY seen xs).length:Nat):Int)]∧JY seen (xs++[x])=JY seen xs++[x]
 |[],seen,x,h=>by
  have h:x∉seen:=h;rw[List.nil_append];unfold Ue JY;rw[if_neg h,if_neg h];exact⟨rfl,rfl⟩
 |y::xs,seen,x,h=>by
  rw[JY]at h;rw[List.cons_append,Ue,Ue,JY,JY]
  split at h
  ·rename_i hy;obtain⟨h1,h2⟩:=Lf xs seen h;rw[if_pos hy,if_pos hy,if_pos hy,if_pos hy,h1,h2];exact⟨rfl,rfl⟩
  ·rename_i hy;obtain⟨h1,h2⟩:=Lf xs _ h;rw[if_neg hy,if_neg hy,if_neg hy,if_neg hy,h1,h2];exact⟨rfl,rfl⟩
theorem BZ{l:List Int}{x:Int}(h:s<l.length):cv (l++[x]) s=cv l s:=by unfold cv;rw[List.getElem?_append_left h]
theorem BY(l:List Int)(x:Int):cv (l++[x]) l.length=x:=by unfold cv;rw[List.getElem?_append_right (Nat.le_refl _),Nat.sub_self];rfl
theorem Dk(n:Nat): ∀xs:List Int,xs.length=n→IS n (Ue [] xs) (JY [] xs).length:=by
 induction n with
 |zero=>
  intro xs h;have:=List.eq_nil_of_length_eq_zero h;subst this;exact⟨fun s hs=>absurd hs (Nat.not_lt_zero s),fun v hv=>absurd hv (Nat.not_lt_zero v)⟩
 |succ n ih=>
  intro xs h;obtain⟨ys,x,rfl⟩: ∃ys x,xs=ys++[x]:=⟨xs.dropLast,xs.getLast (by intro e;subst e;simp at h),(List.dropLast_concat_getLast _).symm⟩
  have hl:ys.length=n:=by simpa using h
  obtain⟨h1,h2⟩:=ih ys hl
  have hnl:(Ue [] ys).length=n:=by rw[X9];exact hl
  by_cases hx:x∈JY [] ys
  ·obtain⟨i,hi⟩:=List.getElem?_of_mem hx;have hlt:=(List.getElem?_eq_some_iff.1 hi).1;obtain⟨e1,e2⟩:=Le ys [] List.nodup_nil hi;rw[e1,e2];refine⟨fun s hs=>?_,fun v hv=>?_⟩
   ·by_cases hsn:s<n
    ·rw[BZ Qe];exact h1 s hsn
    ·have:s=(Ue [] ys).length:=by omega
     rw[this,BY];omega
   ·obtain⟨s,k1,k2⟩:=h2 v hv;exact⟨s,by omega,by rw[BZ Qe];exact k2⟩
  ·obtain⟨e1,e2⟩:=Lf ys [] hx;rw[e1,e2,List.length_append,List.length_singleton];refine⟨fun s hs=>?_,fun v hv=>?_⟩
   ·by_cases hsn:s<n
    ·rw[BZ Qe];have:=h1 s hsn;omega
    ·have:s=(Ue [] ys).length:=by omega
     rw[this,BY];omega
   ·by_cases hvl:v<(JY [] ys).length
    ·obtain⟨s,k1,k2⟩:=h2 v hvl;exact⟨s,by omega,by rw[BZ Qe];exact k2⟩
    ·refine⟨n,Nat.lt_succ_self n,?_⟩;rw[←hnl,BY];omega
theorem RB{α:Type}{l:List α}{f:α→Int}{x:α}(h:l[s]? =some x):cv (l.map f) s=f x:=by unfold cv;rw[List.getElem?_map,h];rfl
theorem ji{n r q c d:Int}(hc:0≤c∧c<n)(hd:0≤d∧d<n):(r *n+c=q *n+d)↔r=q∧c=d:=by
 refine⟨fun h=>?_,fun⟨h1,h2⟩=>by rw[h1,h2]⟩
 have e:(r-q) *n=d-c:=by rw[Int.sub_mul];omega
 have hrq:r=q:=by
  rcases Int.lt_trichotomy r q with h1|h1|h1
  ·exfalso
   have:=Int.mul_le_mul_of_nonneg_right (show r-q≤ -1 by omega) (show 0≤n by omega);omega
  ·exact h1
  ·exfalso
   have:=Int.mul_le_mul_of_nonneg_right (show 1≤r-q by omega) (show 0≤n by omega);omega
 subst hrq;exact⟨rfl,by omega⟩
structure VC(a:Au)(cl:List Int)(ls:List Nat)(rows:List (List Int))(row:List Int):Prop where
 pr:Vo (II a cl) (cv cl 0) (2^a.tr) (ls.map (cv cl)) rows row
 lt: ∀s∈ls,s<a.n
section
variable {a:Au} {cl:List Int} {ls:List Nat} {rows:List (List Int)} {row:List Int}
theorem VC.le(H:VC a cl ls rows row)(hr: ∀s,s<a.n→0≤cv cl s∧cv cl s<((a.n:Nat):Int)):ls.length≤a.n:=by
 have h:=ZQ (b:=(List.range a.n).map fun z=>((z:Nat):Int)) H.pr.nodup fun x hx=>by
  obtain⟨s,hs,rfl⟩:=List.mem_map.1 hx;have:=hr s (H.lt s hs);exact List.mem_map.2 ⟨(cv cl s).toNat,List.mem_range.2 Qe,by omega⟩
 simpa using h
theorem VC.start(W:Zl a):VC a cl [0] [] []:=⟨Vo.start _ _ _,fun s hs=>by rw[List.mem_singleton.1 hs];exact W.pos⟩
theorem VC.next(W:Zl a)(hc:ZJ a cl){y:Nat}(hs:ls[rows.length]? =some s)(hls:s<a.n)(hr:row.length<2^a.tr)(hy:a.go s row.length=y):(ls.map (cv cl))[rows.length]? =some (cv cl s)∧II a cl (cv cl s) row.length=cv cl y:=by
 refine⟨by rw[List.getElem?_map,hs];rfl,?_⟩;rw[Ln (hc.Is W) hls hr,hy]
theorem VC.new(H:VC a cl ls rows row)(W:Zl a)(hc:ZJ a cl){s y:Nat}(hs:ls[rows.length]? =some s)(hr:row.length<2^a.tr)(hy:a.go s row.length=y)(hyn:y<a.n)(hn:cv cl y∉ls.map (cv cl)):VC a cl (ls++[y]) rows (row++[((ls.length:Nat):Int)]):=by
 obtain⟨h1,h2⟩:=VC.next W hc hs (H.lt s (List.mem_of_getElem? hs)) hr hy;have h4:=H.pr.new hr h1 (by rw[h2];exact hn);rw[h2,List.length_map]at h4;refine⟨by rw[List.map_append];exact h4,fun t ht=>?_⟩;rcases List.mem_append.1 ht with ht|ht
 ·exact H.lt t ht
 ·rw[List.mem_singleton.1 ht];exact hyn
theorem VC.J5(H:VC a cl ls rows row)(W:Zl a)(hc:ZJ a cl){s y j:Nat}(hs:ls[rows.length]? =some s)(hr:row.length<2^a.tr)(hy:a.go s row.length=y)(hj:(ls.map (cv cl))[j]? =some (cv cl y)):VC a cl ls rows (row++[((j:Nat):Int)]):=by
 obtain⟨h1,h2⟩:=VC.next W hc hs (H.lt s (List.mem_of_getElem? hs)) hr hy;exact⟨H.pr.J5 hr h1 (by rw[h2];exact hj),H.lt⟩
theorem VC.whole(H:VC a cl ls rows row)(hr:row.length=2^a.tr):VC a cl ls (rows++[row]) []:=⟨H.pr.whole hr,H.lt⟩
theorem VC.made(H:VC a cl ls rows [])(W:Zl a)(hc:ZJ a cl)(hn:ls.length≤400)(hl:rows.length=ls.length):U8 (II a cl) (cv cl 0) (Pa a cl) (ls.map (cv cl)) ⟨a.tr,ls.map a.ok,rows⟩:=by
 refine H.pr.made (m:=⟨a.tr,ls.map a.ok,rows⟩) (by rw[List.length_map];exact hl) ?_ W.tr (by rw[List.length_map];exact hn);show ls.map a.ok=(ls.map (cv cl)).map (Pa a cl);rw[List.map_map];exact List.map_congr_left fun s hs=>(Cf hc (H.lt s hs)).symm
theorem VC.least(H:VC a cl ls rows [])(W:Zl a)(hc:ZJ a cl)(hn:ls.length≤400)(hl:rows.length=ls.length):JS a ⟨a.tr,ls.map a.ok,rows⟩:=by
 obtain⟨h1,h2⟩:=Gs (m:=⟨a.tr,ls.map a.ok,rows⟩) W hc rfl (H.made W hc hn hl);exact⟨h1,h2,rfl⟩
end
end Go.Proofs.YtiknomepbklibaaGreatDoor
end
section
namespace Go.Proofs.YtiknomepbklibaaGreatDoor
open Go Go.RowKit

def UR{α:Type}:Nat→List α→List (α×AV)
 |_,[]=>[]
 |j,n::S=>(n,.int .i64 (j:Nat))::UR (j+1) S
section
variable {α β:Type}
theorem AR: ∀(j:Nat) (S:List α) (n:α),UR j (S++[n])=UR j S++[(n,.int .i64 (j+S.length:Nat))]
 |j,[],n=>by simp[UR]
 |j,x::S,n=>by
  rw[List.cons_append,UR,UR,AR (j+1) S n,List.cons_append,List.length_cons,show j+1+S.length=j+(S.length+1) by omega]
theorem DN: ∀{j:Nat} {S:List α} {n:α} {v:AV},(n,v)∈UR j S→ ∃i:Nat,S[i]? =some n∧v=.int .i64 (j+i:Nat)
 |j,[],n,v,h=>by cases h
 |j,x::S,n,v,h=>by
  rcases List.mem_cons.1 h with e|h
  ·injection e with e1 e2
   subst e1 e2;exact⟨0,rfl,rfl⟩
  ·obtain⟨i,h1,h2⟩:=DN h;exact⟨i+1,h1,by rw[h2];congr 2;omega⟩
theorem Dr: ∀{j:Nat} {S:List α} {n:α},n∈S→ ∃v,(n,v)∈UR j S
 |j,[],n,h=>by cases h
 |j,x::S,n,h=>by
  rcases List.mem_cons.1 h with rfl|h
  ·exact⟨_,List.mem_cons_self ..⟩
  ·obtain⟨v,hv⟩:=Dr (j:=j+1) h;exact⟨v,List.mem_cons_of_mem _ hv⟩
theorem Nq{S:List α}{n:α}(h:Yk (UR 0 S) n=none):n∉S:=fun hm=>by
 obtain⟨v,hv⟩:=Dr (j:=0) hm;exact No h v hv
theorem Np{S:List α}{n:α}{v:AV}(h:Yk (UR 0 S) n=some v): ∃i:Nat,S[i]? =some n∧v=.int .i64 (i:Nat):=by
 obtain⟨i,h1,h2⟩:=DN (Lj h);exact⟨i,h1,by rw[h2,Nat.zero_add]⟩
theorem VE.comp{P:Program}{t:TypeId}{key:α→AV}{z:AV}(T:VE P t key z)(f:β→α)(hi: ∀x y,f x=f y→x=y):VE P t (fun x=>key (f x)) z:=by
 obtain⟨kt,et,d,u1,u2,u3,u4,u5,u6⟩:=T.rule;exact⟨kt,et,d,u1,u2,u3,fun a=>u4 _,fun a i=>u5 _ i,fun a b v n es i=>⟨fun h=>(u6 (f a) (f b) v n es i).1 (congrArg f h),fun h=>(u6 (f a) (f b) v n es i).2 fun e=>h (hi _ _ e)⟩⟩
end
abbrev Xg(p:Nat×Nat):AV:=.agg [.int .i64 (p.1:Nat),.int .i64 (p.2:Nat)]
theorem W9:VE Tryz.prog 172 Xg (.int .i64 0):=ud.comp (fun p:Nat×Nat=>(((p.1:Nat):Int),((p.2:Nat):Int))) fun x y e=>by
 injection e with e1 e2
 exact Prod.ext Qe Qe
end Go.Proofs.YtiknomepbklibaaGreatDoor
end
